/- What the functions ask, printed by program, part one. -/
import Derived.Test.YtnkpjlhbojjneaaProg
import Derived.Shelf.SlSortCmp.NoneTotal
import Derived.Test.YtnkpjlhbojjneaaGb
/- The sort's own functions at this program: its laying, in plain words (written by a tool of the kit). -/
namespace Go.Proofs.Ytnkpjlhbojjneaa.VC
open Go.Shelf
def sortL_ren : Go.Shelf.Ren := ⟨fun | 6 => 60 | 15 => 93 | 14 => 92 | 28 => 119 | 29 => 120 | 20 => 111 | 21 => 112 | 22 => 113 | 23 => 114 | 24 => 115 | 25 => 116 | 26 => 117 | 27 => 118 | 46 => 130 | 47 => 131 | 48 => 132 | 49 => 133 | 50 => 134 | 57 => 139 | n => n, fun | 22 => 39 | 24 => 50 | 25 => 72 | 3 => 3 | 39 => 91 | 0 => 0 | 53 => 148 | 55 => 45 | 4 => 4 | 46 => 142 | 45 => 141 | 50 => 111 | 5 => 5 | 9 => 9 | 66 => 159 | 70 => 163 | 76 => 167 | 77 => 168 | n => n, fun | n => n⟩
theorem sortL : Go.Proofs.SlLaysF0.n6 Try.prog sortL_ren := {
  mixed := by kernel_rfl
  f6 := ⟨Try.f60.name, by decide, Try.func60.trans (congrArg some (by kernel_rfl))⟩
  f14 := ⟨Try.f92.name, by decide, Try.func92.trans (congrArg some (by kernel_rfl))⟩
  f15 := Try.func93.trans (congrArg some (by kernel_rfl))
  f20 := ⟨Try.f111.name, by decide, Try.func111.trans (congrArg some (by kernel_rfl))⟩
  f21 := ⟨Try.f112.name, by decide, Try.func112.trans (congrArg some (by kernel_rfl))⟩
  f22 := ⟨Try.f113.name, by decide, Try.func113.trans (congrArg some (by kernel_rfl))⟩
  f23 := ⟨Try.f114.name, by decide, Try.func114.trans (congrArg some (by kernel_rfl))⟩
  f24 := ⟨Try.f115.name, by decide, Try.func115.trans (congrArg some (by kernel_rfl))⟩
  f25 := ⟨Try.f116.name, by decide, Try.func116.trans (congrArg some (by kernel_rfl))⟩
  f26 := ⟨Try.f117.name, by decide, Try.func117.trans (congrArg some (by kernel_rfl))⟩
  f27 := ⟨Try.f118.name, by decide, Try.func118.trans (congrArg some (by kernel_rfl))⟩
  f28 := Try.func119.trans (congrArg some (by kernel_rfl))
  f29 := Try.func120.trans (congrArg some (by kernel_rfl))
  f46 := ⟨Try.f130.name, by decide, Try.func130.trans (congrArg some (by kernel_rfl))⟩
  f47 := Try.func131.trans (congrArg some (by kernel_rfl))
  f48 := Try.func132.trans (congrArg some (by kernel_rfl))
  f49 := ⟨Try.f133.name, by decide, Try.func133.trans (congrArg some (by kernel_rfl))⟩
  f50 := ⟨Try.f134.name, by decide, Try.func134.trans (congrArg some (by kernel_rfl))⟩
  f57 := ⟨Try.f139.name, by decide, Try.func139.trans (congrArg some (by kernel_rfl))⟩
  t0 := Try.underlying0
  a0 := Try.isAgg0
  z0 := Try.sizeOf0
  v0 := Try.zeroValue0
  t3 := Try.underlying3
  a3 := Try.isAgg3
  z3 := Try.sizeOf3
  v3 := Try.zeroValue3
  t4 := Try.underlying4
  a4 := Try.isAgg4
  z4 := Try.sizeOf4
  v4 := Try.zeroValue4
  t5 := Try.underlying5
  a5 := Try.isAgg5
  z5 := Try.sizeOf5
  v5 := Try.zeroValue5
  t9 := Try.underlying9
  a9 := Try.isAgg9
  z9 := Try.sizeOf9
  v9 := Try.zeroValue9
  t22 := Try.underlying39
  a22 := Try.isAgg39
  z22 := Try.sizeOf39
  v22 := Try.zeroValue39
  t25 := Try.underlying72
  a25 := Try.isAgg72
  z25 := Try.sizeOf72
  v25 := Try.zeroValue72
  t39 := Try.underlying91
  a39 := Try.isAgg91
  z39 := Try.sizeOf91
  v39 := Try.zeroValue91
  t45 := Try.underlying141
  a45 := Try.isAgg141
  z45 := Try.sizeOf141
  v45 := Try.zeroValue141
  t46 := Try.underlying142
  a46 := Try.isAgg142
  z46 := Try.sizeOf142
  v46 := Try.zeroValue142
  t50 := Try.underlying111
  a50 := Try.isAgg111
  z50 := Try.sizeOf111
  v50 := Try.zeroValue111
  t53 := Try.underlying148
  a53 := Try.isAgg148
  z53 := Try.sizeOf148
  v53 := Try.zeroValue148
  t55 := Try.underlying45
  a55 := Try.isAgg45
  z55 := Try.sizeOf45
  v55 := Try.zeroValue45
  t66 := Try.underlying159
  a66 := Try.isAgg159
  z66 := Try.sizeOf159
  v66 := Try.zeroValue159
  t70 := Try.underlying163
  a70 := Try.isAgg163
  z70 := Try.sizeOf163
  v70 := Try.zeroValue163
  t76 := Try.underlying167
  a76 := Try.isAgg167
  z76 := Try.sizeOf167
  v76 := Try.zeroValue167
  t77 := Try.underlying168
  a77 := Try.isAgg168
  z77 := Try.sizeOf168
  v77 := Try.zeroValue168 }
end Go.Proofs.Ytnkpjlhbojjneaa.VC

/- The conditions of functions, printed by wip/tools/gen.py. -/
namespace Go.Proofs.Ytnkpjlhbojjneaa.VC
open Go Go.RowKit

theorem s58 (l s : Int) (A : Option Addr) (n c : Nat) (B : Option Addr) (m d : Nat) (q x : Int) (w : World) (R : Value → List (List Value) → World → Prop) (h :
    ∀ (_n1 : Nat), condK (decide (q < 0)) (R (Value.int IntKind.i64 (-1)) [] w) (IxV A n 1 q fun (a2 : Addr) => ∃ (A3 : Option Addr), ∃ (n4 : Nat), ∃ (n5 : Nat), w.cell? a2 = some (Value.slice A3 n4 n5) ∧
        IxV A3 n4 1 x fun (a6 : Addr) => ∃ (x7 : Int), w.cell? a6 = some (Value.int IntKind.i64 x7) ∧ R (Value.int IntKind.i64 x7) [] w)) :
    CallsI Try.prog 58 [(.agg #[.int .i64 l, .int .i64 s, .slice A n c, .slice B m d]), (.int .i64 q), (.int .i64 x)] w [] R :=
  vcFun_sound (H := ⟨[], []⟩) (args := [.v (.agg #[.int .i64 l, .int .i64 s, .slice A n c, .slice B m d]), .v (.int .i64 q), .v (.int .i64 x)]) (L := []) goodP Try.func58 (by simp [okp]) (by rw [Try.ntmps58]; simp) (by simp [okp]) (Eq.mp (by kernel_rfl) h)

theorem s52 (l s : Int) (A : Option Addr) (n c : Nat) (B : Option Addr) (m d : Nat) (q : Int) (w : World) (R : Value → List (List Value) → World → Prop) (h :
    ∀ (_n1 : Nat), condK (decide (q ≥ 0)) (IxV B m 1 q fun (a2 : Addr) => ∃ (t3 : Bool), w.cell? a2 = some (Value.bool t3) ∧ R (Value.bool t3) [] w) (R (Value.bool false) [] w)) :
    CallsI Try.prog 52 [(.agg #[.int .i64 l, .int .i64 s, .slice A n c, .slice B m d]), (.int .i64 q)] w [] R :=
  vcFun_sound (H := ⟨[], []⟩) (args := [.v (.agg #[.int .i64 l, .int .i64 s, .slice A n c, .slice B m d]), .v (.int .i64 q)]) (L := []) goodP Try.func52 (by simp [okp]) (by rw [Try.ntmps52]; simp) (by simp [okp]) (Eq.mp (by kernel_rfl) h)

def J51_1 (I10 : Int → Lp) (x11 : Int) (w12 : World) (n13 : Nat) : Prop := (I10 (IntKind.i64.wrap (x11 + 1))).1 w12 ∧ (I10 (IntKind.i64.wrap (x11 + 1))).m w12 < n13

theorem s51 (l s : Int) (A : Option Addr) (n c : Nat) (B : Option Addr) (m d : Nat) (w : World) (R : Value → List (List Value) → World → Prop) (h :
    ∀ (_n1 : Nat), condK (decide (l < 0)) (R (Value.bool false) [] w) (condK ((↑n : Int) != (↑m : Int)) (R (Value.bool false) [] w) (∃ (I2 : Int → Lp), (I2 0).1 w ∧ ∀ (x3 : Int) (w4 : World), (I2 x3).1 w4
        → ∀ (n5 : Nat), (I2 x3).m w4 = n5 → condK (decide (x3 < (↑n : Int))) (IxV A n 1 x3 fun (a6 : Addr) => ∃ (A7 : Option Addr), ∃ (n8 : Nat), ∃ (n9 : Nat), w4.cell? a6 = some (Value.slice A7 n8 n9) ∧
        condK ((↑n8 : Int) != l) (R (Value.bool false) [] w4) (∃ (I10 : Int → Lp), (I10 0).1 w4 ∧ ∀ (x11 : Int) (w12 : World), (I10 x11).1 w12 → ∀ (n13 : Nat), (I10 x11).m w12 = n13 → condK (decide (x11 <
        (↑n8 : Int))) (IxV A7 n8 1 x11 fun (a14 : Addr) => ∃ (x15 : Int), w12.cell? a14 = some (Value.int IntKind.i64 x15) ∧ condK (decide (x15 < -1)) (R (Value.bool false) [] w12) (condK (decide (x15 ≥ (↑n :
        Int))) (R (Value.bool false) [] w12) (J51_1 I10 x11 w12 n13))) (J51_1 I2 x3 w12 n5))) (condK ((↑n : Int) == 0) (R (Value.bool (s == -1)) [] w4) (condK (decide (s ≥ 0)) (R (Value.bool (decide (s < (↑n
        : Int)))) [] w4) (R (Value.bool false) [] w4)))))) :
    CallsI Try.prog 51 [(.agg #[.int .i64 l, .int .i64 s, .slice A n c, .slice B m d])] w [] R :=
  vcFun_sound (H := ⟨[], [(0, [(22, .int .i64)], []), (2, [(33, .int .i64)], [])]⟩) (args := [.v (.agg #[.int .i64 l, .int .i64 s, .slice A n c, .slice B m d])]) (L := []) goodP Try.func51 (by simp [okp]) (by rw [Try.ntmps51]; simp) (by simp [okp]) (Eq.mp (by kernel_rfl) h)

end Go.Proofs.Ytnkpjlhbojjneaa.VC

/- The conditions of functions, printed by wip/tools/gen.py. -/
namespace Go.Proofs.Ytnkpjlhbojjneaa.VC
open Go Go.RowKit

theorem s18 (l s : Int) (A : Option Addr) (n c : Nat) (B : Option Addr) (m d : Nat) (w : World) (R : Value → List (List Value) → World → Prop) (h :
    ∀ (_n1 : Nat), CallsI Try.prog 51 [Value.agg (Array.mk [Value.int IntKind.i64 l, Value.int IntKind.i64 s, Value.slice A n c, Value.slice B m d])] w [] fun (v2 : Value) (l3 : List (List Value)) (w4 :
        World) => ∃ (t5 : Bool), v2 = Value.bool t5 ∧ l3 = [] ∧ condK (!t5) (R (Value.int IntKind.i64 1) [] w4) (condK (decide (l > 300)) (R (Value.int IntKind.i64 5) [] w4) (condK (decide ((↑n : Int) >
        4000)) (R (Value.int IntKind.i64 5) [] w4) (R (Value.int IntKind.i64 0) [] w4)))) :
    CallsI Try.prog 18 [(.agg #[.int .i64 l, .int .i64 s, .slice A n c, .slice B m d])] w [] R :=
  vcFun_sound (H := ⟨[], []⟩) (args := [.v (.agg #[.int .i64 l, .int .i64 s, .slice A n c, .slice B m d])]) (L := []) goodP Try.func18 (by simp [okp]) (by rw [Try.ntmps18]; simp) (by simp [okp]) (Eq.mp (by kernel_rfl) h)

theorem s20 (l s : Int) (A : Option Addr) (n c : Nat) (B : Option Addr) (m d : Nat) (D : Option Addr) (k e : Nat) (w : World) (R : Value → List (List Value) → World → Prop) (h :
    ∀ (_n1 : Nat), CallsI Try.prog 18 [Value.agg (Array.mk [Value.int IntKind.i64 l, Value.int IntKind.i64 s, Value.slice A n c, Value.slice B m d])] w [] fun (v2 : Value) (l3 : List (List Value)) (w4 :
        World) => ∃ (x5 : Int), v2 = Value.int IntKind.i64 x5 ∧ l3 = [] ∧ condK (x5 != 0) (R (Value.bool false) [] w4) (∃ (I6 : Int → Int → Lp), (I6 0 s).1 w4 ∧ ∀ (x7 x8 : Int) (w9 : World), (I6 x7 x8).1 w9 →
        ∀ (n10 : Nat), (I6 x7 x8).m w9 = n10 → condK (decide (x7 < (↑k : Int))) (IxV D k 1 x7 fun (a11 : Addr) => ∃ (x12 : Int), w9.cell? a11 = some (Value.int IntKind.i64 x12) ∧ condK (decide (x12 < 0)) (R
        (Value.bool false) [] w9) (condK (decide (x12 ≥ l)) (R (Value.bool false) [] w9) (condK (decide (x8 < 0)) (R (Value.bool false) [] w9) (IxV A n 1 x8 fun (a13 : Addr) => ∃ (A14 : Option Addr), ∃ (n15 :
        Nat), ∃ (n16 : Nat), w9.cell? a13 = some (Value.slice A14 n15 n16) ∧ IxV A14 n15 1 x12 fun (a17 : Addr) => ∃ (x18 : Int), w9.cell? a17 = some (Value.int IntKind.i64 x18) ∧ (I6 (IntKind.i64.wrap (x7 +
        1)) x18).1 w9 ∧ (I6 (IntKind.i64.wrap (x7 + 1)) x18).m w9 < n10)))) (CallsI Try.prog 52 [Value.agg (Array.mk [Value.int IntKind.i64 l, Value.int IntKind.i64 s, Value.slice A n c, Value.slice B m d]),
        Value.int IntKind.i64 x8] w9 [] fun (v19 : Value) (l20 : List (List Value)) (w21 : World) => ∃ (t22 : Bool), v19 = Value.bool t22 ∧ l20 = [] ∧ R (Value.bool t22) [] w21))) :
    CallsI Try.prog 20 [(.agg #[.int .i64 l, .int .i64 s, .slice A n c, .slice B m d]), (.slice D k e)] w [] R :=
  vcFun_sound (H := ⟨[], [(0, [(15, .int .i64), (5, .int .i64)], [])]⟩) (args := [.v (.agg #[.int .i64 l, .int .i64 s, .slice A n c, .slice B m d]), .v (.slice D k e)]) (L := []) goodP Try.func20 (by simp [okp]) (by rw [Try.ntmps20]; simp) (by simp [okp]) (Eq.mp (by kernel_rfl) h)

def J48_1 (I10 : Int → Lp) (x11 : Int) (w12 : World) (n13 : Nat) : Prop := (I10 (IntKind.i64.wrap (x11 + 1))).1 w12 ∧ (I10 (IntKind.i64.wrap (x11 + 1))).m w12 < n13

def J48_12 (I2 : Int → Lp) (w : World) (n : Nat) (A : Option Addr) (l : Int) (R : Value → List (List Value) → World → Prop) : Prop := (I2 0).1 w ∧ ∀ (x3 : Int) (w4 : World), (I2 x3).1 w4 → ∀ (n5 :
    Nat), (I2 x3).m w4 = n5 → condK (decide (x3 < (↑n : Int))) (IxV A n 1 x3 fun (a6 : Addr) => ∃ (A7 : Option Addr), ∃ (n8 : Nat), ∃ (n9 : Nat), w4.cell? a6 = some (Value.slice A7 n8 n9) ∧ condK ((↑n8 :
    Int) != l) (R (Value.bool false) [] w4) (∃ (I10 : Int → Lp), (I10 0).1 w4 ∧ ∀ (x11 : Int) (w12 : World), (I10 x11).1 w12 → ∀ (n13 : Nat), (I10 x11).m w12 = n13 → condK (decide (x11 < l)) (IxV A n 1 x3
    fun (a14 : Addr) => ∃ (A15 : Option Addr), ∃ (n16 : Nat), ∃ (n17 : Nat), w12.cell? a14 = some (Value.slice A15 n16 n17) ∧ IxV A15 n16 1 x11 fun (a18 : Addr) => ∃ (x19 : Int), w12.cell? a18 = some
    (Value.int IntKind.i64 x19) ∧ condK (decide (x19 < -1)) (R (Value.bool false) [] w12) (IxV A n 1 x3 fun (a20 : Addr) => ∃ (A21 : Option Addr), ∃ (n22 : Nat), ∃ (n23 : Nat), w12.cell? a20 = some
    (Value.slice A21 n22 n23) ∧ IxV A21 n22 1 x11 fun (a24 : Addr) => ∃ (x25 : Int), w12.cell? a24 = some (Value.int IntKind.i64 x25) ∧ condK (decide (x25 ≥ (↑n : Int))) (R (Value.bool false) [] w12)
    (J48_1 I10 x11 w12 n13))) (J48_1 I2 x3 w12 n5))) (R (Value.bool true) [] w4)

def J48_15 (n : Nat) (s : Int) (R : Value → List (List Value) → World → Prop) (w : World) (A : Option Addr) (l : Int) : Prop := condK (decide ((↑n : Int) > 0)) (condK (decide (s < 0)) (R (Value.bool
    false) [] w) (condK (decide (s ≥ (↑n : Int))) (R (Value.bool false) [] w) (∃ (I2 : Int → Lp), J48_12 I2 w n A l R))) (∃ (I2 : Int → Lp), J48_12 I2 w n A l R)

theorem s48 (l s : Int) (A : Option Addr) (n c : Nat) (B : Option Addr) (m d : Nat) (w : World) (R : Value → List (List Value) → World → Prop) (h :
    ∀ (_n1 : Nat), condK (decide (l < 0)) (R (Value.bool false) [] w) (condK ((↑m : Int) != (↑n : Int)) (R (Value.bool false) [] w) (condK ((↑n : Int) == 0) (condK (s != -1) (R (Value.bool false) [] w)
        (J48_15 n s R w A l)) (J48_15 n s R w A l)))) :
    CallsI Try.prog 48 [(.agg #[.int .i64 l, .int .i64 s, .slice A n c, .slice B m d])] w [] R :=
  vcFun_sound (H := ⟨[], [(0, [(4, .int .i64)], []), (2, [(5, .int .i64)], [])]⟩) (args := [.v (.agg #[.int .i64 l, .int .i64 s, .slice A n c, .slice B m d])]) (L := []) goodP Try.func48 (by simp [okp]) (by rw [Try.ntmps48]; simp) (by simp [okp]) (Eq.mp (by kernel_rfl) h)

theorem s16 (l s : Int) (A : Option Addr) (n c : Nat) (B : Option Addr) (m d : Nat) (w : World) (R : Value → List (List Value) → World → Prop) (h :
    ∀ (_n1 : Nat), CallsI Try.prog 48 [Value.agg (Array.mk [Value.int IntKind.i64 l, Value.int IntKind.i64 s, Value.slice A n c, Value.slice B m d])] w [] fun (v2 : Value) (l3 : List (List Value)) (w4 :
        World) => ∃ (t5 : Bool), v2 = Value.bool t5 ∧ l3 = [] ∧ condK (!t5) (R (Value.int IntKind.i64 1) [] w4) (condK (decide (l > 300)) (R (Value.int IntKind.i64 5) [] w4) (condK (decide ((↑n : Int) >
        4000)) (R (Value.int IntKind.i64 5) [] w4) (R (Value.int IntKind.i64 0) [] w4)))) :
    CallsI Try.prog 16 [(.agg #[.int .i64 l, .int .i64 s, .slice A n c, .slice B m d])] w [] R :=
  vcFun_sound (H := ⟨[], []⟩) (args := [.v (.agg #[.int .i64 l, .int .i64 s, .slice A n c, .slice B m d])]) (L := []) goodP Try.func16 (by simp [okp]) (by rw [Try.ntmps16]; simp) (by simp [okp]) (Eq.mp (by kernel_rfl) h)

theorem s49 (l s : Int) (A : Option Addr) (n c : Nat) (B : Option Addr) (m d : Nat) (q x : Int) (w : World) (R : Value → List (List Value) → World → Prop) (h :
    ∀ (_n1 : Nat), condK (decide (q < 0)) (R (Value.int IntKind.i64 (-1)) [] w) (IxV A n 1 q fun (a2 : Addr) => ∃ (A3 : Option Addr), ∃ (n4 : Nat), ∃ (n5 : Nat), w.cell? a2 = some (Value.slice A3 n4 n5) ∧
        IxV A3 n4 1 x fun (a6 : Addr) => ∃ (x7 : Int), w.cell? a6 = some (Value.int IntKind.i64 x7) ∧ R (Value.int IntKind.i64 x7) [] w)) :
    CallsI Try.prog 49 [(.agg #[.int .i64 l, .int .i64 s, .slice A n c, .slice B m d]), (.int .i64 q), (.int .i64 x)] w [] R :=
  vcFun_sound (H := ⟨[], []⟩) (args := [.v (.agg #[.int .i64 l, .int .i64 s, .slice A n c, .slice B m d]), .v (.int .i64 q), .v (.int .i64 x)]) (L := []) goodP Try.func49 (by simp [okp]) (by rw [Try.ntmps49]; simp) (by simp [okp]) (Eq.mp (by kernel_rfl) h)

theorem s50 (l s : Int) (A : Option Addr) (n c : Nat) (B : Option Addr) (m d : Nat) (q : Int) (w : World) (R : Value → List (List Value) → World → Prop) (h :
    ∀ (_n1 : Nat), condK (decide (q ≥ 0)) (IxV B m 1 q fun (a2 : Addr) => ∃ (t3 : Bool), w.cell? a2 = some (Value.bool t3) ∧ R (Value.bool t3) [] w) (R (Value.bool false) [] w)) :
    CallsI Try.prog 50 [(.agg #[.int .i64 l, .int .i64 s, .slice A n c, .slice B m d]), (.int .i64 q)] w [] R :=
  vcFun_sound (H := ⟨[], []⟩) (args := [.v (.agg #[.int .i64 l, .int .i64 s, .slice A n c, .slice B m d]), .v (.int .i64 q)]) (L := []) goodP Try.func50 (by simp [okp]) (by rw [Try.ntmps50]; simp) (by simp [okp]) (Eq.mp (by kernel_rfl) h)

def J17_8 (l : Int) (s : Int) (A : Option Addr) (n : Nat) (c : Nat) (B : Option Addr) (m : Nat) (d : Nat) (x8 : Int) (w9 : World) (R : Value → List (List Value) → World → Prop) : Prop := CallsI
    Try.prog 50 [Value.agg (Array.mk [Value.int IntKind.i64 l, Value.int IntKind.i64 s, Value.slice A n c, Value.slice B m d]), Value.int IntKind.i64 x8] w9 [] fun (v21 : Value) (l22 : List (List Value))
    (w23 : World) => ∃ (t24 : Bool), v21 = Value.bool t24 ∧ l22 = [] ∧ R (Value.bool t24) [] w23

theorem s17 (l s : Int) (A : Option Addr) (n c : Nat) (B : Option Addr) (m d : Nat) (D : Option Addr) (k e : Nat) (w : World) (R : Value → List (List Value) → World → Prop) (h :
    ∀ (_n1 : Nat), CallsI Try.prog 16 [Value.agg (Array.mk [Value.int IntKind.i64 l, Value.int IntKind.i64 s, Value.slice A n c, Value.slice B m d])] w [] fun (v2 : Value) (l3 : List (List Value)) (w4 :
        World) => ∃ (x5 : Int), v2 = Value.int IntKind.i64 x5 ∧ l3 = [] ∧ condK (x5 != 0) (R (Value.bool false) [] w4) (∃ (I6 : Int → Int → Lp), (I6 0 s).1 w4 ∧ ∀ (x7 x8 : Int) (w9 : World), (I6 x7 x8).1 w9 →
        ∀ (n10 : Nat), (I6 x7 x8).m w9 = n10 → condK (decide (x7 < (↑k : Int))) (condK (decide (x8 ≥ 0)) (IxV D k 1 x7 fun (a11 : Addr) => ∃ (x12 : Int), w9.cell? a11 = some (Value.int IntKind.i64 x12) ∧
        condK (decide (x12 < 0)) (R (Value.bool false) [] w9) (IxV D k 1 x7 fun (a13 : Addr) => ∃ (x14 : Int), w9.cell? a13 = some (Value.int IntKind.i64 x14) ∧ condK (decide (x14 ≥ l)) (R (Value.bool false)
        [] w9) (IxV D k 1 x7 fun (a15 : Addr) => ∃ (x16 : Int), w9.cell? a15 = some (Value.int IntKind.i64 x16) ∧ CallsI Try.prog 49 [Value.agg (Array.mk [Value.int IntKind.i64 l, Value.int IntKind.i64 s,
        Value.slice A n c, Value.slice B m d]), Value.int IntKind.i64 x8, Value.int IntKind.i64 x16] w9 [] fun (v17 : Value) (l18 : List (List Value)) (w19 : World) => ∃ (x20 : Int), v17 = Value.int
        IntKind.i64 x20 ∧ l18 = [] ∧ (I6 (IntKind.i64.wrap (x7 + 1)) x20).1 w19 ∧ (I6 (IntKind.i64.wrap (x7 + 1)) x20).m w19 < n10))) (J17_8 l s A n c B m d x8 w9 R)) (J17_8 l s A n c B m d x8 w9 R))) :
    CallsI Try.prog 17 [(.agg #[.int .i64 l, .int .i64 s, .slice A n c, .slice B m d]), (.slice D k e)] w [] R :=
  vcFun_sound (H := ⟨[], [(0, [(6, .int .i64), (5, .int .i64)], [])]⟩) (args := [.v (.agg #[.int .i64 l, .int .i64 s, .slice A n c, .slice B m d]), .v (.slice D k e)]) (L := []) goodP Try.func17 (by simp [okp]) (by rw [Try.ntmps17]; simp) (by simp [okp]) (Eq.mp (by kernel_rfl) h)

theorem s55 (l s : Int) (A : Option Addr) (n c : Nat) (B : Option Addr) (m d : Nat) (lb sb : Int) (Ab : Option Addr) (nb cb : Nat) (Bb : Option Addr) (mb db : Nat) (w : World) (R : Value → List (List Value) → World → Prop) (h :
    ∀ (_n1 _n2 : Nat), CallsI Try.prog 18 [Value.agg (Array.mk [Value.int IntKind.i64 l, Value.int IntKind.i64 s, Value.slice A n c, Value.slice B m d])] w [] fun (v3 : Value) (l4 : List (List Value)) (w5
        : World) => ∃ (x6 : Int), v3 = Value.int IntKind.i64 x6 ∧ l4 = [] ∧ condK (x6 != 0) (R (Value.int IntKind.i64 1) [] w5) (CallsI Try.prog 18 [Value.agg (Array.mk [Value.int IntKind.i64 lb, Value.int
        IntKind.i64 sb, Value.slice Ab nb cb, Value.slice Bb mb db])] w5 [] fun (v7 : Value) (l8 : List (List Value)) (w9 : World) => ∃ (x10 : Int), v7 = Value.int IntKind.i64 x10 ∧ l8 = [] ∧ condK (x10 != 0)
        (R (Value.int IntKind.i64 1) [] w9) (condK (l != lb) (R (Value.int IntKind.i64 4) [] w9) (R (Value.int IntKind.i64 0) [] w9)))) :
    CallsI Try.prog 55 [(.agg #[.int .i64 l, .int .i64 s, .slice A n c, .slice B m d]), (.agg #[.int .i64 lb, .int .i64 sb, .slice Ab nb cb, .slice Bb mb db])] w [] R :=
  vcFun_sound (H := ⟨[], []⟩) (args := [.v (.agg #[.int .i64 l, .int .i64 s, .slice A n c, .slice B m d]), .v (.agg #[.int .i64 lb, .int .i64 sb, .slice Ab nb cb, .slice Bb mb db])]) (L := []) goodP Try.func55 (by simp [okp]) (by rw [Try.ntmps55]; simp) (by simp [okp]) (Eq.mp (by kernel_rfl) h)

end Go.Proofs.Ytnkpjlhbojjneaa.VC

/- The conditions of functions, printed by wip/tools/gen.py. -/
namespace Go.Proofs.Ytnkpjlhbojjneaa.VC
open Go Go.RowKit

def J19_10 (l : Int) (s : Int) (A5 : Option Addr) (n6 : Nat) (n7 : Nat) (w8 : World) (n : Nat) (A : Option Addr) (R : Value → List (List Value) → World → Prop) : Prop := ∃ (I10 : Int → Int → Int →
    Option Addr → Nat → Nat → Option Addr → Nat → Nat → Lp), (I10 0 l s none 0 0 A5 n6 n7).1 w8 ∧ ∀ (x11 x12 x13 : Int) (A14 : Option Addr) (n15 n16 : Nat) (A17 : Option Addr) (n18 n19 : Nat) (w20 :
    World), (I10 x11 x12 x13 A14 n15 n16 A17 n18 n19).1 w20 → ∀ (n21 : Nat), (I10 x11 x12 x13 A14 n15 n16 A17 n18 n19).m w20 = n21 → condK (decide (x11 < (↑n : Int))) (IxV A n 1 x11 fun (a22 : Addr) => ∃
    (A23 : Option Addr), ∃ (n24 : Nat), ∃ (n25 : Nat), w20.cell? a22 = some (Value.slice A23 n24 n25) ∧ NewK w20 (Obj.cells (Array.mk []) 3) fun (n26 : Nat) (w27 : World) => w27.cell? a22 = some
    (Value.slice A23 n24 n25) ∧ AppK 8 1 [Value.int IntKind.i64 0] 3 (some (Addr.mk n26 0 none)) 0 0 A23 n24 w27 fun (A28 : Option Addr) (n29 n30 : Nat) (w31 : World) => NewK w31 (Obj.cells (Array.mk
    [Value.slice A28 n29 n30]) 26) fun (n32 : Nat) (w33 : World) => AppK 24 1 [Value.slice none 0 0] 26 A14 n15 n16 (some (Addr.mk n32 0 none)) 1 w33 fun (A34 : Option Addr) (n35 n36 : Nat) (w37 : World)
    => (I10 (IntKind.i64.wrap (x11 + 1)) x12 x13 A34 n35 n36 A17 n18 n19).1 w37 ∧ (I10 (IntKind.i64.wrap (x11 + 1)) x12 x13 A34 n35 n36 A17 n18 n19).m w37 < n21) (R (Value.agg (Array.mk [Value.int
    IntKind.i64 x12, Value.int IntKind.i64 x13, Value.slice A14 n15 n16, Value.slice A17 n18 n19])) [] w20)

def J19_12 (n3 : Nat) (B : Option Addr) (m : Nat) (w4 : World) (l : Int) (s : Int) (n : Nat) (A : Option Addr) (R : Value → List (List Value) → World → Prop) : Prop := AppK 1 1 [Value.bool false] 4
    (some (Addr.mk n3 0 none)) 0 0 B m w4 fun (A39 : Option Addr) (n40 n41 : Nat) (w42 : World) => J19_10 l s A39 n40 n41 w42 n A R

theorem s19 (l s : Int) (A : Option Addr) (n c : Nat) (B : Option Addr) (m d : Nat) (w : World) (R : Value → List (List Value) → World → Prop) (h :
    ∀ (_n1 _n2 : Nat), (NewK w (Obj.cells (Array.mk []) 4) fun (n3 : Nat) (w4 : World) => (AppK 1 1 [Value.bool false] 4 (some (Addr.mk n3 0 none)) 0 0 B m w4 fun (A5 : Option Addr) (n6 n7 : Nat) (w8 :
        World) => Nat → J19_10 l s A5 n6 n7 w8 n A R) ∧ (Nat → J19_12 n3 B m w4 l s n A R)) ∧ ∀ (_n43 : Nat), NewK w (Obj.cells (Array.mk []) 4) fun (n44 : Nat) (w45 : World) => J19_12 n44 B m w45 l s n A R) :
    CallsI Try.prog 19 [(.agg #[.int .i64 l, .int .i64 s, .slice A n c, .slice B m d])] w [] R :=
  vcFun_sound (H := ⟨[], [(0, [(4, .int .i64)], [(25, 2)])]⟩) (args := [.v (.agg #[.int .i64 l, .int .i64 s, .slice A n c, .slice B m d])]) (L := []) goodP Try.func19 (by simp [okp]) (by rw [Try.ntmps19]; simp) (by simp [okp]) (Eq.mp (by kernel_rfl) h)

theorem s84 (l : Int) (w : World) (R : Value → List (List Value) → World → Prop) (h :
    ∀ (_n1 : Nat), R (Value.agg (Array.mk [Value.int IntKind.i64 l, Value.int IntKind.i64 (-1), Value.slice none 0 0, Value.slice none 0 0])) [] w) :
    CallsI Try.prog 84 [(.int .i64 l)] w [] R :=
  vcFun_sound (H := ⟨[], []⟩) (args := [.v (.int .i64 l)]) (L := []) goodP Try.func84 (by simp [okp]) (by rw [Try.ntmps84]; simp) (by simp [okp]) (Eq.mp (by kernel_rfl) h)

theorem s23 (l s : Int) (A : Option Addr) (n c : Nat) (B : Option Addr) (m d : Nat) (w : World) (R : Value → List (List Value) → World → Prop) (h :
    ∀ (_n1 _n2 : Nat), CallsI Try.prog 18 [Value.agg (Array.mk [Value.int IntKind.i64 l, Value.int IntKind.i64 s, Value.slice A n c, Value.slice B m d])] w [] fun (v3 : Value) (l4 : List (List Value)) (w5
        : World) => ∃ (x6 : Int), v3 = Value.int IntKind.i64 x6 ∧ l4 = [] ∧ condK (x6 != 0) (R (Value.tuple (Array.mk [Value.agg (Array.mk [Value.int IntKind.i64 0, Value.int IntKind.i64 0, Value.slice none 0
        0, Value.slice none 0 0]), Value.int IntKind.i64 1])) [] w5) (CallsI Try.prog 54 [Value.agg (Array.mk [Value.int IntKind.i64 l, Value.int IntKind.i64 s, Value.slice A n c, Value.slice B m d])] w5 []
        fun (v7 : Value) (l8 : List (List Value)) (w9 : World) => ∃ (x10 : Int), ∃ (x11 : Int), ∃ (A12 : Option Addr), ∃ (n13 : Nat), ∃ (n14 : Nat), ∃ (A15 : Option Addr), ∃ (n16 : Nat), ∃ (n17 : Nat), v7 =
        Value.agg (Array.mk [Value.int IntKind.i64 x10, Value.int IntKind.i64 x11, Value.slice A12 n13 n14, Value.slice A15 n16 n17]) ∧ l8 = [] ∧ R (Value.tuple (Array.mk [Value.agg (Array.mk [Value.int
        IntKind.i64 x10, Value.int IntKind.i64 x11, Value.slice A12 n13 n14, Value.slice A15 n16 n17]), Value.int IntKind.i64 0])) [] w9)) :
    CallsI Try.prog 23 [(.agg #[.int .i64 l, .int .i64 s, .slice A n c, .slice B m d])] w [] R :=
  vcFun_sound (H := ⟨[], []⟩) (args := [.v (.agg #[.int .i64 l, .int .i64 s, .slice A n c, .slice B m d])]) (L := []) goodP Try.func23 (by simp [okp]) (by rw [Try.ntmps23]; simp) (by simp [okp]) (Eq.mp (by kernel_rfl) h)

def J83_1 (I29 : Int → Option Addr → Nat → Nat → Lp) (x30 : Int) (A31 : Option Addr) (n32 : Nat) (n33 : Nat) (w34 : World) (n35 : Nat) : Prop := (I29 (IntKind.i64.wrap (x30 + 1)) A31 n32 n33).1 w34 ∧
    (I29 (IntKind.i64.wrap (x30 + 1)) A31 n32 n33).m w34 < n35

def J83_2 (A31 : Option Addr) (n32 : Nat) (n33 : Nat) (n54 : Nat) (w55 : World) (I29 : Int → Option Addr → Nat → Nat → Lp) (x30 : Int) (n35 : Nat) : Prop := AppK 8 1 [Value.int IntKind.i64 0] 3 A31
    n32 n33 (some (Addr.mk n54 0 none)) 1 w55 fun (A56 : Option Addr) (n57 n58 : Nat) (w59 : World) => J83_1 I29 x30 A56 n57 n58 w59 n35

def J83_6 (n2 : Nat) (n : Nat) (x37 : Int) (w49 : World) (A31 : Option Addr) (n32 : Nat) (n33 : Nat) (I29 : Int → Option Addr → Nat → Nat → Lp) (x30 : Int) (n35 : Nat) : Prop := IxV (some (Addr.mk n2
    0 none)) n 1 x37 fun (a50 : Addr) => ∃ (t51 : Bool), w49.cell? a50 = some (Value.bool t51) ∧ condK (!t51) (IxV (some (Addr.mk n2 0 none)) n 1 x37 fun (a52 : Addr) => SetK w49 a52 (Value.bool true) fun
    (w53 : World) => NewK w53 (Obj.cells (Array.mk [Value.int IntKind.i64 x37]) 3) fun (n54 : Nat) (w55 : World) => J83_2 A31 n32 n33 n54 w55 I29 x30 n35) (J83_1 I29 x30 A31 n32 n33 w49 n35)

def J83_32 (x17 : Int) (n19 : Nat) (A18 : Option Addr) (w21 : World) (A : Option Addr) (n : Nat) (n20 : Nat) (n6 : Nat) (n2 : Nat) (I16 : Int → Option Addr → Nat → Nat → Lp) (n22 : Nat) (B : Option
    Addr) (m : Nat) (n4 : Nat) (R : Value → List (List Value) → World → Prop) : Prop := condK (decide (x17 < (↑n19 : Int))) (IxV A18 n19 1 x17 fun (a23 : Addr) => ∃ (x24 : Int), w21.cell? a23 = some
    (Value.int IntKind.i64 x24) ∧ IxV A n 1 x24 fun (a25 : Addr) => ∃ (A26 : Option Addr), ∃ (n27 : Nat), ∃ (n28 : Nat), w21.cell? a25 = some (Value.slice A26 n27 n28) ∧ ∃ (I29 : Int → Option Addr → Nat →
    Nat → Lp), (I29 0 A18 n19 n20).1 w21 ∧ ∀ (x30 : Int) (A31 : Option Addr) (n32 n33 : Nat) (w34 : World), (I29 x30 A31 n32 n33).1 w34 → ∀ (n35 : Nat), (I29 x30 A31 n32 n33).m w34 = n35 → condK (decide
    (x30 < (↑n27 : Int))) (IxV A26 n27 1 x30 fun (a36 : Addr) => ∃ (x37 : Int), w34.cell? a36 = some (Value.int IntKind.i64 x37) ∧ condK (decide (x37 < 0)) (J83_1 I29 x30 A31 n32 n33 w34 n35) (IxV (some
    (Addr.mk n6 0 none)) n 1 x37 fun (a38 : Addr) => ∃ (A39 : Option Addr), ∃ (n40 : Nat), ∃ (n41 : Nat), w34.cell? a38 = some (Value.slice A39 n40 n41) ∧ NewK w34 (Obj.cells (Array.mk [Value.int
    IntKind.i64 x24]) 3) fun (n42 : Nat) (w43 : World) => AppK 8 1 [Value.int IntKind.i64 0] 3 A39 n40 n41 (some (Addr.mk n42 0 none)) 1 w43 fun (A44 : Option Addr) (n45 n46 : Nat) (w47 : World) => IxV
    (some (Addr.mk n6 0 none)) n 1 x37 fun (a48 : Addr) => SetK w47 a48 (Value.slice A44 n45 n46) fun (w49 : World) => J83_6 n2 n x37 w49 A31 n32 n33 I29 x30 n35)) (J83_1 I16 x17 A31 n32 n33 w34 n22)) (∃
    (I60 : Int → Option Addr → Nat → Nat → Lp), (I60 0 none 0 0).1 w21 ∧ ∀ (x61 : Int) (A62 : Option Addr) (n63 n64 : Nat) (w65 : World), (I60 x61 A62 n63 n64).1 w65 → ∀ (n66 : Nat), (I60 x61 A62 n63
    n64).m w65 = n66 → condK (decide (x61 < (↑n : Int))) (IxV (some (Addr.mk n2 0 none)) n 1 x61 fun (a67 : Addr) => ∃ (t68 : Bool), w65.cell? a67 = some (Value.bool t68) ∧ condK t68 (IxV B m 1 x61 fun
    (a69 : Addr) => ∃ (t70 : Bool), w65.cell? a69 = some (Value.bool t70) ∧ condK t70 (IxV (some (Addr.mk n4 0 none)) n 1 x61 fun (a71 : Addr) => SetK w65 a71 (Value.bool true) fun (w72 : World) => NewK
    w72 (Obj.cells (Array.mk [Value.int IntKind.i64 x61]) 3) fun (n73 : Nat) (w74 : World) => J83_2 A62 n63 n64 n73 w74 I60 x61 n66) (J83_1 I60 x61 A62 n63 n64 w65 n66)) (J83_1 I60 x61 A62 n63 n64 w65
    n66)) (∃ (I79 : Int → Option Addr → Nat → Nat → Lp), (I79 0 A62 n63 n64).1 w65 ∧ ∀ (x80 : Int) (A81 : Option Addr) (n82 n83 : Nat) (w84 : World), (I79 x80 A81 n82 n83).1 w84 → ∀ (n85 : Nat), (I79 x80
    A81 n82 n83).m w84 = n85 → condK (decide (x80 < (↑n82 : Int))) (IxV A81 n82 1 x80 fun (a86 : Addr) => ∃ (x87 : Int), w84.cell? a86 = some (Value.int IntKind.i64 x87) ∧ IxV (some (Addr.mk n6 0 none)) n
    1 x87 fun (a88 : Addr) => ∃ (A89 : Option Addr), ∃ (n90 : Nat), ∃ (n91 : Nat), w84.cell? a88 = some (Value.slice A89 n90 n91) ∧ ∃ (I92 : Int → Option Addr → Nat → Nat → Lp), (I92 0 A81 n82 n83).1 w84
    ∧ ∀ (x93 : Int) (A94 : Option Addr) (n95 n96 : Nat) (w97 : World), (I92 x93 A94 n95 n96).1 w97 → ∀ (n98 : Nat), (I92 x93 A94 n95 n96).m w97 = n98 → condK (decide (x93 < (↑n90 : Int))) (IxV A89 n90 1
    x93 fun (a99 : Addr) => ∃ (x100 : Int), w97.cell? a99 = some (Value.int IntKind.i64 x100) ∧ J83_6 n4 n x100 w97 A94 n95 n96 I92 x93 n98) (J83_1 I79 x80 A94 n95 n96 w97 n85)) (R (Value.slice (some
    (Addr.mk n4 0 none)) n n) [] w84)))

def J83_39 (n : Nat) (w5 : World) (s : Int) (n2 : Nat) (A : Option Addr) (B : Option Addr) (m : Nat) (n4 : Nat) (R : Value → List (List Value) → World → Prop) : Prop := (↑n : Int) = (↑n : Int) ∧ 0 ≤
    (↑n : Int) ∧ (↑n : Int) * (↑24 : Int) ≤ 281474976710656 ∧ (↑n : Int) ≤ 9223372036854775807 ∧ NewK w5 (Obj.cells (Array.mk (List.replicate n (Value.slice none 0 0))) 26) fun (n6 : Nat) (w7 : World) =>
    condK (decide (s ≥ 0)) (IxV (some (Addr.mk n2 0 none)) n 1 s fun (a8 : Addr) => SetK w7 a8 (Value.bool true) fun (w9 : World) => NewK w9 (Obj.cells (Array.mk [Value.int IntKind.i64 s]) 3) fun (n10 :
    Nat) (w11 : World) => AppK 8 1 [Value.int IntKind.i64 0] 3 none 0 0 (some (Addr.mk n10 0 none)) 1 w11 fun (A12 : Option Addr) (n13 n14 : Nat) (w15 : World) => ∃ (I16 : Int → Option Addr → Nat → Nat →
    Lp), (I16 0 A12 n13 n14).1 w15 ∧ ((x17 : Int) → (A18 : Option Addr) → (n19 n20 : Nat) → (w21 : World) → (I16 x17 A18 n19 n20).1 w21 → (n22 : Nat) → (I16 x17 A18 n19 n20).m w21 = n22 → J83_32 x17 n19
    A18 w21 A n n20 n6 n2 I16 n22 B m n4 R)) (∃ (I111 : Int → Option Addr → Nat → Nat → Lp), (I111 0 none 0 0).1 w7 ∧ ((x112 : Int) → (A113 : Option Addr) → (n114 n115 : Nat) → (w116 : World) → (I111 x112
    A113 n114 n115).1 w116 → (n117 : Nat) → (I111 x112 A113 n114 n115).m w116 = n117 → J83_32 x112 n114 A113 w116 A n n115 n6 n2 I111 n117 B m n4 R))

theorem s83 (l s : Int) (A : Option Addr) (n c : Nat) (B : Option Addr) (m d : Nat) (w : World) (R : Value → List (List Value) → World → Prop) (h :
    ∀ (_n1 : Nat), ((↑n : Int) = (↑n : Int) ∧ 0 ≤ (↑n : Int) ∧ (↑n : Int) * (↑1 : Int) ≤ 281474976710656 ∧ (↑n : Int) ≤ 9223372036854775807 ∧ NewK w (Obj.cells (Array.mk (List.replicate n (Value.bool
        false))) 4) fun (n2 : Nat) (w3 : World) => (↑n : Int) = (↑n : Int) ∧ 0 ≤ (↑n : Int) ∧ (↑n : Int) * (↑1 : Int) ≤ 281474976710656 ∧ (↑n : Int) ≤ 9223372036854775807 ∧ NewK w3 (Obj.cells (Array.mk
        (List.replicate n (Value.bool false))) 4) fun (n4 : Nat) (w5 : World) => J83_39 n w5 s n2 A B m n4 R) ∧ (↑n : Int) = (↑n : Int) ∧ 0 ≤ (↑n : Int) ∧ (↑n : Int) * (↑1 : Int) ≤ 281474976710656 ∧ (↑n :
        Int) ≤ 9223372036854775807 ∧ NewK w (Obj.cells (Array.mk (List.replicate n (Value.bool false))) 4) fun (n118 : Nat) (w119 : World) => (↑n : Int) = (↑n : Int) ∧ 0 ≤ (↑n : Int) ∧ (↑n : Int) * (↑1 : Int)
        ≤ 281474976710656 ∧ (↑n : Int) ≤ 9223372036854775807 ∧ NewK w119 (Obj.cells (Array.mk (List.replicate n (Value.bool false))) 4) fun (n120 : Nat) (w121 : World) => J83_39 n w121 s n120 A B m n118 R) :
    CallsI Try.prog 83 [(.agg #[.int .i64 l, .int .i64 s, .slice A n c, .slice B m d])] w [] R :=
  vcFun_sound (H := ⟨[], [(0, [(7, .int .i64), (6, .slice)], []), (2, [(56, .int .i64), (6, .slice)], []), (4, [(87, .int .i64), (6, .slice)], []), (6, [(13, .int .i64), (6, .slice)], []), (8, [(122, .int .i64), (6, .slice)], [])]⟩) (args := [.v (.agg #[.int .i64 l, .int .i64 s, .slice A n c, .slice B m d])]) (L := []) goodP Try.func83 (by simp [okp]) (by rw [Try.ntmps83]; simp) (by simp [okp]) (Eq.mp (by kernel_rfl) h)

theorem s108 (D : Option Addr) (k e : Nat) (w : World) (R : Value → List (List Value) → World → Prop) (h :
    condK D.isNone (R (Value.slice none 0 0) [] w) (NewK w (Obj.cells (Array.mk []) 3) fun (n1 : Nat) (w2 : World) => AppK 8 1 [Value.int IntKind.i64 0] 3 (some (Addr.mk n1 0 none)) 0 0 D k w2 fun (A3 :
        Option Addr) (n4 n5 : Nat) (w6 : World) => R (Value.slice A3 n4 n5) [] w6)) :
    CallsI Try.prog 108 [(.slice D k e)] w [] R :=
  vcFun_sound (H := ⟨[], []⟩) (args := [.v (.slice D k e)]) (L := []) goodP Try.func108 (by simp [okp]) (by rw [Try.ntmps108]; simp) (by simp [okp]) (Eq.mp (by kernel_rfl) h)

end Go.Proofs.Ytnkpjlhbojjneaa.VC

/- The conditions of functions, printed by wip/tools/gen.py. -/
namespace Go.Proofs.Ytnkpjlhbojjneaa.VC
open Go Go.RowKit

def J105_1 (R : Value → List (List Value) → World → Prop) (Y : Option Addr) (y0 : Nat) (y1 : Nat) (A7 : Option Addr) (n8 : Nat) (n9 : Nat) (w10 : World) : Prop := R (Value.tuple (Array.mk []))
    [[Value.slice Y y0 y1], [Value.slice A7 n8 n9]] w10

theorem s105 (b1 b4 : Nat) (Y : Option Addr) (y0 y1 : Nat) (X : Option Addr) (x0 x1 : Nat) (q : Int) (w : World) (R : Value → List (List Value) → World → Prop) (h :
    IxV Y y0 1 q fun (a1 : Addr) => ∃ (t2 : Bool), w.cell? a1 = some (Value.bool t2) ∧ condK (!t2) (IxV Y y0 1 q fun (a3 : Addr) => SetK w a3 (Value.bool true) fun (w4 : World) => NewK w4 (Obj.cells
        (Array.mk [Value.int IntKind.i64 q]) 3) fun (n5 : Nat) (w6 : World) => AppK 8 1 [Value.int IntKind.i64 0] 3 X x0 x1 (some (Addr.mk n5 0 none)) 1 w6 fun (A7 : Option Addr) (n8 n9 : Nat) (w10 : World)
        => J105_1 R Y y0 y1 A7 n8 n9 w10) (J105_1 R Y y0 y1 X x0 x1 w)) :
    CallsI Try.prog 105 [(.int .i64 q), .pointer (some ⟨b1, 0, none⟩), .pointer (some ⟨b4, 0, none⟩)] w [(b1, 23, [.slice Y y0 y1]), (b4, 26, [.slice X x0 x1])] R :=
  vcFun_sound (H := ⟨[], []⟩) (args := [.v (.int .i64 q), .p 0 b1 0, .p 1 b4 0]) (L := [⟨b1, 23, [.v (.slice Y y0 y1)]⟩, ⟨b4, 26, [.v (.slice X x0 x1)]⟩]) goodP Try.func105 (by simp [okp]) (by rw [Try.ntmps105]; simp) (by simp [okp]) (Eq.mp (by kernel_rfl) h)

def J106_14 (T : Option Addr) (t0 : Nat) (x11 : Int) (w21 : World) (F : Option Addr) (f0 : Nat) (x13 : Int) (n1 : Nat) (O : Option Addr) (o0 : Nat) (I3 : Int → Option Addr → Nat → Nat → Lp) (x4 : Int)
    (A18 : Option Addr) (n19 : Nat) (n20 : Nat) (n9 : Nat) : Prop := IxV T t0 1 x11 fun (a22 : Addr) => ∃ (x23 : Int), w21.cell? a22 = some (Value.int IntKind.i64 x23) ∧ IxV F f0 1 x13 fun (a24 : Addr) =>
    ∃ (x25 : Int), w21.cell? a24 = some (Value.int IntKind.i64 x25) ∧ ∃ (l26 : List (Value × Value)), MapOpt w21 KT.int (some n1) l26 ∧ ∃ (x27 : Int), (assoc KT.int l26 (Value.int IntKind.i64 x13)).getD
    (Value.int IntKind.i64 0) = Value.int IntKind.i64 x27 ∧ IxV O o0 1 (IntKind.i64.wrap (x25 + x27)) fun (a28 : Addr) => ∃ (x29 : Int), w21.cell? a28 = some (Value.int IntKind.i64 x29) ∧ IxV O o0 1 x23
    fun (a30 : Addr) => SetK w21 a30 (Value.int IntKind.i64 x29) fun (w31 : World) => IxV O o0 1 (IntKind.i64.wrap (x25 + x27)) fun (a32 : Addr) => SetK w31 a32 (Value.int IntKind.i64 x11) fun (w33 :
    World) => IxV T t0 1 x29 fun (a34 : Addr) => SetK w33 a34 (Value.int IntKind.i64 x23) fun (w35 : World) => IxV T t0 1 x11 fun (a36 : Addr) => SetK w35 a36 (Value.int IntKind.i64 (IntKind.i64.wrap (x25
    + x27))) fun (w37 : World) => ∃ (l38 : List (Value × Value)), MapOpt w37 KT.int (some n1) l38 ∧ ∃ (x39 : Int), (assoc KT.int l38 (Value.int IntKind.i64 x13)).getD (Value.int IntKind.i64 0) = Value.int
    IntKind.i64 x39 ∧ ∃ (n40 : Nat), ∃ (l41 : List (Value × Value)), some n1 = some n40 ∧ MapAt w37 KT.int n40 l41 ∧ ∀ (w42 : World), MapUpd w37 KT.int n40 (assocSet KT.int (Value.int IntKind.i64 x13)
    (Value.int IntKind.i64 (IntKind.i64.wrap (x39 + 1))) l41) w42 → (I3 (IntKind.i64.wrap (x4 + 1)) A18 n19 n20).1 w42 ∧ (I3 (IntKind.i64.wrap (x4 + 1)) A18 n19 n20).m w42 < n9

def J106_23 (I64 : Int → Option Addr → Nat → Nat → Option Addr → Nat → Nat → Option Addr → Nat → Nat → Option Addr → Nat → Nat → Option Addr → Nat → Nat → Option Addr → Nat → Nat → Option Addr → Nat →
    Nat → Lp) (x65 : Int) (A66 : Option Addr) (n67 : Nat) (n68 : Nat) (A69 : Option Addr) (n70 : Nat) (n71 : Nat) (A72 : Option Addr) (n73 : Nat) (n74 : Nat) (A75 : Option Addr) (n76 : Nat) (n77 : Nat)
    (A78 : Option Addr) (n79 : Nat) (n80 : Nat) (A81 : Option Addr) (n82 : Nat) (n83 : Nat) (A84 : Option Addr) (n85 : Nat) (n86 : Nat) (w87 : World) (n88 : Nat) : Prop := (I64 (IntKind.i64.wrap (x65 +
    1)) A66 n67 n68 A69 n70 n71 A72 n73 n74 A75 n76 n77 A78 n79 n80 A81 n82 n83 A84 n85 n86).1 w87 ∧ (I64 (IntKind.i64.wrap (x65 + 1)) A66 n67 n68 A69 n70 n71 A72 n73 n74 A75 n76 n77 A78 n79 n80 A81 n82
    n83 A84 n85 n86).m w87 < n88

theorem s106 (g : Nat) (cap : Array Value) (b0 b1 b2 b3 b4 : Nat) (O : Option Addr) (o0 o1 : Nat) (T : Option Addr) (t0 t1 : Nat) (U : Option Addr) (u0 u1 : Nat) (F : Option Addr) (f0 f1 : Nat) (Z : Option Addr) (z0 z1 : Nat) (Y : Option Addr) (y0 y1 : Nat) (X : Option Addr) (x0 x1 : Nat) (D : Option Addr) (k e : Nat) (w : World) (R : Value → List (List Value) → World → Prop) (h :
    NewK w (Obj.map (Array.mk []) 0) fun (n1 : Nat) (w2 : World) => ∃ (I3 : Int → Option Addr → Nat → Nat → Lp), (I3 0 none 0 0).1 w2 ∧ ∀ (x4 : Int) (A5 : Option Addr) (n6 n7 : Nat) (w8 : World), (I3 x4
        A5 n6 n7).1 w8 → ∀ (n9 : Nat), (I3 x4 A5 n6 n7).m w8 = n9 → condK (decide (x4 < (↑k : Int))) (IxV D k 1 x4 fun (a10 : Addr) => ∃ (x11 : Int), w8.cell? a10 = some (Value.int IntKind.i64 x11) ∧ IxV U u0
        1 x11 fun (a12 : Addr) => ∃ (x13 : Int), w8.cell? a12 = some (Value.int IntKind.i64 x13) ∧ ∃ (l14 : List (Value × Value)), MapOpt w8 KT.int (some n1) l14 ∧ ∃ (x15 : Int), (assoc KT.int l14 (Value.int
        IntKind.i64 x13)).getD (Value.int IntKind.i64 0) = Value.int IntKind.i64 x15 ∧ condK (x15 == 0) (NewK w8 (Obj.cells (Array.mk [Value.int IntKind.i64 x13]) 3) fun (n16 : Nat) (w17 : World) => AppK 8 1
        [Value.int IntKind.i64 0] 3 A5 n6 n7 (some (Addr.mk n16 0 none)) 1 w17 fun (A18 : Option Addr) (n19 n20 : Nat) (w21 : World) => J106_14 T t0 x11 w21 F f0 x13 n1 O o0 I3 x4 A18 n19 n20 n9) (J106_14 T
        t0 x11 w8 F f0 x13 n1 O o0 I3 x4 A5 n6 n7 n9)) (∃ (I64 : Int → Option Addr → Nat → Nat → Option Addr → Nat → Nat → Option Addr → Nat → Nat → Option Addr → Nat → Nat → Option Addr → Nat → Nat → Option
        Addr → Nat → Nat → Option Addr → Nat → Nat → Lp), (I64 0 O o0 o1 T t0 t1 U u0 u1 F f0 f1 Z z0 z1 Y y0 y1 X x0 x1).1 w8 ∧ ∀ (x65 : Int) (A66 : Option Addr) (n67 n68 : Nat) (A69 : Option Addr) (n70 n71
        : Nat) (A72 : Option Addr) (n73 n74 : Nat) (A75 : Option Addr) (n76 n77 : Nat) (A78 : Option Addr) (n79 n80 : Nat) (A81 : Option Addr) (n82 n83 : Nat) (A84 : Option Addr) (n85 n86 : Nat) (w87 :
        World), (I64 x65 A66 n67 n68 A69 n70 n71 A72 n73 n74 A75 n76 n77 A78 n79 n80 A81 n82 n83 A84 n85 n86).1 w87 → ∀ (n88 : Nat), (I64 x65 A66 n67 n68 A69 n70 n71 A72 n73 n74 A75 n76 n77 A78 n79 n80 A81
        n82 n83 A84 n85 n86).m w87 = n88 → condK (decide (x65 < (↑n6 : Int))) (IxV A5 n6 1 x65 fun (a89 : Addr) => ∃ (x90 : Int), w87.cell? a89 = some (Value.int IntKind.i64 x90) ∧ ∃ (l91 : List (Value ×
        Value)), MapOpt w87 KT.int (some n1) l91 ∧ ∃ (x92 : Int), (assoc KT.int l91 (Value.int IntKind.i64 x90)).getD (Value.int IntKind.i64 0) = Value.int IntKind.i64 x92 ∧ IxV A78 n79 1 x90 fun (a93 : Addr)
        => ∃ (x94 : Int), w87.cell? a93 = some (Value.int IntKind.i64 x94) ∧ condK (x92 == x94) (J106_23 I64 x65 A66 n67 n68 A69 n70 n71 A72 n73 n74 A75 n76 n77 A78 n79 n80 A81 n82 n83 A84 n85 n86 w87 n88)
        (IxV A75 n76 1 x90 fun (a95 : Addr) => ∃ (x96 : Int), w87.cell? a95 = some (Value.int IntKind.i64 x96) ∧ NewK w87 (Obj.cells (Array.mk [Value.int IntKind.i64 x96]) 3) fun (n97 : Nat) (w98 : World) =>
        AppK 8 1 [Value.int IntKind.i64 0] 3 A75 n76 n77 (some (Addr.mk n97 0 none)) 1 w98 fun (A99 : Option Addr) (n100 n101 : Nat) (w102 : World) => NewK w102 (Obj.cells (Array.mk [Value.int IntKind.i64
        x92]) 3) fun (n103 : Nat) (w104 : World) => AppK 8 1 [Value.int IntKind.i64 0] 3 A78 n79 n80 (some (Addr.mk n103 0 none)) 1 w104 fun (A105 : Option Addr) (n106 n107 : Nat) (w108 : World) => IxV A99
        n100 1 x90 fun (a109 : Addr) => ∃ (x110 : Int), w108.cell? a109 = some (Value.int IntKind.i64 x110) ∧ IxV A99 n100 1 x90 fun (a111 : Addr) => ∃ (x112 : Int), w108.cell? a111 = some (Value.int
        IntKind.i64 x112) ∧ 0 ≤ IntKind.i64.wrap (x112 + x92) ∧ IntKind.i64.wrap (x112 + x92) ≤ (↑n68 : Int) ∧ 0 ≤ x110 ∧ x110 ≤ (↑(IntKind.i64.wrap (x112 + x92)).toNat : Int) ∧ ∃ (I113 : Int → Lp), (I113
        0).1 w108 ∧ ∀ (x114 : Int) (w115 : World), (I113 x114).1 w115 → ∀ (n116 : Nat), (I113 x114).m w115 = n116 → condK (decide (x114 < (↑((IntKind.i64.wrap (x112 + x92)).toNat - x110.toNat) : Int))) (IxV
        (if n68 = x110.toNat then A66 else Option.map (fun (x : Addr) => x.add (x110.toNat * i3.size)) A66) ((IntKind.i64.wrap (x112 + x92)).toNat - x110.toNat) 1 x114 fun (a117 : Addr) => ∃ (x118 : Int),
        w115.cell? a117 = some (Value.int IntKind.i64 x118) ∧ IxV A72 n73 1 x118 fun (a119 : Addr) => SetK w115 a119 (Value.int IntKind.i64 (↑n76 : Int)) fun (w120 : World) => (I113 (IntKind.i64.wrap (x114 +
        1))).1 w120 ∧ (I113 (IntKind.i64.wrap (x114 + 1))).m w120 < n116) (IxV A99 n100 1 x90 fun (a121 : Addr) => ∃ (x122 : Int), w115.cell? a121 = some (Value.int IntKind.i64 x122) ∧ IxV A99 n100 1 x90 fun
        (a123 : Addr) => SetK w115 a123 (Value.int IntKind.i64 (IntKind.i64.wrap (x122 + x92))) fun (w124 : World) => IxV A105 n106 1 x90 fun (a125 : Addr) => ∃ (x126 : Int), w124.cell? a125 = some (Value.int
        IntKind.i64 x126) ∧ IxV A105 n106 1 x90 fun (a127 : Addr) => SetK w124 a127 (Value.int IntKind.i64 (IntKind.i64.wrap (x126 - x92))) fun (w128 : World) => CallsI Try.prog g (Value.int IntKind.i64 x90
        :: Value.int IntKind.i64 (↑n76 : Int) :: cap.1) w128 [(b0, 133, [Value.slice A66 n67 n68, Value.slice A69 n70 n71, Value.slice A72 n73 n74, Value.slice A99 n100 n101, Value.slice A105 n106 n107]),
        (b1, 23, [Value.slice A81 n82 n83]), (b2, 131, [Value.pointer (some (Addr.mk b0 0 none))]), (b3, 89, [Value.func (Fn.func 105) (Array.mk []) (Array.mk [Value.pointer (some (Addr.mk b1 0 none)),
        Value.pointer (some (Addr.mk b4 0 none))])]), (b4, 26, [Value.slice A84 n85 n86])] fun (v129 : Value) (l130 : List (List Value)) (w131 : World) => v129 = Value.tuple (Array.mk []) ∧ ∃ (A132 : Option
        Addr), ∃ (n133 : Nat), ∃ (n134 : Nat), ∃ (A135 : Option Addr), ∃ (n136 : Nat), ∃ (n137 : Nat), l130 = [[Value.slice A66 n67 n68, Value.slice A69 n70 n71, Value.slice A72 n73 n74, Value.slice A99 n100
        n101, Value.slice A105 n106 n107], [Value.slice A132 n133 n134], [Value.pointer (some (Addr.mk b0 0 none))], [Value.func (Fn.func 105) (Array.mk []) (Array.mk [Value.pointer (some (Addr.mk b1 0
        none)), Value.pointer (some (Addr.mk b4 0 none))])], [Value.slice A135 n136 n137]] ∧ J106_23 I64 x65 A66 n67 n68 A69 n70 n71 A72 n73 n74 A99 n100 n101 A105 n106 n107 A132 n133 n134 A135 n136 n137 w131
        n88))) (R (Value.tuple (Array.mk [])) [[Value.slice A66 n67 n68, Value.slice A69 n70 n71, Value.slice A72 n73 n74, Value.slice A75 n76 n77, Value.slice A78 n79 n80], [Value.slice A81 n82 n83],
        [Value.pointer (some (Addr.mk b0 0 none))], [Value.func (Fn.func 105) (Array.mk []) (Array.mk [Value.pointer (some (Addr.mk b1 0 none)), Value.pointer (some (Addr.mk b4 0 none))])], [Value.slice A84
        n85 n86]] w87))) :
    CallsI Try.prog 106 [.pointer (some ⟨b0, 0, none⟩), (.slice D k e), (.func (.func g) #[] cap)] w [(b0, 133, [.slice O o0 o1, .slice T t0 t1, .slice U u0 u1, .slice F f0 f1, .slice Z z0 z1]), (b1, 23, [.slice Y y0 y1]), (b2, 131, [.pointer (some ⟨b0, 0, none⟩)]), (b3, 89, [.func (.func 105) #[] #[.pointer (some ⟨b1, 0, none⟩), .pointer (some ⟨b4, 0, none⟩)]]), (b4, 26, [.slice X x0 x1])] R :=
  vcFun_sound (H := ⟨[((29, 3), [((133, 0), false), ((23, 0), true), ((131, 0), false), ((89, 0), false), ((26, 0), true)])], [(0, [(23, .int .i64), (7, .slice)], []), (2, [(102, .int .i64)], [(133, 0), (23, 0), (26, 0)]), (4, [(171, .int .i64)], [])]⟩) (args := [.p 0 b0 0, .v (.slice D k e), .v (.func (.func g) #[] cap)]) (L := [⟨b0, 133, [.v (.slice O o0 o1), .v (.slice T t0 t1), .v (.slice U u0 u1), .v (.slice F f0 f1), .v (.slice Z z0 z1)]⟩, ⟨b1, 23, [.v (.slice Y y0 y1)]⟩, ⟨b2, 131, [.p 0 b0 0]⟩, ⟨b3, 89, [.v (.func (.func 105) #[] #[.pointer (some ⟨b1, 0, none⟩), .pointer (some ⟨b4, 0, none⟩)])]⟩, ⟨b4, 26, [.v (.slice X x0 x1)]⟩]) goodP Try.func106 (by simp [okp]) (by rw [Try.ntmps106]; simp) (by simp [okp]) (Eq.mp (by kernel_rfl) h)

theorem s107 (b0 b1 b2 b3 b4 : Nat) (O : Option Addr) (o0 o1 : Nat) (T : Option Addr) (t0 t1 : Nat) (U : Option Addr) (u0 u1 : Nat) (F : Option Addr) (f0 f1 : Nat) (Z : Option Addr) (z0 z1 : Nat) (Y : Option Addr) (y0 y1 : Nat) (X : Option Addr) (x0 x1 : Nat) (q x : Int) (w : World) (R : Value → List (List Value) → World → Prop) (h :
    NewK w (Obj.cells (Array.mk [Value.bool false]) 4) fun (n1 : Nat) (w2 : World) => AppK 1 1 [Value.bool false] 4 Y y0 y1 (some (Addr.mk n1 0 none)) 1 w2 fun (A3 : Option Addr) (n4 n5 : Nat) (w6 :
        World) => CallsI Try.prog 105 [Value.int IntKind.i64 x, Value.pointer (some (Addr.mk b1 0 none)), Value.pointer (some (Addr.mk b4 0 none))] w6 [(b1, 23, [Value.slice A3 n4 n5]), (b4, 26, [Value.slice
        X x0 x1])] fun (v7 : Value) (l8 : List (List Value)) (w9 : World) => v7 = Value.tuple (Array.mk []) ∧ ∃ (A10 : Option Addr), ∃ (n11 : Nat), ∃ (n12 : Nat), ∃ (A13 : Option Addr), ∃ (n14 : Nat), ∃ (n15
        : Nat), l8 = [[Value.slice A10 n11 n12], [Value.slice A13 n14 n15]] ∧ R (Value.tuple (Array.mk [])) [[Value.slice O o0 o1, Value.slice T t0 t1, Value.slice U u0 u1, Value.slice F f0 f1, Value.slice Z
        z0 z1], [Value.slice A10 n11 n12], [Value.pointer (some (Addr.mk b0 0 none))], [Value.func (Fn.func 105) (Array.mk []) (Array.mk [Value.pointer (some (Addr.mk b1 0 none)), Value.pointer (some (Addr.mk
        b4 0 none))])], [Value.slice A13 n14 n15]] w9) :
    CallsI Try.prog 107 [(.int .i64 q), (.int .i64 x), .pointer (some ⟨b1, 0, none⟩), .pointer (some ⟨b3, 0, none⟩)] w [(b0, 133, [.slice O o0 o1, .slice T t0 t1, .slice U u0 u1, .slice F f0 f1, .slice Z z0 z1]), (b1, 23, [.slice Y y0 y1]), (b2, 131, [.pointer (some ⟨b0, 0, none⟩)]), (b3, 89, [.func (.func 105) #[] #[.pointer (some ⟨b1, 0, none⟩), .pointer (some ⟨b4, 0, none⟩)]]), (b4, 26, [.slice X x0 x1])] R :=
  vcFun_sound (H := ⟨[((1, 2), [((23, 0), true), ((26, 0), true)])], []⟩) (args := [.v (.int .i64 q), .v (.int .i64 x), .p 1 b1 0, .p 3 b3 0]) (L := [⟨b0, 133, [.v (.slice O o0 o1), .v (.slice T t0 t1), .v (.slice U u0 u1), .v (.slice F f0 f1), .v (.slice Z z0 z1)]⟩, ⟨b1, 23, [.v (.slice Y y0 y1)]⟩, ⟨b2, 131, [.p 0 b0 0]⟩, ⟨b3, 89, [.v (.func (.func 105) #[] #[.pointer (some ⟨b1, 0, none⟩), .pointer (some ⟨b4, 0, none⟩)])]⟩, ⟨b4, 26, [.v (.slice X x0 x1)]⟩]) goodP Try.func107 (by simp [okp]) (by rw [Try.ntmps107]; simp) (by simp [okp]) (Eq.mp (by kernel_rfl) h)

def J109_6 (x : Int) (b1 : Nat) (b4 : Nat) (w6 : World) (A3 : Option Addr) (n4 : Nat) (n5 : Nat) (X : Option Addr) (x0 : Nat) (x1 : Nat) (R : Value → List (List Value) → World → Prop) (O : Option
    Addr) (o0 : Nat) (o1 : Nat) (T : Option Addr) (t0 : Nat) (t1 : Nat) (U : Option Addr) (u0 : Nat) (u1 : Nat) (F : Option Addr) (f0 : Nat) (f1 : Nat) (Z : Option Addr) (z0 : Nat) (z1 : Nat) (b0 : Nat) :
    Prop := CallsI Try.prog 105 [Value.int IntKind.i64 x, Value.pointer (some (Addr.mk b1 0 none)), Value.pointer (some (Addr.mk b4 0 none))] w6 [(b1, 23, [Value.slice A3 n4 n5]), (b4, 26, [Value.slice X
    x0 x1])] fun (v9 : Value) (l10 : List (List Value)) (w11 : World) => v9 = Value.tuple (Array.mk []) ∧ ∃ (A12 : Option Addr), ∃ (n13 : Nat), ∃ (n14 : Nat), ∃ (A15 : Option Addr), ∃ (n16 : Nat), ∃ (n17
    : Nat), l10 = [[Value.slice A12 n13 n14], [Value.slice A15 n16 n17]] ∧ R (Value.tuple (Array.mk [])) [[Value.slice O o0 o1, Value.slice T t0 t1, Value.slice U u0 u1, Value.slice F f0 f1, Value.slice Z
    z0 z1], [Value.slice A12 n13 n14], [Value.pointer (some (Addr.mk b0 0 none))], [Value.func (Fn.func 105) (Array.mk []) (Array.mk [Value.pointer (some (Addr.mk b1 0 none)), Value.pointer (some (Addr.mk
    b4 0 none))])], [Value.slice A15 n16 n17]] w11

theorem s109 (b0 b1 b2 b3 b4 : Nat) (O : Option Addr) (o0 o1 : Nat) (T : Option Addr) (t0 t1 : Nat) (U : Option Addr) (u0 u1 : Nat) (F : Option Addr) (f0 f1 : Nat) (Z : Option Addr) (z0 z1 : Nat) (Y : Option Addr) (y0 y1 : Nat) (X : Option Addr) (x0 x1 : Nat) (q x : Int) (w : World) (R : Value → List (List Value) → World → Prop) (h :
    NewK w (Obj.cells (Array.mk [Value.bool false]) 4) fun (n1 : Nat) (w2 : World) => AppK 1 1 [Value.bool false] 4 Y y0 y1 (some (Addr.mk n1 0 none)) 1 w2 fun (A3 : Option Addr) (n4 n5 : Nat) (w6 :
        World) => IxV A3 n4 1 q fun (a7 : Addr) => ∃ (t8 : Bool), w6.cell? a7 = some (Value.bool t8) ∧ condK t8 (J109_6 x b1 b4 w6 A3 n4 n5 X x0 x1 R O o0 o1 T t0 t1 U u0 u1 F f0 f1 Z z0 z1 b0) (IxV Z z0 1 x
        fun (a18 : Addr) => ∃ (x19 : Int), w6.cell? a18 = some (Value.int IntKind.i64 x19) ∧ IxV Z z0 1 q fun (a20 : Addr) => ∃ (x21 : Int), w6.cell? a20 = some (Value.int IntKind.i64 x21) ∧ condK (decide
        (x19 ≤ x21)) (J109_6 x b1 b4 w6 A3 n4 n5 X x0 x1 R O o0 o1 T t0 t1 U u0 u1 F f0 f1 Z z0 z1 b0) (J109_6 q b1 b4 w6 A3 n4 n5 X x0 x1 R O o0 o1 T t0 t1 U u0 u1 F f0 f1 Z z0 z1 b0))) :
    CallsI Try.prog 109 [(.int .i64 q), (.int .i64 x), .pointer (some ⟨b1, 0, none⟩), .pointer (some ⟨b2, 0, none⟩), .pointer (some ⟨b3, 0, none⟩)] w [(b0, 133, [.slice O o0 o1, .slice T t0 t1, .slice U u0 u1, .slice F f0 f1, .slice Z z0 z1]), (b1, 23, [.slice Y y0 y1]), (b2, 131, [.pointer (some ⟨b0, 0, none⟩)]), (b3, 89, [.func (.func 105) #[] #[.pointer (some ⟨b1, 0, none⟩), .pointer (some ⟨b4, 0, none⟩)]]), (b4, 26, [.slice X x0 x1])] R :=
  vcFun_sound (H := ⟨[((2, 2), [((23, 0), true), ((26, 0), true)]), ((3, 2), [((23, 0), true), ((26, 0), true)])], []⟩) (args := [.v (.int .i64 q), .v (.int .i64 x), .p 1 b1 0, .p 2 b2 0, .p 3 b3 0]) (L := [⟨b0, 133, [.v (.slice O o0 o1), .v (.slice T t0 t1), .v (.slice U u0 u1), .v (.slice F f0 f1), .v (.slice Z z0 z1)]⟩, ⟨b1, 23, [.v (.slice Y y0 y1)]⟩, ⟨b2, 131, [.p 0 b0 0]⟩, ⟨b3, 89, [.v (.func (.func 105) #[] #[.pointer (some ⟨b1, 0, none⟩), .pointer (some ⟨b4, 0, none⟩)])]⟩, ⟨b4, 26, [.v (.slice X x0 x1)]⟩]) goodP Try.func109 (by simp [okp]) (by rw [Try.ntmps109]; simp) (by simp [okp]) (Eq.mp (by kernel_rfl) h)

end Go.Proofs.Ytnkpjlhbojjneaa.VC
