/- Contracts of the functions, part three: the reference's least machine. -/
import Derived.Test.YtnkpjlhbojjneaaGb
import Derived.Test.YtnkpjlhbojjneaaGh
import Derived.Test.YtnkpjlhbojjneaaGf
import Derived.Test.YtnkpjlhbojjneaaGg
/- The conditions of functions, printed by wip/tools/gen.py. -/
namespace Go.Proofs.Ytnkpjlhbojjneaa.VC
open Go Go.RowKit

set_option maxRecDepth 100000 in
theorem s21 (l s : Int) (A : Option Addr) (n c : Nat) (B : Option Addr) (m d : Nat) (w : World) (R : Value → List (List Value) → World → Prop) (h :
    ∀ (_n1 : Nat), condK (decide ((↑n : Int) ≤ 30)) (condK (decide ((↑m : Int) ≤ 40)) (R (Value.bool (decide (l ≤ 8))) [] w) (R (Value.bool false) [] w)) (R (Value.bool false) [] w)) :
    CallsI Try.prog 21 [(.agg #[.int .i64 l, .int .i64 s, .slice A n c, .slice B m d])] w [] R :=
  vcFun_sound (H := ⟨[], []⟩) (args := [.v (.agg #[.int .i64 l, .int .i64 s, .slice A n c, .slice B m d])]) (L := []) goodP Try.func21 (by simp [okp]) (by rw [Try.ntmps21]; simp) (by simp [okp]) (Eq.mp (by kernel_rfl) h)

set_option maxRecDepth 100000 in
theorem s22 (l s : Int) (A : Option Addr) (n c : Nat) (B : Option Addr) (m d : Nat) (w : World) (R : Value → List (List Value) → World → Prop) (h :
    ∀ (_n1 _n2 : Nat), CallsI Try.prog 16 [Value.agg (Array.mk [Value.int IntKind.i64 l, Value.int IntKind.i64 s, Value.slice A n c, Value.slice B m d])] w [] fun (v3 : Value) (l4 : List (List Value)) (w5
        : World) => ∃ (x6 : Int), v3 = Value.int IntKind.i64 x6 ∧ l4 = [] ∧ condK (x6 != 0) (R (Value.tuple (Array.mk [Value.agg (Array.mk [Value.int IntKind.i64 0, Value.int IntKind.i64 0, Value.slice none 0
        0, Value.slice none 0 0]), Value.int IntKind.i64 1])) [] w5) (CallsI Try.prog 53 [Value.agg (Array.mk [Value.int IntKind.i64 l, Value.int IntKind.i64 s, Value.slice A n c, Value.slice B m d])] w5 []
        fun (v7 : Value) (l8 : List (List Value)) (w9 : World) => ∃ (x10 : Int), ∃ (x11 : Int), ∃ (A12 : Option Addr), ∃ (n13 : Nat), ∃ (n14 : Nat), ∃ (A15 : Option Addr), ∃ (n16 : Nat), ∃ (n17 : Nat), v7 =
        Value.agg (Array.mk [Value.int IntKind.i64 x10, Value.int IntKind.i64 x11, Value.slice A12 n13 n14, Value.slice A15 n16 n17]) ∧ l8 = [] ∧ R (Value.tuple (Array.mk [Value.agg (Array.mk [Value.int
        IntKind.i64 x10, Value.int IntKind.i64 x11, Value.slice A12 n13 n14, Value.slice A15 n16 n17]), Value.int IntKind.i64 0])) [] w9)) :
    CallsI Try.prog 22 [(.agg #[.int .i64 l, .int .i64 s, .slice A n c, .slice B m d])] w [] R :=
  vcFun_sound (H := ⟨[], []⟩) (args := [.v (.agg #[.int .i64 l, .int .i64 s, .slice A n c, .slice B m d])]) (L := []) goodP Try.func22 (by simp [okp]) (by rw [Try.ntmps22]; simp) (by simp [okp]) (Eq.mp (by kernel_rfl) h)

set_option maxRecDepth 100000 in
theorem s81 (l : Int) (w : World) (R : Value → List (List Value) → World → Prop) (h :
    ∀ (_n1 : Nat), R (Value.agg (Array.mk [Value.int IntKind.i64 l, Value.int IntKind.i64 (-1), Value.slice none 0 0, Value.slice none 0 0])) [] w) :
    CallsI Try.prog 81 [(.int .i64 l)] w [] R :=
  vcFun_sound (H := ⟨[], []⟩) (args := [.v (.int .i64 l)]) (L := []) goodP Try.func81 (by simp [okp]) (by rw [Try.ntmps81]; simp) (by simp [okp]) (Eq.mp (by kernel_rfl) h)

def J104_1 (I6 : Int → Lp) (x7 : Int) (w8 : World) (n9 : Nat) : Prop := (I6 (IntKind.i64.wrap (x7 + 1))).1 w8 ∧ (I6 (IntKind.i64.wrap (x7 + 1))).m w8 < n9

set_option maxRecDepth 100000 in
theorem s104 (l s : Int) (A : Option Addr) (n c : Nat) (B : Option Addr) (m d : Nat) (D : Option Addr) (k e : Nat) (q x : Int) (w : World) (R : Value → List (List Value) → World → Prop) (h :
    ∀ (_n1 : Nat), IxV D k 1 q fun (a2 : Addr) => ∃ (x3 : Int), w.cell? a2 = some (Value.int IntKind.i64 x3) ∧ IxV D k 1 x fun (a4 : Addr) => ∃ (x5 : Int), w.cell? a4 = some (Value.int IntKind.i64 x5) ∧
        condK (x3 != x5) (R (Value.bool false) [] w) (∃ (I6 : Int → Lp), (I6 0).1 w ∧ ∀ (x7 : Int) (w8 : World), (I6 x7).1 w8 → ∀ (n9 : Nat), (I6 x7).m w8 = n9 → condK (decide (x7 < l)) (IxV A n 1 q fun (a10
        : Addr) => ∃ (A11 : Option Addr), ∃ (n12 : Nat), ∃ (n13 : Nat), w8.cell? a10 = some (Value.slice A11 n12 n13) ∧ IxV A11 n12 1 x7 fun (a14 : Addr) => ∃ (x15 : Int), w8.cell? a14 = some (Value.int
        IntKind.i64 x15) ∧ condK (decide (x15 ≥ 0)) (IxV A n 1 q fun (a16 : Addr) => ∃ (A17 : Option Addr), ∃ (n18 : Nat), ∃ (n19 : Nat), w8.cell? a16 = some (Value.slice A17 n18 n19) ∧ IxV A17 n18 1 x7 fun
        (a20 : Addr) => ∃ (x21 : Int), w8.cell? a20 = some (Value.int IntKind.i64 x21) ∧ IxV D k 1 x21 fun (a22 : Addr) => ∃ (x23 : Int), w8.cell? a22 = some (Value.int IntKind.i64 x23) ∧ IxV A n 1 x fun (a24
        : Addr) => ∃ (A25 : Option Addr), ∃ (n26 : Nat), ∃ (n27 : Nat), w8.cell? a24 = some (Value.slice A25 n26 n27) ∧ IxV A25 n26 1 x7 fun (a28 : Addr) => ∃ (x29 : Int), w8.cell? a28 = some (Value.int
        IntKind.i64 x29) ∧ condK (decide (x29 ≥ 0)) (IxV A n 1 x fun (a30 : Addr) => ∃ (A31 : Option Addr), ∃ (n32 : Nat), ∃ (n33 : Nat), w8.cell? a30 = some (Value.slice A31 n32 n33) ∧ IxV A31 n32 1 x7 fun
        (a34 : Addr) => ∃ (x35 : Int), w8.cell? a34 = some (Value.int IntKind.i64 x35) ∧ IxV D k 1 x35 fun (a36 : Addr) => ∃ (x37 : Int), w8.cell? a36 = some (Value.int IntKind.i64 x37) ∧ condK (x23 != x37)
        (R (Value.bool false) [] w8) (J104_1 I6 x7 w8 n9)) (condK (x23 != -1) (R (Value.bool false) [] w8) (J104_1 I6 x7 w8 n9))) (IxV A n 1 x fun (a38 : Addr) => ∃ (A39 : Option Addr), ∃ (n40 : Nat), ∃ (n41
        : Nat), w8.cell? a38 = some (Value.slice A39 n40 n41) ∧ IxV A39 n40 1 x7 fun (a42 : Addr) => ∃ (x43 : Int), w8.cell? a42 = some (Value.int IntKind.i64 x43) ∧ condK (decide (x43 ≥ 0)) (IxV A n 1 x fun
        (a44 : Addr) => ∃ (A45 : Option Addr), ∃ (n46 : Nat), ∃ (n47 : Nat), w8.cell? a44 = some (Value.slice A45 n46 n47) ∧ IxV A45 n46 1 x7 fun (a48 : Addr) => ∃ (x49 : Int), w8.cell? a48 = some (Value.int
        IntKind.i64 x49) ∧ IxV D k 1 x49 fun (a50 : Addr) => ∃ (x51 : Int), w8.cell? a50 = some (Value.int IntKind.i64 x51) ∧ condK (-1 != x51) (R (Value.bool false) [] w8) (J104_1 I6 x7 w8 n9)) (J104_1 I6 x7
        w8 n9))) (R (Value.bool true) [] w8))) :
    CallsI Try.prog 104 [(.agg #[.int .i64 l, .int .i64 s, .slice A n c, .slice B m d]), (.slice D k e), (.int .i64 q), (.int .i64 x)] w [] R :=
  vcFun_sound (H := ⟨[], [(0, [(9, .int .i64)], [])]⟩) (args := [.v (.agg #[.int .i64 l, .int .i64 s, .slice A n c, .slice B m d]), .v (.slice D k e), .v (.int .i64 q), .v (.int .i64 x)]) (L := []) goodP Try.func104 (by simp [okp]) (by rw [Try.ntmps104]; simp) (by simp [okp]) (Eq.mp (by kernel_rfl) h)

def J103_2 (I17 : Int → Bool → Lp) (x18 : Int) (t19 : Bool) (w20 : World) (n21 : Nat) : Prop := (I17 (IntKind.i64.wrap (x18 + 1)) t19).1 w20 ∧ (I17 (IntKind.i64.wrap (x18 + 1)) t19).m w20 < n21

set_option maxRecDepth 100000 in
theorem s103 (l s : Int) (A : Option Addr) (n c : Nat) (B : Option Addr) (m d : Nat) (w : World) (R : Value → List (List Value) → World → Prop) (h :
    ∀ (_n1 : Nat), NewK w (Obj.cells (Array.mk []) 4) fun (n2 : Nat) (w3 : World) => AppK 1 1 [Value.bool false] 4 (some (Addr.mk n2 0 none)) 0 0 B m w3 fun (A4 : Option Addr) (n5 n6 : Nat) (w7 : World)
        => ∃ (I8 : Bool → Lp), (I8 true).1 w7 ∧ ∀ (t9 : Bool) (w10 : World), (I8 t9).1 w10 → ∀ (n11 : Nat), (I8 t9).m w10 = n11 → condK t9 (∃ (I12 : Int → Bool → Lp), (I12 0 false).1 w10 ∧ ∀ (x13 : Int) (t14
        : Bool) (w15 : World), (I12 x13 t14).1 w15 → ∀ (n16 : Nat), (I12 x13 t14).m w15 = n16 → condK (decide (x13 < (↑n5 : Int))) (∃ (I17 : Int → Bool → Lp), (I17 0 t14).1 w15 ∧ ∀ (x18 : Int) (t19 : Bool)
        (w20 : World), (I17 x18 t19).1 w20 → ∀ (n21 : Nat), (I17 x18 t19).m w20 = n21 → condK (decide (x18 < l)) (IxV A4 n5 1 x13 fun (a22 : Addr) => ∃ (t23 : Bool), w20.cell? a22 = some (Value.bool t23) ∧
        condK (!t23) (IxV A n 1 x13 fun (a24 : Addr) => ∃ (A25 : Option Addr), ∃ (n26 : Nat), ∃ (n27 : Nat), w20.cell? a24 = some (Value.slice A25 n26 n27) ∧ IxV A25 n26 1 x18 fun (a28 : Addr) => ∃ (x29 :
        Int), w20.cell? a28 = some (Value.int IntKind.i64 x29) ∧ condK (decide (x29 ≥ 0)) (IxV A n 1 x13 fun (a30 : Addr) => ∃ (A31 : Option Addr), ∃ (n32 : Nat), ∃ (n33 : Nat), w20.cell? a30 = some
        (Value.slice A31 n32 n33) ∧ IxV A31 n32 1 x18 fun (a34 : Addr) => ∃ (x35 : Int), w20.cell? a34 = some (Value.int IntKind.i64 x35) ∧ IxV A4 n5 1 x35 fun (a36 : Addr) => ∃ (t37 : Bool), w20.cell? a36 =
        some (Value.bool t37) ∧ condK t37 (IxV A4 n5 1 x13 fun (a38 : Addr) => SetK w20 a38 (Value.bool true) fun (w39 : World) => (I17 (IntKind.i64.wrap (x18 + 1)) true).1 w39 ∧ (I17 (IntKind.i64.wrap (x18 +
        1)) true).m w39 < n21) (J103_2 I17 x18 t19 w20 n21)) (J103_2 I17 x18 t19 w20 n21)) (J103_2 I12 x13 t19 w20 n16)) (J103_2 I12 x13 t19 w20 n16)) ((I8 t14).1 w15 ∧ (I8 t14).m w15 < n11)) (R (Value.slice
        A4 n5 n6) [] w10)) :
    CallsI Try.prog 103 [(.agg #[.int .i64 l, .int .i64 s, .slice A n c, .slice B m d])] w [] R :=
  vcFun_sound (H := ⟨[], [(0, [(4, .bool)], []), (2, [(5, .int .i64), (4, .bool)], []), (4, [(6, .int .i64), (4, .bool)], [])]⟩) (args := [.v (.agg #[.int .i64 l, .int .i64 s, .slice A n c, .slice B m d])]) (L := []) goodP Try.func103 (by simp [okp]) (by rw [Try.ntmps103]; simp) (by simp [okp]) (Eq.mp (by kernel_rfl) h)

def J82_4 (I27 : Int → Option Addr → Nat → Nat → Lp) (x28 : Int) (A48 : Option Addr) (n49 : Nat) (n50 : Nat) (w51 : World) (n33 : Nat) : Prop := (I27 (IntKind.i64.wrap (x28 + 1)) A48 n49 n50).1 w51 ∧
    (I27 (IntKind.i64.wrap (x28 + 1)) A48 n49 n50).m w51 < n33

set_option maxRecDepth 100000 in
theorem s82 (l s : Int) (A : Option Addr) (n c : Nat) (B : Option Addr) (m d : Nat) (w : World) (R : Value → List (List Value) → World → Prop) (h :
    ∀ (_n1 : Nat), (↑n : Int) = (↑n : Int) ∧ 0 ≤ (↑n : Int) ∧ (↑n : Int) * (↑8 : Int) ≤ 281474976710656 ∧ (↑n : Int) ≤ 9223372036854775807 ∧ NewK w (Obj.cells (Array.mk (List.replicate n (Value.int
        IntKind.i64 0))) 3) fun (n2 : Nat) (w3 : World) => ∃ (I4 : Int → Lp), (I4 0).1 w3 ∧ ∀ (x5 : Int) (w6 : World), (I4 x5).1 w6 → ∀ (n7 : Nat), (I4 x5).m w6 = n7 → condK (decide (x5 < (↑n : Int))) (IxV
        (some (Addr.mk n2 0 none)) n 1 x5 fun (a8 : Addr) => SetK w6 a8 (Value.int IntKind.i64 (-1)) fun (w9 : World) => (I4 (IntKind.i64.wrap (x5 + 1))).1 w9 ∧ (I4 (IntKind.i64.wrap (x5 + 1))).m w9 < n7)
        (NewK w6 (Obj.cells (Array.mk []) 3) fun (n10 : Nat) (w11 : World) => condK (decide (s < 0)) (R (Value.tuple (Array.mk [Value.slice (some (Addr.mk n10 0 none)) 0 0, Value.slice (some (Addr.mk n2 0
        none)) n n])) [] w11) (NewK w11 (Obj.cells (Array.mk [Value.int IntKind.i64 s]) 3) fun (n12 : Nat) (w13 : World) => AppK 8 1 [Value.int IntKind.i64 0] 3 (some (Addr.mk n10 0 none)) 0 0 (some (Addr.mk
        n12 0 none)) 1 w13 fun (A14 : Option Addr) (n15 n16 : Nat) (w17 : World) => IxV (some (Addr.mk n2 0 none)) n 1 s fun (a18 : Addr) => SetK w17 a18 (Value.int IntKind.i64 0) fun (w19 : World) => ∃ (I20
        : Int → Option Addr → Nat → Nat → Lp), (I20 0 A14 n15 n16).1 w19 ∧ ∀ (x21 : Int) (A22 : Option Addr) (n23 n24 : Nat) (w25 : World), (I20 x21 A22 n23 n24).1 w25 → ∀ (n26 : Nat), (I20 x21 A22 n23 n24).m
        w25 = n26 → condK (decide (x21 < (↑n23 : Int))) (∃ (I27 : Int → Option Addr → Nat → Nat → Lp), (I27 0 A22 n23 n24).1 w25 ∧ ∀ (x28 : Int) (A29 : Option Addr) (n30 n31 : Nat) (w32 : World), (I27 x28 A29
        n30 n31).1 w32 → ∀ (n33 : Nat), (I27 x28 A29 n30 n31).m w32 = n33 → condK (decide (x28 < l)) (IxV A29 n30 1 x21 fun (a34 : Addr) => ∃ (x35 : Int), w32.cell? a34 = some (Value.int IntKind.i64 x35) ∧
        IxV A n 1 x35 fun (a36 : Addr) => ∃ (A37 : Option Addr), ∃ (n38 : Nat), ∃ (n39 : Nat), w32.cell? a36 = some (Value.slice A37 n38 n39) ∧ IxV A37 n38 1 x28 fun (a40 : Addr) => ∃ (x41 : Int), w32.cell?
        a40 = some (Value.int IntKind.i64 x41) ∧ condK (decide (x41 ≥ 0)) (IxV (some (Addr.mk n2 0 none)) n 1 x41 fun (a42 : Addr) => ∃ (x43 : Int), w32.cell? a42 = some (Value.int IntKind.i64 x43) ∧ condK
        (decide (x43 < 0)) (IxV (some (Addr.mk n2 0 none)) n 1 x41 fun (a44 : Addr) => SetK w32 a44 (Value.int IntKind.i64 (↑n30 : Int)) fun (w45 : World) => NewK w45 (Obj.cells (Array.mk [Value.int
        IntKind.i64 x41]) 3) fun (n46 : Nat) (w47 : World) => AppK 8 1 [Value.int IntKind.i64 0] 3 A29 n30 n31 (some (Addr.mk n46 0 none)) 1 w47 fun (A48 : Option Addr) (n49 n50 : Nat) (w51 : World) => J82_4
        I27 x28 A48 n49 n50 w51 n33) (J82_4 I27 x28 A29 n30 n31 w32 n33)) (J82_4 I27 x28 A29 n30 n31 w32 n33)) (J82_4 I20 x21 A29 n30 n31 w32 n26)) (R (Value.tuple (Array.mk [Value.slice A22 n23 n24,
        Value.slice (some (Addr.mk n2 0 none)) n n])) [] w25)))) :
    CallsI Try.prog 82 [(.agg #[.int .i64 l, .int .i64 s, .slice A n c, .slice B m d])] w [] R :=
  vcFun_sound (H := ⟨[], [(0, [(5, .int .i64)], []), (2, [(7, .int .i64), (6, .slice)], []), (4, [(8, .int .i64), (6, .slice)], [])]⟩) (args := [.v (.agg #[.int .i64 l, .int .i64 s, .slice A n c, .slice B m d])]) (L := []) goodP Try.func82 (by simp [okp]) (by rw [Try.ntmps82]; simp) (by simp [okp]) (Eq.mp (by kernel_rfl) h)

end Go.Proofs.Ytnkpjlhbojjneaa.VC

/- The conditions of functions, printed by wip/tools/gen.py. -/
namespace Go.Proofs.Ytnkpjlhbojjneaa.VC
open Go Go.RowKit

def J24_1 (I15 : Int → Lp) (x16 : Int) (w17 : World) (n18 : Nat) : Prop := (I15 (IntKind.i64.wrap (x16 + 1))).1 w17 ∧ (I15 (IntKind.i64.wrap (x16 + 1))).m w17 < n18

set_option maxRecDepth 100000 in
theorem s24 (l s : Int) (A : Option Addr) (n c : Nat) (B : Option Addr) (m d : Nat) (lb sb : Int) (Ab : Option Addr) (nb cb : Nat) (Bb : Option Addr) (mb db : Nat) (w : World) (R : Value → List (List Value) → World → Prop) (h :
    ∀ (_n1 _n2 : Nat), condK (l != lb) (R (Value.bool false) [] w) (condK (s != sb) (R (Value.bool false) [] w) (condK ((↑n : Int) != (↑nb : Int)) (R (Value.bool false) [] w) (condK ((↑m : Int) != (↑mb :
        Int)) (R (Value.bool false) [] w) (∃ (I3 : Int → Lp), (I3 0).1 w ∧ ∀ (x4 : Int) (w5 : World), (I3 x4).1 w5 → ∀ (n6 : Nat), (I3 x4).m w5 = n6 → condK (decide (x4 < (↑n : Int))) (IxV A n 1 x4 fun (a7 :
        Addr) => ∃ (A8 : Option Addr), ∃ (n9 : Nat), ∃ (n10 : Nat), w5.cell? a7 = some (Value.slice A8 n9 n10) ∧ IxV Ab nb 1 x4 fun (a11 : Addr) => ∃ (A12 : Option Addr), ∃ (n13 : Nat), ∃ (n14 : Nat),
        w5.cell? a11 = some (Value.slice A12 n13 n14) ∧ condK ((↑n9 : Int) != (↑n13 : Int)) (R (Value.bool false) [] w5) (∃ (I15 : Int → Lp), (I15 0).1 w5 ∧ ∀ (x16 : Int) (w17 : World), (I15 x16).1 w17 → ∀
        (n18 : Nat), (I15 x16).m w17 = n18 → IxV A n 1 x4 fun (a19 : Addr) => ∃ (A20 : Option Addr), ∃ (n21 : Nat), ∃ (n22 : Nat), w17.cell? a19 = some (Value.slice A20 n21 n22) ∧ condK (decide (x16 < (↑n21 :
        Int))) (IxV A n 1 x4 fun (a23 : Addr) => ∃ (A24 : Option Addr), ∃ (n25 : Nat), ∃ (n26 : Nat), w17.cell? a23 = some (Value.slice A24 n25 n26) ∧ IxV A24 n25 1 x16 fun (a27 : Addr) => ∃ (x28 : Int),
        w17.cell? a27 = some (Value.int IntKind.i64 x28) ∧ IxV Ab nb 1 x4 fun (a29 : Addr) => ∃ (A30 : Option Addr), ∃ (n31 : Nat), ∃ (n32 : Nat), w17.cell? a29 = some (Value.slice A30 n31 n32) ∧ IxV A30 n31
        1 x16 fun (a33 : Addr) => ∃ (x34 : Int), w17.cell? a33 = some (Value.int IntKind.i64 x34) ∧ condK (x28 != x34) (R (Value.bool false) [] w17) (J24_1 I15 x16 w17 n18)) (J24_1 I3 x4 w17 n6))) (∃ (I35 :
        Int → Lp), (I35 0).1 w5 ∧ ∀ (x36 : Int) (w37 : World), (I35 x36).1 w37 → ∀ (n38 : Nat), (I35 x36).m w37 = n38 → condK (decide (x36 < (↑m : Int))) (IxV B m 1 x36 fun (a39 : Addr) => ∃ (t40 : Bool),
        w37.cell? a39 = some (Value.bool t40) ∧ IxV Bb mb 1 x36 fun (a41 : Addr) => ∃ (t42 : Bool), w37.cell? a41 = some (Value.bool t42) ∧ condK (!t40 == t42) (R (Value.bool false) [] w37) (J24_1 I35 x36 w37
        n38)) (R (Value.bool true) [] w37))))))) :
    CallsI Try.prog 24 [(.agg #[.int .i64 l, .int .i64 s, .slice A n c, .slice B m d]), (.agg #[.int .i64 lb, .int .i64 sb, .slice Ab nb cb, .slice Bb mb db])] w [] R :=
  vcFun_sound (H := ⟨[], [(0, [(5, .int .i64)], []), (2, [(6, .int .i64)], []), (4, [(7, .int .i64)], [])]⟩) (args := [.v (.agg #[.int .i64 l, .int .i64 s, .slice A n c, .slice B m d]), .v (.agg #[.int .i64 lb, .int .i64 sb, .slice Ab nb cb, .slice Bb mb db])]) (L := []) goodP Try.func24 (by simp [okp]) (by rw [Try.ntmps24]; simp) (by simp [okp]) (Eq.mp (by kernel_rfl) h)

def J4_1 (w4 : World) (R : Value → List (List Value) → World → Prop) : Prop := CallsI Try.prog 15 [] w4 [] fun (v6 : Value) (l7 : List (List Value)) (w8 : World) => ∃ (t9 : Bool), v6 = Value.bool t9 ∧
    l7 = [] ∧ R (Value.bool t9) [] w8

def J4_2 (x37 : Int) (x38 : Int) (A39 : Option Addr) (n40 : Nat) (n41 : Nat) (A42 : Option Addr) (n43 : Nat) (n44 : Nat) (w49 : World) (R : Value → List (List Value) → World → Prop) : Prop := CallsI
    Try.prog 24 [Value.agg (Array.mk [Value.int IntKind.i64 x37, Value.int IntKind.i64 x38, Value.slice A39 n40 n41, Value.slice A42 n43 n44]), Value.agg (Array.mk [Value.int IntKind.i64 0, Value.int
    IntKind.i64 0, Value.slice none 0 0, Value.slice none 0 0])] w49 [] fun (v55 : Value) (l56 : List (List Value)) (w57 : World) => ∃ (t58 : Bool), v55 = Value.bool t58 ∧ l56 = [] ∧ condK t58 (J4_1 w57
    R) (R (Value.bool false) [] w57)

set_option maxRecDepth 100000 in
theorem s4 (l s : Int) (A : Option Addr) (n c : Nat) (B : Option Addr) (m d : Nat) (w : World) (R : Value → List (List Value) → World → Prop) (h :
    ∀ (_n1 : Nat), CallsI Try.prog 21 [Value.agg (Array.mk [Value.int IntKind.i64 l, Value.int IntKind.i64 s, Value.slice A n c, Value.slice B m d])] w [] fun (v2 : Value) (l3 : List (List Value)) (w4 :
        World) => ∃ (t5 : Bool), v2 = Value.bool t5 ∧ l3 = [] ∧ condK (!t5) (J4_1 w4 R) (CallsI Try.prog 22 [Value.agg (Array.mk [Value.int IntKind.i64 l, Value.int IntKind.i64 s, Value.slice A n c,
        Value.slice B m d])] w4 [] fun (v10 : Value) (l11 : List (List Value)) (w12 : World) => ∃ (x13 : Int), ∃ (x14 : Int), ∃ (A15 : Option Addr), ∃ (n16 : Nat), ∃ (n17 : Nat), ∃ (A18 : Option Addr), ∃ (n19
        : Nat), ∃ (n20 : Nat), ∃ (x21 : Int), v10 = Value.tuple (Array.mk [Value.agg (Array.mk [Value.int IntKind.i64 x13, Value.int IntKind.i64 x14, Value.slice A15 n16 n17, Value.slice A18 n19 n20]),
        Value.int IntKind.i64 x21]) ∧ l11 = [] ∧ ∀ (_n22 : Nat), CallsI Try.prog 19 [Value.agg (Array.mk [Value.int IntKind.i64 l, Value.int IntKind.i64 s, Value.slice A n c, Value.slice B m d])] w12 [] fun
        (v23 : Value) (l24 : List (List Value)) (w25 : World) => ∃ (x26 : Int), ∃ (x27 : Int), ∃ (A28 : Option Addr), ∃ (n29 : Nat), ∃ (n30 : Nat), ∃ (A31 : Option Addr), ∃ (n32 : Nat), ∃ (n33 : Nat), v23 =
        Value.agg (Array.mk [Value.int IntKind.i64 x26, Value.int IntKind.i64 x27, Value.slice A28 n29 n30, Value.slice A31 n32 n33]) ∧ l24 = [] ∧ CallsI Try.prog 23 [Value.agg (Array.mk [Value.int
        IntKind.i64 x26, Value.int IntKind.i64 x27, Value.slice A28 n29 n30, Value.slice A31 n32 n33])] w25 [] fun (v34 : Value) (l35 : List (List Value)) (w36 : World) => ∃ (x37 : Int), ∃ (x38 : Int), ∃ (A39
        : Option Addr), ∃ (n40 : Nat), ∃ (n41 : Nat), ∃ (A42 : Option Addr), ∃ (n43 : Nat), ∃ (n44 : Nat), ∃ (x45 : Int), v34 = Value.tuple (Array.mk [Value.agg (Array.mk [Value.int IntKind.i64 x37, Value.int
        IntKind.i64 x38, Value.slice A39 n40 n41, Value.slice A42 n43 n44]), Value.int IntKind.i64 x45]) ∧ l35 = [] ∧ ∀ (_n46 : Nat), condK (x21 == x45) (condK (x21 == 0) (CallsI Try.prog 24 [Value.agg
        (Array.mk [Value.int IntKind.i64 x37, Value.int IntKind.i64 x38, Value.slice A39 n40 n41, Value.slice A42 n43 n44]), Value.agg (Array.mk [Value.int IntKind.i64 x13, Value.int IntKind.i64 x14,
        Value.slice A15 n16 n17, Value.slice A18 n19 n20])] w36 [] fun (v47 : Value) (l48 : List (List Value)) (w49 : World) => ∃ (t50 : Bool), v47 = Value.bool t50 ∧ l48 = [] ∧ condK t50 (J4_1 w49 R) (condK
        (x21 != 0) (J4_2 x37 x38 A39 n40 n41 A42 n43 n44 w49 R) (R (Value.bool false) [] w49))) (condK (x21 != 0) (J4_2 x37 x38 A39 n40 n41 A42 n43 n44 w36 R) (R (Value.bool false) [] w36))) (R (Value.bool
        false) [] w36))) :
    CallsI Try.prog 4 [(.agg #[.int .i64 l, .int .i64 s, .slice A n c, .slice B m d])] w [] R :=
  vcFun_sound (H := ⟨[], []⟩) (args := [.v (.agg #[.int .i64 l, .int .i64 s, .slice A n c, .slice B m d])]) (L := []) goodP Try.func4 (by simp [okp]) (by rw [Try.ntmps4]; simp) (by simp [okp]) (Eq.mp (by kernel_rfl) h)

end Go.Proofs.Ytnkpjlhbojjneaa.VC

/- The conditions of functions, printed by wip/tools/gen.py. -/
namespace Go.Proofs.Ytnkpjlhbojjneaa.VC
open Go Go.RowKit

def J80_1 (I10 : Int → Lp) (x11 : Int) (w23 : World) (n13 : Nat) : Prop := (I10 (IntKind.i64.wrap (x11 + 1))).1 w23 ∧ (I10 (IntKind.i64.wrap (x11 + 1))).m w23 < n13

def J80_7 (I35 : Int → Option Addr → Nat → Nat → Lp) (x36 : Int) (A66 : Option Addr) (n67 : Nat) (n68 : Nat) (w69 : World) (n41 : Nat) : Prop := (I35 (IntKind.i64.wrap (x36 + 1)) A66 n67 n68).1 w69 ∧
    (I35 (IntKind.i64.wrap (x36 + 1)) A66 n67 n68).m w69 < n41

def J80_13 (w57 : World) (a58 : Addr) (x59 : Int) (n31 : Nat) (n27 : Nat) (x36 : Int) (n38 : Nat) (A37 : Option Addr) (n39 : Nat) (I35 : Int → Option Addr → Nat → Nat → Lp) (n41 : Nat) : Prop :=
    w57.cell? a58 = some (Value.int IntKind.i64 x59) ∧ condK (decide (x59 ≥ 0)) (IxV (some (Addr.mk n31 0 none)) n27 1 x36 fun (a60 : Addr) => ∃ (x61 : Int), w57.cell? a60 = some (Value.int IntKind.i64
    x61) ∧ condK (decide (x61 < 0)) (IxV (some (Addr.mk n31 0 none)) n27 1 x36 fun (a62 : Addr) => SetK w57 a62 (Value.int IntKind.i64 (↑n38 : Int)) fun (w63 : World) => NewK w63 (Obj.cells (Array.mk
    [Value.int IntKind.i64 x36]) 3) fun (n64 : Nat) (w65 : World) => AppK 8 1 [Value.int IntKind.i64 0] 3 A37 n38 n39 (some (Addr.mk n64 0 none)) 1 w65 fun (A66 : Option Addr) (n67 n68 : Nat) (w69 :
    World) => J80_7 I35 x36 A66 n67 n68 w69 n41) (J80_7 I35 x36 A37 n38 n39 w57 n41)) (J80_7 I35 x36 A37 n38 n39 w57 n41)

set_option maxRecDepth 100000 in
theorem s80 (l s : Int) (A : Option Addr) (n c : Nat) (B : Option Addr) (m d : Nat) (w : World) (R : Value → List (List Value) → World → Prop) (h :
    ∀ (_n1 : Nat), CallsI Try.prog 103 [Value.agg (Array.mk [Value.int IntKind.i64 l, Value.int IntKind.i64 s, Value.slice A n c, Value.slice B m d])] w [] fun (v2 : Value) (l3 : List (List Value)) (w4 :
        World) => ∃ (A5 : Option Addr), ∃ (n6 : Nat), ∃ (n7 : Nat), v2 = Value.slice A5 n6 n7 ∧ l3 = [] ∧ (↑n : Int) = (↑n : Int) ∧ 0 ≤ (↑n : Int) ∧ (↑n : Int) * (↑8 : Int) ≤ 281474976710656 ∧ (↑n : Int) ≤
        9223372036854775807 ∧ NewK w4 (Obj.cells (Array.mk (List.replicate n (Value.int IntKind.i64 0))) 3) fun (n8 : Nat) (w9 : World) => ∃ (I10 : Int → Lp), (I10 0).1 w9 ∧ ∀ (x11 : Int) (w12 : World), (I10
        x11).1 w12 → ∀ (n13 : Nat), (I10 x11).m w12 = n13 → condK (decide (x11 < (↑n : Int))) (IxV (some (Addr.mk n8 0 none)) n 1 x11 fun (a14 : Addr) => SetK w12 a14 (Value.int IntKind.i64 (-1)) fun (w15 :
        World) => IxV A5 n6 1 x11 fun (a16 : Addr) => ∃ (t17 : Bool), w15.cell? a16 = some (Value.bool t17) ∧ condK t17 (IxV (some (Addr.mk n8 0 none)) n 1 x11 fun (a18 : Addr) => SetK w15 a18 (Value.int
        IntKind.i64 0) fun (w19 : World) => IxV B m 1 x11 fun (a20 : Addr) => ∃ (t21 : Bool), w19.cell? a20 = some (Value.bool t21) ∧ condK t21 (IxV (some (Addr.mk n8 0 none)) n 1 x11 fun (a22 : Addr) => SetK
        w19 a22 (Value.int IntKind.i64 1) fun (w23 : World) => J80_1 I10 x11 w23 n13) (J80_1 I10 x11 w19 n13)) (J80_1 I10 x11 w15 n13)) (∃ (I24 : Int → Option Addr → Nat → Nat → Lp), (I24 0 (some (Addr.mk n8
        0 none)) n n).1 w12 ∧ ∀ (x25 : Int) (A26 : Option Addr) (n27 n28 : Nat) (w29 : World), (I24 x25 A26 n27 n28).1 w29 → ∀ (n30 : Nat), (I24 x25 A26 n27 n28).m w29 = n30 → (↑n27 : Int) = (↑n27 : Int) ∧ 0
        ≤ (↑n27 : Int) ∧ (↑n27 : Int) * (↑8 : Int) ≤ 281474976710656 ∧ (↑n27 : Int) ≤ 9223372036854775807 ∧ NewK w29 (Obj.cells (Array.mk (List.replicate n27 (Value.int IntKind.i64 0))) 3) fun (n31 : Nat)
        (w32 : World) => NewK w32 (Obj.cells (Array.mk []) 3) fun (n33 : Nat) (w34 : World) => ∃ (I35 : Int → Option Addr → Nat → Nat → Lp), (I35 0 (some (Addr.mk n33 0 none)) 0 0).1 w34 ∧ ∀ (x36 : Int) (A37
        : Option Addr) (n38 n39 : Nat) (w40 : World), (I35 x36 A37 n38 n39).1 w40 → ∀ (n41 : Nat), (I35 x36 A37 n38 n39).m w40 = n41 → condK (decide (x36 < (↑n27 : Int))) (IxV (some (Addr.mk n31 0 none)) n27
        1 x36 fun (a42 : Addr) => SetK w40 a42 (Value.int IntKind.i64 (-1)) fun (w43 : World) => ∃ (I44 : Int → Lp), (I44 0).1 w43 ∧ ∀ (x45 : Int) (w46 : World), (I44 x45).1 w46 → ∀ (n47 : Nat), (I44 x45).m
        w46 = n47 → condK (decide (x45 < (↑n38 : Int))) (IxV A26 n27 1 x36 fun (a48 : Addr) => ∃ (x49 : Int), w46.cell? a48 = some (Value.int IntKind.i64 x49) ∧ condK (decide (x49 ≥ 0)) (IxV A37 n38 1 x45 fun
        (a50 : Addr) => ∃ (x51 : Int), w46.cell? a50 = some (Value.int IntKind.i64 x51) ∧ CallsI Try.prog 104 [Value.agg (Array.mk [Value.int IntKind.i64 l, Value.int IntKind.i64 s, Value.slice A n c,
        Value.slice B m d]), Value.slice A26 n27 n28, Value.int IntKind.i64 x36, Value.int IntKind.i64 x51] w46 [] fun (v52 : Value) (l53 : List (List Value)) (w54 : World) => ∃ (t55 : Bool), v52 = Value.bool
        t55 ∧ l53 = [] ∧ condK t55 (IxV (some (Addr.mk n31 0 none)) n27 1 x36 fun (a56 : Addr) => SetK w54 a56 (Value.int IntKind.i64 x45) fun (w57 : World) => IxV A26 n27 1 x36 fun (a58 : Addr) => ∃ (x59 :
        Int), J80_13 w57 a58 x59 n31 n27 x36 n38 A37 n39 I35 n41) (J80_1 I44 x45 w54 n47)) (IxV A26 n27 1 x36 fun (a70 : Addr) => ∃ (x71 : Int), J80_13 w46 a70 x71 n31 n27 x36 n38 A37 n39 I35 n41)) (IxV A26
        n27 1 x36 fun (a82 : Addr) => ∃ (x83 : Int), J80_13 w46 a82 x83 n31 n27 x36 n38 A37 n39 I35 n41)) (condK ((↑n38 : Int) == x25) (R (Value.slice (some (Addr.mk n31 0 none)) n27 n27) [] w40) ((I24 (↑n38
        : Int) (some (Addr.mk n31 0 none)) n27 n27).1 w40 ∧ (I24 (↑n38 : Int) (some (Addr.mk n31 0 none)) n27 n27).m w40 < n30)))) :
    CallsI Try.prog 80 [(.agg #[.int .i64 l, .int .i64 s, .slice A n c, .slice B m d])] w [] R :=
  vcFun_sound (H := ⟨[], [(0, [(5, .int .i64)], []), (2, [(6, .int .i64), (4, .slice)], []), (4, [(9, .int .i64), (8, .slice)], []), (6, [(10, .int .i64)], [])]⟩) (args := [.v (.agg #[.int .i64 l, .int .i64 s, .slice A n c, .slice B m d])]) (L := []) goodP Try.func80 (by simp [okp]) (by rw [Try.ntmps80]; simp) (by simp [okp]) (Eq.mp (by kernel_rfl) h)

def J53_1 (R : Value → List (List Value) → World → Prop) (x12 : Int) (x13 : Int) (A14 : Option Addr) (n15 : Nat) (n16 : Nat) (A17 : Option Addr) (n18 : Nat) (n19 : Nat) (w11 : World) : Prop := R
    (Value.agg (Array.mk [Value.int IntKind.i64 x12, Value.int IntKind.i64 x13, Value.slice A14 n15 n16, Value.slice A17 n18 n19])) [] w11

def J53_4 (l : Int) (w5 : World) (R : Value → List (List Value) → World → Prop) : Prop := CallsI Try.prog 81 [Value.int IntKind.i64 l] w5 [] fun (v9 : Value) (l10 : List (List Value)) (w11 : World) =>
    ∃ (x12 : Int), ∃ (x13 : Int), ∃ (A14 : Option Addr), ∃ (n15 : Nat), ∃ (n16 : Nat), ∃ (A17 : Option Addr), ∃ (n18 : Nat), ∃ (n19 : Nat), v9 = Value.agg (Array.mk [Value.int IntKind.i64 x12, Value.int
    IntKind.i64 x13, Value.slice A14 n15 n16, Value.slice A17 n18 n19]) ∧ l10 = [] ∧ J53_1 R x12 x13 A14 n15 n16 A17 n18 n19 w11

def J53_7 (I47 : Int → Lp) (x48 : Int) (w49 : World) (n50 : Nat) : Prop := (I47 (IntKind.i64.wrap (x48 + 1))).1 w49 ∧ (I47 (IntKind.i64.wrap (x48 + 1))).m w49 < n50

def J53_8 (w64 : World) (a77 : Addr) (x78 : Int) (n57 : Nat) (l : Int) (x60 : Int) (I59 : Int → Lp) (n62 : Nat) : Prop := w64.cell? a77 = some (Value.int IntKind.i64 x78) ∧ IxV (some (Addr.mk n57 0
    none)) l.toNat 1 x60 fun (a79 : Addr) => SetK w64 a79 (Value.int IntKind.i64 x78) fun (w80 : World) => J53_7 I59 x60 w80 n62

def J53_48 (I47 : Int → Lp) (w45 : World) (n7 : Nat) (A6 : Option Addr) (n42 : Nat) (x35 : Int) (l : Int) (A : Option Addr) (n : Nat) (B : Option Addr) (m : Nat) (n44 : Nat) (x41 : Int) (R : Value →
    List (List Value) → World → Prop) : Prop := (I47 0).1 w45 ∧ ∀ (x48 : Int) (w49 : World), (I47 x48).1 w49 → ∀ (n50 : Nat), (I47 x48).m w49 = n50 → condK (decide (x48 < (↑n7 : Int))) (IxV A6 n7 1 x48
    fun (a51 : Addr) => ∃ (x52 : Int), w49.cell? a51 = some (Value.int IntKind.i64 x52) ∧ condK (decide (x52 < 0)) (J53_7 I47 x48 w49 n50) (IxV (some (Addr.mk n42 0 none)) x35.toNat 1 x52 fun (a53 : Addr)
    => ∃ (A54 : Option Addr), ∃ (n55 : Nat), ∃ (n56 : Nat), w49.cell? a53 = some (Value.slice A54 n55 n56) ∧ condK (!A54.isNone) (J53_7 I47 x48 w49 n50) (l = l ∧ 0 ≤ l ∧ l * (↑8 : Int) ≤ 281474976710656 ∧
    l ≤ 9223372036854775807 ∧ NewK w49 (Obj.cells (Array.mk (List.replicate l.toNat (Value.int IntKind.i64 0))) 3) fun (n57 : Nat) (w58 : World) => ∃ (I59 : Int → Lp), (I59 0).1 w58 ∧ ∀ (x60 : Int) (w61 :
    World), (I59 x60).1 w61 → ∀ (n62 : Nat), (I59 x60).m w61 = n62 → condK (decide (x60 < l)) (IxV (some (Addr.mk n57 0 none)) l.toNat 1 x60 fun (a63 : Addr) => SetK w61 a63 (Value.int IntKind.i64 (-1))
    fun (w64 : World) => IxV A n 1 x48 fun (a65 : Addr) => ∃ (A66 : Option Addr), ∃ (n67 : Nat), ∃ (n68 : Nat), w64.cell? a65 = some (Value.slice A66 n67 n68) ∧ IxV A66 n67 1 x60 fun (a69 : Addr) => ∃
    (x70 : Int), w64.cell? a69 = some (Value.int IntKind.i64 x70) ∧ condK (decide (x70 ≥ 0)) (IxV A n 1 x48 fun (a71 : Addr) => ∃ (A72 : Option Addr), ∃ (n73 : Nat), ∃ (n74 : Nat), w64.cell? a71 = some
    (Value.slice A72 n73 n74) ∧ IxV A72 n73 1 x60 fun (a75 : Addr) => ∃ (x76 : Int), w64.cell? a75 = some (Value.int IntKind.i64 x76) ∧ IxV A6 n7 1 x76 fun (a77 : Addr) => ∃ (x78 : Int), J53_8 w64 a77 x78
    n57 l x60 I59 n62) (J53_7 I59 x60 w64 n62)) (IxV (some (Addr.mk n42 0 none)) x35.toNat 1 x52 fun (a81 : Addr) => SetK w61 a81 (Value.slice (some (Addr.mk n57 0 none)) l.toNat l.toNat) fun (w82 :
    World) => IxV B m 1 x48 fun (a83 : Addr) => ∃ (t84 : Bool), w82.cell? a83 = some (Value.bool t84) ∧ IxV (some (Addr.mk n44 0 none)) x35.toNat 1 x52 fun (a85 : Addr) => SetK w82 a85 (Value.bool t84)
    fun (w86 : World) => J53_7 I47 x48 w86 n50)))) (CallsI Try.prog 82 [Value.agg (Array.mk [Value.int IntKind.i64 l, Value.int IntKind.i64 x41, Value.slice (some (Addr.mk n42 0 none)) x35.toNat
    x35.toNat, Value.slice (some (Addr.mk n44 0 none)) x35.toNat x35.toNat])] w49 [] fun (v87 : Value) (l88 : List (List Value)) (w89 : World) => ∃ (A90 : Option Addr), ∃ (n91 : Nat), ∃ (n92 : Nat), ∃
    (A93 : Option Addr), ∃ (n94 : Nat), ∃ (n95 : Nat), v87 = Value.tuple (Array.mk [Value.slice A90 n91 n92, Value.slice A93 n94 n95]) ∧ l88 = [] ∧ ∀ (_n96 : Nat), ∃ (I97 : Int → Int → Int → Option Addr →
    Nat → Nat → Option Addr → Nat → Nat → Lp), (I97 0 l 0 none 0 0 none 0 0).1 w89 ∧ ∀ (x98 x99 x100 : Int) (A101 : Option Addr) (n102 n103 : Nat) (A104 : Option Addr) (n105 n106 : Nat) (w107 : World),
    (I97 x98 x99 x100 A101 n102 n103 A104 n105 n106).1 w107 → ∀ (n108 : Nat), (I97 x98 x99 x100 A101 n102 n103 A104 n105 n106).m w107 = n108 → condK (decide (x98 < (↑n91 : Int))) (l = l ∧ 0 ≤ l ∧ l * (↑8
    : Int) ≤ 281474976710656 ∧ l ≤ 9223372036854775807 ∧ NewK w107 (Obj.cells (Array.mk (List.replicate l.toNat (Value.int IntKind.i64 0))) 3) fun (n109 : Nat) (w110 : World) => ∃ (I111 : Int → Lp), (I111
    0).1 w110 ∧ ∀ (x112 : Int) (w113 : World), (I111 x112).1 w113 → ∀ (n114 : Nat), (I111 x112).m w113 = n114 → condK (decide (x112 < l)) (IxV (some (Addr.mk n109 0 none)) l.toNat 1 x112 fun (a115 : Addr)
    => SetK w113 a115 (Value.int IntKind.i64 (-1)) fun (w116 : World) => IxV A90 n91 1 x98 fun (a117 : Addr) => ∃ (x118 : Int), w116.cell? a117 = some (Value.int IntKind.i64 x118) ∧ IxV (some (Addr.mk n42
    0 none)) x35.toNat 1 x118 fun (a119 : Addr) => ∃ (A120 : Option Addr), ∃ (n121 : Nat), ∃ (n122 : Nat), w116.cell? a119 = some (Value.slice A120 n121 n122) ∧ IxV A120 n121 1 x112 fun (a123 : Addr) => ∃
    (x124 : Int), w116.cell? a123 = some (Value.int IntKind.i64 x124) ∧ condK (decide (x124 ≥ 0)) (IxV A93 n94 1 x124 fun (a125 : Addr) => ∃ (x126 : Int), J53_8 w116 a125 x126 n109 l x112 I111 n114)
    (J53_7 I111 x112 w116 n114)) (NewK w113 (Obj.cells (Array.mk [Value.slice (some (Addr.mk n109 0 none)) l.toNat l.toNat]) 26) fun (n129 : Nat) (w130 : World) => AppK 24 1 [Value.slice none 0 0] 26 A101
    n102 n103 (some (Addr.mk n129 0 none)) 1 w130 fun (A131 : Option Addr) (n132 n133 : Nat) (w134 : World) => IxV A90 n91 1 x98 fun (a135 : Addr) => ∃ (x136 : Int), w134.cell? a135 = some (Value.int
    IntKind.i64 x136) ∧ IxV (some (Addr.mk n44 0 none)) x35.toNat 1 x136 fun (a137 : Addr) => ∃ (t138 : Bool), w134.cell? a137 = some (Value.bool t138) ∧ NewK w134 (Obj.cells (Array.mk [Value.bool t138])
    4) fun (n139 : Nat) (w140 : World) => AppK 1 1 [Value.bool false] 4 A104 n105 n106 (some (Addr.mk n139 0 none)) 1 w140 fun (A141 : Option Addr) (n142 n143 : Nat) (w144 : World) => (I97
    (IntKind.i64.wrap (x98 + 1)) x99 x100 A131 n132 n133 A141 n142 n143).1 w144 ∧ (I97 (IntKind.i64.wrap (x98 + 1)) x99 x100 A131 n132 n133 A141 n142 n143).m w144 < n108)) (J53_1 R x99 x100 A101 n102 n103
    A104 n105 n106 w107))

def J53_49 (w45 : World) (a40 : Addr) (x41 : Int) (n7 : Nat) (A6 : Option Addr) (n42 : Nat) (x35 : Int) (l : Int) (A : Option Addr) (n : Nat) (B : Option Addr) (m : Nat) (n44 : Nat) (R : Value → List
    (List Value) → World → Prop) : Prop := w45.cell? a40 = some (Value.int IntKind.i64 x41) ∧ ∀ (_n46 : Nat), w45.cell? a40 = some (Value.int IntKind.i64 x41) ∧ ∃ (I47 : Int → Lp), J53_48 I47 w45 n7 A6
    n42 x35 l A n B m n44 x41 R

def J53_50 (w147 : World) (a40 : Addr) (x41 : Int) (n7 : Nat) (A6 : Option Addr) (n42 : Nat) (x35 : Int) (l : Int) (A : Option Addr) (n : Nat) (B : Option Addr) (m : Nat) (n146 : Nat) (R : Value →
    List (List Value) → World → Prop) : Prop := w147.cell? a40 = some (Value.int IntKind.i64 x41) ∧ ∃ (I47 : Int → Lp), J53_48 I47 w147 n7 A6 n42 x35 l A n B m n146 x41 R

set_option maxRecDepth 100000 in
theorem s53 (l s : Int) (A : Option Addr) (n c : Nat) (B : Option Addr) (m d : Nat) (w : World) (R : Value → List (List Value) → World → Prop) (h :
    ∀ (_n1 _n2 : Nat), CallsI Try.prog 80 [Value.agg (Array.mk [Value.int IntKind.i64 l, Value.int IntKind.i64 s, Value.slice A n c, Value.slice B m d])] w [] fun (v3 : Value) (l4 : List (List Value)) (w5
        : World) => ∃ (A6 : Option Addr), ∃ (n7 : Nat), ∃ (n8 : Nat), v3 = Value.slice A6 n7 n8 ∧ l4 = [] ∧ condK (decide (s < 0)) (J53_4 l w5 R) (IxV A6 n7 1 s fun (a20 : Addr) => ∃ (x21 : Int), w5.cell? a20
        = some (Value.int IntKind.i64 x21) ∧ condK (decide (x21 < 0)) (J53_4 l w5 R) (∃ (I33 : Int → Int → Lp), (I33 0 0).1 w5 ∧ ∀ (x34 x35 : Int) (w36 : World), (I33 x34 x35).1 w36 → ∀ (n37 : Nat), (I33 x34
        x35).m w36 = n37 → condK (decide (x34 < (↑n7 : Int))) (IxV A6 n7 1 x34 fun (a38 : Addr) => ∃ (x39 : Int), w36.cell? a38 = some (Value.int IntKind.i64 x39) ∧ (I33 (IntKind.i64.wrap (x34 + 1)) (if x35 <
        IntKind.i64.wrap (x39 + 1) then IntKind.i64.wrap (x39 + 1) else x35)).1 w36 ∧ (I33 (IntKind.i64.wrap (x34 + 1)) (if x35 < IntKind.i64.wrap (x39 + 1) then IntKind.i64.wrap (x39 + 1) else x35)).m w36 <
        n37) (IxV A6 n7 1 s fun (a40 : Addr) => ∃ (x41 : Int), w36.cell? a40 = some (Value.int IntKind.i64 x41) ∧ (x35 = x35 ∧ 0 ≤ x35 ∧ x35 * (↑24 : Int) ≤ 281474976710656 ∧ x35 ≤ 9223372036854775807 ∧ NewK
        w36 (Obj.cells (Array.mk (List.replicate x35.toNat (Value.slice none 0 0))) 26) fun (n42 : Nat) (w43 : World) => w43.cell? a40 = some (Value.int IntKind.i64 x41) ∧ (x35 = x35 ∧ 0 ≤ x35 ∧ x35 * (↑1 :
        Int) ≤ 281474976710656 ∧ x35 ≤ 9223372036854775807 ∧ NewK w43 (Obj.cells (Array.mk (List.replicate x35.toNat (Value.bool false))) 4) fun (n44 : Nat) (w45 : World) => J53_49 w45 a40 x41 n7 A6 n42 x35 l
        A n B m n44 R) ∧ ∀ (_n145 : Nat), w43.cell? a40 = some (Value.int IntKind.i64 x41) ∧ x35 = x35 ∧ 0 ≤ x35 ∧ x35 * (↑1 : Int) ≤ 281474976710656 ∧ x35 ≤ 9223372036854775807 ∧ NewK w43 (Obj.cells
        (Array.mk (List.replicate x35.toNat (Value.bool false))) 4) fun (n146 : Nat) (w147 : World) => J53_50 w147 a40 x41 n7 A6 n42 x35 l A n B m n146 R) ∧ (x35 = x35 ∧ 0 ≤ x35 ∧ x35 * (↑1 : Int) ≤
        281474976710656 ∧ x35 ≤ 9223372036854775807 ∧ NewK w36 (Obj.cells (Array.mk (List.replicate x35.toNat (Value.bool false))) 4) fun (n148 : Nat) (w149 : World) => w149.cell? a40 = some (Value.int
        IntKind.i64 x41) ∧ (x35 = x35 ∧ 0 ≤ x35 ∧ x35 * (↑24 : Int) ≤ 281474976710656 ∧ x35 ≤ 9223372036854775807 ∧ NewK w149 (Obj.cells (Array.mk (List.replicate x35.toNat (Value.slice none 0 0))) 26) fun
        (n150 : Nat) (w151 : World) => J53_49 w151 a40 x41 n7 A6 n150 x35 l A n B m n148 R) ∧ ∀ (_n153 : Nat), w149.cell? a40 = some (Value.int IntKind.i64 x41) ∧ x35 = x35 ∧ 0 ≤ x35 ∧ x35 * (↑24 : Int) ≤
        281474976710656 ∧ x35 ≤ 9223372036854775807 ∧ NewK w149 (Obj.cells (Array.mk (List.replicate x35.toNat (Value.slice none 0 0))) 26) fun (n154 : Nat) (w155 : World) => J53_50 w155 a40 x41 n7 A6 n154
        x35 l A n B m n148 R) ∧ ∀ (_n156 : Nat), w36.cell? a40 = some (Value.int IntKind.i64 x41) ∧ (x35 = x35 ∧ 0 ≤ x35 ∧ x35 * (↑24 : Int) ≤ 281474976710656 ∧ x35 ≤ 9223372036854775807 ∧ NewK w36 (Obj.cells
        (Array.mk (List.replicate x35.toNat (Value.slice none 0 0))) 26) fun (n157 : Nat) (w158 : World) => w158.cell? a40 = some (Value.int IntKind.i64 x41) ∧ x35 = x35 ∧ 0 ≤ x35 ∧ x35 * (↑1 : Int) ≤
        281474976710656 ∧ x35 ≤ 9223372036854775807 ∧ NewK w158 (Obj.cells (Array.mk (List.replicate x35.toNat (Value.bool false))) 4) fun (n159 : Nat) (w160 : World) => J53_50 w160 a40 x41 n7 A6 n157 x35 l A
        n B m n159 R) ∧ x35 = x35 ∧ 0 ≤ x35 ∧ x35 * (↑1 : Int) ≤ 281474976710656 ∧ x35 ≤ 9223372036854775807 ∧ NewK w36 (Obj.cells (Array.mk (List.replicate x35.toNat (Value.bool false))) 4) fun (n161 : Nat)
        (w162 : World) => w162.cell? a40 = some (Value.int IntKind.i64 x41) ∧ x35 = x35 ∧ 0 ≤ x35 ∧ x35 * (↑24 : Int) ≤ 281474976710656 ∧ x35 ≤ 9223372036854775807 ∧ NewK w162 (Obj.cells (Array.mk
        (List.replicate x35.toNat (Value.slice none 0 0))) 26) fun (n163 : Nat) (w164 : World) => J53_50 w164 a40 x41 n7 A6 n163 x35 l A n B m n161 R)))) :
    CallsI Try.prog 53 [(.agg #[.int .i64 l, .int .i64 s, .slice A n c, .slice B m d])] w [] R :=
  vcFun_sound (H := ⟨[], [(0, [(5, .int .i64), (4, .int .i64)], []), (2, [(7, .int .i64)], []), (4, [(10, .int .i64)], []), (6, [(14, .int .i64)], [(25, 3)]), (8, [(16, .int .i64)], [])]⟩) (args := [.v (.agg #[.int .i64 l, .int .i64 s, .slice A n c, .slice B m d])]) (L := []) goodP Try.func53 (by simp [okp]) (by rw [Try.ntmps53]; simp) (by simp [okp]) (Eq.mp (by kernel_rfl) h)

end Go.Proofs.Ytnkpjlhbojjneaa.VC

/- The reference's classes of states: states from which a word is accepted; rounds that part states. -/
namespace Go.Proofs.Ytnkpjlhbojjneaa.VC
open Go Go.RowKit

/-- how many are false -/
def fcount : List Bool → Nat
  | [] => 0
  | b :: l => (if b then 0 else 1) + fcount l
theorem fcount_set : ∀ (l : List Bool) (i : Nat), l[i]? = some false → fcount (l.set i true) + 1 = fcount l
  | [], i, h => by simp at h
  | b :: l, 0, h => by simp at h; subst h; simp [fcount]; omega
  | b :: l, i + 1, h => by
    simp at h
    have := fcount_set l i h
    simp only [List.set_cons_succ, fcount]; omega
theorem fcount_pos : ∀ (l : List Bool) (i : Nat), l[i]? = some false → 0 < fcount l
  | [], i, h => by simp at h
  | b :: l, 0, h => by simp at h; subst h; simp [fcount]; omega
  | b :: l, i + 1, h => by simp at h; have := fcount_pos l i h; simp only [fcount]; omega

/-! ### states that live -/
structure Liv (m : Mach) (out : List Bool) : Prop where
  len : out.length = m.next.length
  live : ∀ s : Int, 0 ≤ s → s < m.next.length → gb out s = true → m.Live s
  ends : ∀ s : Int, 0 ≤ s → s < m.next.length → m.ends s = true → gb out s = true
/-- closed under the letters, as far as the place (i, k) -/
def LivTo (m : Mach) (out : List Bool) (i k : Int) : Prop := ∀ s x : Int, 0 ≤ s → m.Let x → (s < i ∨ s = i ∧ x < k) → 0 ≤ m.step s x → gb out (m.step s x) = true → gb out s = true
theorem Liv.init {m : Mach} (hm : m.Shaped) : Liv m m.fin where
  len := hm.fin.symm
  live := fun s h0 h1 h => ⟨[], by simp only [Mach.acc_nil, Mach.ends, Bool.and_eq_true, decide_eq_true_eq]; exact ⟨h0, h⟩⟩
  ends := fun s h0 h1 h => by simp only [Mach.ends, Bool.and_eq_true, decide_eq_true_eq] at h; exact h.2
theorem Liv.set {m : Mach} {out : List Bool} (h : Liv m out) {s x : Int} (hs0 : 0 ≤ s) (hs1 : s < m.next.length) (ht0 : 0 ≤ m.step s x) (ht1 : m.step s x < m.next.length) (ht : gb out (m.step s x) = true) : Liv m (out.set s.toNat true) where
  len := by rw [List.length_set]; exact h.len
  live := fun t h0 h1 e => by
    rw [gb_set hs0 (by rw [h.len]; omega) h0] at e
    split at e
    · rename_i e2; subst e2
      obtain ⟨u, hu⟩ := h.live _ ht0 ht1 ht
      exact ⟨x :: u, hu⟩
    · exact h.live t h0 h1 e
  ends := fun t h0 h1 e => by
    rw [gb_set hs0 (by rw [h.len]; omega) h0]
    split
    · rfl
    · exact h.ends t h0 h1 e
theorem Liv.done {m : Mach} {out : List Bool} (h : Liv m out) (hm : m.Shaped) {i : Int} (hi : m.next.length ≤ i) (hc : LivTo m out i 0) {s : Int} (h0 : 0 ≤ s) (h1 : s < m.next.length) : gb out s = true ↔ m.Live s := by
  refine ⟨h.live s h0 h1, ?_⟩
  rintro ⟨u, hu⟩
  induction u generalizing s with
  | nil => exact h.ends s h0 h1 hu
  | cons x u ih =>
    rw [Mach.acc_cons] at hu
    have hp : 0 ≤ m.step s x := by
      rcases ilt (m.step s x) 0 with hn | hn
      · rw [Mach.acc_neg hn] at hu; cases hu
      · exact hn
    have hl := (hm.step_let hp).2
    exact hc s x h0 hl (.inl (by omega)) hp (ih hp (hm.step_range s x).2 hu)

/-! ### numbers of states -/
def cv (out : List Int) (s : Int) : Int := if s < 0 then -1 else gi out s
def Alike (m : Mach) (out : List Int) (s t : Int) : Prop := gi out s = gi out t ∧ ∀ x, m.Let x → cv out (m.step s x) = cv out (m.step t x)
theorem Alike.refl (m : Mach) (out : List Int) (s : Int) : Alike m out s s := ⟨rfl, fun _ _ => rfl⟩
theorem Alike.symm {m : Mach} {out : List Int} {s t : Int} (h : Alike m out s t) : Alike m out t s := ⟨h.1.symm, fun x hx => (h.2 x hx).symm⟩
theorem Alike.trans {m : Mach} {out : List Int} {s t r : Int} (h : Alike m out s t) (k : Alike m out t r) : Alike m out s r := ⟨h.1.trans k.1, fun x hx => (h.2 x hx).trans (k.2 x hx)⟩

/-- the numbers before a round -/
structure Cls (m : Mach) (out : List Int) (count : Int) : Prop where
  len : out.length = m.next.length
  dead : ∀ s : Int, 0 ≤ s → s < m.next.length → ¬ m.Live s → gi out s = -1
  live : ∀ s : Int, 0 ≤ s → s < m.next.length → m.Live s → 0 ≤ gi out s
  ends : ∀ s t : Int, m.Live s → m.Live t → s < m.next.length → t < m.next.length → gi out s = gi out t → m.ends s = m.ends t
  same : ∀ s t : Int, m.Live s → m.Live t → s < m.next.length → t < m.next.length → Same m s t → gi out s = gi out t
  full : count = 0 ∨ (∀ v, 0 ≤ v → v < count → ∃ s : Int, 0 ≤ s ∧ s < m.next.length ∧ gi out s = v) ∧ ∀ s : Int, 0 ≤ s → s < m.next.length → gi out s < count
  count : 0 ≤ count ∧ count ≤ m.next.length
/-- the numbers in the end -/
structure ClsDone (m : Mach) (out : List Int) (count : Int) : Prop where
  len : out.length = m.next.length
  dead : ∀ s : Int, 0 ≤ s → s < m.next.length → ¬ m.Live s → gi out s = -1
  live : ∀ s : Int, 0 ≤ s → s < m.next.length → m.Live s → 0 ≤ gi out s ∧ gi out s < count
  same : ∀ s t : Int, m.Live s → m.Live t → s < m.next.length → t < m.next.length → (gi out s = gi out t ↔ Same m s t)
  full : ∀ v, 0 ≤ v → v < count → ∃ s : Int, 0 ≤ s ∧ s < m.next.length ∧ gi out s = v
  count : 0 ≤ count ∧ count ≤ m.next.length
/-- a round, as far as the state i -/
structure Rnd (m : Mach) (out nx fs : List Int) (i : Int) : Prop where
  len : nx.length = out.length
  fsin : ∀ f ∈ fs, 0 ≤ f ∧ f < i ∧ 0 ≤ gi out f
  apart : ∀ (k l : Nat) f g, k < l → fs[k]? = some f → fs[l]? = some g → ¬ Alike m out f g
  val : ∀ j, 0 ≤ j → j < i → (gi out j < 0 ∧ gi nx j = -1) ∨ (0 ≤ gi out j ∧ ∃ (k : Nat) (f : Int), gi nx j = k ∧ fs[k]? = some f ∧ Alike m out j f)
theorem Rnd.init (m : Mach) (out : List Int) {nx : List Int} (h : nx.length = out.length) : Rnd m out nx [] 0 :=
  ⟨h, by simp, fun k l f g _ h => by simp at h, fun j h0 h1 => by omega⟩
theorem Rnd.nodup {m : Mach} {out nx fs : List Int} {i : Int} (h : Rnd m out nx fs i) : fs.Nodup := by
  rw [List.Nodup, List.pairwise_iff_getElem]
  intro k l hk hl hlt e
  exact h.apart k l _ _ hlt (List.getElem?_eq_getElem hk) (List.getElem?_eq_getElem hl) (by rw [e]; exact Alike.refl _ _ _)
theorem Rnd.count {m : Mach} {out nx fs : List Int} {i : Int} (h : Rnd m out nx fs i) (hi : i ≤ out.length) : fs.length ≤ out.length :=
  nodup_bound _ fs h.nodup fun f hf => by have := h.fsin f hf; omega
/-- a state that is dead, one that is alike to a first one, one that is the first of its number -/
theorem Rnd.dead {m : Mach} {out nx fs : List Int} {i : Int} (h : Rnd m out nx fs i) (h0 : 0 ≤ i) (h1 : i < out.length) (hd : gi out i < 0) : Rnd m out (nx.set i.toNat (-1)) fs (i + 1) where
  len := by rw [List.length_set]; exact h.len
  fsin := fun f hf => by have := h.fsin f hf; omega
  apart := h.apart
  val := fun j j0 j1 => by
    have hl := h.len
    rw [gi_set h0 (by omega) j0]
    split
    · rename_i e; subst e; exact .inl ⟨hd, rfl⟩
    · exact h.val j j0 (by omega)
theorem Rnd.old {m : Mach} {out nx fs : List Int} {i : Int} (h : Rnd m out nx fs i) (h0 : 0 ≤ i) (h1 : i < out.length) (hd : 0 ≤ gi out i) {k : Nat} {f : Int} (hk : fs[k]? = some f) (ha : Alike m out i f) : Rnd m out (nx.set i.toNat (k : Int)) fs (i + 1) where
  len := by rw [List.length_set]; exact h.len
  fsin := fun f hf => by have := h.fsin f hf; omega
  apart := h.apart
  val := fun j j0 j1 => by
    have hl := h.len
    rw [gi_set h0 (by omega) j0]
    split
    · rename_i e; subst e; exact .inr ⟨hd, k, f, rfl, hk, ha⟩
    · exact h.val j j0 (by omega)
theorem Rnd.fresh {m : Mach} {out nx fs : List Int} {i : Int} (h : Rnd m out nx fs i) (h0 : 0 ≤ i) (h1 : i < out.length) (hd : 0 ≤ gi out i) (hn : ∀ (k : Nat) f, fs[k]? = some f → ¬ Alike m out i f) : Rnd m out (nx.set i.toNat (fs.length : Int)) (fs ++ [i]) (i + 1) where
  len := by rw [List.length_set]; exact h.len
  fsin := fun f hf => by
    rcases List.mem_append.1 hf with hf | hf
    · have := h.fsin f hf; omega
    · rw [List.mem_singleton] at hf; subst hf; omega
  apart := fun k l f g hkl hf hg => by
    have hl2 := (List.getElem?_eq_some_iff.1 hg).1
    rw [List.length_append, List.length_singleton] at hl2
    rw [List.getElem?_append_left (by omega)] at hf
    rcases Nat.lt_or_ge l fs.length with hll | hll
    · rw [List.getElem?_append_left hll] at hg
      exact h.apart k l f g hkl hf hg
    · have : l = fs.length := by omega
      subst this
      simp at hg; subst hg
      exact fun ha => hn k f hf ha.symm
  val := fun j j0 j1 => by
    have hl := h.len
    rw [gi_set h0 (by omega) j0]
    split
    · rename_i e; subst e; exact .inr ⟨hd, fs.length, j, rfl, by simp, Alike.refl _ _ _⟩
    · rcases h.val j j0 (by omega) with h | ⟨a, k, f, b, c, d⟩
      · exact .inl h
      · exact .inr ⟨a, k, f, b, by rw [List.getElem?_append_left (List.getElem?_eq_some_iff.1 c).1]; exact c, d⟩
/-- a list that holds all numbers below c has at least so many places, and if no more, none twice -/
theorem cover_le : ∀ (c : Nat) (L : List Int), (∀ v : Int, 0 ≤ v → v < c → v ∈ L) → c ≤ L.length ∧ (c = L.length → L.Nodup) := by
  intro c
  induction c with
  | zero => intro L _; exact ⟨Nat.zero_le _, fun h => by have := List.eq_nil_of_length_eq_zero h.symm; subst this; exact List.nodup_nil⟩
  | succ c ih =>
    intro L h
    have hc : (c : Int) ∈ L := h c (by omega) (by omega)
    have hlen := List.length_erase_of_mem hc
    have hpos := List.length_pos_of_mem hc
    have h2 : ∀ v : Int, 0 ≤ v → v < c → v ∈ L.erase c := fun v h0 h1 => (List.mem_erase_of_ne (by omega)).2 (h v h0 (by omega))
    obtain ⟨h3, h4⟩ := ih (L.erase c) h2
    refine ⟨by omega, fun e => ?_⟩
    have hn := h4 (by omega)
    have hnot : (c : Int) ∉ L.erase c := fun hm => by
      have hlen2 := List.length_erase_of_mem hm
      have hpos2 := List.length_pos_of_mem hm
      have := (ih ((L.erase c).erase c) fun v h0 h1 => (List.mem_erase_of_ne (by omega)).2 (h2 v h0 h1)).1
      omega
    exact (List.perm_cons_erase hc).nodup_iff.2 (List.nodup_cons.2 ⟨hnot, hn⟩)

theorem Cls.cv_dead {m : Mach} {out : List Int} {count : Int} (h : Cls m out count) {s : Int} (h1 : s < m.next.length) (hd : ¬ m.Live s) : cv out s = -1 := by
  unfold cv; split
  · rfl
  · exact h.dead s (by omega) h1 hd
theorem Cls.cv_live {m : Mach} {out : List Int} {count : Int} (h : Cls m out count) {s : Int} (h1 : s < m.next.length) (hd : m.Live s) : cv out s = gi out s ∧ 0 ≤ gi out s := by
  have h0 := Mach.live_nonneg hd
  unfold cv; rw [if_neg (by omega)]; exact ⟨rfl, h.live s h0 h1 hd⟩
theorem same_step {m : Mach} {s t : Int} (h : Same m s t) (x : Int) : Same m (m.step s x) (m.step t x) := fun u => by rw [← Mach.acc_cons, ← Mach.acc_cons]; exact h (x :: u)
theorem same_live {m : Mach} {s t : Int} (h : Same m s t) : m.Live s ↔ m.Live t := ⟨fun ⟨u, hu⟩ => ⟨u, by rw [← h u]; exact hu⟩, fun ⟨u, hu⟩ => ⟨u, by rw [h u]; exact hu⟩⟩
theorem Cls.alike {m : Mach} {out : List Int} {count : Int} (h : Cls m out count) (hm : m.Shaped) {s t : Int} (hs : m.Live s) (ht : m.Live t) (hs1 : s < m.next.length) (ht1 : t < m.next.length) (e : Same m s t) : Alike m out s t := by
  refine ⟨h.same s t hs ht hs1 ht1 e, fun x _ => ?_⟩
  have r1 := hm.step_range s x; have r2 := hm.step_range t x
  have e2 := same_step e x
  by_cases hl : m.Live (m.step s x)
  · have hl2 := (same_live e2).1 hl
    rw [(h.cv_live r1.2 hl).1, (h.cv_live r2.2 hl2).1]
    exact h.same _ _ hl hl2 r1.2 r2.2 e2
  · rw [h.cv_dead r1.2 hl, h.cv_dead r2.2 fun hl2 => hl ((same_live e2).2 hl2)]

section
variable {m : Mach} {out nx fs : List Int} {count i : Int}
theorem Rnd.eq_alike (h : Rnd m out nx fs i) {s t : Int} (hs0 : 0 ≤ s) (hs1 : s < i) (ht0 : 0 ≤ t) (ht1 : t < i) (hs : 0 ≤ gi out s) (ht : 0 ≤ gi out t) : gi nx s = gi nx t ↔ Alike m out s t := by
  rcases h.val s hs0 hs1 with ⟨a, _⟩ | ⟨_, k, f, a2, a3, a4⟩
  · omega
  rcases h.val t ht0 ht1 with ⟨b, _⟩ | ⟨_, l, g, b2, b3, b4⟩
  · omega
  constructor
  · intro e
    have : k = l := by omega
    subst this
    rw [a3] at b3; cases b3
    exact a4.trans b4.symm
  · intro e
    have hfg : Alike m out f g := (a4.symm.trans e).trans b4
    rcases Nat.lt_trichotomy k l with hk | hk | hk
    · exact absurd hfg (h.apart k l f g hk a3 b3)
    · rw [a2, b2, hk]
    · exact absurd hfg.symm (h.apart l k g f hk b3 a3)
theorem Rnd.first (h : Rnd m out nx fs i) {k : Nat} {f : Int} (hf : fs[k]? = some f) : gi nx f = k := by
  obtain ⟨f0, f1, f2⟩ := h.fsin f (List.mem_of_getElem? hf)
  rcases h.val f f0 f1 with ⟨a, _⟩ | ⟨_, l, g, b2, b3, b4⟩
  · omega
  · rcases Nat.lt_trichotomy k l with hk | hk | hk
    · exact absurd b4 (h.apart k l f g hk hf b3)
    · rw [b2, hk]
    · exact absurd b4.symm (h.apart l k g f hk b3 hf)
theorem Rnd.grow (h : Rnd m out nx fs m.next.length) (hc : Cls m out count) : count ≤ fs.length ∧ (fs.length = count → count = 0 ∨ (fs.map (gi out)).Nodup) := by
  rcases hc.full with rfl | ⟨f1, f2⟩
  · exact ⟨by omega, fun _ => .inl rfl⟩
  · have c0 := hc.count.1
    have := cover_le count.toNat (fs.map (gi out)) fun v h0 h1 => by
      obtain ⟨s, s0, s1, e⟩ := f1 v h0 (by omega)
      rcases h.val s s0 s1 with ⟨a, _⟩ | ⟨_, k, f, _, a3, a4⟩
      · omega
      · exact List.mem_map.2 ⟨f, List.mem_of_getElem? a3, by rw [← e, a4.1]⟩
    rw [List.length_map] at this
    exact ⟨by omega, fun e => .inr (this.2 (by omega))⟩
theorem Rnd.next (h : Rnd m out nx fs m.next.length) (hc : Cls m out count) (hm : m.Shaped) : Cls m nx fs.length := by
  have hl := hc.len
  have hcnt := h.count (by omega)
  refine ⟨h.len.trans hl, fun s s0 s1 hd => ?_, fun s s0 s1 hd => ?_, fun s t hs ht s1 t1 e => ?_, fun s t hs ht s1 t1 e => ?_, .inr ⟨fun v v0 v1 => ?_, fun s s0 s1 => ?_⟩, by omega, by omega⟩
  · rcases h.val s s0 s1 with ⟨_, a⟩ | ⟨a, _⟩
    · exact a
    · rw [hc.dead s s0 s1 hd] at a; omega
  · have := hc.live s s0 s1 hd
    rcases h.val s s0 s1 with ⟨a, _⟩ | ⟨_, k, f, a, _⟩ <;> omega
  · have s0 := Mach.live_nonneg hs; have t0 := Mach.live_nonneg ht
    exact hc.ends s t hs ht s1 t1 ((h.eq_alike s0 s1 t0 t1 (hc.live s s0 s1 hs) (hc.live t t0 t1 ht)).1 e).1
  · have s0 := Mach.live_nonneg hs; have t0 := Mach.live_nonneg ht
    exact (h.eq_alike s0 s1 t0 t1 (hc.live s s0 s1 hs) (hc.live t t0 t1 ht)).2 (hc.alike hm hs ht s1 t1 e)
  · have hlt : v.toNat < fs.length := by omega
    obtain ⟨f0, f1, f2⟩ := h.fsin _ (List.getElem_mem hlt)
    refine ⟨fs[v.toNat], f0, f1, ?_⟩
    rw [h.first (List.getElem?_eq_getElem hlt)]; omega
  · rcases h.val s s0 s1 with ⟨_, a⟩ | ⟨_, k, f, a2, a3, _⟩
    · omega
    · have := (List.getElem?_eq_some_iff.1 a3).1; omega
theorem Rnd.done (h : Rnd m out nx fs m.next.length) (hc : Cls m out count) (hm : m.Shaped) (e : fs.length = count) : ClsDone m nx fs.length := by
  have hn := h.next hc hm
  have hg := (h.grow hc).2 e
  -- the new numbers part no more than the old ones
  have back : ∀ s t : Int, m.Live s → m.Live t → s < m.next.length → t < m.next.length → gi out s = gi out t → gi nx s = gi nx t := fun s t hs ht s1 t1 e2 => by
    have s0 := Mach.live_nonneg hs; have t0 := Mach.live_nonneg ht
    have l1 := hc.live s s0 s1 hs; have l2 := hc.live t t0 t1 ht
    rcases h.val s s0 s1 with ⟨a, _⟩ | ⟨_, k, f, a2, a3, a4⟩
    · omega
    rcases h.val t t0 t1 with ⟨b, _⟩ | ⟨_, l, g, b2, b3, b4⟩
    · omega
    rcases hg with rfl | hg
    · have := List.eq_nil_of_length_eq_zero (by omega : fs.length = 0); subst this; simp at a3
    · obtain ⟨k1, k2⟩ := List.getElem?_eq_some_iff.1 a3
      obtain ⟨l1', l2'⟩ := List.getElem?_eq_some_iff.1 b3
      have e3 : gi out f = gi out g := by rw [← a4.1, ← b4.1, e2]
      have hk : (fs.map (gi out))[k]'(by rw [List.length_map]; exact k1) = (fs.map (gi out))[l]'(by rw [List.length_map]; exact l1') := by
        rw [List.getElem_map, List.getElem_map, k2, l2', e3]
      have := (List.getElem_inj hg).1 hk
      rw [a2, b2, this]
  have words : ∀ (u : List Int) (s t : Int), m.Live s → m.Live t → s < m.next.length → t < m.next.length → gi nx s = gi nx t → m.acc s u = m.acc t u := by
    intro u
    induction u with
    | nil => exact fun s t hs ht s1 t1 e2 => hn.ends s t hs ht s1 t1 e2
    | cons x u ih =>
      intro s t hs ht s1 t1 e2
      have s0 := Mach.live_nonneg hs; have t0 := Mach.live_nonneg ht
      have ha := (h.eq_alike s0 s1 t0 t1 (hc.live s s0 s1 hs) (hc.live t t0 t1 ht)).1 e2
      rw [Mach.acc_cons, Mach.acc_cons]
      have r1 := hm.step_range s x; have r2 := hm.step_range t x
      have dd : ∀ {q : Int}, ¬ m.Live q → m.acc q u = false := fun {q} hq => by
        cases e : m.acc q u with
        | false => rfl
        | true => exact absurd ⟨u, e⟩ hq
      by_cases hx : m.Let x
      · have hcv := ha.2 x hx
        by_cases l1 : m.Live (m.step s x)
        · by_cases l2 : m.Live (m.step t x)
          · rw [(hc.cv_live r1.2 l1).1, (hc.cv_live r2.2 l2).1] at hcv
            exact ih _ _ l1 l2 r1.2 r2.2 (back _ _ l1 l2 r1.2 r2.2 hcv)
          · rw [(hc.cv_live r1.2 l1).1, hc.cv_dead r2.2 l2] at hcv
            have := (hc.cv_live r1.2 l1).2; omega
        · by_cases l2 : m.Live (m.step t x)
          · rw [hc.cv_dead r1.2 l1, (hc.cv_live r2.2 l2).1] at hcv
            have := (hc.cv_live r2.2 l2).2; omega
          · rw [dd l1, dd l2]
      · have n1 : m.step s x < 0 := Classical.byContradiction fun hh => hx (hm.step_let (s := s) (x := x) (by omega)).2
        have n2 : m.step t x < 0 := Classical.byContradiction fun hh => hx (hm.step_let (s := t) (x := x) (by omega)).2
        rw [Mach.acc_neg n1, Mach.acc_neg n2]
  refine ⟨hn.len, hn.dead, fun s s0 s1 hs => ⟨hn.live s s0 s1 hs, ?_⟩, fun s t hs ht s1 t1 => ⟨fun e2 u => words u s t hs ht s1 t1 e2, hn.same s t hs ht s1 t1⟩, fun v v0 v1 => ?_, hn.count⟩
  · rcases h.val s s0 s1 with ⟨_, a⟩ | ⟨_, k, f, a2, a3, _⟩
    · omega
    · have := (List.getElem?_eq_some_iff.1 a3).1; omega
  · have hlt : v.toNat < fs.length := by omega
    obtain ⟨f0, f1, f2⟩ := h.fsin _ (List.getElem_mem hlt)
    refine ⟨fs[v.toNat], f0, f1, ?_⟩
    rw [h.first (List.getElem?_eq_getElem hlt)]; omega
end
/-- the first numbers -/
theorem Cls.init {m : Mach} {out : List Int} (hlen : out.length = m.next.length) (h : ∀ s : Int, 0 ≤ s → s < m.next.length → (¬ m.Live s ∧ gi out s = -1) ∨ (m.Live s ∧ m.ends s = true ∧ gi out s = 1) ∨ (m.Live s ∧ m.ends s = false ∧ gi out s = 0)) : Cls m out 0 := by
  refine ⟨hlen, fun s s0 s1 hd => ?_, fun s s0 s1 hd => ?_, fun s t hs ht s1 t1 e => ?_, fun s t hs ht s1 t1 e => ?_, .inl rfl, by omega, by omega⟩
  · rcases h s s0 s1 with h | h | h
    · exact h.2
    · exact absurd h.1 hd
    · exact absurd h.1 hd
  · rcases h s s0 s1 with h | h | h
    · exact absurd hd h.1
    · omega
    · omega
  · rcases h s (Mach.live_nonneg hs) s1 with a | a | a
    · exact absurd hs a.1
    all_goals rcases h t (Mach.live_nonneg ht) t1 with b | b | b
    all_goals first | exact absurd ht b.1 | (rw [a.2.1, b.2.1]; done) | (exfalso; omega)
  · have he : m.ends s = m.ends t := e []
    rcases h s (Mach.live_nonneg hs) s1 with a | a | a
    · exact absurd hs a.1
    all_goals rcases h t (Mach.live_nonneg ht) t1 with b | b | b
    all_goals first | exact absurd ht b.1 | (rw [a.2.2, b.2.2]; done) | (exfalso; rw [a.2.1, b.2.1] at he; cases he)
end Go.Proofs.Ytnkpjlhbojjneaa.VC

/- The reference's functions: states that live, states that are alike. -/
namespace Go.Proofs.Ytnkpjlhbojjneaa.VC
open Go Go.RowKit

theorem c81 {w : World} {l : Int} {R : Res} (hR : R (.agg (Array.mk [.int .i64 l, .int .i64 (-1), .slice none 0 0, .slice none 0 0])) [] w) : CallsI Try.prog 81 [.int .i64 l] w [] R := s81 _ _ _ fun _ => hR

theorem c104 {w : World} {m : Mach} {v ov : Value} {out : List Int} {q x : Int} {R : Res} (hm : MachAt w m v) (hsh : m.Shaped) (hL : m.letters ≤ 1048576) (ho : SlI w ov out) (hol : out.length = m.next.length)
    (hq0 : 0 ≤ q) (hq1 : q < m.next.length) (hx0 : 0 ≤ x) (hx1 : x < m.next.length) (yes : Alike m out q x → R (.bool true) [] w) (no : ¬ Alike m out q x → R (.bool false) [] w) : CallsI Try.prog 104 [v, ov, .int .i64 q, .int .i64 x] w [] R := by
  obtain ⟨_, _, rfl, ⟨A, c, hs, rfl, hA, hl, hx⟩, ⟨B, d, rfl, hB⟩⟩ := hm
  obtain ⟨D, e, rfl, hD⟩ := ho
  have hE : Ext w w := Ext.rfl'
  refine s104 _ _ _ _ _ _ _ _ _ _ _ _ _ _ _ fun _ => ?_
  refine rd_int hE hD hq0 (by omega) (K := fun x3 => IxV _ _ _ _ _) ?_
  refine rd_int hE hD hx0 (by omega) (K := fun x5 => condK _ _ _) ?_
  refine condK_bne (fun hne => no fun h => hne h.1) fun heq => ?_
  refine ⟨fun x7 => ⟨fun w8 => w8 = w ∧ 0 ≤ x7 ∧ x7 ≤ m.letters ∧ ∀ y, 0 ≤ y → y < x7 → cv out (m.step q y) = cv out (m.step x y), fun _ => (m.letters - x7).toNat⟩, ⟨rfl, by omega, hsh.letters, fun y h0 h1 => by omega⟩, ?_⟩
  rintro x7 w8 ⟨rfl, h70, h71, hal⟩ n9 rfl
  refine condK_dec (fun hlt => ?_) fun hge => yes ⟨heq, fun y hy => hal y hy.1 (by unfold Mach.Let at hy; omega)⟩
  have hlet : m.Let x7 := ⟨h70, hlt⟩
  have r1 := hsh.step_range q x7; have r2 := hsh.step_range x x7
  have cneg : ∀ {t : Int}, ¬ t ≥ 0 → cv out t = -1 := fun h => if_pos (by omega)
  have cpos : ∀ {t : Int}, t ≥ 0 → cv out t = gi out t := fun h => if_neg (by omega)
  have step : cv out (m.step q x7) = cv out (m.step x x7) → J104_1 (fun x7 => ⟨fun w8' => w8' = w8 ∧ 0 ≤ x7 ∧ x7 ≤ m.letters ∧ ∀ y, 0 ≤ y → y < x7 → cv out (m.step q y) = cv out (m.step x y), fun _ => (m.letters - x7).toNat⟩) x7 w8 (m.letters - x7).toNat := fun he => by
    rw [J104_1, wrap_id (by omega) (by omega)]
    refine ⟨⟨rfl, by omega, by omega, fun y h0 h1 => ?_⟩, by simp only []; omega⟩
    by_cases e : y = x7
    · subst e; exact he
    · exact hal y h0 (by omega)
  have nono : cv out (m.step q x7) ≠ cv out (m.step x x7) → R (.bool false) [] w8 := fun hne => no fun h => hne (h.2 x7 hlet)
  refine rd_step hE hA hl hx hsh hq0 hq1 hlet (K := fun x15 => condK (decide (x15 ≥ 0)) _ _) ?_
  refine condK_dec (fun hp => ?_) fun hn => ?_
  · refine rd_step hE hA hl hx hsh hq0 hq1 hlet (K := fun x21 => IxV _ _ _ x21 _) ?_
    refine rd_int hE hD hp (by omega) (K := fun x23 => IxV _ _ _ _ _) ?_
    refine rd_step hE hA hl hx hsh hx0 hx1 hlet (K := fun x29 => condK (decide (x29 ≥ 0)) _ _) ?_
    refine condK_dec (fun hp2 => ?_) fun hn2 => ?_
    · refine rd_step hE hA hl hx hsh hx0 hx1 hlet (K := fun x35 => IxV _ _ _ x35 _) ?_
      refine rd_int hE hD hp2 (by omega) (K := fun x37 => condK _ _ _) ?_
      refine condK_bne (fun hne => nono (by rw [cpos hp, cpos hp2]; exact hne)) fun he => step (by rw [cpos hp, cpos hp2]; exact he)
    · refine condK_bne (fun hne => nono (by rw [cpos hp, cneg hn2]; exact hne)) fun he => step (by rw [cpos hp, cneg hn2]; exact he)
  · refine rd_step hE hA hl hx hsh hx0 hx1 hlet (K := fun x29 => condK (decide (x29 ≥ 0)) _ _) ?_
    refine condK_dec (fun hp2 => ?_) fun hn2 => ?_
    · refine rd_step hE hA hl hx hsh hx0 hx1 hlet (K := fun x35 => IxV _ _ _ x35 _) ?_
      refine rd_int hE hD hp2 (by omega) (K := fun x37 => condK _ _ _) ?_
      refine condK_bne (fun hne => nono (by rw [cneg hn, cpos hp2]; exact hne)) fun he => step (by rw [cneg hn, cpos hp2]; exact he)
    · exact step (by rw [cneg hn, cneg hn2])

/-- how many cells of a row hold false -/
noncomputable def cntF (w : World) (A : Option Addr) (n : Nat) : Nat := by
  classical exact if h : ∃ xs : List Bool, xs.length = n ∧ Row w A (bools xs) then fcount (Classical.choose h) else 0
theorem row_bools_eq {w : World} {A : Option Addr} {xs ys : List Bool} (hx : Row w A (bools xs)) (hy : Row w A (bools ys)) (hl : xs.length = ys.length) : xs = ys := by
  apply List.ext_getElem? ; intro i
  by_cases hi : i < xs.length
  · have hne : bools xs ≠ [] := fun e => by
      have h3 : (bools xs).length = 0 := by rw [e]; rfl
      rw [bools_len] at h3; omega
    have hne2 : bools ys ≠ [] := fun e => by
      have h3 : (bools ys).length = 0 := by rw [e]; rfl
      rw [bools_len] at h3; omega
    obtain ⟨a, e1, h1⟩ := hx hne
    obtain ⟨b, e2, h2⟩ := hy hne2
    rw [e1] at e2; cases e2
    have g1 := h1 i (.bool xs[i]) (by simp [bools, List.getElem?_map, List.getElem?_eq_getElem hi])
    have g2 := h2 i (.bool (ys[i]'(by omega))) (by simp [bools, List.getElem?_map, List.getElem?_eq_getElem (show i < ys.length by omega)])
    rw [g1] at g2; injection g2 with g2; injection g2 with g2
    rw [List.getElem?_eq_getElem hi, List.getElem?_eq_getElem (show i < ys.length by omega), g2]
  · rw [List.getElem?_eq_none (by omega), List.getElem?_eq_none (by omega)]
theorem cntF_row {w : World} {A : Option Addr} {xs : List Bool} (h : Row w A (bools xs)) {n : Nat} (hn : n = xs.length) : cntF w A n = fcount xs := by
  have hex : ∃ ys : List Bool, ys.length = n ∧ Row w A (bools ys) := ⟨xs, hn.symm, h⟩
  unfold cntF; rw [dif_pos hex]
  obtain ⟨h1, h2⟩ := Classical.choose_spec hex
  rw [row_bools_eq h2 h (by omega)]

theorem c103 {w : World} {m : Mach} {v : Value} {R : Res} (hm : MachAt w m v) (hsh : m.Shaped) (hN : m.next.length ≤ 1048576) (hL : m.letters ≤ 1048576)
    (hR : ∀ w' bv is, Ext w w' → SlB w' bv is → is.length = m.next.length → (∀ s : Int, 0 ≤ s → s < m.next.length → (gb is s = true ↔ m.Live s)) → R bv [] w') : CallsI Try.prog 103 [v] w [] R := by
  obtain ⟨_, _, rfl, ⟨A, c, hs, rfl, hA, hl, hx⟩, ⟨B, d, rfl, hB⟩⟩ := hm
  have hfin := hsh.fin
  refine s103 _ _ _ _ _ _ _ _ _ _ fun _ => ?_
  refine (Fam.empty w).mkRowE 0 (xs := []) fun n2 F1 w3 hE3 ho1 hF1 hs1 => ?_
  have hs1 : GSl F1 0 (some ⟨n2, 0, none⟩) 0 0 (bools []) := hs1
  refine hs1.append_bools hF1 (hE3.row hB) rfl (by omega) fun F2 A4 n6 w7 ho2 hF2 hs2 => ?_
  simp only [List.nil_append, Nat.zero_add] at hs2 ⊢
  have n5 : (m.fin.length : Int) = m.next.length := by omega
  refine ⟨fun t9 => ⟨fun w10 => ∃ F out, Fam w w10 F ∧ GSl F 0 A4 m.fin.length n6 (bools out) ∧ Liv m out ∧ (t9 = false → LivTo m out m.next.length 0), fun w10 => if t9 then cntF w10 A4 m.fin.length + 1 else 0⟩,
    ⟨F2, m.fin, hF2, hs2, Liv.init hsh, fun h => by cases h⟩, ?_⟩
  rintro t9 w10 ⟨F, out, hF, hG, hLv, hcl⟩ n11 rfl
  cases t9 with
  | false => exact hR w10 _ out hF.base (hG.slb hF) hLv.len fun s h0 h1 => hLv.done hsh (Int.le_refl _) (hcl rfl) h0 h1
  | true =>
  have hfc : cntF w10 A4 m.fin.length = fcount out := cntF_row (hG.row hF) (by rw [hLv.len]; omega)
  show condK true _ _
  refine condK_of (fun _ => ?_) fun h => by cases h
  refine ⟨fun x13 t14 => ⟨fun w15 => ∃ F out', Fam w w15 F ∧ GSl F 0 A4 m.fin.length n6 (bools out') ∧ Liv m out' ∧ (t14 = false → LivTo m out' x13 0 ∧ out' = out) ∧ (t14 = true → fcount out' < fcount out) ∧ 0 ≤ x13 ∧ x13 ≤ m.next.length, fun _ => (m.next.length - x13).toNat⟩,
    ⟨F, out, hF, hG, hLv, fun _ => ⟨fun s x h0 hx h => by have := hx.1; omega, rfl⟩, (fun h => by cases h), by omega, by omega⟩, ?_⟩
  clear hF hG F
  rintro x13 t14 w15 ⟨F, o1, hF, hG, hLv1, hcl1, hfc1, h130, h131⟩ n16 rfl
  refine condK_dec (fun hlt => ?_) fun hge => ?_
  · refine ⟨fun x18 t19 => ⟨fun w20 => ∃ F o2, Fam w w20 F ∧ GSl F 0 A4 m.fin.length n6 (bools o2) ∧ Liv m o2 ∧ (t19 = false → LivTo m o2 x13 x18 ∧ o2 = out) ∧ (t19 = true → fcount o2 < fcount out) ∧ 0 ≤ x18 ∧ x18 ≤ m.letters, fun _ => (m.letters - x18).toNat⟩,
      ⟨F, o1, hF, hG, hLv1, hcl1, hfc1, by omega, hsh.letters⟩, ?_⟩
    clear hF hG F hcl1 hfc1 hLv1 o1
    rintro x18 t19 w20 ⟨F, o2, hF, hG, hLv2, hcl2, hfc2, h180, h181⟩ n21 rfl
    have hE20 : Ext w w20 := hF.base
    have hol := hLv2.len
    have hnext : (∀ x, m.Let x → x18 ≤ x → t19 = false → 0 ≤ m.step x13 x → gb o2 (m.step x13 x) = true → gb o2 x13 = true) → J103_2 (fun x13 t14 => ⟨fun w15 => ∃ F out', Fam w w15 F ∧ GSl F 0 A4 m.fin.length n6 (bools out') ∧ Liv m out' ∧ (t14 = false → LivTo m out' x13 0 ∧ out' = out) ∧ (t14 = true → fcount out' < fcount out) ∧ 0 ≤ x13 ∧ x13 ≤ m.next.length, fun _ => (m.next.length - x13).toNat⟩) x13 t19 w20 (m.next.length - x13).toNat := fun hrest => by
      rw [J103_2, wrap_id (by omega) (by omega)]
      refine ⟨⟨F, o2, hF, hG, hLv2, fun h => ⟨fun s x h0 hx hp h1 h2 => ?_, (hcl2 h).2⟩, hfc2, by omega, by omega⟩, by simp only []; omega⟩
      rcases hp with hp | hp
      · by_cases e : s = x13
        · subst e
          by_cases hk : x < x18
          · exact (hcl2 h).1 s x h0 hx (.inr ⟨rfl, hk⟩) h1 h2
          · exact hrest x hx (by omega) h h1 h2
        · exact (hcl2 h).1 s x h0 hx (.inl (by omega)) h1 h2
      · have := hx.1; omega
    refine condK_dec (fun hlt2 => ?_) fun hge2 => hnext fun x hx hk => by have := hx.2; omega
    have hlet : m.Let x18 := ⟨h180, hlt2⟩
    have hsr := hsh.step_range x13 x18
    refine hG.get_bool hF h130 (by omega) (K := fun t23 => condK (!t23) _ _) ?_
    cases hgb : gb o2 x13 with
    | true => exact hnext fun _ _ _ _ _ _ => hgb
    | false =>
    refine condK_of (fun _ => ?_) fun h => by cases h
    have hskip : (0 ≤ m.step x13 x18 → gb o2 (m.step x13 x18) = false) → J103_2 (fun x18 t19 => ⟨fun w20 => ∃ F o2, Fam w w20 F ∧ GSl F 0 A4 m.fin.length n6 (bools o2) ∧ Liv m o2 ∧ (t19 = false → LivTo m o2 x13 x18 ∧ o2 = out) ∧ (t19 = true → fcount o2 < fcount out) ∧ 0 ≤ x18 ∧ x18 ≤ m.letters, fun _ => (m.letters - x18).toNat⟩) x18 t19 w20 (m.letters - x18).toNat := fun hno => by
      rw [J103_2, wrap_id (by omega) (by omega)]
      refine ⟨⟨F, o2, hF, hG, hLv2, fun h => ⟨fun s x h0 hx hp h1 h2 => ?_, (hcl2 h).2⟩, hfc2, by omega, by omega⟩, by simp only []; omega⟩
      by_cases e : s = x13 ∧ x = x18
      · obtain ⟨rfl, rfl⟩ := e; rw [hno h1] at h2; cases h2
      · exact (hcl2 h).1 s x h0 hx (by omega) h1 h2
    refine rd_step hE20 hA hl hx hsh h130 (by omega) hlet (K := fun x29 => condK (decide (x29 ≥ 0)) _ _) ?_
    refine condK_dec (fun hp => ?_) fun hn => hskip fun h => by omega
    refine rd_step hE20 hA hl hx hsh h130 (by omega) hlet (K := fun x35 => IxV _ _ _ x35 _) ?_
    refine hG.get_bool hF hp (by omega) (K := fun t37 => condK t37 _ _) ?_
    cases hgt : gb o2 (m.step x13 x18) with
    | false => exact hskip fun _ => hgt
    | true =>
    refine condK_of (fun _ => ?_) fun h => by cases h
    refine hG.set_bool hF h130 (by omega) fun F' w39 ho' hF' hG' => ?_
    rw [wrap_id (by omega) (by omega)]
    refine ⟨⟨F', _, hF', hG', hLv2.set h130 (by omega) hp hsr.2 hgt, (fun h => by cases h), fun _ => ?_, by omega, by omega⟩, by simp only []; omega⟩
    have h1 := fcount_set o2 x13.toNat (by rw [get_gb h130 (by omega), hgb])
    cases t19 with
    | true => have := hfc2 rfl; omega
    | false => have := (hcl2 rfl).2; subst this; omega
  · have e : x13 = m.next.length := by omega
    subst e
    refine ⟨⟨F, o1, hF, hG, hLv1, fun h => (hcl1 h).1⟩, ?_⟩
    simp only []
    have hf1 : cntF w15 A4 m.fin.length = fcount o1 := cntF_row (hG.row hF) (by rw [hLv1.len]; omega)
    rw [hfc, hf1]
    cases t14 with
    | true => have := hfc1 rfl; simp; omega
    | false => simp
end Go.Proofs.Ytnkpjlhbojjneaa.VC

/- The reference's classes of states. -/
namespace Go.Proofs.Ytnkpjlhbojjneaa.VC
open Go Go.RowKit

theorem Fam.mkInts {w0 w : World} {F : FamF} (hF : Fam w0 w F) (i : Nat) {n : Nat} {x : Int} {e : TypeId} {K : Nat → World → Prop}
    (hk : ∀ b F' w', Ext w w' → Only i F F' → Fam w0 w' F' → GSl F' i (some ⟨b, 0, none⟩) n n (ints (List.replicate n x)) → K b w') : NewK w (.cells (Array.mk (List.replicate n (.int .i64 x))) e (0, 0)) K :=
  hF.mkRowE i fun b F' w' hE ho hF' hs => hk b F' w' hE ho hF' (by rw [ints_rep]; simpa using hs)
set_option maxHeartbeats 4000000 in
theorem c80 {w : World} {m : Mach} {v : Value} {R : Res} (hm : MachAt w m v) (hsh : m.Shaped) (hN : m.next.length ≤ 1048576) (hL : m.letters ≤ 1048576)
    (hR : ∀ w' v' cl K, Ext w w' → SlI w' v' cl → ClsDone m cl K → R v' [] w') : CallsI Try.prog 80 [v] w [] R := by
  have hm0 := hm
  obtain ⟨_, _, rfl, ⟨A, c, hs, rfl, hA, hl, hx⟩, ⟨B, d, rfl, hB⟩⟩ := hm
  have hfin := hsh.fin
  refine s80 _ _ _ _ _ _ _ _ _ _ fun _ => ?_
  refine c103 hm0 hsh hN hL fun w4 bv is hE4 hbv hisl his => ?_
  obtain ⟨A5, c5, rfl, hI⟩ := hbv
  refine ⟨_, _, _, rfl, rfl, rfl, by omega, by omega, by omega, ?_⟩
  refine (Fam.empty w4).mkInts 0 (x := 0) fun n8 F w9 hE9 ho9 hF9 hs9 => ?_
  refine ⟨fun x11 => ⟨fun w12 => ∃ F out, Fam w4 w12 F ∧ GSl F 0 (some ⟨n8, 0, none⟩) m.next.length m.next.length (ints out) ∧ out.length = m.next.length ∧ 0 ≤ x11 ∧ x11 ≤ m.next.length ∧
      (∀ s : Int, 0 ≤ s → s < x11 → (¬ m.Live s ∧ gi out s = -1) ∨ (m.Live s ∧ m.ends s = true ∧ gi out s = 1) ∨ (m.Live s ∧ m.ends s = false ∧ gi out s = 0)), fun _ => (m.next.length - x11).toNat⟩,
    ⟨F, _, hF9, hs9, by simp, by omega, by omega, fun s h0 h1 => by omega⟩, ?_⟩
  clear ho9 hF9 hs9 hE9 F w9
  rintro x11 w12 ⟨F, out, hF, hG, hol, h110, h111, hcl⟩ n13 rfl
  refine condK_dec (fun hlt => ?_) fun hge => ?_
  · refine hG.set_int hF h110 (by omega) fun F2 w15 ho2 hF2 hG2 => ?_
    have step : ∀ (F3 : FamF) (w3 : World) (z : Int), Fam w4 w3 F3 → GSl F3 0 (some ⟨n8, 0, none⟩) m.next.length m.next.length (ints (out.set x11.toNat z)) → ((¬ m.Live x11 ∧ z = -1) ∨ (m.Live x11 ∧ m.ends x11 = true ∧ z = 1) ∨ (m.Live x11 ∧ m.ends x11 = false ∧ z = 0)) →
        J80_1 (fun x11 => ⟨fun w12 => ∃ F out, Fam w4 w12 F ∧ GSl F 0 (some ⟨n8, 0, none⟩) m.next.length m.next.length (ints out) ∧ out.length = m.next.length ∧ 0 ≤ x11 ∧ x11 ≤ m.next.length ∧
      (∀ s : Int, 0 ≤ s → s < x11 → (¬ m.Live s ∧ gi out s = -1) ∨ (m.Live s ∧ m.ends s = true ∧ gi out s = 1) ∨ (m.Live s ∧ m.ends s = false ∧ gi out s = 0)), fun _ => (m.next.length - x11).toNat⟩) x11 w3 (m.next.length - x11).toNat := by
      intro F3 w3 z hF3 hG3 hz
      rw [J80_1, wrap_id (by omega) (by omega)]
      refine ⟨⟨F3, _, hF3, hG3, by rw [List.length_set]; exact hol, by omega, by omega, fun s s0 s1 => ?_⟩, by simp only []; omega⟩
      rw [gi_set h110 (by omega) s0]
      by_cases e : s = x11
      · subst e; rw [if_pos rfl]; exact hz
      · rw [if_neg e]; exact hcl s s0 (by omega)
    rw [← hisl]
    have hisl' : (is.length : Int) = m.next.length := by omega
    refine rd_bool hF2.base hI h110 (by omega) (K := fun t => condK t _ _) ?_
    have hiff := his x11 h110 (by omega)
    cases hb : gb is x11 with
    | false =>
      rw [hisl]
      exact step F2 w15 (-1) hF2 hG2 (.inl ⟨(fun h => by rw [hiff.2 h] at hb; cases hb), rfl⟩)
    | true =>
      rw [hisl]
      have hlive := hiff.1 hb
      refine condK_of (fun _ => ?_) fun h => by cases h
      refine hG2.set_int hF2 h110 (by rw [List.length_set]; omega) fun F3 w19 ho3 hF3 hG3 => ?_
      rw [List.set_set] at hG3
      refine rd_end (hE4.trans' hF3.base) hB h110 (by omega) (K := fun t => condK t _ _) ?_
      cases he : m.ends x11 with
      | false => exact step F3 w19 0 hF3 hG3 (.inr (.inr ⟨hlive, he, rfl⟩))
      | true =>
        refine condK_of (fun _ => ?_) fun h => by cases h
        refine hG3.set_int hF3 h110 (by rw [List.length_set]; omega) fun F4 w23 ho4 hF4 hG4 => ?_
        rw [List.set_set] at hG4
        exact step F4 w23 1 hF4 hG4 (.inr (.inl ⟨hlive, he, rfl⟩))
  · -- the rounds
    have hcls : Cls m out 0 := Cls.init hol fun s s0 s1 => hcl s s0 (by omega)
    refine ⟨fun x25 A26 n27 n28 => ⟨fun w29 => ∃ F out, Fam w4 w29 F ∧ GSl F 0 A26 n27 n28 (ints out) ∧ Cls m out x25 ∧ n27 = m.next.length, fun _ => (m.next.length + 1 - x25).toNat⟩, ⟨F, out, hF, hG, hcls, rfl⟩, ?_⟩
    clear hF hG hcls hcl F hol out
    rintro x25 A26 n27 n28 w29 ⟨F, out, hF, hG, hcls, rfl⟩ n30 rfl
    have hol := hcls.len; have hcc := hcls.count
    refine ⟨rfl, by omega, by omega, by omega, ?_⟩
    refine hF.mkInts 1 (x := 0) fun n31 F1 w32 hE32 ho1 hF1 hs1 => ?_
    refine hF1.mkRow 2 (xs := []) fun n33 F2 w34 ho2 hF2 hs2 => ?_
    replace hs2 : GSl F2 2 (some ⟨n33, 0, none⟩) 0 0 (ints []) := hs2
    refine ⟨fun x36 A37 n38 n39 => ⟨fun w40 => ∃ F nx fs, Fam w4 w40 F ∧ GSl F 0 A26 m.next.length n28 (ints out) ∧ GSl F 1 (some ⟨n31, 0, none⟩) m.next.length m.next.length (ints nx) ∧ GSl F 2 A37 n38 n39 (ints fs) ∧
        Rnd m out nx fs x36 ∧ 0 ≤ x36 ∧ x36 ≤ m.next.length, fun _ => (m.next.length - x36).toNat⟩,
      ⟨F2, _, [], hF2, (hG.keep ho1 (by decide)).keep ho2 (by decide), hs1.keep ho2 (by decide), hs2, Rnd.init m out (by simp [hol]), by omega, by omega⟩, ?_⟩
    clear hF hG hF1 ho1 hs1 hF2 ho2 hs2 hE32 w32 w34 n33 F F1 F2
    rintro x36 A37 n38 n39 w40 ⟨F, nx, fs, hF, hG0, hG1, hG2, hrnd, h360, h361⟩ n41 rfl
    have hfl := hG2.len; rw [ints_len] at hfl; subst hfl
    have hnl := hrnd.len
    have hcnt := hrnd.count (by omega)
    refine condK_dec (fun hlt => ?_) fun hge => ?_
    · refine hG1.set_int hF h360 (by omega) fun F3 w43 ho3 hF3 hG13 => ?_
      have next : ∀ (F5 : FamF) (w5 : World) (nx5 fs5 : List Int) (A' : Option Addr) (n' c' : Nat), Fam w4 w5 F5 → GSl F5 0 A26 m.next.length n28 (ints out) → GSl F5 1 (some ⟨n31, 0, none⟩) m.next.length m.next.length (ints nx5) → GSl F5 2 A' n' c' (ints fs5) → Rnd m out nx5 fs5 (x36 + 1) →
          J80_7 (fun x36 A37 n38 n39 => ⟨fun w40 => ∃ F nx fs, Fam w4 w40 F ∧ GSl F 0 A26 m.next.length n28 (ints out) ∧ GSl F 1 (some ⟨n31, 0, none⟩) m.next.length m.next.length (ints nx) ∧ GSl F 2 A37 n38 n39 (ints fs) ∧
        Rnd m out nx fs x36 ∧ 0 ≤ x36 ∧ x36 ≤ m.next.length, fun _ => (m.next.length - x36).toNat⟩) x36 A' n' c' w5 (m.next.length - x36).toNat := by
        intro F5 w5 nx5 fs5 A' n' c' hF5 h1 h2 h3 h4
        rw [J80_7, wrap_id (by omega) (by omega)]
        exact ⟨⟨F5, nx5, fs5, hF5, h1, h2, h3, h4, by omega, by omega⟩, by simp only []; omega⟩
      -- behind the search
      have after : ∀ (F5 : FamF) (w5 : World) (z : Int), Fam w4 w5 F5 → GSl F5 0 A26 m.next.length n28 (ints out) → GSl F5 1 (some ⟨n31, 0, none⟩) m.next.length m.next.length (ints (nx.set x36.toNat z)) → GSl F5 2 A37 fs.length n39 (ints fs) →
          (gi out x36 < 0 ∧ z = -1 ∨ 0 ≤ gi out x36 ∧ ((∃ (k : Nat) (f : Int), z = k ∧ fs[k]? = some f ∧ Alike m out x36 f) ∨ z = -1 ∧ ∀ (k : Nat) f, fs[k]? = some f → ¬ Alike m out x36 f)) →
          IxV A26 m.next.length 1 x36 fun a58 => ∃ x59, J80_13 w5 a58 x59 n31 m.next.length x36 fs.length A37 n39 (fun x36 A37 n38 n39 => ⟨fun w40 => ∃ F nx fs, Fam w4 w40 F ∧ GSl F 0 A26 m.next.length n28 (ints out) ∧ GSl F 1 (some ⟨n31, 0, none⟩) m.next.length m.next.length (ints nx) ∧ GSl F 2 A37 n38 n39 (ints fs) ∧
        Rnd m out nx fs x36 ∧ 0 ≤ x36 ∧ x36 ≤ m.next.length, fun _ => (m.next.length - x36).toNat⟩) (m.next.length - x36).toNat := by
        intro F5 w5 z hF5 h1 h2 h3 hz
        refine h1.get_int hF5 h360 (by omega) (K := fun x59 => condK (decide (x59 ≥ 0)) _ _) ?_
        refine condK_dec (fun hp => ?_) fun hn => ?_
        · refine h2.get_int hF5 h360 (by rw [List.length_set]; omega) (K := fun x61 => condK (decide (x61 < 0)) _ _) ?_
          rw [gi_set h360 (by omega) h360, if_pos rfl]
          rcases hz with ⟨h, _⟩ | ⟨_, ⟨k, f, rfl, hk, ha⟩ | ⟨rfl, hno⟩⟩
          · omega
          · refine condK_dec (fun h => by omega) fun _ => ?_
            exact next F5 w5 _ fs A37 _ n39 hF5 h1 h2 h3 (hrnd.old h360 (by omega) hp hk ha)
          · refine condK_dec (fun h => ?_) fun h => by omega
            refine h2.set_int hF5 h360 (by rw [List.length_set]; omega) fun F6 w63 ho6 hF6 hG6 => ?_
            rw [List.set_set] at hG6
            refine GSl.push_int (h3.keep ho6 (by decide)) hF6 (by omega) fun F7 A66 c68 w69 ho7 hF7 hG7 => ?_
            exact next F7 w69 _ _ A66 _ c68 hF7 ((h1.keep ho6 (by decide)).keep ho7 (by decide)) (hG6.keep ho7 (by decide)) hG7 (hrnd.fresh h360 (by omega) hp hno)
        · rcases hz with ⟨h, rfl⟩ | ⟨h, _⟩
          · exact next F5 w5 _ fs A37 _ n39 hF5 h1 h2 h3 (hrnd.dead h360 (by omega) h)
          · omega
      refine ⟨fun x45 => ⟨fun w46 => ∃ F, Fam w4 w46 F ∧ GSl F 0 A26 m.next.length n28 (ints out) ∧ GSl F 1 (some ⟨n31, 0, none⟩) m.next.length m.next.length (ints (nx.set x36.toNat (-1))) ∧ GSl F 2 A37 fs.length n39 (ints fs) ∧
          0 ≤ x45 ∧ x45 ≤ fs.length ∧ ∀ (k : Nat) f, (k : Int) < x45 → fs[k]? = some f → ¬ Alike m out x36 f, fun _ => (fs.length - x45).toNat⟩,
        ⟨F3, hF3, hG0.keep ho3 (by decide), hG13, hG2.keep ho3 (by decide), by omega, by omega, fun k f h => by omega⟩, ?_⟩
      clear hF hG0 hG1 hG2 hF3 ho3 hG13 w43 F F3
      rintro x45 w46 ⟨F, hF, hG0, hG1, hG2, h450, h451, hno⟩ n47 rfl
      refine condK_dec (fun hlt2 => ?_) fun hge2 => ?_
      · refine hG0.get_int hF h360 (by omega) (K := fun x49 => condK (decide (x49 ≥ 0)) _ _) ?_
        refine condK_dec (fun hp => ?_) fun hn => after F w46 (-1) hF hG0 hG1 hG2 (.inl ⟨by omega, rfl⟩)
        refine hG2.get_int hF h450 hlt2 (K := fun x51 => CallsI _ _ _ _ _ _) ?_
        have hk := get_gi h450 hlt2
        obtain ⟨f0, f1, f2⟩ := hrnd.fsin _ (List.mem_of_getElem? hk)
        refine c104 (hm0.ext (hE4.trans' hF.base)) hsh hL (hG0.sli hF) hol h360 (by omega) f0 (by omega) (fun ha => ⟨_, rfl, rfl, ?_⟩) fun hna => ⟨_, rfl, rfl, ?_⟩
        · refine condK_of (fun _ => ?_) fun h => by cases h
          refine hG1.set_int hF h360 (by rw [List.length_set]; omega) fun F5 w57 ho5 hF5 hG5 => ?_
          rw [List.set_set] at hG5
          exact after F5 w57 _ hF5 (hG0.keep ho5 (by decide)) hG5 (hG2.keep ho5 (by decide)) (.inr ⟨hp, .inl ⟨x45.toNat, _, by omega, hk, ha⟩⟩)
        · refine condK_of (fun h => by cases h) fun _ => ?_
          rw [J80_1, wrap_id (by omega) (by omega)]
          refine ⟨⟨F, hF, hG0, hG1, hG2, by omega, by omega, fun k f hk2 hf => ?_⟩, by simp only []; omega⟩
          by_cases e : (k : Int) = x45
          · subst e; simp only [Int.toNat_natCast] at hk; rw [hf] at hk; injection hk with hk; subst hk; exact hna
          · exact hno k f (by omega) hf
      · by_cases hp : 0 ≤ gi out x36
        · exact after F w46 (-1) hF hG0 hG1 hG2 (.inr ⟨hp, .inr ⟨rfl, fun k f hf => hno k f (by have := (List.getElem?_eq_some_iff.1 hf).1; omega) hf⟩⟩)
        · exact after F w46 (-1) hF hG0 hG1 hG2 (.inl ⟨by omega, rfl⟩)
    · have e : x36 = m.next.length := by omega
      subst e
      have hgr := hrnd.grow hcls
      refine condK_beq (fun he => ?_) fun hne => ?_
      · exact hR w40 _ nx _ (hE4.trans' hF.base) (hG1.sli hF) (hrnd.done hcls hsh he)
      · exact ⟨⟨_, nx, hF.moves (i := 0) (k := 1) (by decide), hG1.at rfl, hrnd.next hcls hsh, rfl⟩, by simp only []; omega⟩
end Go.Proofs.Ytnkpjlhbojjneaa.VC

/- The reference's least machine: what is found in a machine, in order; the machine of the classes. -/
namespace Go.Proofs.Ytnkpjlhbojjneaa.VC
open Go Go.RowKit

/-- a machine's own states, as things to be found -/
def machAuto (m : Mach) : Auto Int := ⟨m.letters, fun s x => if 0 ≤ m.step s x then some (m.step s x) else none, m.ends⟩
theorem machAuto_some {m : Mach} {s x : Int} (h : 0 ≤ m.step s x) : (machAuto m).next s x = some (m.step s x) := if_pos h
theorem machAuto_none {m : Mach} {s x : Int} (h : m.step s x < 0) : (machAuto m).next s x = none := if_neg (by omega)
theorem machAuto_acc {m : Mach} (hm : m.Shaped) (u : List Int) (s : Int) : (machAuto m).acc s u = m.acc s u := by
  induction u generalizing s with
  | nil => rfl
  | cons x u ih =>
    rw [Auto.acc, Mach.acc_cons]
    rcases ilt (m.step s x) 0 with hn | hn
    · rw [machAuto_none hn, Mach.acc_neg hn]; split <;> rfl
    · have hl := (hm.step_let hn).2
      rw [if_pos (show 0 ≤ x ∧ x < (machAuto m).letters from hl), machAuto_some hn]
      exact ih _
structure Fnd (m : Mach) (o p : List Int) (rs : List (List Int)) : Prop where
  part : Part (machAuto m) m.start o rs
  plen : p.length = m.next.length
  num : ∀ (k : Nat) (s : Int), o[k]? = some s → 0 ≤ s ∧ s < m.next.length ∧ gi p s = k
  out : ∀ s : Int, 0 ≤ s → s < m.next.length → s ∉ o → gi p s = -1
theorem Fnd.init {m : Mach} {p : List Int} (hl : p.length = m.next.length) (hp : ∀ s : Int, 0 ≤ s → s < m.next.length → gi p s = -1) (h0 : 0 ≤ m.start) (h1 : m.start < m.next.length) : Fnd m [m.start] (p.set m.start.toNat 0) [] where
  part := Part.init _ _
  plen := by rw [List.length_set]; exact hl
  num := fun k s hk => by
    cases k with
    | zero => simp at hk; subst hk; rw [gi_set h0 (by omega) h0, if_pos rfl]; exact ⟨h0, h1, rfl⟩
    | succ k => simp at hk
  out := fun s s0 s1 hs => by
    rw [gi_set h0 (by omega) s0, if_neg (fun e => hs (by rw [e]; simp))]
    exact hp s s0 s1
theorem Fnd.count {m : Mach} {o p : List Int} {rs : List (List Int)} (h : Fnd m o p rs) : o.length ≤ m.next.length :=
  nodup_bound _ o h.part.nodup fun x hx => by
    obtain ⟨k, hk⟩ := List.mem_iff_getElem?.1 hx
    have := h.num k x hk; omega
theorem Fnd.empty {m : Mach} {o p : List Int} {rs : List (List Int)} : Fnd m o p (rs ++ [[]]) ↔ Fnd m o p rs :=
  ⟨fun h => ⟨Part.empty.1 h.part, h.plen, h.num, h.out⟩, fun h => ⟨Part.empty.2 h.part, h.plen, h.num, h.out⟩⟩
section
variable {m : Mach} {o p : List Int} {rs : List (List Int)} {cur : List Int} {s : Int}
theorem Fnd.none (h : Fnd m o p (rs ++ [cur])) (hx : o[rs.length]? = some s) (hn : m.step s cur.length < 0) : Fnd m o p (rs ++ [cur ++ [-1]]) :=
  ⟨h.part.none hx (machAuto_none hn), h.plen, h.num, h.out⟩
theorem Fnd.old (h : Fnd m o p (rs ++ [cur])) (hx : o[rs.length]? = some s) (h0 : 0 ≤ m.step s cur.length) (h1 : m.step s cur.length < m.next.length) (hp : ¬ gi p (m.step s cur.length) < 0) : Fnd m o p (rs ++ [cur ++ [gi p (m.step s cur.length)]]) := by
  have hmem : m.step s cur.length ∈ o := Classical.byContradiction fun hh => by have := h.out _ h0 h1 hh; omega
  obtain ⟨k, hk⟩ := List.mem_iff_getElem?.1 hmem
  rw [(h.num k _ hk).2.2]
  exact ⟨h.part.old hx (machAuto_some h0) hk, h.plen, h.num, h.out⟩
theorem Fnd.fresh (h : Fnd m o p (rs ++ [cur])) (hx : o[rs.length]? = some s) (hlet : (cur.length : Int) < m.letters) {t : Int} (ht : m.step s cur.length = t) (h0 : 0 ≤ t) (h1 : t < m.next.length) (hp : gi p t < 0) :
    Fnd m (o ++ [t]) (p.set t.toNat (o.length : Int)) (rs ++ [cur ++ [(o.length : Int)]]) := by
  have hmem : t ∉ o := fun hh => by
    obtain ⟨k, hk⟩ := List.mem_iff_getElem?.1 hh
    have := (h.num k _ hk).2.2; omega
  have hpl := h.plen
  refine ⟨h.part.fresh hx (by rw [machAuto_some (by omega), ht]) hlet hmem, by rw [List.length_set]; exact hpl, fun k y hk => ?_, fun y y0 y1 hy => ?_⟩
  · rcases Nat.lt_or_ge k o.length with hlt | hge
    · rw [List.getElem?_append_left hlt] at hk
      obtain ⟨a, b, c⟩ := h.num k y hk
      rw [gi_set h0 (by omega) a, if_neg (fun e => hmem (by rw [← e]; exact List.mem_of_getElem? hk))]
      exact ⟨a, b, c⟩
    · have hlt := (List.getElem?_eq_some_iff.1 hk).1
      rw [List.length_append, List.length_singleton] at hlt
      have : k = o.length := by omega
      subst this
      simp at hk; subst hk
      rw [gi_set h0 (by omega) h0, if_pos rfl]; exact ⟨h0, h1, rfl⟩
  · rw [List.mem_append, List.mem_singleton] at hy
    rw [gi_set h0 (by omega) y0, if_neg (fun e => hy (.inr e))]
    exact h.out y y0 y1 fun hh => hy (.inl hh)
/-- an entry is the place of what is found -/
theorem Fnd.ent (h : Fnd m o p rs) {i x : Nat} {t : Int} (e : Ent rs i x t) (hs : o[i]? = some s) : t = if 0 ≤ m.step s x then gi p (m.step s x) else -1 := by
  obtain ⟨X, h1, h2⟩ := h.part.ent i x t e
  rw [hs] at h1; injection h1 with h1; subst h1
  rcases h2 with ⟨a, rfl⟩ | ⟨Y, a, b, c⟩
  · rcases ilt (m.step s x) 0 with hn | hn
    · rw [if_neg (by omega)]
    · rw [machAuto_some hn] at a; cases a
  · rcases ilt (m.step s x) 0 with hn | hn
    · rw [machAuto_none hn] at a; cases a
    · rw [machAuto_some hn] at a; injection a with a; subst a
      rw [if_pos hn, (h.num _ _ c).2.2]; omega
end
/-- a row of entries like these is that row -/
theorem Fnd.row {m : Mach} {o p : List Int} {rs : List (List Int)} (h : Fnd m o p rs) {i : Nat} {s : Int} (hs : o[i]? = some s) {row r : List Int} (hr : rs[i]? = some r) (hl : row.length = r.length)
    (hrow : ∀ x : Nat, x < row.length → gi row x = if 0 ≤ m.step s x then gi p (m.step s x) else -1) : row = r := by
  apply List.ext_getElem hl
  intro x h1 h2
  have e := h.ent (i := i) (x := x) ⟨r, hr, List.getElem?_eq_getElem h2⟩ hs
  rw [e, ← hrow x h1]
  have := get_gi (l := row) (i := x) (by omega) (by omega)
  rw [Int.toNat_natCast, List.getElem?_eq_getElem h1] at this
  injection this

/-- the machine of the classes -/
structure SmallOf (m : Mach) (cl : List Int) (K : Int) (sm : Mach) : Prop where
  shaped : sm.Shaped
  letters : sm.letters = m.letters
  start : sm.start = gi cl m.start
  n : sm.next.length = K
  rep : ∀ c : Int, 0 ≤ c → c < K → ∃ s : Int, m.Live s ∧ s < m.next.length ∧ gi cl s = c ∧ (∀ x, m.Let x → sm.step c x = cv cl (m.step s x)) ∧ sm.ends c = m.ends s
theorem SmallOf.acc {m sm : Mach} {cl : List Int} {K : Int} (h : SmallOf m cl K sm) (hm : m.Shaped) (hc : ClsDone m cl K) (u : List Int) : ∀ s : Int, m.Live s → s < m.next.length → sm.acc (gi cl s) u = m.acc s u := by
  induction u with
  | nil =>
    intro s hs s1
    have s0 := Mach.live_nonneg hs
    have := hc.live s s0 s1 hs
    obtain ⟨t, ht, t1, e, _, he⟩ := h.rep (gi cl s) this.1 this.2
    rw [Mach.acc_nil, Mach.acc_nil, he]
    exact ((hc.same t s ht hs t1 s1).1 e) []
  | cons x u ih =>
    intro s hs s1
    have s0 := Mach.live_nonneg hs
    have := hc.live s s0 s1 hs
    obtain ⟨t, ht, t1, e, hst, _⟩ := h.rep (gi cl s) this.1 this.2
    have hsame := (hc.same t s ht hs t1 s1).1 e
    rw [← hsame (x :: u), Mach.acc_cons, Mach.acc_cons]
    have r := hm.step_range t x
    by_cases hx : m.Let x
    · rw [hst x hx]
      by_cases hl : m.Live (m.step t x)
      · have h0 := Mach.live_nonneg hl
        rw [cv, if_neg (by omega)]; exact ih _ hl r.2
      · have e1 : cv cl (m.step t x) = -1 := by
          unfold cv; split
          · rfl
          · exact hc.dead _ (by omega) r.2 hl
        rw [e1, Mach.acc_neg (by decide)]
        cases e2 : m.acc (m.step t x) u with
        | false => rfl
        | true => exact absurd ⟨u, e2⟩ hl
    · have n1 : m.step t x < 0 := Classical.byContradiction fun hh => hx (hm.step_let (s := t) (x := x) (by omega)).2
      have n2 : sm.step (gi cl s) x < 0 := Classical.byContradiction fun hh => hx (by
        have := (h.shaped.step_let (s := gi cl s) (x := x) (by omega)).2
        unfold Mach.Let at *; rw [h.letters] at this; exact this)
      rw [Mach.acc_neg n1, Mach.acc_neg n2]
theorem SmallOf.least {m sm : Mach} {cl : List Int} {K : Int} {o p : List Int} {rs : List (List Int)} (h : SmallOf m cl K sm) (hm : m.Shaped) (hc : ClsDone m cl K) (hst : m.Live m.start) (hf : Fnd sm o p rs) (hl : rs.length = o.length) (hrows : ∀ row ∈ rs, (row.length : Int) = m.letters) :
    IsLeast m ⟨m.letters, 0, rs, o.map sm.ends⟩ := by
  have hs1 := hm.start_range.2
  have hmade : Made (machAuto sm) sm.start ⟨m.letters, 0, rs, o.map sm.ends⟩ o := ⟨hf.part, h.letters.symm, h.shaped.letters, rfl, hl, fun row hr => by rw [hrows row hr]; exact h.letters.symm, rfl⟩
  have good : ∀ x ∈ o, ∃ s, m.Live s ∧ s < m.next.length ∧ gi cl s = x := fun x hx => by
    obtain ⟨k, hk⟩ := List.mem_iff_getElem?.1 hx
    obtain ⟨a, b, _⟩ := hf.num k x hk
    obtain ⟨s, e1, e2, e3, _⟩ := h.rep x a (by rw [← h.n]; exact b)
    exact ⟨s, e1, e2, e3⟩
  refine ⟨hmade.canon (fun x hx => ?_) fun x hx y hy e => ?_, rfl, fun u => ?_⟩
  · obtain ⟨s, hs, s1, rfl⟩ := good x hx
    obtain ⟨u, hu⟩ := hs
    exact ⟨u, by rw [machAuto_acc h.shaped, h.acc hm hc u s ⟨u, hu⟩ s1]; exact hu⟩
  · obtain ⟨s, hs, s1, rfl⟩ := good x hx
    obtain ⟨t, ht, t1, rfl⟩ := good y hy
    refine (hc.same s t hs ht s1 t1).2 fun u => ?_
    have := e u
    rw [machAuto_acc h.shaped, machAuto_acc h.shaped, h.acc hm hc u s hs s1, h.acc hm hc u t ht t1] at this
    exact this
  · rw [hmade.acc_start, machAuto_acc h.shaped, h.start, h.acc hm hc u _ hst hs1]

section
variable {w0 w : World} {F : FamF} {i : Nat} {A : Option Addr} {n c : Nat}
/-- a row that is owned is put into a place -/
theorem GII.putRow {g : Nat → Nat} {xss : List (List Int)} {A' : Option Addr} {n' c' k : Nat} {ys : List Int} (h : GII F i g A n c xss) (hr : GSl F k A' n' c' (ints ys)) (hF : Fam w0 w F) {x : Int} (h0 : 0 ≤ x) (h1 : x < xss.length) (hki : k ≠ i)
    (hg : ∀ t, t < xss.length → g t ≠ i ∧ g t ≠ k ∧ (g t = g x.toNat → t = x.toNat)) {K : World → Prop}
    (hk : ∀ F' w', (∀ j, j ≠ i → j ≠ g x.toNat → j ≠ k → F' j = F j) → F' (g x.toNat) = F k → Fam w0 w' F' → GII F' i g A n c (xss.set x.toNat ys) → K w') : IxV A n 1 x fun a => SetK w a (.slice A' n' c') K := by
  have hlt : x.toNat < xss.length := by omega
  obtain ⟨hx1, hx2, _⟩ := hg x.toNat hlt
  obtain ⟨F1, hF1, f1, f2⟩ : ∃ F1 : FamF, Fam w0 w F1 ∧ F1 (g x.toNat) = F k ∧ ∀ j, j ≠ g x.toNat → j ≠ k → F1 j = F j :=
    ⟨_, hF.moves (i := g x.toNat) (k := k) hx2, if_pos rfl, fun j h1 h2 => by show (if j = g x.toNat then F k else if j = k then none else F j) = F j; rw [if_neg h1, if_neg h2]⟩
  have hr1 : GSl F1 (g x.toNat) A' n' c' (ints ys) := hr.at f1
  obtain ⟨hs, h3, h4, h5⟩ := h
  have h3' : GSl F1 i A n c hs := h3.at (f2 i (Ne.symm hx1) (Ne.symm hki))
  refine h3'.set hF1 rfl h0 (by omega) fun F2 w2 ho hF2 hs2 => ?_
  refine hk F2 w2 (fun j j1 j2 j3 => by rw [ho j j1, f2 j j2 j3]) (by rw [ho _ hx1, f1]) hF2 ⟨_, hs2, by simp [h4], fun t hd zs ht hz => ?_⟩
  by_cases e : t = x.toNat
  · subst e
    rw [List.getElem?_set_self (by omega)] at ht hz
    injection ht with ht; injection hz with hz; subst ht hz
    exact ⟨_, _, _, rfl, hr1.keep ho hx1⟩
  · rw [List.getElem?_set_ne (Ne.symm e)] at ht hz
    obtain ⟨A3, n3, c3, e3, h6⟩ := h5 t hd zs ht hz
    have hgt := hg t (List.getElem?_eq_some_iff.1 hz).1
    exact ⟨A3, n3, c3, e3, h6.at (by rw [ho _ hgt.1, f2 _ (fun h => e (hgt.2.2 h)) hgt.2.1])⟩
end
end Go.Proofs.Ytnkpjlhbojjneaa.VC

/- The reference's functions: small machines, machines that are the same, the states that are found. -/
namespace Go.Proofs.Ytnkpjlhbojjneaa.VC
open Go Go.RowKit

/-- not too great for a statement -/
def Mach.Small (m : Mach) : Prop := m.next.length ≤ 30 ∧ m.fin.length ≤ 40 ∧ m.letters ≤ 8
theorem c21 {w : World} {m : Mach} {v : Value} {R : Res} (hm : MachAt w m v) (yes : m.Small → R (.bool true) [] w) (no : ¬ m.Small → R (.bool false) [] w) : CallsI Try.prog 21 [v] w [] R := by
  obtain ⟨_, _, rfl, ⟨A, c, hs, rfl, hA, hl, hx⟩, ⟨B, d, rfl, hB⟩⟩ := hm
  refine s21 _ _ _ _ _ _ _ _ _ _ fun _ => ?_
  unfold Mach.Small at *
  refine condK_dec (fun h1 => condK_dec (fun h2 => ?_) fun h2 => no fun h => by omega) fun h1 => no fun h => by omega
  by_cases h3 : m.letters ≤ 8
  · rw [decide_eq_true h3]; exact yes ⟨by omega, by omega, h3⟩
  · rw [decide_eq_false h3]; exact no fun h => h3 h.2.2

theorem Mach.ext' {a b : Mach} (h1 : a.letters = b.letters) (h2 : a.start = b.start) (h3 : a.next = b.next) (h4 : a.fin = b.fin) : a = b := by
  obtain ⟨a1, a2, a3, a4⟩ := a; obtain ⟨b1, b2, b3, b4⟩ := b
  simp only at h1 h2 h3 h4; subst h1 h2 h3 h4; rfl
set_option maxHeartbeats 2000000 in
theorem c24 {w : World} {a b : Mach} {v u : Value} {R : Res} (ha : MachAt w a v) (hb : MachAt w b u) (la : a.Lim) (yes : a = b → R (.bool true) [] w) (no : a ≠ b → R (.bool false) [] w) : CallsI Try.prog 24 [v, u] w [] R := by
  obtain ⟨_, _, rfl, ⟨A, c, hs, rfl, hA, hAl, hAx⟩, ⟨B, d, rfl, hB⟩⟩ := ha
  obtain ⟨_, _, rfl, ⟨A', c', hs', rfl, hA', hAl', hAx'⟩, ⟨B', d', rfl, hB'⟩⟩ := hb
  have hn1 := la.next; have hf1 := la.fin
  have hE : Ext w w := Ext.rfl'
  refine s24 _ _ _ _ _ _ _ _ _ _ _ _ _ _ _ _ _ _ fun _ _ => ?_
  refine condK_bne (fun h => no fun e => h (by rw [e])) fun e1 => ?_
  refine condK_bne (fun h => no fun e => h (by rw [e])) fun e2 => ?_
  refine condK_bne (fun h => no fun e => h (by rw [e])) fun e3 => ?_
  refine condK_bne (fun h => no fun e => h (by rw [e])) fun e4 => ?_
  refine ⟨fun x4 => ⟨fun w5 => w5 = w ∧ 0 ≤ x4 ∧ x4 ≤ a.next.length ∧ ∀ k : Nat, (k : Int) < x4 → a.next[k]? = b.next[k]?, fun _ => (a.next.length - x4).toNat⟩, ⟨rfl, by omega, by omega, fun k h => by omega⟩, ?_⟩
  rintro x4 w5 ⟨rfl, h40, h41, hsame⟩ n6 rfl
  refine condK_dec (fun hlt => ?_) fun hge => ?_
  · refine rd_row hE hA hAl hAx h40 hlt fun A8 c8 r1 hr1 hrow1 => ?_
    refine rd_row hE hA' hAl' hAx' h40 (by omega) fun A12 c12 r2 hr2 hrow2 => ?_
    have hrl := la.rows r1 (List.mem_of_getElem? hr1)
    refine condK_bne (fun h => no fun e => h (by subst e; rw [hr1] at hr2; injection hr2 with hr2; subst hr2; rfl)) fun e5 => ?_
    refine ⟨fun x16 => ⟨fun w17 => w17 = w5 ∧ 0 ≤ x16 ∧ x16 ≤ r1.length ∧ ∀ k : Nat, (k : Int) < x16 → r1[k]? = r2[k]?, fun _ => (r1.length - x16).toNat⟩, ⟨rfl, by omega, by omega, fun k h => by omega⟩, ?_⟩
    rintro x16 w17 ⟨rfl, h160, h161, hsame2⟩ n18 rfl
    refine rd_row hE hA hAl hAx h40 hlt fun A20 c20 r hr hrow => ?_
    rw [hr1] at hr; injection hr with hr; subst hr
    refine condK_dec (fun hlt2 => ?_) fun hge2 => ?_
    · refine rd_row hE hA hAl hAx h40 hlt fun A24 c24 r hr hrow24 => ?_
      rw [hr1] at hr; injection hr with hr; subst hr
      refine rd_int hE hrow24 h160 hlt2 (K := fun x28 => IxV _ _ _ _ _) ?_
      refine rd_row hE hA' hAl' hAx' h40 (by omega) fun A30 c30 r hr hrow30 => ?_
      rw [hr2] at hr; injection hr with hr; subst hr
      refine rd_int hE hrow30 h160 (by omega) (K := fun x34 => condK _ _ _) ?_
      refine condK_bne (fun h => no fun e => h (by subst e; rw [hr1] at hr2; injection hr2 with hr2; subst hr2; rfl)) fun e6 => ?_
      rw [J24_1, wrap_id (by omega) (by omega)]
      refine ⟨⟨rfl, by omega, by omega, fun k hk => ?_⟩, by simp only []; omega⟩
      by_cases e : (k : Int) = x16
      · have g1 := get_gi (l := r1) h160 hlt2
        have g2 := get_gi (l := r2) (i := x16) h160 (by omega)
        have : x16.toNat = k := by omega
        rw [this] at g1 g2; rw [g1, g2, e6]
      · exact hsame2 k (by omega)
    · rw [J24_1, wrap_id (by omega) (by omega)]
      refine ⟨⟨rfl, by omega, by omega, fun k hk => ?_⟩, by simp only []; omega⟩
      by_cases e : (k : Int) = x4
      · have : x4.toNat = k := by omega
        rw [← this, hr1, hr2]
        congr 1
        apply List.ext_getElem? ; intro j
        by_cases hj : j < r1.length
        · exact hsame2 j (by omega)
        · rw [List.getElem?_eq_none (by omega), List.getElem?_eq_none (by omega)]
      · exact hsame k (by omega)
  · have e5 : a.next = b.next := by
      apply List.ext_getElem? ; intro j
      by_cases hj : j < a.next.length
      · exact hsame j (by omega)
      · rw [List.getElem?_eq_none (by omega), List.getElem?_eq_none (by omega)]
    refine ⟨fun x36 => ⟨fun w37 => w37 = w5 ∧ 0 ≤ x36 ∧ x36 ≤ a.fin.length ∧ ∀ k : Nat, (k : Int) < x36 → a.fin[k]? = b.fin[k]?, fun _ => (a.fin.length - x36).toNat⟩, ⟨rfl, by omega, by omega, fun k h => by omega⟩, ?_⟩
    rintro x36 w37 ⟨rfl, h360, h361, hsame2⟩ n38 rfl
    refine condK_dec (fun hlt2 => ?_) fun hge2 => ?_
    · refine rd_bool hE hB h360 hlt2 (K := fun t40 => IxV _ _ _ _ _) ?_
      refine rd_bool hE hB' h360 (by omega) (K := fun t42 => condK _ _ _) ?_
      refine condK_of (fun h => no fun e => by subst e; simp at h) fun e6 => ?_
      rw [J24_1, wrap_id (by omega) (by omega)]
      refine ⟨⟨rfl, by omega, by omega, fun k hk => ?_⟩, by simp only []; omega⟩
      by_cases e : (k : Int) = x36
      · have g1 := get_gb (l := a.fin) h360 hlt2
        have g2 := get_gb (l := b.fin) (i := x36) h360 (by omega)
        have : x36.toNat = k := by omega
        have e7 : gb a.fin x36 = gb b.fin x36 := by simpa using e6
        rw [this] at g1 g2; rw [g1, g2, e7]
      · exact hsame2 k (by omega)
    · refine yes (Mach.ext' e1 e2 e5 ?_)
      apply List.ext_getElem? ; intro j
      by_cases hj : j < a.fin.length
      · exact hsame2 j (by omega)
      · rw [List.getElem?_eq_none (by omega), List.getElem?_eq_none (by omega)]

set_option maxHeartbeats 2000000 in
theorem c82 {w : World} {m : Mach} {v : Value} {R : Res} (hm : MachAt w m v) (hsh : m.Shaped) (hN : m.next.length ≤ 1048576) (hL : m.letters ≤ 1048576) (hst : 0 ≤ m.start)
    (hR : ∀ w' ov pv o p rs, Ext w w' → SlI w' ov o → SlI w' pv p → Fnd m o p rs → rs.length = o.length → (∀ row ∈ rs, (row.length : Int) = m.letters) → R (.tuple (Array.mk [ov, pv])) [] w') : CallsI Try.prog 82 [v] w [] R := by
  obtain ⟨_, _, rfl, ⟨A, c, hs, rfl, hA, hl, hx⟩, ⟨B, d, rfl, hB⟩⟩ := hm
  have hst1 := hsh.start_range.2
  have hL0 := hsh.letters
  refine s82 _ _ _ _ _ _ _ _ _ _ fun _ => ⟨rfl, by omega, by omega, by omega, ?_⟩
  refine (Fam.empty w).mkInts 0 (x := 0) fun n2 F w3 hE3 ho3 hF3 hs3 => ?_
  refine ⟨fun x5 => ⟨fun w6 => ∃ F p, Fam w w6 F ∧ GSl F 0 (some ⟨n2, 0, none⟩) m.next.length m.next.length (ints p) ∧ p.length = m.next.length ∧ 0 ≤ x5 ∧ x5 ≤ m.next.length ∧ ∀ s : Int, 0 ≤ s → s < x5 → gi p s = -1, fun _ => (m.next.length - x5).toNat⟩,
    ⟨F, _, hF3, hs3, by simp, by omega, by omega, fun s h0 h1 => by omega⟩, ?_⟩
  clear hF3 hs3 ho3 hE3 F w3
  rintro x5 w6 ⟨F, p, hF, hG, hpl, h50, h51, hp⟩ n7 rfl
  refine condK_dec (fun hlt => ?_) fun hge => ?_
  · refine hG.set_int hF h50 (by omega) fun F' w9 ho hF' hG' => ?_
    rw [wrap_id (by omega) (by omega)]
    refine ⟨⟨F', _, hF', hG', by rw [List.length_set]; exact hpl, by omega, by omega, fun s s0 s1 => ?_⟩, by simp only []; omega⟩
    rw [gi_set h50 (by omega) s0]
    split
    · rfl
    · exact hp s s0 (by omega)
  · refine hF.mkRow 1 (xs := []) fun n10 F1 w11 ho1 hF1 hs1 => ?_
    replace hs1 : GSl F1 1 (some ⟨n10, 0, none⟩) 0 0 (ints []) := hs1
    refine condK_dec (fun h => by omega) fun _ => ?_
    refine hs1.push_int hF1 (by omega) fun F2 A14 c16 w17 ho2 hF2 hs2 => ?_
    refine GSl.set_int ((hG.keep ho1 (by decide)).keep ho2 (by decide)) hF2 hst (by omega) fun F3 w19 ho3 hF3 hG3 => ?_
    have hfnd : Fnd m [m.start] (p.set m.start.toNat 0) [] := Fnd.init hpl (fun s s0 s1 => hp s s0 (by omega)) hst hst1
    refine ⟨fun x21 A22 n23 n24 => ⟨fun w25 => ∃ F o p rs, Fam w w25 F ∧ GSl F 0 (some ⟨n2, 0, none⟩) m.next.length m.next.length (ints p) ∧ GSl F 1 A22 n23 n24 (ints o) ∧ Fnd m o p rs ∧ (rs.length : Int) = x21 ∧ x21 ≤ o.length ∧ (∀ row ∈ rs, (row.length : Int) = m.letters),
        fun _ => (m.next.length - x21).toNat⟩,
      ⟨F3, [m.start], _, [], hF3, hG3, by simpa using hs2.keep ho3 (by decide), hfnd, rfl, by omega, by simp⟩, ?_⟩
    clear hF hG hF1 ho1 hs1 hF2 ho2 hs2 hF3 ho3 hG3 hfnd hp hpl p F F1 F2 F3 w6 w11 w17 w19
    rintro x21 A22 n23 n24 w25 ⟨F, o, p, rs, hF, hG0, hG1, hfnd, hrl, h211, hrows⟩ n26 rfl
    have hol := hG1.len; rw [ints_len] at hol; subst hol
    have hcnt := hfnd.count
    refine condK_dec (fun hlt => ?_) fun hge => hR w25 _ _ o p rs hF.base (hG1.sli hF) (hG0.sli hF) hfnd (by omega) hrows
    obtain ⟨q, hq⟩ : ∃ q, o[rs.length]? = some q := ⟨_, List.getElem?_eq_getElem (by omega)⟩
    have hqi : 0 ≤ q ∧ q < m.next.length := ⟨(hfnd.num _ _ hq).1, (hfnd.num _ _ hq).2.1⟩
    have hqg : gi o x21 = q := gi_get (by rw [← hrl, Int.toNat_natCast]; exact hq)
    refine ⟨fun x28 A29 n30 n31 => ⟨fun w32 => ∃ F o' p cur, Fam w w32 F ∧ GSl F 0 (some ⟨n2, 0, none⟩) m.next.length m.next.length (ints p) ∧ GSl F 1 A29 n30 n31 (ints o') ∧ Fnd m o' p (rs ++ [cur]) ∧ (cur.length : Int) = x28 ∧ x28 ≤ m.letters ∧ o'[rs.length]? = some q, fun _ => (m.letters - x28).toNat⟩,
      ⟨F, o, p, [], hF, hG0, hG1, Fnd.empty.2 hfnd, rfl, hL0, hq⟩, ?_⟩
    clear hF hG0 hG1 hfnd F p hlt hqg h211 hcnt hq
    rintro x28 A29 n30 n31 w32 ⟨F, o', p, cur, hF, hG0, hG1, hfnd, hcl, h281, hq⟩ n33 rfl
    have hol := hG1.len; rw [ints_len] at hol; subst hol
    have hcnt := hfnd.count
    have hol2 := (List.getElem?_eq_some_iff.1 hq).1
    have hqg : gi o' x21 = q := gi_get (by rw [← hrl, Int.toNat_natCast]; exact hq)
    refine condK_dec (fun hlt2 => ?_) fun hge2 => ?_
    · have hlet : m.Let x28 := ⟨by omega, hlt2⟩
      have hsr := hsh.step_range q x28
      have next : ∀ (F5 : FamF) (w5 : World) (o5 p5 : List Int) (t : Int) (A5 : Option Addr) (n5 c5 : Nat), Fam w w5 F5 → GSl F5 0 (some ⟨n2, 0, none⟩) m.next.length m.next.length (ints p5) → GSl F5 1 A5 n5 c5 (ints o5) → Fnd m o5 p5 (rs ++ [cur ++ [t]]) → o5[rs.length]? = some q →
          J82_4 (fun x28 A29 n30 n31 => ⟨fun w32 => ∃ F o' p cur, Fam w w32 F ∧ GSl F 0 (some ⟨n2, 0, none⟩) m.next.length m.next.length (ints p) ∧ GSl F 1 A29 n30 n31 (ints o') ∧ Fnd m o' p (rs ++ [cur]) ∧ (cur.length : Int) = x28 ∧ x28 ≤ m.letters ∧ o'[rs.length]? = some q, fun _ => (m.letters - x28).toNat⟩) x28 A5 n5 c5 w5 (m.letters - x28).toNat := by
        intro F5 w5 o5 p5 t A5 n5 c5 hF5 h0 h1 h2 h3
        rw [J82_4, wrap_id (by omega) (by omega)]
        exact ⟨⟨F5, o5, p5, _, hF5, h0, h1, h2, by simp; omega, by omega, h3⟩, by simp only []; omega⟩
      refine hG1.get_int hF (by omega) (by omega) (K := fun x35 => IxV _ _ _ x35 _) ?_
      rw [hqg]
      refine rd_step hF.base hA hl hx hsh hqi.1 hqi.2 hlet (K := fun x41 => condK (decide (x41 ≥ 0)) _ _) ?_
      refine condK_dec (fun hp => ?_) fun hn => next F w32 o' p (-1) A29 _ n31 hF hG0 hG1 (hfnd.none hq (by rw [hcl]; omega)) hq
      refine hG0.get_int hF hp (by rw [hfnd.plen]; omega) (K := fun x43 => condK (decide (x43 < 0)) _ _) ?_
      refine condK_dec (fun hneg => ?_) fun hpos => next F w32 o' p _ A29 _ n31 hF hG0 hG1 (hfnd.old hq (by rw [hcl]; exact hp) (by rw [hcl]; exact hsr.2) (by rw [hcl]; exact hpos)) hq
      refine hG0.set_int hF hp (by rw [hfnd.plen]; omega) fun F4 w45 ho4 hF4 hG4 => ?_
      refine GSl.push_int (hG1.keep ho4 (by decide)) hF4 (by omega) fun F5 A48 c50 w51 ho5 hF5 hG5 => ?_
      exact next F5 w51 _ _ _ A48 _ c50 hF5 (hG4.keep ho5 (by decide)) hG5 (hfnd.fresh hq (by omega) (by rw [hcl]) hp hsr.2 hneg) (by rw [List.getElem?_append_left hol2]; exact hq)
    · rw [J82_4, wrap_id (by omega) (by omega)]
      refine ⟨⟨F, o', p, rs ++ [cur], hF, hG0, hG1, hfnd, by simp; omega, by omega, fun row hr => ?_⟩, by simp only []; omega⟩
      rcases List.mem_append.1 hr with hr | hr
      · exact hrows row hr
      · rw [List.mem_singleton] at hr; subst hr; omega
end Go.Proofs.Ytnkpjlhbojjneaa.VC

/- The reference's least machine. -/
namespace Go.Proofs.Ytnkpjlhbojjneaa.VC
open Go Go.RowKit

def gS (t : Nat) : Nat := 2000000 + t
def RowOf (m : Mach) (cl : List Int) (s : Int) (row : List Int) : Prop := (row.length : Int) = m.letters ∧ ∀ x, m.Let x → gi row x = cv cl (m.step s x)
/-- the machine of the classes, as far as the state x -/
structure SmB (m : Mach) (cl : List Int) (K x : Int) (F : FamF) (n4 n5 : Nat) (nx : List (List Int)) (fn : List Bool) : Prop where
  rows : GII F 4 gS (some ⟨n4, 0, none⟩) K.toNat K.toNat nx
  fins : GSl F 5 (some ⟨n5, 0, none⟩) K.toNat K.toNat (bools fn)
  cls : ∀ c, 0 ≤ c → c < K → (∃ s, m.Live s ∧ s < x ∧ gi cl s = c ∧ (F (gS c.toNat)).isSome = true ∧ RowOf m cl s (gl nx c) ∧ gb fn c = m.ends s) ∨ ((∀ s, 0 ≤ s → s < x → gi cl s ≠ c) ∧ F (gS c.toNat) = none)
theorem SmB.lens {m : Mach} {cl : List Int} {K x : Int} {F : FamF} {n4 n5 : Nat} {nx : List (List Int)} {fn : List Bool} (h : SmB m cl K x F n4 n5 nx fn) : nx.length = K.toNat ∧ fn.length = K.toNat := by
  have := h.rows.len; have h2 := h.fins.len; rw [bools_len] at h2; omega
theorem SmB.skip {m : Mach} {cl : List Int} {K x : Int} {F : FamF} {n4 n5 : Nat} {nx : List (List Int)} {fn : List Bool} (h : SmB m cl K x F n4 n5 nx fn) (hd : gi cl x < 0 ∨ (F (gS (gi cl x).toNat)).isSome = true) : SmB m cl K (x + 1) F n4 n5 nx fn := by
  refine ⟨h.rows, h.fins, fun c c0 c1 => ?_⟩
  rcases h.cls c c0 c1 with ⟨s, a1, a2, a3⟩ | ⟨b1, b2⟩
  · exact .inl ⟨s, a1, by omega, a3⟩
  · refine .inr ⟨fun s s0 s1 e => ?_, b2⟩
    by_cases e2 : s = x
    · subst e2
      rcases hd with hd | hd
      · omega
      · rw [e, b2] at hd; cases hd
    · exact b1 s s0 (by omega) e
theorem SmB.put {m : Mach} {cl : List Int} {K x : Int} {F F' : FamF} {n4 n5 : Nat} {nx : List (List Int)} {fn : List Bool} {row : List Int} (h : SmB m cl K x F n4 n5 nx fn) (hl : m.Live x) (h0 : 0 ≤ gi cl x) (h1 : gi cl x < K)
    (hrow : RowOf m cl x row) (hr : GII F' 4 gS (some ⟨n4, 0, none⟩) K.toNat K.toNat (nx.set (gi cl x).toNat row)) (hf : GSl F' 5 (some ⟨n5, 0, none⟩) K.toNat K.toNat (bools (fn.set (gi cl x).toNat (m.ends x)))) (hF : ∀ t, t ≠ (gi cl x).toNat → F' (gS t) = F (gS t)) (hs : (F' (gS (gi cl x).toNat)).isSome = true) :
    SmB m cl K (x + 1) F' n4 n5 (nx.set (gi cl x).toNat row) (fn.set (gi cl x).toNat (m.ends x)) := by
  have hlens := h.lens
  refine ⟨hr, hf, fun c c0 c1 => ?_⟩
  by_cases e : c = gi cl x
  · subst e
    exact .inl ⟨x, hl, by omega, rfl, hs, by rw [gl_set h0 (by omega) h0, if_pos rfl]; exact hrow, by rw [gb_set h0 (by omega) h0, if_pos rfl]⟩
  · have hne : c.toNat ≠ (gi cl x).toNat := by omega
    rw [gl_set h0 (by omega) c0, if_neg e, gb_set h0 (by omega) c0, if_neg e, hF _ hne]
    rcases h.cls c c0 c1 with ⟨s, a1, a2, a3⟩ | ⟨b1, b2⟩
    · exact .inl ⟨s, a1, by omega, a3⟩
    · refine .inr ⟨fun s s0 s1 e3 => ?_, b2⟩
      by_cases e2 : s = x
      · subst e2; exact e e3.symm
      · exact b1 s s0 (by omega) e3
theorem SmB.small {m : Mach} {cl : List Int} {K : Int} {F : FamF} {n4 n5 : Nat} {nx : List (List Int)} {fn : List Bool} (h : SmB m cl K m.next.length F n4 n5 nx fn) (hm : m.Shaped) (hc : ClsDone m cl K) (hst : m.Live m.start) : SmallOf m cl K ⟨m.letters, gi cl m.start, nx, fn⟩ := by
  have hlens := h.lens
  have hs0 := Mach.live_nonneg hst
  have hs1 := hm.start_range.2
  have hcs := hc.live _ hs0 hs1 hst
  have all : ∀ c, 0 ≤ c → c < K → ∃ s, m.Live s ∧ s < m.next.length ∧ gi cl s = c ∧ RowOf m cl s (gl nx c) ∧ gb fn c = m.ends s := fun c c0 c1 => by
    rcases h.cls c c0 c1 with ⟨s, a1, a2, a3, _, a4, a5⟩ | ⟨b1, b2⟩
    · exact ⟨s, a1, a2, a3, a4, a5⟩
    · obtain ⟨s, s0, s1, e⟩ := hc.full c c0 c1
      exact absurd e (b1 s s0 s1)
  have hcv : ∀ t : Int, t < m.next.length → -1 ≤ cv cl t ∧ cv cl t < K := fun t t1 => by
    unfold cv; split
    · omega
    · by_cases hl : m.Live t
      · have := hc.live t (by omega) t1 hl; omega
      · rw [hc.dead t (by omega) t1 hl]; omega
  refine ⟨⟨hm.letters, by simp only []; omega, fun row hr => ?_, fun e => ?_, fun _ => ?_⟩, rfl, rfl, by simp only []; omega, fun c c0 c1 => ?_⟩
  · obtain ⟨k, hk⟩ := List.mem_iff_getElem?.1 hr
    have hk1 := (List.getElem?_eq_some_iff.1 hk).1
    simp only [] at hk1
    obtain ⟨s, a1, a2, a3, ⟨r1, r2⟩, _⟩ := all k (by omega) (by omega)
    have hg : gl nx k = row := gl_get (by simpa using hk)
    rw [hg] at r1 r2
    refine ⟨r1, fun t ht => ?_⟩
    obtain ⟨j, hj⟩ := List.mem_iff_getElem?.1 ht
    have hj1 := (List.getElem?_eq_some_iff.1 hj).1
    have e := r2 j ⟨by omega, by omega⟩
    rw [gi_get (by simpa using hj)] at e
    have := hcv (m.step s j) (hm.step_range s j).2
    simp only []; omega
  · simp only [] at e; omega
  · simp only []; omega
  · obtain ⟨s, a1, a2, a3, ⟨r1, r2⟩, a5⟩ := all c c0 c1
    refine ⟨s, a1, a2, a3, fun x hx => ?_, ?_⟩
    · rw [← r2 x hx]
      unfold Mach.Let at hx
      exact Mach.step_in (row := gl nx c) (get_gl (l := nx) c0 (by omega)) c0 hx.1 (get_gi (l := gl nx c) hx.1 (by omega))
    · unfold Mach.ends; rw [decide_eq_true c0, Bool.true_and]; exact a5

section
variable {w w' : World} {A B : Option Addr}
theorem rdn_int {n : Nat} {xs : List Int} (hn : n = xs.length) (hE : Ext w w') (h : Row w A (ints xs)) {i : Int} (h0 : 0 ≤ i) (hi : i < xs.length) {K : Int → Prop} (hk : K (gi xs i)) :
    IxV A n 1 i fun a => ∃ x, w'.cell? a = some (.int .i64 x) ∧ K x := by subst hn; exact rd_int hE h h0 hi hk
theorem rdn_step {n : Nat} {hs : List Value} {m : Mach} (hn : n = m.next.length) (hE : Ext w w') (h : Row w A hs) (hl : hs.length = m.next.length) (hx : ∀ (i : Nat) h xs, hs[i]? = some h → m.next[i]? = some xs → SlI w h xs) (hm : m.Shaped)
    {q x : Int} (h0 : 0 ≤ q) (h1 : q < m.next.length) (hlet : m.Let x) {K : Int → Prop} (hk : K (m.step q x)) :
    IxV A n 1 q fun a => ∃ (A' : Option Addr) (n c : Nat), w'.cell? a = some (.slice A' n c) ∧ IxV A' n 1 x fun a => ∃ x', w'.cell? a = some (.int .i64 x') ∧ K x' := by subst hn; exact rd_step hE h hl hx hm h0 h1 hlet hk
theorem rdn_end {n : Nat} {m : Mach} (hn : n = m.fin.length) (hE : Ext w w') (h : Row w A (bools m.fin)) {q : Int} (h0 : 0 ≤ q) (h1 : q < m.fin.length) {K : Bool → Prop} (hk : K (m.ends q)) :
    IxV A n 1 q fun a => ∃ t, w'.cell? a = some (.bool t) ∧ K t := by subst hn; exact rd_end hE h h0 h1 hk
end
theorem take_snoc {α : Type} {l : List α} {x : Int} {a : α} (h0 : 0 ≤ x) (h : l[x.toNat]? = some a) : l.take (x + 1).toNat = l.take x.toNat ++ [a] := by
  have e : (x + 1).toNat = x.toNat + 1 := by omega
  rw [e, List.take_add_one, h]; rfl

set_option maxHeartbeats 8000000 in
theorem c53 {w : World} {m : Mach} {v : Value} {R : Res} (hm : MachAt w m v) (hsh : m.Shaped) (hN : m.next.length ≤ 1048576) (hL : m.letters ≤ 1048576)
    (hR : ∀ w' mm v', MachNew w w' mm v' → IsLeast m mm → mm.next.length ≤ m.next.length → R v' [] w') : CallsI Try.prog 53 [v] w [] R := by
  have hm0 := hm
  obtain ⟨_, _, rfl, ⟨A, c, hs, rfl, hA, hl, hx⟩, ⟨B, d, rfl, hB⟩⟩ := hm
  have hst := hsh.start_range
  have hL0 := hsh.letters
  have hfin := hsh.fin
  refine s53 _ _ _ _ _ _ _ _ _ _ fun _ _ => ?_
  refine c80 hm0 hsh hN hL fun w5 cv' cl K hE5 hcl hdone => ?_
  obtain ⟨A6, c6, rfl, hC⟩ := hcl
  have hcl := hdone.len; have hK := hdone.count
  have dead : (∀ u, m.acc m.start u = false) → J53_4 m.letters w5 R := fun hd =>
    c81 ⟨_, _, _, _, _, _, _, _, rfl, rfl, hR w5 (noneM m.letters) _ (noneM_new hE5 _) ⟨noneM_canon hL0, rfl, fun u => by rw [hd, noneM_acc]⟩ (by simp [noneM])⟩
  refine ⟨_, _, _, rfl, rfl, ?_⟩
  refine condK_dec (fun hneg => dead fun u => Mach.acc_neg hneg u) fun hpos => ?_
  refine rd_int Ext.rfl' hC (by omega) (by omega) (K := fun x21 => condK (decide (x21 < 0)) _ _) ?_
  refine condK_dec (fun hneg => dead fun u => ?_) fun hcpos => ?_
  · cases e : m.acc m.start u with
    | false => rfl
    | true => have := (hdone.live m.start (by omega) hst.2 ⟨u, e⟩).1; omega
  have hlive : m.Live m.start := Classical.byContradiction fun hh => by have := hdone.dead m.start (by omega) hst.2 hh; omega
  have hKs := hdone.live m.start (by omega) hst.2 hlive
  have hrng : ∀ s : Int, 0 ≤ s → s < m.next.length → -1 ≤ gi cl s ∧ gi cl s < K := fun s s0 s1 => by
    by_cases hl : m.Live s
    · have := hdone.live s s0 s1 hl; omega
    · rw [hdone.dead s s0 s1 hl]; omega
  have hlv : ∀ s : Int, 0 ≤ s → s < m.next.length → 0 ≤ gi cl s → m.Live s := fun s s0 s1 h => Classical.byContradiction fun hh => by have := hdone.dead s s0 s1 hh; omega
  refine ⟨fun x34 x35 => ⟨fun w36 => w36 = w5 ∧ 0 ≤ x34 ∧ x34 ≤ m.next.length ∧ 0 ≤ x35 ∧ x35 ≤ K ∧ ∀ s, 0 ≤ s → s < x34 → gi cl s + 1 ≤ x35, fun _ => (m.next.length - x34).toNat⟩, ⟨rfl, by omega, by omega, by omega, by omega, fun s h0 h1 => by omega⟩, ?_⟩
  rintro x34 x35 w36 ⟨rfl, h340, h341, h350, h351, hmax⟩ n37 rfl
  refine condK_dec (fun hlt => ?_) fun hge => ?_
  · refine rd_int Ext.rfl' hC h340 hlt (K := fun x39 => Lp.inv _ _ ∧ Lp.m _ _ < _) ?_
    have hr := hrng x34 h340 (by omega)
    rw [wrap_id (x := gi cl x34 + 1) (by omega) (by omega), wrap_id (by omega) (by omega)]
    refine ⟨⟨rfl, by omega, by omega, ?_, ?_, fun s s0 s1 => ?_⟩, by simp only []; omega⟩
    · split <;> omega
    · split <;> omega
    · by_cases e : s = x34
      · subst e; split <;> omega
      · have := hmax s s0 (by omega); split <;> omega
  have eK : x35 = K := by
    obtain ⟨s, s0, s1, e⟩ := hdone.full (K - 1) (by omega) (by omega)
    have := hmax s s0 (by omega); omega
  subst eK
  clear hmax h340 h341 hge
  refine ix_int hC (by omega) (by omega) fun a40 x41 hx41 hc40 => ⟨x41, hc40, ?_⟩
  have e41 : gi cl m.start = x41 := gi_get hx41
  subst e41
  -- all behind the six orders
  have main : ∀ (w : World) (F : FamF) (n42 n44 : Nat), Fam w36 w F → SmB m cl x35 0 F n42 n44 (List.replicate x35.toNat []) (List.replicate x35.toNat false) → ∃ I47, J53_48 I47 w cl.length A6 n42 x35 m.letters A m.next.length B m.fin.length n44 (gi cl m.start) R := by
    intro w45 F n42 n44 hF hsm
    refine ⟨fun x48 => ⟨fun w49 => ∃ F nx fn, Fam w36 w49 F ∧ SmB m cl x35 x48 F n42 n44 nx fn ∧ 0 ≤ x48 ∧ x48 ≤ m.next.length, fun _ => (m.next.length - x48).toNat⟩, ⟨F, _, _, hF, hsm, by omega, by omega⟩, ?_⟩
    clear hF hsm F
    rintro x48 w49 ⟨F, nx, fn, hF, hsm, h480, h481⟩ n50 rfl
    have hlens := hsm.lens
    refine condK_dec (fun hlt => ?_) fun hge => ?_
    · have hr := hrng x48 h480 (by omega)
      refine rd_int hF.base hC h480 hlt (K := fun x52 => condK (decide (x52 < 0)) _ _) ?_
      have skip : (gi cl x48 < 0 ∨ (F (gS (gi cl x48).toNat)).isSome = true) → J53_7 (fun x48 => ⟨fun w49 => ∃ F nx fn, Fam w36 w49 F ∧ SmB m cl x35 x48 F n42 n44 nx fn ∧ 0 ≤ x48 ∧ x48 ≤ m.next.length, fun _ => (m.next.length - x48).toNat⟩) x48 w49 (m.next.length - x48).toNat := fun h => by
        rw [J53_7, wrap_id (by omega) (by omega)]
        exact ⟨⟨F, nx, fn, hF, hsm.skip h, by omega, by omega⟩, by simp only []; omega⟩
      refine condK_dec (fun hneg => skip (.inl hneg)) fun hp => ?_
      have hlx := hlv x48 h480 (by omega) (by omega)
      refine hsm.rows.get hF (by omega) (by omega) (K := fun A54 _ _ => condK (!A54.isNone) _ _) fun A54 n55 n56 hrow => ?_
      cases hFs : F (gS (gi cl x48).toNat) with
      | some bc =>
        have : A54.isNone = false := by
          rcases hrow with ⟨h, _⟩ | ⟨b, rest, _, rfl, _⟩
          · rw [hFs] at h; cases h
          · rfl
        rw [this]
        exact skip (.inr (by rw [hFs]; rfl))
      | none =>
        have : A54.isNone = true := by
          rcases hrow with ⟨_, rfl, _⟩ | ⟨b, rest, h, _⟩
          · rfl
          · rw [hFs] at h; cases h
        rw [this]
        refine condK_of (fun h => by cases h) fun _ => ?_
        refine ⟨rfl, hL0, by omega, by omega, ?_⟩
        refine hF.mkInts 6 (x := 0) fun n57 F1 w58 hE58 ho1 hF1 hs1 => ?_
        have hk1 : SmB m cl x35 x48 F1 n42 n44 nx fn := ⟨hsm.rows.keep ho1 (by decide) (fun t _ => by unfold gS; omega), hsm.fins.keep ho1 (by decide), fun c c0 c1 => by rw [ho1 _ (by unfold gS; omega)]; exact hsm.cls c c0 c1⟩
        refine ⟨fun x60 => ⟨fun w61 => ∃ F row, Fam w36 w61 F ∧ SmB m cl x35 x48 F n42 n44 nx fn ∧ GSl F 6 (some ⟨n57, 0, none⟩) m.letters.toNat m.letters.toNat (ints row) ∧ row.length = m.letters.toNat ∧ 0 ≤ x60 ∧ x60 ≤ m.letters ∧ ∀ y, 0 ≤ y → y < x60 → gi row y = cv cl (m.step x48 y), fun _ => (m.letters - x60).toNat⟩,
          ⟨F1, _, hF1, hk1, hs1, by simp, by omega, hL0, fun y h0 h1 => by omega⟩, ?_⟩
        clear hF1 hk1 hs1 ho1 hE58 F1 hFs hrow hsm hF skip F
        rintro x60 w61 ⟨F, row, hF, hsm, hG, hrl, h600, h601, hrow⟩ n62 rfl
        refine condK_dec (fun hlt2 => ?_) fun hge2 => ?_
        · have hlet : m.Let x60 := ⟨h600, hlt2⟩
          have hsr := hsh.step_range x48 x60
          refine hG.set_int hF h600 (by omega) fun F2 w64 ho2 hF2 hG2 => ?_
          have next : ∀ (F5 : FamF) (w5 : World) (z : Int), (∀ j, j ≠ 6 → F5 j = F j) → Fam w36 w5 F5 → GSl F5 6 (some ⟨n57, 0, none⟩) m.letters.toNat m.letters.toNat (ints (row.set x60.toNat z)) → z = cv cl (m.step x48 x60) →
              J53_7 (fun x60 => ⟨fun w61 => ∃ F row, Fam w36 w61 F ∧ SmB m cl x35 x48 F n42 n44 nx fn ∧ GSl F 6 (some ⟨n57, 0, none⟩) m.letters.toNat m.letters.toNat (ints row) ∧ row.length = m.letters.toNat ∧ 0 ≤ x60 ∧ x60 ≤ m.letters ∧ ∀ y, 0 ≤ y → y < x60 → gi row y = cv cl (m.step x48 y), fun _ => (m.letters - x60).toNat⟩) x60 w5 (m.letters - x60).toNat := by
            intro F5 w5 z ho5 hF5 hG5 hz
            rw [J53_7, wrap_id (by omega) (by omega)]
            have hsm5 : SmB m cl x35 x48 F5 n42 n44 nx fn := ⟨hsm.rows.same (ho5 4 (by decide)) (fun t _ => ho5 _ (by unfold gS; omega)), hsm.fins.same (ho5 5 (by decide)), fun c c0 c1 => by rw [ho5 _ (by unfold gS; omega)]; exact hsm.cls c c0 c1⟩
            refine ⟨⟨F5, _, hF5, hsm5, hG5, by rw [List.length_set]; exact hrl, by omega, by omega, fun y y0 y1 => ?_⟩, by simp only []; omega⟩
            rw [gi_set h600 (by omega) y0]
            split
            · rename_i e; subst e; exact hz
            · exact hrow y y0 (by omega)
          have hE64 : Ext w w64 := hE5.trans' hF2.base
          refine rd_step hE64 hA hl hx hsh h480 (by omega) hlet (K := fun x70 => condK (decide (x70 ≥ 0)) _ _) ?_
          refine condK_dec (fun hp2 => ?_) fun hn2 => next F2 w64 (-1) ho2 hF2 hG2 (by unfold cv; rw [if_pos (by omega)])
          refine rd_step hE64 hA hl hx hsh h480 (by omega) hlet (K := fun x76 => IxV _ _ _ x76 _) ?_
          refine rd_int hF2.base hC hp2 (by omega) (K := fun x78 => IxV _ _ _ _ _) ?_
          refine hG2.set_int hF2 h600 (by rw [List.length_set]; omega) fun F3 w80 ho3 hF3 hG3 => ?_
          rw [List.set_set] at hG3
          exact next F3 w80 _ (fun j hj => by rw [ho3 j hj, ho2 j hj]) hF3 hG3 (by unfold cv; rw [if_neg (by omega)])
        · have hlens := hsm.lens
          refine hsm.rows.putRow hG hF (by omega) (by omega) (by decide) (fun t _ => ⟨by unfold gS; omega, by unfold gS; omega, fun h => by unfold gS at h; omega⟩) fun F2 w82 ho2 hg2 hF2 hG2 => ?_
          have hE82 : Ext w w82 := hE5.trans' hF2.base
          refine rd_end hE82 hB h480 (by omega) (K := fun t84 => IxV _ _ _ _ _) ?_
          refine GSl.set_bool (hsm.fins.same (ho2 5 (by decide) (by unfold gS; omega) (by decide))) hF2 (by omega) (by omega) fun F3 w86 ho3 hF3 hG3 => ?_
          rw [J53_7, wrap_id (by omega) (by omega)]
          have h6 : (F 6).isSome = true := by
            rcases hG with ⟨_, h, _⟩ | ⟨b, rest, h, _⟩
            · cases h
            · rw [h]; rfl
          refine ⟨⟨F3, _, _, hF3, hsm.put hlx (by omega) hr.2 ⟨by omega, fun x hx => hrow x hx.1 (by unfold Mach.Let at hx; omega)⟩ (hG2.keep ho3 (by decide) fun t _ => by unfold gS; omega) hG3 (fun t ht => ?_) ?_, by omega, by omega⟩, by simp only []; omega⟩
          · rw [ho3 _ (by unfold gS; omega), ho2 _ (by unfold gS; omega) (fun h => ht (by unfold gS at h; omega)) (by unfold gS; omega)]
          · rw [ho3 _ (by unfold gS; omega), hg2]; exact h6
    · have e : x48 = m.next.length := by omega
      subst e
      have hsmall := hsm.small hsh hdone hlive
      obtain ⟨sm, hsme⟩ : ∃ sm, sm = Mach.mk m.letters (gi cl m.start) nx fn := ⟨_, rfl⟩
      have hat : MachAt w49 sm (.agg (Array.mk [.int .i64 m.letters, .int .i64 (gi cl m.start), .slice (some ⟨n42, 0, none⟩) x35.toNat x35.toNat, .slice (some ⟨n44, 0, none⟩) x35.toNat x35.toNat])) := by
        subst hsme; exact ⟨_, _, rfl, hsm.rows.slii hF, hsm.fins.slb hF⟩
      rw [← hsme] at hsmall
      have hsn := hsmall.n
      have hsl : sm.letters = m.letters := hsmall.letters
      refine c82 hat hsmall.shaped (by omega) (by omega) (by rw [hsmall.start]; omega) fun w89 ov pv o p rs hE89 hov hpv hfnd hrl hrows => ?_
      rw [hsl] at hrows
      obtain ⟨A90, c92, rfl, hO⟩ := hov
      obtain ⟨A93, c95, rfl, hP⟩ := hpv
      refine ⟨_, _, _, _, _, _, rfl, rfl, fun _ => ?_⟩
      have hat89 := hat.ext hE89
      obtain ⟨_, _, he, ⟨A', c', hs', rfl, hA', hl', hx'⟩, ⟨B', d', rfl, hB'⟩⟩ := hat89
      injection he with he; injection he with he; injection he with _ he; injection he with _ he; injection he with he1 he; injection he with he2 _
      injection he1 with a1 a2 a3; injection he2 with b1 b2 b3
      subst a1 b1
      have hEw : Ext w w89 := hE5.trans' (Ext.trans' hF.base hE89)
      have hcnt := hfnd.count
      have hsfin := hsmall.shaped.fin
      refine ⟨fun x98 x99 x100 A101 n102 n103 A104 n105 n106 => ⟨fun w107 => ∃ F, Fam w89 w107 F ∧ GII F 2 g10 A101 n102 n103 (rs.take x98.toNat) ∧ GSl F 3 A104 n105 n106 (bools ((o.map sm.ends).take x98.toNat)) ∧ x99 = m.letters ∧ x100 = 0 ∧ 0 ≤ x98 ∧ x98 ≤ o.length, fun _ => (o.length - x98).toNat⟩,
        ⟨fun _ => none, Fam.empty _, GII.nil rfl, .nil rfl, rfl, rfl, by omega, by omega⟩, ?_⟩
      rintro x98 x99 x100 A101 n102 n103 A104 n105 n106 w107 ⟨F2, hF2, hG2, hG3, rfl, rfl, h980, h981⟩ n108 rfl
      refine condK_dec (fun hlt => ?_) fun hge => ?_
      · have hq := get_gi (l := o) h980 hlt
        have hqn := hfnd.num _ _ hq
        obtain ⟨r, hr⟩ : ∃ r, rs[x98.toNat]? = some r := ⟨_, List.getElem?_eq_getElem (by omega)⟩
        have hrlen := hrows r (List.mem_of_getElem? hr)
        have htl : (rs.take x98.toNat).length = x98.toNat := by rw [List.length_take]; omega
        have htl2 : ((o.map sm.ends).take x98.toNat).length = x98.toNat := by rw [List.length_take, List.length_map]; omega
        have hn102 := hG2.len
        have hn105 := hG3.len; rw [bools_len] at hn105
        refine ⟨rfl, hL0, by omega, by omega, ?_⟩
        refine hF2.mkInts (g10 x98.toNat) (x := 0) fun n109 F4 w110 hE110 ho4 hF4 hs4 => ?_
        refine ⟨fun x112 => ⟨fun w113 => ∃ F row, Fam w89 w113 F ∧ GII F 2 g10 A101 n102 n103 (rs.take x98.toNat) ∧ GSl F 3 A104 n105 n106 (bools ((o.map sm.ends).take x98.toNat)) ∧ GSl F (g10 x98.toNat) (some ⟨n109, 0, none⟩) m.letters.toNat m.letters.toNat (ints row) ∧ row.length = m.letters.toNat ∧ 0 ≤ x112 ∧ x112 ≤ m.letters ∧
            ∀ y, 0 ≤ y → y < x112 → gi row y = if 0 ≤ sm.step (gi o x98) y then gi p (sm.step (gi o x98) y) else -1, fun _ => (m.letters - x112).toNat⟩,
          ⟨F4, _, hF4, hG2.keep ho4 (Ne.symm (g10_ne (by decide))) (fun t ht => by unfold g10; omega), hG3.keep ho4 (Ne.symm (g10_ne (by decide))), hs4, by simp, by omega, hL0, fun y h0 h1 => by omega⟩, ?_⟩
        clear hF2 hG2 hG3 hF4 ho4 hs4 hE110 F2 F4
        rintro x112 w113 ⟨F, row, hF, hG2, hG3, hG, hrwl, h1120, h1121, hrow⟩ n114 rfl
        refine condK_dec (fun hlt2 => ?_) fun hge2 => ?_
        · have hlet : sm.Let x112 := ⟨h1120, by omega⟩
          have hsr := hsmall.shaped.step_range (gi o x98) x112
          refine hG.set_int hF h1120 (by omega) fun F5 w116 ho5 hF5 hG5 => ?_
          have next : ∀ (F6 : FamF) (w6 : World) (z : Int), Only (g10 x98.toNat) F F6 → Fam w89 w6 F6 → GSl F6 (g10 x98.toNat) (some ⟨n109, 0, none⟩) m.letters.toNat m.letters.toNat (ints (row.set x112.toNat z)) → (z = if 0 ≤ sm.step (gi o x98) x112 then gi p (sm.step (gi o x98) x112) else -1) →
              J53_7 (fun x112 => ⟨fun w113 => ∃ F row, Fam w89 w113 F ∧ GII F 2 g10 A101 n102 n103 (rs.take x98.toNat) ∧ GSl F 3 A104 n105 n106 (bools ((o.map sm.ends).take x98.toNat)) ∧ GSl F (g10 x98.toNat) (some ⟨n109, 0, none⟩) m.letters.toNat m.letters.toNat (ints row) ∧ row.length = m.letters.toNat ∧ 0 ≤ x112 ∧ x112 ≤ m.letters ∧
            ∀ y, 0 ≤ y → y < x112 → gi row y = if 0 ≤ sm.step (gi o x98) y then gi p (sm.step (gi o x98) y) else -1, fun _ => (m.letters - x112).toNat⟩) x112 w6 (m.letters - x112).toNat := by
            intro F6 w6 z ho6 hF6 hG6 hz
            rw [J53_7, wrap_id (by omega) (by omega)]
            refine ⟨⟨F6, _, hF6, hG2.keep ho6 (Ne.symm (g10_ne (by decide))) (fun t ht => by unfold g10; omega), hG3.keep ho6 (Ne.symm (g10_ne (by decide))), hG6, by rw [List.length_set]; exact hrwl, by omega, by omega, fun y y0 y1 => ?_⟩, by simp only []; omega⟩
            rw [gi_set h1120 (by omega) y0]
            split
            · rename_i e; subst e; exact hz
            · exact hrow y y0 (by omega)
          refine rd_int hF5.base hO h980 hlt (K := fun x118 => IxV _ _ _ x118 _) ?_
          refine rdn_step a2 hF5.base hA' hl' hx' hsmall.shaped hqn.1 hqn.2.1 hlet (K := fun x124 => condK (decide (x124 ≥ 0)) _ _) ?_
          refine condK_dec (fun hp2 => ?_) fun hn2 => next F5 w116 (-1) ho5 hF5 hG5 (by rw [if_neg (by omega)])
          refine rd_int hF5.base hP hp2 (by rw [hfnd.plen]; omega) (K := fun x126 => IxV _ _ _ _ _) ?_
          refine hG5.set_int hF5 h1120 (by rw [List.length_set]; omega) fun F6 w128 ho6 hF6 hG6 => ?_
          rw [List.set_set] at hG6
          exact next F6 w128 _ (fun j hj => by rw [ho6 j hj, ho5 j hj]) hF6 hG6 (by rw [if_pos (by omega)])
        · have erow : row = r := hfnd.row hq hr (by omega) fun x hx => hrow x (by omega) (by omega)
          subst erow
          refine hG2.pushRow (by rw [htl]; exact hG) hF (fun t => g10_ne (by decide)) (by omega) fun F5 A131 c133 w134 ho5 hF5 hG5 => ?_
          refine rd_int hF5.base hO h980 hlt (K := fun x136 => IxV _ _ _ x136 _) ?_
          refine rdn_end b2 hF5.base hB' hqn.1 (by rw [← hsfin]; exact hqn.2.1) (K := fun t138 => NewK _ _ _) ?_
          refine GSl.push_bool (hG3.keep ho5 (by decide)) hF5 (by omega) fun F6 A141 c143 w144 ho6 hF6 hG6 => ?_
          rw [wrap_id (by omega) (by omega)]
          refine ⟨⟨F6, hF6, ?_, ?_, rfl, rfl, by omega, by omega⟩, by simp only []; omega⟩
          · rw [take_snoc h980 hr]; exact hG5.keep ho6 (by decide) fun t ht => g10_ne (by decide)
          · rw [take_snoc h980 (a := sm.ends (gi o x98)) (by rw [List.getElem?_map, hq]; rfl)]; exact hG6
      · have e1 : rs.take x98.toNat = rs := List.take_of_length_le (by omega)
        have e2 : (o.map sm.ends).take x98.toNat = o.map sm.ends := List.take_of_length_le (by rw [List.length_map]; omega)
        rw [e1] at hG2; rw [e2] at hG3
        exact hR w107 ⟨m.letters, 0, rs, o.map sm.ends⟩ _ (MachNew.after ⟨F2, _, _, _, _, _, _, rfl, hF2, hG2, hG3⟩ hEw) (hsmall.least hsh hdone hlive hfnd hrl hrows) (by simp only []; omega)
  -- the six orders
  have hgS : ∀ t, t < x35.toNat → gS t ≠ 4 := fun t _ => by unfold gS; omega
  have init : ∀ (F : FamF) (n42 n44 : Nat), GII F 4 gS (some ⟨n42, 0, none⟩) x35.toNat x35.toNat (List.replicate x35.toNat []) → GSl F 5 (some ⟨n44, 0, none⟩) x35.toNat x35.toNat (bools (List.replicate x35.toNat false)) → (∀ t, F (gS t) = none) → SmB m cl x35 0 F n42 n44 (List.replicate x35.toNat []) (List.replicate x35.toNat false) :=
    fun F n42 n44 h1 h2 h3 => ⟨h1, h2, fun c c0 c1 => .inr ⟨fun s s0 s1 => by omega, h3 _⟩⟩
  have nil1 : ∀ (K1 : Nat → World → Prop), (∀ F n42 w43, Fam w36 w43 F → GII F 4 gS (some ⟨n42, 0, none⟩) x35.toNat x35.toNat (List.replicate x35.toNat []) → w43.cell? a40 = some (.int .i64 (gi cl m.start)) → (∀ t, F (gS t) = none) → K1 n42 w43) →
      NewK w36 (.cells (Array.mk (List.replicate x35.toNat (.slice none 0 0))) 26 (0, 0)) K1 := fun K1 hK1 =>
    GII.make (Fam.empty w36) 4 gS _ (fun t ht => ⟨hgS t ht, rfl⟩) fun n42 F1 w43 ho1 hF1 hG1 => hK1 F1 n42 w43 hF1 hG1 (Ext.cell hF1.base hc40) fun t => by rw [ho1 _ (by unfold gS; omega)]
  have fal1 : ∀ (K1 : Nat → World → Prop), (∀ F n44 w43, Fam w36 w43 F → GSl F 5 (some ⟨n44, 0, none⟩) x35.toNat x35.toNat (bools (List.replicate x35.toNat false)) → w43.cell? a40 = some (.int .i64 (gi cl m.start)) → (∀ t, F (gS t) = none) → K1 n44 w43) →
      NewK w36 (.cells (Array.mk (List.replicate x35.toNat (.bool false))) 4 (0, 0)) K1 := fun K1 hK1 =>
    (Fam.empty w36).mkRow 5 fun n44 F1 w43 ho1 hF1 hG1 => hK1 F1 n44 w43 hF1 (by rw [bools_rep]; simpa using hG1) (Ext.cell hF1.base hc40) fun t => by rw [ho1 _ (by unfold gS; omega)]
  have fal2 : ∀ F n42 w43, Fam w36 w43 F → GII F 4 gS (some ⟨n42, 0, none⟩) x35.toNat x35.toNat (List.replicate x35.toNat []) → (∀ t, F (gS t) = none) → ∀ (K1 : Nat → World → Prop), (∀ n44 w45, w45.cell? a40 = some (.int .i64 (gi cl m.start)) → (∃ I47, J53_48 I47 w45 cl.length A6 n42 x35 m.letters A m.next.length B m.fin.length n44 (gi cl m.start) R) → K1 n44 w45) →
      NewK w43 (.cells (Array.mk (List.replicate x35.toNat (.bool false))) 4 (0, 0)) K1 := fun F n42 w43 hF hG hn K1 hK1 =>
    hF.mkRow 5 fun n44 F2 w45 ho2 hF2 hG2 => hK1 n44 w45 (Ext.cell hF2.base hc40) (main w45 F2 n42 n44 hF2 (init F2 n42 n44 (hG.keep ho2 (by decide) fun t _ => by unfold gS; omega) (by rw [bools_rep]; simpa using hG2) fun t => by rw [ho2 _ (by unfold gS; omega)]; exact hn t))
  have nil2 : ∀ F n44 w43, Fam w36 w43 F → GSl F 5 (some ⟨n44, 0, none⟩) x35.toNat x35.toNat (bools (List.replicate x35.toNat false)) → (∀ t, F (gS t) = none) → ∀ (K1 : Nat → World → Prop), (∀ n42 w45, w45.cell? a40 = some (.int .i64 (gi cl m.start)) → (∃ I47, J53_48 I47 w45 cl.length A6 n42 x35 m.letters A m.next.length B m.fin.length n44 (gi cl m.start) R) → K1 n42 w45) →
      NewK w43 (.cells (Array.mk (List.replicate x35.toNat (.slice none 0 0))) 26 (0, 0)) K1 := fun F n44 w43 hF hG hn K1 hK1 =>
    GII.make hF 4 gS _ (fun t ht => ⟨hgS t ht, hn t⟩) fun n42 F2 w45 ho2 hF2 hG2 => hK1 n42 w45 (Ext.cell hF2.base hc40) (main w45 F2 n42 n44 hF2 (init F2 n42 n44 hG2 (hG.keep ho2 (by decide)) fun t => by rw [ho2 _ (by unfold gS; omega)]; exact hn t))
  have b1 : x35 * 24 ≤ 281474976710656 := by omega
  have b2 : x35 * 1 ≤ 281474976710656 := by omega
  have b3 : x35 ≤ 9223372036854775807 := by omega
  refine ⟨⟨rfl, h350, b1, b3, nil1 _ fun F n42 w43 hF hG hc hn => ⟨hc, ⟨rfl, h350, b2, b3, fal2 F n42 w43 hF hG hn _ fun n44 w45 hc2 hk => ⟨hc2, fun _ => ⟨hc2, hk⟩⟩⟩, fun _ => ⟨hc, rfl, h350, b2, b3, fal2 F n42 w43 hF hG hn _ fun n44 w45 hc2 hk => ⟨hc2, hk⟩⟩⟩⟩,
    ⟨rfl, h350, b2, b3, fal1 _ fun F n44 w43 hF hG hc hn => ⟨hc, ⟨rfl, h350, b1, b3, nil2 F n44 w43 hF hG hn _ fun n42 w45 hc2 hk => ⟨hc2, fun _ => ⟨hc2, hk⟩⟩⟩, fun _ => ⟨hc, rfl, h350, b1, b3, nil2 F n44 w43 hF hG hn _ fun n42 w45 hc2 hk => ⟨hc2, hk⟩⟩⟩⟩,
    fun _ => ⟨hc40, ⟨rfl, h350, b1, b3, nil1 _ fun F n42 w43 hF hG hc hn => ⟨hc, rfl, h350, b2, b3, fal2 F n42 w43 hF hG hn _ fun n44 w45 hc2 hk => ⟨hc2, hk⟩⟩⟩,
      rfl, h350, b2, b3, fal1 _ fun F n44 w43 hF hG hc hn => ⟨hc, rfl, h350, b1, b3, nil2 F n44 w43 hF hG hn _ fun n42 w45 hc2 hk => ⟨hc2, hk⟩⟩⟩⟩

theorem c22 {w : World} {m : Mach} {v : Value} {R : Res} (hm : MachAt w m v) (hlim : m.Lim) (bad : ¬ m.Valid → R (.tuple (Array.mk [zeroV, .int .i64 1])) [] w)
    (ok : m.Valid → ∀ w' mm v', MachNew w w' mm v' → IsLeast m mm → mm.next.length ≤ m.next.length → R (.tuple (Array.mk [v', .int .i64 0])) [] w') : CallsI Try.prog 22 [v] w [] R := by
  have hm0 := hm
  obtain ⟨_, _, rfl, ⟨A, c, hs, rfl, hA, hl, hx⟩, ⟨B, d, rfl, hB⟩⟩ := hm
  refine s22 _ _ _ _ _ _ _ _ _ _ fun _ _ => c16 hm0 hlim ⟨_, rfl, rfl, ?_⟩
  refine condK_bne (fun h => bad fun hv => h (Mach.code_ok.2 hv)) fun h => ?_
  have hv := Mach.code_ok.1 h
  have h1 := hv.letters; have h2 := hlim.next
  refine c53 hm0 hv.shaped (by have := hv.next; omega) (by omega) fun w' mm v' hn hle hlen => ?_
  have hn' := hn
  obtain ⟨F, A', n', c', B', k', d', rfl, _⟩ := hn
  exact ⟨_, _, _, _, _, _, _, _, rfl, rfl, ok hv w' mm _ hn' hle hlen⟩
end Go.Proofs.Ytnkpjlhbojjneaa.VC

/- The law of least machines: there is one least machine, and it is found. -/
namespace Go.Proofs.Ytnkpjlhbojjneaa.VC
open Go Go.RowKit

theorem MachAt.form {w : World} {m : Mach} {v : Value} (h : MachAt w m v) : ∃ A n c B k d, v = .agg (Array.mk [.int .i64 m.letters, .int .i64 m.start, .slice A n c, .slice B k d]) := by
  obtain ⟨_, _, rfl, ⟨A, c, hs, rfl, hA, hl, hx⟩, ⟨B, d, rfl, hB⟩⟩ := h
  exact ⟨_, _, _, _, _, _, rfl⟩
theorem IsLeast.lim {m mm : Mach} (h : IsLeast m mm) (hn : mm.next.length ≤ 1048576) (hl : m.letters ≤ 1048576) : mm.Lim := h.canon.shaped.lim hn (by rw [h.letters]; exact hl)
theorem zeroM_at (w : World) : MachAt w zeroM (.agg (Array.mk [.int .i64 0, .int .i64 0, .slice none 0 0, .slice none 0 0])) :=
  ⟨_, _, rfl, ⟨none, 0, [], rfl, fun h => absurd rfl h, rfl, fun i h xs hi _ => by simp at hi⟩, ⟨none, 0, rfl, fun h => by simp [zeroM, bools] at h⟩⟩
theorem zeroM_lim : zeroM.Lim := ⟨by simp [zeroM], by simp [zeroM], by simp [zeroM]⟩

theorem c4 {w : World} {m : Mach} {v : Value} {R : Res} (hm : MachAt w m v) (hlim : m.Lim) (hR : ∀ w', Ext w w' → R (.bool true) [] w') : CallsI Try.prog 4 [v] w [] R := by
  have hm0 := hm
  obtain ⟨_, _, rfl, ⟨A, c, hs, rfl, hA, hl, hx⟩, ⟨B, d, rfl, hB⟩⟩ := hm
  have awake : ∀ w', Ext w w' → J4_1 w' R := fun w' hE => c15 fun w2 hE2 => ⟨_, rfl, rfl, hR w2 (hE.trans' hE2)⟩
  refine s4 _ _ _ _ _ _ _ _ _ _ fun _ => c21 hm0 (fun hsm => ⟨_, rfl, rfl, ?_⟩) fun _ => ⟨_, rfl, rfl, awake w Ext.rfl'⟩
  refine condK_of (fun h => by cases h) fun _ => ?_
  have hl8 := hsm.2.2; have hn30 := hsm.1
  refine c22 hm0 hlim (fun hbad => ?_) fun hval w12 want wv hnew1 hle1 hlen1 => ?_
  · refine ⟨_, _, _, _, _, _, _, _, _, rfl, rfl, fun _ => ?_⟩
    refine c19 hm0 hlim fun w25 v23 hcp => ?_
    obtain ⟨A28, n29, n30', A31, n32, n33, rfl⟩ := hcp.at_.form
    refine ⟨_, _, _, _, _, _, _, _, rfl, rfl, ?_⟩
    refine c23 hcp.at_ hlim (fun _ => ?_) fun h => absurd h hbad
    refine ⟨_, _, _, _, _, _, _, _, _, rfl, rfl, fun _ => ?_⟩
    refine condK_beq (fun _ => ?_) fun h => absurd rfl h
    refine condK_beq (fun h => by cases h) fun _ => ?_
    refine condK_bne (fun _ => ?_) fun h => by cases h
    refine c24 (zeroM_at _) (zeroM_at _) zeroM_lim (fun _ => ⟨_, rfl, rfl, ?_⟩) fun h => absurd rfl h
    exact condK_of (fun _ => awake w25 hcp.below) fun h => by cases h
  · obtain ⟨A15, n16, n17, A18, n19, n20, rfl⟩ := hnew1.at_.form
    refine ⟨_, _, _, _, _, _, _, _, _, rfl, rfl, fun _ => ?_⟩
    refine c19 (hm0.ext hnew1.below) hlim fun w25 v23 hcp => ?_
    obtain ⟨A28, n29, n30', A31, n32, n33, rfl⟩ := hcp.at_.form
    refine ⟨_, _, _, _, _, _, _, _, rfl, rfl, ?_⟩
    refine c23 hcp.at_ hlim (fun h => absurd hval h) fun _ w36 got gv hnew2 hle2 hlen2 => ?_
    obtain ⟨A39, n40, n41, A42, n43, n44, rfl⟩ := hnew2.at_.form
    refine ⟨_, _, _, _, _, _, _, _, _, rfl, rfl, fun _ => ?_⟩
    refine condK_beq (fun _ => ?_) fun h => absurd rfl h
    refine condK_beq (fun _ => ?_) fun h => absurd rfl h
    have hE36 : Ext w12 w36 := hcp.below.trans' hnew2.below
    refine c24 hnew2.at_ (hnew1.at_.ext hE36) (hle2.lim (by omega) (by omega)) (fun _ => ⟨_, rfl, rfl, ?_⟩) fun h => absurd (hle2.unique hle1) h
    exact condK_of (fun _ => awake w36 (hnew1.below.trans' hE36)) fun h => by cases h
end Go.Proofs.Ytnkpjlhbojjneaa.VC
