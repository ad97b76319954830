/- Both and either. -/
import Derived.Test.YtnkpjlhbojjneaaGb
import Derived.Test.YtnkpjlhbojjneaaGl
import Derived.Test.YtnkpjlhbojjneaaGi
/- The conditions of functions, printed by wip/tools/gen.py. -/
namespace Go.Proofs.Ytnkpjlhbojjneaa.VC
open Go Go.RowKit

set_option maxRecDepth 100000 in
theorem s67 (x y : Bool) (w : World) (R : Value → List (List Value) → World → Prop) (h :
    condK x (R (Value.bool true) [] w) (R (Value.bool y) [] w)) :
    CallsI Try.prog 67 [(.bool x), (.bool y)] w [] R :=
  vcFun_sound (H := ⟨[], []⟩) (args := [.v (.bool x), .v (.bool y)]) (L := []) goodP Try.func67 (by simp [okp]) (by rw [Try.ntmps67]; simp) (by simp [okp]) (Eq.mp (by kernel_rfl) h)

set_option maxRecDepth 100000 in
theorem s69 (x y : Bool) (w : World) (R : Value → List (List Value) → World → Prop) (h :
    condK x (R (Value.bool y) [] w) (R (Value.bool false) [] w)) :
    CallsI Try.prog 69 [(.bool x), (.bool y)] w [] R :=
  vcFun_sound (H := ⟨[], []⟩) (args := [.v (.bool x), .v (.bool y)]) (L := []) goodP Try.func69 (by simp [okp]) (by rw [Try.ntmps69]; simp) (by simp [okp]) (Eq.mp (by kernel_rfl) h)

def J97_3 (g : Nat) (x6 : Int) (x10 : Int) (w9 : World) (R : Value → List (List Value) → World → Prop) (l : Int) (s : Int) (A : Option Addr) (n : Nat) (c : Nat) (B : Option Addr) (m : Nat) (d : Nat)
    (lb : Int) (sb : Int) (Ab : Option Addr) (nb : Nat) (cb : Nat) (Bb : Option Addr) (mb : Nat) (db : Nat) : Prop := CallsI Try.prog g [Value.bool (decide (x6 ≥ 0)), Value.bool (decide (x10 ≥ 0))] w9 []
    fun (v12 : Value) (l13 : List (List Value)) (w14 : World) => ∃ (t15 : Bool), v12 = Value.bool t15 ∧ l13 = [] ∧ R (Value.tuple (Array.mk [Value.agg (Array.mk [Value.int IntKind.i64 x6, Value.int
    IntKind.i64 x10]), Value.bool t15])) [[Value.int IntKind.i64 l, Value.int IntKind.i64 s, Value.slice A n c, Value.slice B m d], [Value.int IntKind.i64 lb, Value.int IntKind.i64 sb, Value.slice Ab nb
    cb, Value.slice Bb mb db], [Value.func (Fn.func g) (Array.mk []) (Array.mk [])]] w14

def J97_7 (lb : Int) (sb : Int) (Ab : Option Addr) (nb : Nat) (cb : Nat) (Bb : Option Addr) (mb : Nat) (db : Nat) (q : Int) (x : Int) (w5 : World) (g : Nat) (x6 : Int) (R : Value → List (List Value) →
    World → Prop) (l : Int) (s : Int) (A : Option Addr) (n : Nat) (c : Nat) (B : Option Addr) (m : Nat) (d : Nat) : Prop := CallsI Try.prog 58 [Value.agg (Array.mk [Value.int IntKind.i64 lb, Value.int
    IntKind.i64 sb, Value.slice Ab nb cb, Value.slice Bb mb db]), Value.int IntKind.i64 q, Value.int IntKind.i64 x] w5 [] fun (v17 : Value) (l18 : List (List Value)) (w19 : World) => ∃ (x20 : Int), v17 =
    Value.int IntKind.i64 x20 ∧ l18 = [] ∧ J97_3 g x6 x20 w19 R l s A n c B m d lb sb Ab nb cb Bb mb db

set_option maxRecDepth 100000 in
theorem s97 (ba bb bk : Nat) (l s : Int) (A : Option Addr) (n c : Nat) (B : Option Addr) (m d : Nat) (lb sb : Int) (Ab : Option Addr) (nb cb : Nat) (Bb : Option Addr) (mb db : Nat) (g : Nat) (p q x : Int) (w : World) (R : Value → List (List Value) → World → Prop) (h :
    ∀ (_n1 _n2 : Nat), (CallsI Try.prog 58 [Value.agg (Array.mk [Value.int IntKind.i64 l, Value.int IntKind.i64 s, Value.slice A n c, Value.slice B m d]), Value.int IntKind.i64 p, Value.int IntKind.i64 x]
        w [] fun (v3 : Value) (l4 : List (List Value)) (w5 : World) => ∃ (x6 : Int), v3 = Value.int IntKind.i64 x6 ∧ l4 = [] ∧ (CallsI Try.prog 58 [Value.agg (Array.mk [Value.int IntKind.i64 lb, Value.int
        IntKind.i64 sb, Value.slice Ab nb cb, Value.slice Bb mb db]), Value.int IntKind.i64 q, Value.int IntKind.i64 x] w5 [] fun (v7 : Value) (l8 : List (List Value)) (w9 : World) => ∃ (x10 : Int), v7 =
        Value.int IntKind.i64 x10 ∧ l8 = [] ∧ (Nat → J97_3 g x6 x10 w9 R l s A n c B m d lb sb Ab nb cb Bb mb db)) ∧ (Nat → J97_7 lb sb Ab nb cb Bb mb db q x w5 g x6 R l s A n c B m d)) ∧ ∀ (_n21 : Nat),
        CallsI Try.prog 58 [Value.agg (Array.mk [Value.int IntKind.i64 l, Value.int IntKind.i64 s, Value.slice A n c, Value.slice B m d]), Value.int IntKind.i64 p, Value.int IntKind.i64 x] w [] fun (v22 :
        Value) (l23 : List (List Value)) (w24 : World) => ∃ (x25 : Int), v22 = Value.int IntKind.i64 x25 ∧ l23 = [] ∧ J97_7 lb sb Ab nb cb Bb mb db q x w24 g x25 R l s A n c B m d) :
    CallsI Try.prog 97 [(.agg #[.int .i64 p, .int .i64 q]), (.int .i64 x), .pointer (some ⟨ba, 0, none⟩), .pointer (some ⟨bb, 0, none⟩), .pointer (some ⟨bk, 0, none⟩)] w [(ba, 25, [.int .i64 l, .int .i64 s, .slice A n c, .slice B m d]), (bb, 25, [.int .i64 lb, .int .i64 sb, .slice Ab nb cb, .slice Bb mb db]), (bk, 83, [.func (.func g) #[] #[]])] R :=
  vcFun_sound (H := ⟨[], []⟩) (args := [.v (.agg #[.int .i64 p, .int .i64 q]), .v (.int .i64 x), .p 0 ba 0, .p 1 bb 0, .p 2 bk 0]) (L := [⟨ba, 25, [.v (.int .i64 l), .v (.int .i64 s), .v (.slice A n c), .v (.slice B m d)]⟩, ⟨bb, 25, [.v (.int .i64 lb), .v (.int .i64 sb), .v (.slice Ab nb cb), .v (.slice Bb mb db)]⟩, ⟨bk, 83, [.v (.func (.func g) #[] #[])]⟩]) goodP Try.func97 (by simp [okp]) (by rw [Try.ntmps97]; simp) (by simp [okp]) (Eq.mp (by kernel_rfl) h)

set_option maxRecDepth 100000 in
theorem s98 (bx ba bb : Nat) (l s : Int) (A : Option Addr) (n c : Nat) (B : Option Addr) (m d : Nat) (lb sb : Int) (Ab : Option Addr) (nb cb : Nat) (Bb : Option Addr) (mb db : Nat) (gx : Nat) (p q : Int) (w : World) (R : Value → List (List Value) → World → Prop) (h :
    ∀ (_n1 : Nat), CallsI Try.prog 52 [Value.agg (Array.mk [Value.int IntKind.i64 l, Value.int IntKind.i64 s, Value.slice A n c, Value.slice B m d]), Value.int IntKind.i64 p] w [] fun (v2 : Value) (l3 :
        List (List Value)) (w4 : World) => ∃ (t5 : Bool), v2 = Value.bool t5 ∧ l3 = [] ∧ CallsI Try.prog 52 [Value.agg (Array.mk [Value.int IntKind.i64 lb, Value.int IntKind.i64 sb, Value.slice Ab nb cb,
        Value.slice Bb mb db]), Value.int IntKind.i64 q] w4 [] fun (v6 : Value) (l7 : List (List Value)) (w8 : World) => ∃ (t9 : Bool), v6 = Value.bool t9 ∧ l7 = [] ∧ CallsI Try.prog gx [Value.bool t5,
        Value.bool t9] w8 [] fun (v10 : Value) (l11 : List (List Value)) (w12 : World) => ∃ (t13 : Bool), v10 = Value.bool t13 ∧ l11 = [] ∧ R (Value.bool t13) [[Value.func (Fn.func gx) (Array.mk []) (Array.mk
        [])], [Value.int IntKind.i64 l, Value.int IntKind.i64 s, Value.slice A n c, Value.slice B m d], [Value.int IntKind.i64 lb, Value.int IntKind.i64 sb, Value.slice Ab nb cb, Value.slice Bb mb db]] w12) :
    CallsI Try.prog 98 [(.agg #[.int .i64 p, .int .i64 q]), .pointer (some ⟨bx, 0, none⟩), .pointer (some ⟨ba, 0, none⟩), .pointer (some ⟨bb, 0, none⟩)] w [(bx, 83, [.func (.func gx) #[] #[]]), (ba, 25, [.int .i64 l, .int .i64 s, .slice A n c, .slice B m d]), (bb, 25, [.int .i64 lb, .int .i64 sb, .slice Ab nb cb, .slice Bb mb db])] R :=
  vcFun_sound (H := ⟨[], []⟩) (args := [.v (.agg #[.int .i64 p, .int .i64 q]), .p 0 bx 0, .p 1 ba 0, .p 2 bb 0]) (L := [⟨bx, 83, [.v (.func (.func gx) #[] #[])]⟩, ⟨ba, 25, [.v (.int .i64 l), .v (.int .i64 s), .v (.slice A n c), .v (.slice B m d)]⟩, ⟨bb, 25, [.v (.int .i64 lb), .v (.int .i64 sb), .v (.slice Ab nb cb), .v (.slice Bb mb db)]⟩]) goodP Try.func98 (by simp [okp]) (by rw [Try.ntmps98]; simp) (by simp [okp]) (Eq.mp (by kernel_rfl) h)

set_option maxRecDepth 100000 in
theorem s34 (l s : Int) (A : Option Addr) (n c : Nat) (B : Option Addr) (m d : Nat) (lb sb : Int) (Ab : Option Addr) (nb cb : Nat) (Bb : Option Addr) (mb db : Nat) (w : World) (R : Value → List (List Value) → World → Prop) (h :
    ∀ (_n1 _n2 _n3 : Nat), CallsI Try.prog 66 [Value.agg (Array.mk [Value.int IntKind.i64 l, Value.int IntKind.i64 s, Value.slice A n c, Value.slice B m d]), Value.agg (Array.mk [Value.int IntKind.i64 lb,
        Value.int IntKind.i64 sb, Value.slice Ab nb cb, Value.slice Bb mb db]), Value.func (Fn.func 67) (Array.mk []) (Array.mk []), Value.func (Fn.func 67) (Array.mk []) (Array.mk [])] w [] fun (v4 : Value)
        (l5 : List (List Value)) (w6 : World) => ∃ (x7 : Int), ∃ (x8 : Int), ∃ (A9 : Option Addr), ∃ (n10 : Nat), ∃ (n11 : Nat), ∃ (A12 : Option Addr), ∃ (n13 : Nat), ∃ (n14 : Nat), ∃ (x15 : Int), v4 =
        Value.tuple (Array.mk [Value.agg (Array.mk [Value.int IntKind.i64 x7, Value.int IntKind.i64 x8, Value.slice A9 n10 n11, Value.slice A12 n13 n14]), Value.int IntKind.i64 x15]) ∧ l5 = [] ∧ R
        (Value.tuple (Array.mk [Value.agg (Array.mk [Value.int IntKind.i64 x7, Value.int IntKind.i64 x8, Value.slice A9 n10 n11, Value.slice A12 n13 n14]), Value.int IntKind.i64 x15])) [] w6) :
    CallsI Try.prog 34 [(.agg #[.int .i64 l, .int .i64 s, .slice A n c, .slice B m d]), (.agg #[.int .i64 lb, .int .i64 sb, .slice Ab nb cb, .slice Bb mb db])] w [] R :=
  vcFun_sound (H := ⟨[], []⟩) (args := [.v (.agg #[.int .i64 l, .int .i64 s, .slice A n c, .slice B m d]), .v (.agg #[.int .i64 lb, .int .i64 sb, .slice Ab nb cb, .slice Bb mb db])]) (L := []) goodP Try.func34 (by simp [okp]) (by rw [Try.ntmps34]; simp) (by simp [okp]) (Eq.mp (by kernel_rfl) h)

set_option maxRecDepth 100000 in
theorem s35 (l s : Int) (A : Option Addr) (n c : Nat) (B : Option Addr) (m d : Nat) (lb sb : Int) (Ab : Option Addr) (nb cb : Nat) (Bb : Option Addr) (mb db : Nat) (w : World) (R : Value → List (List Value) → World → Prop) (h :
    ∀ (_n1 _n2 _n3 : Nat), CallsI Try.prog 68 [Value.agg (Array.mk [Value.int IntKind.i64 l, Value.int IntKind.i64 s, Value.slice A n c, Value.slice B m d]), Value.agg (Array.mk [Value.int IntKind.i64 lb,
        Value.int IntKind.i64 sb, Value.slice Ab nb cb, Value.slice Bb mb db]), Value.bool true] w [] fun (v4 : Value) (l5 : List (List Value)) (w6 : World) => ∃ (x7 : Int), ∃ (x8 : Int), ∃ (A9 : Option
        Addr), ∃ (n10 : Nat), ∃ (n11 : Nat), ∃ (A12 : Option Addr), ∃ (n13 : Nat), ∃ (n14 : Nat), ∃ (x15 : Int), v4 = Value.tuple (Array.mk [Value.agg (Array.mk [Value.int IntKind.i64 x7, Value.int
        IntKind.i64 x8, Value.slice A9 n10 n11, Value.slice A12 n13 n14]), Value.int IntKind.i64 x15]) ∧ l5 = [] ∧ R (Value.tuple (Array.mk [Value.agg (Array.mk [Value.int IntKind.i64 x7, Value.int
        IntKind.i64 x8, Value.slice A9 n10 n11, Value.slice A12 n13 n14]), Value.int IntKind.i64 x15])) [] w6) :
    CallsI Try.prog 35 [(.agg #[.int .i64 l, .int .i64 s, .slice A n c, .slice B m d]), (.agg #[.int .i64 lb, .int .i64 sb, .slice Ab nb cb, .slice Bb mb db])] w [] R :=
  vcFun_sound (H := ⟨[], []⟩) (args := [.v (.agg #[.int .i64 l, .int .i64 s, .slice A n c, .slice B m d]), .v (.agg #[.int .i64 lb, .int .i64 sb, .slice Ab nb cb, .slice Bb mb db])]) (L := []) goodP Try.func35 (by simp [okp]) (by rw [Try.ntmps35]; simp) (by simp [okp]) (Eq.mp (by kernel_rfl) h)

set_option maxRecDepth 100000 in
theorem s36 (l s : Int) (A : Option Addr) (n c : Nat) (B : Option Addr) (m d : Nat) (lb sb : Int) (Ab : Option Addr) (nb cb : Nat) (Bb : Option Addr) (mb db : Nat) (w : World) (R : Value → List (List Value) → World → Prop) (h :
    ∀ (_n1 _n2 _n3 : Nat), CallsI Try.prog 68 [Value.agg (Array.mk [Value.int IntKind.i64 l, Value.int IntKind.i64 s, Value.slice A n c, Value.slice B m d]), Value.agg (Array.mk [Value.int IntKind.i64 lb,
        Value.int IntKind.i64 sb, Value.slice Ab nb cb, Value.slice Bb mb db]), Value.bool false] w [] fun (v4 : Value) (l5 : List (List Value)) (w6 : World) => ∃ (x7 : Int), ∃ (x8 : Int), ∃ (A9 : Option
        Addr), ∃ (n10 : Nat), ∃ (n11 : Nat), ∃ (A12 : Option Addr), ∃ (n13 : Nat), ∃ (n14 : Nat), ∃ (x15 : Int), v4 = Value.tuple (Array.mk [Value.agg (Array.mk [Value.int IntKind.i64 x7, Value.int
        IntKind.i64 x8, Value.slice A9 n10 n11, Value.slice A12 n13 n14]), Value.int IntKind.i64 x15]) ∧ l5 = [] ∧ R (Value.tuple (Array.mk [Value.agg (Array.mk [Value.int IntKind.i64 x7, Value.int
        IntKind.i64 x8, Value.slice A9 n10 n11, Value.slice A12 n13 n14]), Value.int IntKind.i64 x15])) [] w6) :
    CallsI Try.prog 36 [(.agg #[.int .i64 l, .int .i64 s, .slice A n c, .slice B m d]), (.agg #[.int .i64 lb, .int .i64 sb, .slice Ab nb cb, .slice Bb mb db])] w [] R :=
  vcFun_sound (H := ⟨[], []⟩) (args := [.v (.agg #[.int .i64 l, .int .i64 s, .slice A n c, .slice B m d]), .v (.agg #[.int .i64 lb, .int .i64 sb, .slice Ab nb cb, .slice Bb mb db])]) (L := []) goodP Try.func36 (by simp [okp]) (by rw [Try.ntmps36]; simp) (by simp [okp]) (Eq.mp (by kernel_rfl) h)

set_option maxRecDepth 100000 in
theorem s37 (l s : Int) (A : Option Addr) (n c : Nat) (B : Option Addr) (m d : Nat) (lb sb : Int) (Ab : Option Addr) (nb cb : Nat) (Bb : Option Addr) (mb db : Nat) (w : World) (R : Value → List (List Value) → World → Prop) (h :
    ∀ (_n1 _n2 _n3 : Nat), CallsI Try.prog 66 [Value.agg (Array.mk [Value.int IntKind.i64 l, Value.int IntKind.i64 s, Value.slice A n c, Value.slice B m d]), Value.agg (Array.mk [Value.int IntKind.i64 lb,
        Value.int IntKind.i64 sb, Value.slice Ab nb cb, Value.slice Bb mb db]), Value.func (Fn.func 69) (Array.mk []) (Array.mk []), Value.func (Fn.func 69) (Array.mk []) (Array.mk [])] w [] fun (v4 : Value)
        (l5 : List (List Value)) (w6 : World) => ∃ (x7 : Int), ∃ (x8 : Int), ∃ (A9 : Option Addr), ∃ (n10 : Nat), ∃ (n11 : Nat), ∃ (A12 : Option Addr), ∃ (n13 : Nat), ∃ (n14 : Nat), ∃ (x15 : Int), v4 =
        Value.tuple (Array.mk [Value.agg (Array.mk [Value.int IntKind.i64 x7, Value.int IntKind.i64 x8, Value.slice A9 n10 n11, Value.slice A12 n13 n14]), Value.int IntKind.i64 x15]) ∧ l5 = [] ∧ R
        (Value.tuple (Array.mk [Value.agg (Array.mk [Value.int IntKind.i64 x7, Value.int IntKind.i64 x8, Value.slice A9 n10 n11, Value.slice A12 n13 n14]), Value.int IntKind.i64 x15])) [] w6) :
    CallsI Try.prog 37 [(.agg #[.int .i64 l, .int .i64 s, .slice A n c, .slice B m d]), (.agg #[.int .i64 lb, .int .i64 sb, .slice Ab nb cb, .slice Bb mb db])] w [] R :=
  vcFun_sound (H := ⟨[], []⟩) (args := [.v (.agg #[.int .i64 l, .int .i64 s, .slice A n c, .slice B m d]), .v (.agg #[.int .i64 lb, .int .i64 sb, .slice Ab nb cb, .slice Bb mb db])]) (L := []) goodP Try.func37 (by simp [okp]) (by rw [Try.ntmps37]; simp) (by simp [okp]) (Eq.mp (by kernel_rfl) h)

end Go.Proofs.Ytnkpjlhbojjneaa.VC

/- The conditions of functions, printed by wip/tools/gen.py. -/
namespace Go.Proofs.Ytnkpjlhbojjneaa.VC
open Go Go.RowKit

def J66_2 (R : Value → List (List Value) → World → Prop) (x39 : Int) (x40 : Int) (A41 : Option Addr) (n42 : Nat) (n43 : Nat) (A44 : Option Addr) (n45 : Nat) (n46 : Nat) (w38 : World) : Prop := R
    (Value.tuple (Array.mk [Value.agg (Array.mk [Value.int IntKind.i64 x39, Value.int IntKind.i64 x40, Value.slice A41 n42 n43, Value.slice A44 n45 n46]), Value.int IntKind.i64 0])) [] w38

def J66_6 (R : Value → List (List Value) → World → Prop) (w49 : World) : Prop := R (Value.tuple (Array.mk [Value.agg (Array.mk [Value.int IntKind.i64 0, Value.int IntKind.i64 0, Value.slice none 0 0,
    Value.slice none 0 0]), Value.int IntKind.i64 5])) [] w49

set_option maxRecDepth 100000 in
theorem s66 (l s : Int) (A : Option Addr) (n c : Nat) (B : Option Addr) (m d : Nat) (lb sb : Int) (Ab : Option Addr) (nb cb : Nat) (Bb : Option Addr) (mb db : Nat) (g gx : Nat) (w : World) (R : Value → List (List Value) → World → Prop) (h :
    ∀ (n1 n2 n3 n4 _n5 : Nat), CallsI Try.prog 55 [Value.agg (Array.mk [Value.int IntKind.i64 l, Value.int IntKind.i64 s, Value.slice A n c, Value.slice B m d]), Value.agg (Array.mk [Value.int IntKind.i64
        lb, Value.int IntKind.i64 sb, Value.slice Ab nb cb, Value.slice Bb mb db])] w [] fun (v6 : Value) (l7 : List (List Value)) (w8 : World) => ∃ (x9 : Int), v6 = Value.int IntKind.i64 x9 ∧ l7 = [] ∧ condK
        (x9 != 0) (R (Value.tuple (Array.mk [Value.agg (Array.mk [Value.int IntKind.i64 0, Value.int IntKind.i64 0, Value.slice none 0 0, Value.slice none 0 0]), Value.int IntKind.i64 x9])) [] w8) (CallsI
        Try.prog 54 [Value.agg (Array.mk [Value.int IntKind.i64 l, Value.int IntKind.i64 s, Value.slice A n c, Value.slice B m d])] w8 [] fun (v10 : Value) (l11 : List (List Value)) (w12 : World) => ∃ (x13 :
        Int), ∃ (x14 : Int), ∃ (A15 : Option Addr), ∃ (n16 : Nat), ∃ (n17 : Nat), ∃ (A18 : Option Addr), ∃ (n19 : Nat), ∃ (n20 : Nat), v10 = Value.agg (Array.mk [Value.int IntKind.i64 x13, Value.int
        IntKind.i64 x14, Value.slice A15 n16 n17, Value.slice A18 n19 n20]) ∧ l11 = [] ∧ CallsI Try.prog 54 [Value.agg (Array.mk [Value.int IntKind.i64 lb, Value.int IntKind.i64 sb, Value.slice Ab nb cb,
        Value.slice Bb mb db])] w12 [] fun (v21 : Value) (l22 : List (List Value)) (w23 : World) => ∃ (x24 : Int), ∃ (x25 : Int), ∃ (A26 : Option Addr), ∃ (n27 : Nat), ∃ (n28 : Nat), ∃ (A29 : Option Addr), ∃
        (n30 : Nat), ∃ (n31 : Nat), v21 = Value.agg (Array.mk [Value.int IntKind.i64 x24, Value.int IntKind.i64 x25, Value.slice A26 n27 n28, Value.slice A29 n30 n31]) ∧ l22 = [] ∧ CallsI Try.prog g
        [Value.bool (decide (x14 ≥ 0)), Value.bool (decide (x25 ≥ 0))] w23 [] fun (v32 : Value) (l33 : List (List Value)) (w34 : World) => ∃ (t35 : Bool), v32 = Value.bool t35 ∧ l33 = [] ∧ condK (!t35)
        (CallsI Try.prog 84 [Value.int IntKind.i64 x13] w34 [] fun (v36 : Value) (l37 : List (List Value)) (w38 : World) => ∃ (x39 : Int), ∃ (x40 : Int), ∃ (A41 : Option Addr), ∃ (n42 : Nat), ∃ (n43 : Nat), ∃
        (A44 : Option Addr), ∃ (n45 : Nat), ∃ (n46 : Nat), v36 = Value.agg (Array.mk [Value.int IntKind.i64 x39, Value.int IntKind.i64 x40, Value.slice A41 n42 n43, Value.slice A44 n45 n46]) ∧ l37 = [] ∧
        J66_2 R x39 x40 A41 n42 n43 A44 n45 n46 w38) (CallsI Try.prog 96 [Value.int IntKind.i64 x13, Value.int IntKind.i64 20000, Value.agg (Array.mk [Value.int IntKind.i64 x14, Value.int IntKind.i64 x25]),
        Value.func (Fn.func 97) (Array.mk []) (Array.mk [Value.pointer (some (Addr.mk n1 0 none)), Value.pointer (some (Addr.mk n2 0 none)), Value.pointer (some (Addr.mk n3 0 none))]), Value.func (Fn.func 98)
        (Array.mk []) (Array.mk [Value.pointer (some (Addr.mk n4 0 none)), Value.pointer (some (Addr.mk n1 0 none)), Value.pointer (some (Addr.mk n2 0 none))])] w34 [(n1, 25, [Value.int IntKind.i64 x13,
        Value.int IntKind.i64 x14, Value.slice A15 n16 n17, Value.slice A18 n19 n20]), (n2, 25, [Value.int IntKind.i64 x24, Value.int IntKind.i64 x25, Value.slice A26 n27 n28, Value.slice A29 n30 n31]), (n3,
        83, [Value.func (Fn.func g) (Array.mk []) (Array.mk [])]), (n4, 83, [Value.func (Fn.func gx) (Array.mk []) (Array.mk [])])] fun (v47 : Value) (l48 : List (List Value)) (w49 : World) => ∃ (x50 : Int),
        ∃ (x51 : Int), ∃ (A52 : Option Addr), ∃ (n53 : Nat), ∃ (n54 : Nat), ∃ (A55 : Option Addr), ∃ (n56 : Nat), ∃ (n57 : Nat), ∃ (t58 : Bool), v47 = Value.tuple (Array.mk [Value.agg (Array.mk [Value.int
        IntKind.i64 x50, Value.int IntKind.i64 x51, Value.slice A52 n53 n54, Value.slice A55 n56 n57]), Value.bool t58]) ∧ l48 = [[Value.int IntKind.i64 x13, Value.int IntKind.i64 x14, Value.slice A15 n16
        n17, Value.slice A18 n19 n20], [Value.int IntKind.i64 x24, Value.int IntKind.i64 x25, Value.slice A26 n27 n28, Value.slice A29 n30 n31], [Value.func (Fn.func g) (Array.mk []) (Array.mk [])],
        [Value.func (Fn.func gx) (Array.mk []) (Array.mk [])]] ∧ ∀ (_n59 : Nat), condK (!t58) (J66_6 R w49) (CallsI Try.prog 54 [Value.agg (Array.mk [Value.int IntKind.i64 x50, Value.int IntKind.i64 x51,
        Value.slice A52 n53 n54, Value.slice A55 n56 n57])] w49 [] fun (v60 : Value) (l61 : List (List Value)) (w62 : World) => ∃ (x63 : Int), ∃ (x64 : Int), ∃ (A65 : Option Addr), ∃ (n66 : Nat), ∃ (n67 :
        Nat), ∃ (A68 : Option Addr), ∃ (n69 : Nat), ∃ (n70 : Nat), v60 = Value.agg (Array.mk [Value.int IntKind.i64 x63, Value.int IntKind.i64 x64, Value.slice A65 n66 n67, Value.slice A68 n69 n70]) ∧ l61 =
        [] ∧ ∀ (_n71 : Nat), condK (decide ((↑n66 : Int) > 4000)) (J66_6 R w62) (J66_2 R x63 x64 A65 n66 n67 A68 n69 n70 w62))))) :
    CallsI Try.prog 66 [(.agg #[.int .i64 l, .int .i64 s, .slice A n c, .slice B m d]), (.agg #[.int .i64 lb, .int .i64 sb, .slice Ab nb cb, .slice Bb mb db]), (.func (.func g) #[] #[]), (.func (.func gx) #[] #[])] w [] R :=
  vcFun_sound (H := ⟨[((7, 9), [((25, 0), false), ((25, 1), false), ((83, 0), false), ((83, 1), false)])], []⟩) (args := [.v (.agg #[.int .i64 l, .int .i64 s, .slice A n c, .slice B m d]), .v (.agg #[.int .i64 lb, .int .i64 sb, .slice Ab nb cb, .slice Bb mb db]), .v (.func (.func g) #[] #[]), .v (.func (.func gx) #[] #[])]) (L := []) goodP Try.func66 (by simp [okp]) (by rw [Try.ntmps66]; simp) (by simp [okp]) (Eq.mp (by kernel_rfl) h)

def J96_5 (n72 : Nat) (most : Int) (R : Value → List (List Value) → World → Prop) (l : Int) (s : Int) (A : Option Addr) (n : Nat) (c : Nat) (B : Option Addr) (m : Nat) (d : Nat) (lb : Int) (sb : Int)
    (Ab : Option Addr) (nb : Nat) (cb : Nat) (Bb : Option Addr) (mb : Nat) (db : Nat) (g : Nat) (gx : Nat) (w76 : World) (I39 : Int → Int → Int → Option Addr → Nat → Nat → Option Addr → Nat → Nat → Option
    Addr → Nat → Nat → Option Nat → Lp) (x40 : Int) (x41 : Int) (x42 : Int) (A43 : Option Addr) (n44 : Nat) (n45 : Nat) (A46 : Option Addr) (n47 : Nat) (n48 : Nat) (A71 : Option Addr) (n73 : Nat) (A74 :
    Option Nat) (n54 : Nat) : Prop := condK (decide ((↑n72 : Int) > most)) (R (Value.tuple (Array.mk [Value.agg (Array.mk [Value.int IntKind.i64 0, Value.int IntKind.i64 0, Value.slice none 0 0,
    Value.slice none 0 0]), Value.bool false])) [[Value.int IntKind.i64 l, Value.int IntKind.i64 s, Value.slice A n c, Value.slice B m d], [Value.int IntKind.i64 lb, Value.int IntKind.i64 sb, Value.slice
    Ab nb cb, Value.slice Bb mb db], [Value.func (Fn.func g) (Array.mk []) (Array.mk [])], [Value.func (Fn.func gx) (Array.mk []) (Array.mk [])]] w76) ((I39 (IntKind.i64.wrap (x40 + 1)) x41 x42 A43 n44
    n45 A46 n47 n48 A71 n72 n73 A74).1 w76 ∧ (I39 (IntKind.i64.wrap (x40 + 1)) x41 x42 A43 n44 n45 A46 n47 n48 A71 n72 n73 A74).m w76 < n54)

set_option maxRecDepth 100000 in
theorem s96 (ba bb bk bx : Nat) (l s : Int) (A : Option Addr) (n c : Nat) (B : Option Addr) (m d : Nat) (lb sb : Int) (Ab : Option Addr) (nb cb : Nat) (Bb : Option Addr) (mb db : Nat) (g gx : Nat) (letters most p q : Int) (w : World) (R : Value → List (List Value) → World → Prop) (h :
    ∀ (_n1 _n2 n3 : Nat), CallsI Try.prog 57 [Value.pointer (some (Addr.mk n3 0 none)), Value.agg (Array.mk [Value.int IntKind.i64 p, Value.int IntKind.i64 q])] w [(n3, 68, [Value.slice none 0 0,
        Value.map none])] fun (v4 : Value) (l5 : List (List Value)) (w6 : World) => ∃ (x7 : Int), v4 = Value.int IntKind.i64 x7 ∧ ∃ (A8 : Option Addr), ∃ (n9 : Nat), ∃ (n10 : Nat), ∃ (A11 : Option Nat), l5 =
        [[Value.slice A8 n9 n10, Value.map A11]] ∧ ∀ (_n12 : Nat), ∃ (I13 : Int → Int → Int → Option Addr → Nat → Nat → Option Addr → Nat → Nat → Option Addr → Nat → Nat → Option Nat → Int → Int → Option Addr
        → Nat → Nat → Option Addr → Nat → Nat → Lp), (I13 0 0 0 none 0 0 none 0 0 A8 n9 n10 A11 letters 0 none 0 0 none 0 0).1 w6 ∧ ∀ (x14 x15 x16 : Int) (A17 : Option Addr) (n18 n19 : Nat) (A20 : Option
        Addr) (n21 n22 : Nat) (A23 : Option Addr) (n24 n25 : Nat) (A26 : Option Nat) (x27 x28 : Int) (A29 : Option Addr) (n30 n31 : Nat) (A32 : Option Addr) (n33 n34 : Nat) (w35 : World), (I13 x14 x15 x16 A17
        n18 n19 A20 n21 n22 A23 n24 n25 A26 x27 x28 A29 n30 n31 A32 n33 n34).1 w35 → ∀ (n36 : Nat), (I13 x14 x15 x16 A17 n18 n19 A20 n21 n22 A23 n24 n25 A26 x27 x28 A29 n30 n31 A32 n33 n34).m w35 = n36 →
        condK (decide (x14 < (↑n24 : Int))) (letters = letters ∧ 0 ≤ letters ∧ letters * (↑8 : Int) ≤ 281474976710656 ∧ letters ≤ 9223372036854775807 ∧ NewK w35 (Obj.cells (Array.mk (List.replicate
        letters.toNat (Value.int IntKind.i64 0))) 3) fun (n37 : Nat) (w38 : World) => ∃ (I39 : Int → Int → Int → Option Addr → Nat → Nat → Option Addr → Nat → Nat → Option Addr → Nat → Nat → Option Nat → Lp),
        (I39 0 x15 x16 A17 n18 n19 A20 n21 n22 A23 n24 n25 A26).1 w38 ∧ ∀ (x40 x41 x42 : Int) (A43 : Option Addr) (n44 n45 : Nat) (A46 : Option Addr) (n47 n48 : Nat) (A49 : Option Addr) (n50 n51 : Nat) (A52 :
        Option Nat) (w53 : World), (I39 x40 x41 x42 A43 n44 n45 A46 n47 n48 A49 n50 n51 A52).1 w53 → ∀ (n54 : Nat), (I39 x40 x41 x42 A43 n44 n45 A46 n47 n48 A49 n50 n51 A52).m w53 = n54 → condK (decide (x40 <
        letters)) (IxV (some (Addr.mk n37 0 none)) letters.toNat 1 x40 fun (a55 : Addr) => SetK w53 a55 (Value.int IntKind.i64 (-1)) fun (w56 : World) => IxV A49 n50 2 x14 fun (a57 : Addr) => ∃ (x58 : Int), ∃
        (x59 : Int), w56.cell? a57 = some (Value.int IntKind.i64 x58) ∧ w56.cell? (a57.add 1) = some (Value.int IntKind.i64 x59) ∧ CallsI Try.prog 97 [Value.agg (Array.mk [Value.int IntKind.i64 x58, Value.int
        IntKind.i64 x59]), Value.int IntKind.i64 x40, Value.pointer (some (Addr.mk ba 0 none)), Value.pointer (some (Addr.mk bb 0 none)), Value.pointer (some (Addr.mk bk 0 none))] w56 [(ba, 25, [Value.int
        IntKind.i64 l, Value.int IntKind.i64 s, Value.slice A n c, Value.slice B m d]), (bb, 25, [Value.int IntKind.i64 lb, Value.int IntKind.i64 sb, Value.slice Ab nb cb, Value.slice Bb mb db]), (bk, 83,
        [Value.func (Fn.func g) (Array.mk []) (Array.mk [])])] fun (v60 : Value) (l61 : List (List Value)) (w62 : World) => ∃ (x63 : Int), ∃ (x64 : Int), ∃ (t65 : Bool), v60 = Value.tuple (Array.mk [Value.agg
        (Array.mk [Value.int IntKind.i64 x63, Value.int IntKind.i64 x64]), Value.bool t65]) ∧ l61 = [[Value.int IntKind.i64 l, Value.int IntKind.i64 s, Value.slice A n c, Value.slice B m d], [Value.int
        IntKind.i64 lb, Value.int IntKind.i64 sb, Value.slice Ab nb cb, Value.slice Bb mb db], [Value.func (Fn.func g) (Array.mk []) (Array.mk [])]] ∧ ∀ (_n66 : Nat), condK t65 (CallsI Try.prog 57
        [Value.pointer (some (Addr.mk n3 0 none)), Value.agg (Array.mk [Value.int IntKind.i64 x63, Value.int IntKind.i64 x64])] w62 [(n3, 68, [Value.slice A49 n50 n51, Value.map A52])] fun (v67 : Value) (l68
        : List (List Value)) (w69 : World) => ∃ (x70 : Int), v67 = Value.int IntKind.i64 x70 ∧ ∃ (A71 : Option Addr), ∃ (n72 : Nat), ∃ (n73 : Nat), ∃ (A74 : Option Nat), l68 = [[Value.slice A71 n72 n73,
        Value.map A74]] ∧ IxV (some (Addr.mk n37 0 none)) letters.toNat 1 x40 fun (a75 : Addr) => SetK w69 a75 (Value.int IntKind.i64 x70) fun (w76 : World) => J96_5 n72 most R l s A n c B m d lb sb Ab nb cb
        Bb mb db g gx w76 I39 x40 x41 x42 A43 n44 n45 A46 n47 n48 A71 n73 A74 n54) (J96_5 n50 most R l s A n c B m d lb sb Ab nb cb Bb mb db g gx w62 I39 x40 x41 x42 A43 n44 n45 A46 n47 n48 A49 n51 A52 n54))
        (NewK w53 (Obj.cells (Array.mk [Value.slice (some (Addr.mk n37 0 none)) letters.toNat letters.toNat]) 26) fun (n77 : Nat) (w78 : World) => AppK 24 1 [Value.slice none 0 0] 26 A29 n30 n31 (some
        (Addr.mk n77 0 none)) 1 w78 fun (A79 : Option Addr) (n80 n81 : Nat) (w82 : World) => IxV A49 n50 2 x14 fun (a83 : Addr) => ∃ (x84 : Int), ∃ (x85 : Int), w82.cell? a83 = some (Value.int IntKind.i64
        x84) ∧ w82.cell? (a83.add 1) = some (Value.int IntKind.i64 x85) ∧ CallsI Try.prog 98 [Value.agg (Array.mk [Value.int IntKind.i64 x84, Value.int IntKind.i64 x85]), Value.pointer (some (Addr.mk bx 0
        none)), Value.pointer (some (Addr.mk ba 0 none)), Value.pointer (some (Addr.mk bb 0 none))] w82 [(bx, 83, [Value.func (Fn.func gx) (Array.mk []) (Array.mk [])]), (ba, 25, [Value.int IntKind.i64 l,
        Value.int IntKind.i64 s, Value.slice A n c, Value.slice B m d]), (bb, 25, [Value.int IntKind.i64 lb, Value.int IntKind.i64 sb, Value.slice Ab nb cb, Value.slice Bb mb db])] fun (v86 : Value) (l87 :
        List (List Value)) (w88 : World) => ∃ (t89 : Bool), v86 = Value.bool t89 ∧ l87 = [[Value.func (Fn.func gx) (Array.mk []) (Array.mk [])], [Value.int IntKind.i64 l, Value.int IntKind.i64 s, Value.slice
        A n c, Value.slice B m d], [Value.int IntKind.i64 lb, Value.int IntKind.i64 sb, Value.slice Ab nb cb, Value.slice Bb mb db]] ∧ NewK w88 (Obj.cells (Array.mk [Value.bool t89]) 4) fun (n90 : Nat) (w91 :
        World) => AppK 1 1 [Value.bool false] 4 A32 n33 n34 (some (Addr.mk n90 0 none)) 1 w91 fun (A92 : Option Addr) (n93 n94 : Nat) (w95 : World) => (I13 (IntKind.i64.wrap (x14 + 1)) x41 x42 A43 n44 n45 A46
        n47 n48 A49 n50 n51 A52 x27 x28 A79 n80 n81 A92 n93 n94).1 w95 ∧ (I13 (IntKind.i64.wrap (x14 + 1)) x41 x42 A43 n44 n45 A46 n47 n48 A49 n50 n51 A52 x27 x28 A79 n80 n81 A92 n93 n94).m w95 < n36)) (R
        (Value.tuple (Array.mk [Value.agg (Array.mk [Value.int IntKind.i64 x27, Value.int IntKind.i64 x28, Value.slice A29 n30 n31, Value.slice A32 n33 n34]), Value.bool true])) [[Value.int IntKind.i64 l,
        Value.int IntKind.i64 s, Value.slice A n c, Value.slice B m d], [Value.int IntKind.i64 lb, Value.int IntKind.i64 sb, Value.slice Ab nb cb, Value.slice Bb mb db], [Value.func (Fn.func g) (Array.mk [])
        (Array.mk [])], [Value.func (Fn.func gx) (Array.mk []) (Array.mk [])]] w35)) :
    CallsI Try.prog 96 [(.int .i64 letters), (.int .i64 most), (.agg #[.int .i64 p, .int .i64 q]), (.func (.func 97) #[] #[.pointer (some ⟨ba, 0, none⟩), .pointer (some ⟨bb, 0, none⟩), .pointer (some ⟨bk, 0, none⟩)]), (.func (.func 98) #[] #[.pointer (some ⟨bx, 0, none⟩), .pointer (some ⟨ba, 0, none⟩), .pointer (some ⟨bb, 0, none⟩)])] w [(ba, 25, [.int .i64 l, .int .i64 s, .slice A n c, .slice B m d]), (bb, 25, [.int .i64 lb, .int .i64 sb, .slice Ab nb cb, .slice Bb mb db]), (bk, 83, [.func (.func g) #[] #[]]), (bx, 83, [.func (.func gx) #[] #[]])] R :=
  vcFun_sound (H := ⟨[((2, 1), [((68, 0), true)]), ((14, 3), [((68, 0), true)]), ((12, 7), [((25, 0), false), ((25, 1), false), ((83, 0), false)]), ((19, 8), [((83, 1), false), ((25, 0), false), ((25, 1), false)])], [(0, [(14, .int .i64)], [(25, 2), (68, 0), (25, 3)]), (2, [(33, .int .i64)], [(25, 2), (68, 0)])]⟩) (args := [.v (.int .i64 letters), .v (.int .i64 most), .v (.agg #[.int .i64 p, .int .i64 q]), .v (.func (.func 97) #[] #[.pointer (some ⟨ba, 0, none⟩), .pointer (some ⟨bb, 0, none⟩), .pointer (some ⟨bk, 0, none⟩)]), .v (.func (.func 98) #[] #[.pointer (some ⟨bx, 0, none⟩), .pointer (some ⟨ba, 0, none⟩), .pointer (some ⟨bb, 0, none⟩)])]) (L := [⟨ba, 25, [.v (.int .i64 l), .v (.int .i64 s), .v (.slice A n c), .v (.slice B m d)]⟩, ⟨bb, 25, [.v (.int .i64 lb), .v (.int .i64 sb), .v (.slice Ab nb cb), .v (.slice Bb mb db)]⟩, ⟨bk, 83, [.v (.func (.func g) #[] #[])]⟩, ⟨bx, 83, [.v (.func (.func gx) #[] #[])]⟩]) goodP Try.func96 (by simp [okp]) (by rw [Try.ntmps96]; simp) (by simp [okp]) (Eq.mp (by kernel_rfl) h)

end Go.Proofs.Ytnkpjlhbojjneaa.VC

/- The conditions of functions, printed by wip/tools/gen.py. -/
namespace Go.Proofs.Ytnkpjlhbojjneaa.VC
open Go Go.RowKit

def J68_2 (R : Value → List (List Value) → World → Prop) (w34 : World) : Prop := R (Value.tuple (Array.mk [Value.agg (Array.mk [Value.int IntKind.i64 0, Value.int IntKind.i64 0, Value.slice none 0 0,
    Value.slice none 0 0]), Value.int IntKind.i64 5])) [] w34

def J68_19 (x11 : Int) (x12 : Int) (A13 : Option Addr) (n14 : Nat) (n15 : Nat) (A16 : Option Addr) (n17 : Nat) (n18 : Nat) (x22 : Int) (x23 : Int) (A24 : Option Addr) (n25 : Nat) (n26 : Nat) (A27 :
    Option Addr) (n28 : Nat) (n29 : Nat) (st : Bool) (w21 : World) (R : Value → List (List Value) → World → Prop) : Prop := CallsI Try.prog 63 [Value.agg (Array.mk [Value.int IntKind.i64 x11, Value.int
    IntKind.i64 x12, Value.slice A13 n14 n15, Value.slice A16 n17 n18]), Value.agg (Array.mk [Value.int IntKind.i64 x22, Value.int IntKind.i64 x23, Value.slice A24 n25 n26, Value.slice A27 n28 n29]),
    Value.bool st, Value.int IntKind.i64 20000] w21 [] fun (v32 : Value) (l33 : List (List Value)) (w34 : World) => ∃ (A35 : Option Addr), ∃ (n36 : Nat), ∃ (n37 : Nat), ∃ (A38 : Option Addr), ∃ (n39 :
    Nat), ∃ (n40 : Nat), ∃ (A41 : Option Addr), ∃ (n42 : Nat), ∃ (n43 : Nat), v32 = Value.agg (Array.mk [Value.slice A35 n36 n37, Value.slice A38 n39 n40, Value.slice A41 n42 n43]) ∧ l33 = [] ∧ ∀ (_n44 :
    Nat), condK (decide ((↑n36 : Int) > 20000)) (J68_2 R w34) (CallsI Try.prog 99 [Value.agg (Array.mk [Value.int IntKind.i64 x11, Value.int IntKind.i64 x12, Value.slice A13 n14 n15, Value.slice A16 n17
    n18]), Value.agg (Array.mk [Value.int IntKind.i64 x22, Value.int IntKind.i64 x23, Value.slice A24 n25 n26, Value.slice A27 n28 n29]), Value.agg (Array.mk [Value.slice A35 n36 n37, Value.slice A38 n39
    n40, Value.slice A41 n42 n43]), Value.bool st] w34 [] fun (v45 : Value) (l46 : List (List Value)) (w47 : World) => ∃ (x48 : Int), ∃ (x49 : Int), ∃ (A50 : Option Addr), ∃ (n51 : Nat), ∃ (n52 : Nat), ∃
    (A53 : Option Addr), ∃ (n54 : Nat), ∃ (n55 : Nat), v45 = Value.agg (Array.mk [Value.int IntKind.i64 x48, Value.int IntKind.i64 x49, Value.slice A50 n51 n52, Value.slice A53 n54 n55]) ∧ l46 = [] ∧
    CallsI Try.prog 53 [Value.agg (Array.mk [Value.int IntKind.i64 x48, Value.int IntKind.i64 x49, Value.slice A50 n51 n52, Value.slice A53 n54 n55])] w47 [] fun (v56 : Value) (l57 : List (List Value))
    (w58 : World) => ∃ (x59 : Int), ∃ (x60 : Int), ∃ (A61 : Option Addr), ∃ (n62 : Nat), ∃ (n63 : Nat), ∃ (A64 : Option Addr), ∃ (n65 : Nat), ∃ (n66 : Nat), v56 = Value.agg (Array.mk [Value.int
    IntKind.i64 x59, Value.int IntKind.i64 x60, Value.slice A61 n62 n63, Value.slice A64 n65 n66]) ∧ l57 = [] ∧ ∀ (_n67 : Nat), condK (decide ((↑n62 : Int) > 4000)) (J68_2 R w58) (R (Value.tuple (Array.mk
    [Value.agg (Array.mk [Value.int IntKind.i64 x59, Value.int IntKind.i64 x60, Value.slice A61 n62 n63, Value.slice A64 n65 n66]), Value.int IntKind.i64 0])) [] w58))

def J68_27 (lb : Int) (sb : Int) (Ab : Option Addr) (nb : Nat) (cb : Nat) (Bb : Option Addr) (mb : Nat) (db : Nat) (w10 : World) (x11 : Int) (x12 : Int) (A13 : Option Addr) (n14 : Nat) (n15 : Nat)
    (A16 : Option Addr) (n17 : Nat) (n18 : Nat) (st : Bool) (R : Value → List (List Value) → World → Prop) : Prop := CallsI Try.prog 53 [Value.agg (Array.mk [Value.int IntKind.i64 lb, Value.int
    IntKind.i64 sb, Value.slice Ab nb cb, Value.slice Bb mb db])] w10 [] fun (v107 : Value) (l108 : List (List Value)) (w109 : World) => ∃ (x110 : Int), ∃ (x111 : Int), ∃ (A112 : Option Addr), ∃ (n113 :
    Nat), ∃ (n114 : Nat), ∃ (A115 : Option Addr), ∃ (n116 : Nat), ∃ (n117 : Nat), v107 = Value.agg (Array.mk [Value.int IntKind.i64 x110, Value.int IntKind.i64 x111, Value.slice A112 n113 n114,
    Value.slice A115 n116 n117]) ∧ l108 = [] ∧ (Nat → J68_19 x11 x12 A13 n14 n15 A16 n17 n18 x110 x111 A112 n113 n114 A115 n116 n117 st w109 R)

def J68_31 (lb : Int) (sb : Int) (Ab : Option Addr) (nb : Nat) (cb : Nat) (Bb : Option Addr) (mb : Nat) (db : Nat) (w10 : World) (x11 : Int) (x12 : Int) (A13 : Option Addr) (n14 : Nat) (n15 : Nat)
    (A16 : Option Addr) (n17 : Nat) (n18 : Nat) (st : Bool) (R : Value → List (List Value) → World → Prop) : Prop := CallsI Try.prog 53 [Value.agg (Array.mk [Value.int IntKind.i64 lb, Value.int
    IntKind.i64 sb, Value.slice Ab nb cb, Value.slice Bb mb db])] w10 [] fun (v120 : Value) (l121 : List (List Value)) (w122 : World) => ∃ (x123 : Int), ∃ (x124 : Int), ∃ (A125 : Option Addr), ∃ (n126 :
    Nat), ∃ (n127 : Nat), ∃ (A128 : Option Addr), ∃ (n129 : Nat), ∃ (n130 : Nat), v120 = Value.agg (Array.mk [Value.int IntKind.i64 x123, Value.int IntKind.i64 x124, Value.slice A125 n126 n127,
    Value.slice A128 n129 n130]) ∧ l121 = [] ∧ J68_19 x11 x12 A13 n14 n15 A16 n17 n18 x123 x124 A125 n126 n127 A128 n129 n130 st w122 R

def J68_39 (l : Int) (s : Int) (A : Option Addr) (n : Nat) (c : Nat) (B : Option Addr) (m : Nat) (d : Nat) (w6 : World) (lb : Int) (sb : Int) (Ab : Option Addr) (nb : Nat) (cb : Nat) (Bb : Option
    Addr) (mb : Nat) (db : Nat) (st : Bool) (R : Value → List (List Value) → World → Prop) : Prop := CallsI Try.prog 53 [Value.agg (Array.mk [Value.int IntKind.i64 l, Value.int IntKind.i64 s, Value.slice
    A n c, Value.slice B m d])] w6 [] fun (v157 : Value) (l158 : List (List Value)) (w159 : World) => ∃ (x160 : Int), ∃ (x161 : Int), ∃ (A162 : Option Addr), ∃ (n163 : Nat), ∃ (n164 : Nat), ∃ (A165 :
    Option Addr), ∃ (n166 : Nat), ∃ (n167 : Nat), v157 = Value.agg (Array.mk [Value.int IntKind.i64 x160, Value.int IntKind.i64 x161, Value.slice A162 n163 n164, Value.slice A165 n166 n167]) ∧ l158 = [] ∧
    J68_27 lb sb Ab nb cb Bb mb db w159 x160 x161 A162 n163 n164 A165 n166 n167 st R ∧ (Nat → J68_31 lb sb Ab nb cb Bb mb db w159 x160 x161 A162 n163 n164 A165 n166 n167 st R)

def J68_43 (l : Int) (s : Int) (A : Option Addr) (n : Nat) (c : Nat) (B : Option Addr) (m : Nat) (d : Nat) (w6 : World) (lb : Int) (sb : Int) (Ab : Option Addr) (nb : Nat) (cb : Nat) (Bb : Option
    Addr) (mb : Nat) (db : Nat) (st : Bool) (R : Value → List (List Value) → World → Prop) : Prop := CallsI Try.prog 53 [Value.agg (Array.mk [Value.int IntKind.i64 l, Value.int IntKind.i64 s, Value.slice
    A n c, Value.slice B m d])] w6 [] fun (v193 : Value) (l194 : List (List Value)) (w195 : World) => ∃ (x196 : Int), ∃ (x197 : Int), ∃ (A198 : Option Addr), ∃ (n199 : Nat), ∃ (n200 : Nat), ∃ (A201 :
    Option Addr), ∃ (n202 : Nat), ∃ (n203 : Nat), v193 = Value.agg (Array.mk [Value.int IntKind.i64 x196, Value.int IntKind.i64 x197, Value.slice A198 n199 n200, Value.slice A201 n202 n203]) ∧ l194 = [] ∧
    J68_31 lb sb Ab nb cb Bb mb db w195 x196 x197 A198 n199 n200 A201 n202 n203 st R

set_option maxRecDepth 100000 in
theorem s68 (l s : Int) (A : Option Addr) (n c : Nat) (B : Option Addr) (m d : Nat) (lb sb : Int) (Ab : Option Addr) (nb cb : Nat) (Bb : Option Addr) (mb db : Nat) (st : Bool) (w : World) (R : Value → List (List Value) → World → Prop) (h :
    ∀ (_n1 _n2 _n3 : Nat), CallsI Try.prog 62 [Value.agg (Array.mk [Value.int IntKind.i64 l, Value.int IntKind.i64 s, Value.slice A n c, Value.slice B m d]), Value.agg (Array.mk [Value.int IntKind.i64 lb,
        Value.int IntKind.i64 sb, Value.slice Ab nb cb, Value.slice Bb mb db])] w [] fun (v4 : Value) (l5 : List (List Value)) (w6 : World) => ∃ (x7 : Int), v4 = Value.int IntKind.i64 x7 ∧ l5 = [] ∧ condK (x7
        != 0) (R (Value.tuple (Array.mk [Value.agg (Array.mk [Value.int IntKind.i64 0, Value.int IntKind.i64 0, Value.slice none 0 0, Value.slice none 0 0]), Value.int IntKind.i64 x7])) [] w6) ((CallsI
        Try.prog 53 [Value.agg (Array.mk [Value.int IntKind.i64 l, Value.int IntKind.i64 s, Value.slice A n c, Value.slice B m d])] w6 [] fun (v8 : Value) (l9 : List (List Value)) (w10 : World) => ∃ (x11 :
        Int), ∃ (x12 : Int), ∃ (A13 : Option Addr), ∃ (n14 : Nat), ∃ (n15 : Nat), ∃ (A16 : Option Addr), ∃ (n17 : Nat), ∃ (n18 : Nat), v8 = Value.agg (Array.mk [Value.int IntKind.i64 x11, Value.int
        IntKind.i64 x12, Value.slice A13 n14 n15, Value.slice A16 n17 n18]) ∧ l9 = [] ∧ (CallsI Try.prog 53 [Value.agg (Array.mk [Value.int IntKind.i64 lb, Value.int IntKind.i64 sb, Value.slice Ab nb cb,
        Value.slice Bb mb db])] w10 [] fun (v19 : Value) (l20 : List (List Value)) (w21 : World) => ∃ (x22 : Int), ∃ (x23 : Int), ∃ (A24 : Option Addr), ∃ (n25 : Nat), ∃ (n26 : Nat), ∃ (A27 : Option Addr), ∃
        (n28 : Nat), ∃ (n29 : Nat), v19 = Value.agg (Array.mk [Value.int IntKind.i64 x22, Value.int IntKind.i64 x23, Value.slice A24 n25 n26, Value.slice A27 n28 n29]) ∧ l20 = [] ∧ (Nat → Nat → J68_19 x11 x12
        A13 n14 n15 A16 n17 n18 x22 x23 A24 n25 n26 A27 n28 n29 st w21 R) ∧ (Nat → Nat → J68_19 x11 x12 A13 n14 n15 A16 n17 n18 x22 x23 A24 n25 n26 A27 n28 n29 st w21 R)) ∧ (∀ (_n106 : Nat), J68_27 lb sb Ab
        nb cb Bb mb db w10 x11 x12 A13 n14 n15 A16 n17 n18 st R ∧ (Nat → J68_31 lb sb Ab nb cb Bb mb db w10 x11 x12 A13 n14 n15 A16 n17 n18 st R)) ∧ ∀ (_n131 : Nat), J68_27 lb sb Ab nb cb Bb mb db w10 x11 x12
        A13 n14 n15 A16 n17 n18 st R ∧ (Nat → J68_31 lb sb Ab nb cb Bb mb db w10 x11 x12 A13 n14 n15 A16 n17 n18 st R)) ∧ (∀ (_n156 : Nat), J68_39 l s A n c B m d w6 lb sb Ab nb cb Bb mb db st R ∧ (Nat →
        J68_43 l s A n c B m d w6 lb sb Ab nb cb Bb mb db st R)) ∧ ∀ (_n215 : Nat), J68_39 l s A n c B m d w6 lb sb Ab nb cb Bb mb db st R ∧ (Nat → J68_43 l s A n c B m d w6 lb sb Ab nb cb Bb mb db st R))) :
    CallsI Try.prog 68 [(.agg #[.int .i64 l, .int .i64 s, .slice A n c, .slice B m d]), (.agg #[.int .i64 lb, .int .i64 sb, .slice Ab nb cb, .slice Bb mb db]), (.bool st)] w [] R :=
  vcFun_sound (H := ⟨[], []⟩) (args := [.v (.agg #[.int .i64 l, .int .i64 s, .slice A n c, .slice B m d]), .v (.agg #[.int .i64 lb, .int .i64 sb, .slice Ab nb cb, .slice Bb mb db]), .v (.bool st)]) (L := []) goodP Try.func68 (by simp [okp]) (by rw [Try.ntmps68]; simp) (by simp [okp]) (Eq.mp (by kernel_rfl) h)

def J99_9 (A13 : Option Addr) (n14 : Nat) (n15 : Nat) (n56 : Nat) (w57 : World) (I6 : Int → Int → Int → Option Addr → Nat → Nat → Option Addr → Nat → Nat → Lp) (x7 : Int) (x8 : Int) (A44 : Option
    Addr) (n45 : Nat) (n46 : Nat) (n17 : Nat) : Prop := AppK 1 1 [Value.bool false] 4 A13 n14 n15 (some (Addr.mk n56 0 none)) 1 w57 fun (A58 : Option Addr) (n59 n60 : Nat) (w61 : World) => (I6
    (IntKind.i64.wrap (x7 + 1)) x8 0 A44 n45 n46 A58 n59 n60).1 w61 ∧ (I6 (IntKind.i64.wrap (x7 + 1)) x8 0 A44 n45 n46 A58 n59 n60).m w61 < n17

def J99_10 (w54 : World) (A13 : Option Addr) (n14 : Nat) (n15 : Nat) (I6 : Int → Int → Int → Option Addr → Nat → Nat → Option Addr → Nat → Nat → Lp) (x7 : Int) (x8 : Int) (A44 : Option Addr) (n45 :
    Nat) (n46 : Nat) (n17 : Nat) : Prop := NewK w54 (Obj.cells (Array.mk [Value.bool true]) 4) fun (n56 : Nat) (w57 : World) => J99_9 A13 n14 n15 n56 w57 I6 x7 x8 A44 n45 n46 n17

def J99_13 (st : Bool) (t51 : Bool) (w54 : World) (A13 : Option Addr) (n14 : Nat) (n15 : Nat) (I6 : Int → Int → Int → Option Addr → Nat → Nat → Option Addr → Nat → Nat → Lp) (x7 : Int) (x8 : Int) (A44
    : Option Addr) (n45 : Nat) (n46 : Nat) (n17 : Nat) (t55 : Bool) : Prop := condK (!st) (condK t51 (J99_10 w54 A13 n14 n15 I6 x7 x8 A44 n45 n46 n17) (NewK w54 (Obj.cells (Array.mk [Value.bool t55]) 4)
    fun (n68 : Nat) (w69 : World) => J99_9 A13 n14 n15 n68 w69 I6 x7 x8 A44 n45 n46 n17)) (NewK w54 (Obj.cells (Array.mk [Value.bool false]) 4) fun (n74 : Nat) (w75 : World) => J99_9 A13 n14 n15 n74 w75
    I6 x7 x8 A44 n45 n46 n17)

set_option maxRecDepth 100000 in
theorem s99 (l s : Int) (A : Option Addr) (n c : Nat) (B : Option Addr) (m d : Nat) (lb sb : Int) (Ab : Option Addr) (nb cb : Nat) (Bb : Option Addr) (mb db : Nat) (P : Option Addr) (p0 p1 : Nat) (F : Option Addr) (f0 f1 : Nat) (Z : Option Addr) (z0 z1 : Nat) (st : Bool) (w : World) (R : Value → List (List Value) → World → Prop) (h :
    ∀ (_n1 _n2 _n3 _n4 _n5 : Nat), ∃ (I6 : Int → Int → Int → Option Addr → Nat → Nat → Option Addr → Nat → Nat → Lp), (I6 0 l (-1) none 0 0 none 0 0).1 w ∧ ∀ (x7 x8 x9 : Int) (A10 : Option Addr) (n11 n12
        : Nat) (A13 : Option Addr) (n14 n15 : Nat) (w16 : World), (I6 x7 x8 x9 A10 n11 n12 A13 n14 n15).1 w16 → ∀ (n17 : Nat), (I6 x7 x8 x9 A10 n11 n12 A13 n14 n15).m w16 = n17 → condK (decide (x7 < (↑p0 :
        Int))) (IxV P p0 2 x7 fun (a18 : Addr) => ∃ (x19 : Int), ∃ (x20 : Int), w16.cell? a18 = some (Value.int IntKind.i64 x19) ∧ w16.cell? (a18.add 1) = some (Value.int IntKind.i64 x20) ∧ ∀ (_n21 : Nat), l
        = l ∧ 0 ≤ l ∧ l * (↑8 : Int) ≤ 281474976710656 ∧ l ≤ 9223372036854775807 ∧ NewK w16 (Obj.cells (Array.mk (List.replicate l.toNat (Value.int IntKind.i64 0))) 3) fun (n22 : Nat) (w23 : World) => ∃ (I24
        : Int → Lp), (I24 0).1 w23 ∧ ∀ (x25 : Int) (w26 : World), (I24 x25).1 w26 → ∀ (n27 : Nat), (I24 x25).m w26 = n27 → condK (decide (x25 < l)) (CallsI Try.prog 49 [Value.agg (Array.mk [Value.int
        IntKind.i64 l, Value.int IntKind.i64 s, Value.slice A n c, Value.slice B m d]), Value.int IntKind.i64 x19, Value.int IntKind.i64 x25] w26 [] fun (v28 : Value) (l29 : List (List Value)) (w30 : World)
        => ∃ (x31 : Int), v28 = Value.int IntKind.i64 x31 ∧ l29 = [] ∧ CallsI Try.prog 49 [Value.agg (Array.mk [Value.int IntKind.i64 lb, Value.int IntKind.i64 sb, Value.slice Ab nb cb, Value.slice Bb mb
        db]), Value.int IntKind.i64 x20, Value.int IntKind.i64 x25] w30 [] fun (v32 : Value) (l33 : List (List Value)) (w34 : World) => ∃ (x35 : Int), v32 = Value.int IntKind.i64 x35 ∧ l33 = [] ∧ CallsI
        Try.prog 95 [Value.slice P p0 p1, Value.agg (Array.mk [Value.int IntKind.i64 x31, Value.int IntKind.i64 x35])] w34 [] fun (v36 : Value) (l37 : List (List Value)) (w38 : World) => ∃ (x39 : Int), v36 =
        Value.int IntKind.i64 x39 ∧ l37 = [] ∧ IxV (some (Addr.mk n22 0 none)) l.toNat 1 x25 fun (a40 : Addr) => SetK w38 a40 (Value.int IntKind.i64 x39) fun (w41 : World) => (I24 (IntKind.i64.wrap (x25 +
        1))).1 w41 ∧ (I24 (IntKind.i64.wrap (x25 + 1))).m w41 < n27) (NewK w26 (Obj.cells (Array.mk [Value.slice (some (Addr.mk n22 0 none)) l.toNat l.toNat]) 26) fun (n42 : Nat) (w43 : World) => AppK 24 1
        [Value.slice none 0 0] 26 A10 n11 n12 (some (Addr.mk n42 0 none)) 1 w43 fun (A44 : Option Addr) (n45 n46 : Nat) (w47 : World) => CallsI Try.prog 50 [Value.agg (Array.mk [Value.int IntKind.i64 l,
        Value.int IntKind.i64 s, Value.slice A n c, Value.slice B m d]), Value.int IntKind.i64 x19] w47 [] fun (v48 : Value) (l49 : List (List Value)) (w50 : World) => ∃ (t51 : Bool), v48 = Value.bool t51 ∧
        l49 = [] ∧ CallsI Try.prog 50 [Value.agg (Array.mk [Value.int IntKind.i64 lb, Value.int IntKind.i64 sb, Value.slice Ab nb cb, Value.slice Bb mb db]), Value.int IntKind.i64 x20] w50 [] fun (v52 :
        Value) (l53 : List (List Value)) (w54 : World) => ∃ (t55 : Bool), v52 = Value.bool t55 ∧ l53 = [] ∧ condK st (condK t51 (condK t55 (J99_10 w54 A13 n14 n15 I6 x7 x8 A44 n45 n46 n17) (J99_13 st t51 w54
        A13 n14 n15 I6 x7 x8 A44 n45 n46 n17 t55)) (J99_13 st t51 w54 A13 n14 n15 I6 x7 x8 A44 n45 n46 n17 t55)) (J99_13 st t51 w54 A13 n14 n15 I6 x7 x8 A44 n45 n46 n17 t55))) (R (Value.agg (Array.mk
        [Value.int IntKind.i64 x8, Value.int IntKind.i64 x9, Value.slice A10 n11 n12, Value.slice A13 n14 n15])) [] w16)) :
    CallsI Try.prog 99 [(.agg #[.int .i64 l, .int .i64 s, .slice A n c, .slice B m d]), (.agg #[.int .i64 lb, .int .i64 sb, .slice Ab nb cb, .slice Bb mb db]), (.agg #[.slice P p0 p1, .slice F f0 f1, .slice Z z0 z1]), (.bool st)] w [] R :=
  vcFun_sound (H := ⟨[], [(0, [(10, .int .i64)], [(25, 3)]), (2, [(13, .int .i64)], [])]⟩) (args := [.v (.agg #[.int .i64 l, .int .i64 s, .slice A n c, .slice B m d]), .v (.agg #[.int .i64 lb, .int .i64 sb, .slice Ab nb cb, .slice Bb mb db]), .v (.agg #[.slice P p0 p1, .slice F f0 f1, .slice Z z0 z1]), .v (.bool st)]) (L := []) goodP Try.func99 (by simp [okp]) (by rw [Try.ntmps99]; simp) (by simp [okp]) (Eq.mp (by kernel_rfl) h)

end Go.Proofs.Ytnkpjlhbojjneaa.VC

/- The words of both machines, and of one of both. -/
namespace Go.Proofs.Ytnkpjlhbojjneaa.VC
open Go Go.RowKit

/-- what is asked of two things: both, or one at the least -/
def kf (st x y : Bool) : Bool := if st then x && y else x || y
theorem okP_kf {st : Bool} {p : IP} : okP st p ↔ kf st (decide (0 ≤ p.1)) (decide (0 ≤ p.2)) = true := by
  cases st <;> simp [okP, kf]
theorem kf_none {st : Bool} {a b : Mach} {p : IP} (h : ¬ okP st p) (u : List Int) : kf st (a.acc p.1 u) (b.acc p.2 u) = false := by
  cases st with
  | true =>
    have h : ¬ (0 ≤ p.1 ∧ 0 ≤ p.2) := h
    by_cases h1 : 0 ≤ p.1
    · rw [Mach.acc_neg (m := b) (s := p.2) (by omega)]; simp [kf]
    · rw [Mach.acc_neg (m := a) (s := p.1) (by omega)]; simp [kf]
  | false =>
    have h : ¬ (0 ≤ p.1 ∨ 0 ≤ p.2) := h
    rw [Mach.acc_neg (m := b) (s := p.2) (by omega), Mach.acc_neg (m := a) (s := p.1) (by omega)]; rfl
def finP (st : Bool) (a b : Mach) (p : IP) : Bool := kf st (a.ends p.1) (b.ends p.2)
theorem pair_acc {st : Bool} {a b : Mach} (ha : a.Shaped) (hb : b.Shaped) (hl : a.letters = b.letters) (u : List Int) : ∀ p : IP, (pairAuto st a b (finP st a b)).acc p u = kf st (a.acc p.1 u) (b.acc p.2 u) := by
  induction u with
  | nil => intro p; rfl
  | cons x u ih =>
    intro p
    rw [Auto.acc, Mach.acc_cons, Mach.acc_cons]
    by_cases hx : 0 ≤ x ∧ x < (pairAuto st a b (finP st a b)).letters
    · rw [if_pos hx]
      by_cases hok : okP st (pstep a b p x)
      · rw [pairAuto_some hok]; exact ih _
      · rw [pairAuto_none hok]; exact (kf_none (p := pstep a b p x) hok u).symm
    · rw [if_neg hx]
      have := pstep_out ha hb hl (x := x) hx p
      refine (kf_none (p := pstep a b p x) ?_ u).symm
      rw [this]
      cases st <;> simp [okP, nowhere]
/-- the least machine of both, or of either -/
structure IsJoin (st : Bool) (a b mm : Mach) : Prop where
  canon : mm.Canon
  letters : mm.letters = a.letters
  words : ∀ u, mm.acc mm.start u = kf st (a.acc a.start u) (b.acc b.start u)
theorem IsJoin.unique {st : Bool} {a b x y : Mach} (hx : IsJoin st a b x) (hy : IsJoin st a b y) : x = y :=
  canon_unique hx.canon hy.canon (by rw [hx.letters, hy.letters]) fun u => by rw [hx.words, hy.words]
theorem IsJoin.of {st : Bool} {a b x y mm : Mach} (ha : IsLeast a x) (hb : IsLeast b y) (h : IsJoin st x y mm) : IsJoin st a b mm :=
  ⟨h.canon, by rw [h.letters, ha.letters], fun u => by rw [h.words, ha.words, hb.words]⟩
theorem Made.join {st : Bool} {a b m mm : Mach} {xs : List IP} (h : Made (pairAuto st a b (finP st a b)) (a.start, b.start) m xs) (ha : a.Shaped) (hb : b.Shaped) (hl : a.letters = b.letters) (hm : IsLeast m mm) : IsJoin st a b mm :=
  ⟨hm.canon, by rw [hm.letters, h.letters]; rfl, fun u => by rw [hm.words, h.acc_start, pair_acc ha hb hl]⟩
theorem none_join {st : Bool} {a b mm : Mach} (h : ¬ okP st (a.start, b.start)) (hm : IsLeast (noneM a.letters) mm) : IsJoin st a b mm :=
  ⟨hm.canon, hm.letters, fun u => by rw [hm.words, noneM_acc]; exact (kf_none (p := (a.start, b.start)) h u).symm⟩
theorem noneM_least {l : Int} (h : 0 ≤ l) : IsLeast (noneM l) (noneM l) := ⟨noneM_canon h, rfl, fun _ => rfl⟩
theorem IsJoin.same {a mm : Mach} (h : IsLeast a mm) (st : Bool) : IsJoin st a a mm := ⟨h.canon, h.letters, fun u => by rw [h.words]; cases st <;> simp [kf]⟩
theorem from_rng {st : Bool} {a b : Mach} {f : IP → Bool} (ha : a.Shaped) (hb : b.Shaped) {p : IP} (h : (pairAuto st a b f).From (a.start, b.start) p) : (-1 ≤ p.1 ∧ p.1 < a.next.length) ∧ (-1 ≤ p.2 ∧ p.2 < b.next.length) := by
  induction h with
  | here => exact ⟨ha.start_range, hb.start_range⟩
  | @step y z c _ _ _ e _ =>
    by_cases hok : okP st (pstep a b y c)
    · rw [pairAuto_some hok] at e; injection e with e; subst e
      exact ⟨ha.step_range _ _, hb.step_range _ _⟩
    · rw [pairAuto_none hok] at e; cases e
/-- how many pairs a made machine has -/
theorem Made.pairs {st : Bool} {a b m : Mach} {f : IP → Bool} {xs : List IP} (h : Made (pairAuto st a b f) (a.start, b.start) m xs) (ha : a.Shaped) (hb : b.Shaped) : (m.next.length : Int) ≤ (a.next.length + 1) * (b.next.length + 1) := by
  rw [h.len]
  exact pairs_bound h.part.nodup fun p hp => from_rng ha hb (h.part.from_ p hp)
/-- the rows of a walk -/
theorem WS.entry {st : Bool} {a b : Mach} {ps : List IP} {cm bl : List Int} {rs : List (List Int)} {i j : Int} (h : WS st a b ps cm bl rs i j) {k x : Nat} {row : List Int} {t : Int} {p : IP} (hr : rs[k]? = some row) (ht : row[x]? = some t) (hp : ps[k]? = some p) :
    (∀ y : Nat, ps[y]? = some (pstep a b p x) → t = y) ∧ (pstep a b p x ∉ ps → t = -1) := by
  have hpt := h.part (fun _ => false)
  obtain ⟨X, hX, hcase⟩ := hpt.ent k x t ⟨row, hr, ht⟩
  rw [hp] at hX; injection hX with hX; subst hX
  refine ⟨fun y hy => ?_, fun hn => ?_⟩
  · rcases hcase with ⟨e, _⟩ | ⟨Y, e, h0, hY⟩
    · have hok := (h.rng _ (List.mem_of_getElem? hy)).2
      rw [pairAuto_some hok] at e; cases e
    · have hok := (h.rng _ (List.mem_of_getElem? hy)).2
      rw [pairAuto_some hok] at e; injection e with e; subst e
      obtain ⟨l1, e1⟩ := List.getElem?_eq_some_iff.1 hy
      obtain ⟨l2, e2⟩ := List.getElem?_eq_some_iff.1 hY
      have := (List.getElem_inj hpt.nodup (h₀ := l1) (h₁ := l2)).1 (by rw [e1, e2])
      omega
  · rcases hcase with ⟨_, rfl⟩ | ⟨Y, e, h0, hY⟩
    · rfl
    · exfalso
      by_cases hok : okP st (pstep a b p x)
      · rw [pairAuto_some hok] at e; injection e with e; subst e
        exact hn (List.mem_of_getElem? hY)
      · rw [pairAuto_none hok] at e; cases e
end Go.Proofs.Ytnkpjlhbojjneaa.VC

/- The machine of all pairs that are found; both and either. -/
namespace Go.Proofs.Ytnkpjlhbojjneaa.VC
open Go Go.RowKit

theorem c67 {w : World} {x y : Bool} {R : Res} (hR : R (.bool (kf false x y)) [] w) : CallsI Try.prog 67 [.bool x, .bool y] w [] R := by
  refine s67 _ _ _ _ ?_
  cases x <;> exact hR
theorem c69 {w : World} {x y : Bool} {R : Res} (hR : R (.bool (kf true x y)) [] w) : CallsI Try.prog 69 [.bool x, .bool y] w [] R := by
  refine s69 _ _ _ _ ?_
  cases x <;> exact hR

section
variable {st : Bool} {g gx : Nat} {a b : Mach}
/-- a function of the program that tells what is asked of two things -/
def IsKf (st : Bool) (g : Nat) : Prop := ∀ (w : World) (x y : Bool) (R : Res), R (.bool (kf st x y)) [] w → CallsI Try.prog g [.bool x, .bool y] w [] R
theorem c97 {ba bb bk : Nat} {A : Option Addr} {n c : Nat} {B : Option Addr} {m d : Nat} {Ab : Option Addr} {nb cb : Nat} {Bb : Option Addr} {mb db : Nat} {w : World} {q : IP} {x : Int} {R : Res}
    (hg : IsKf st g) (ha : MachAt w a (.agg (Array.mk [.int .i64 a.letters, .int .i64 a.start, .slice A n c, .slice B m d]))) (hb : MachAt w b (.agg (Array.mk [.int .i64 b.letters, .int .i64 b.start, .slice Ab nb cb, .slice Bb mb db]))) (sa : a.Shaped) (sb : b.Shaped) (hl : a.letters = b.letters)
    (h1 : q.1 < a.next.length) (h2 : q.2 < b.next.length) (hx : a.Let x) (fin : IP → Bool)
    (hR : ∀ p, ((pairAuto st a b fin).next q x = none → R (.tuple (Array.mk [pairV p, .bool false])) [[.int .i64 a.letters, .int .i64 a.start, .slice A n c, .slice B m d], [.int .i64 b.letters, .int .i64 b.start, .slice Ab nb cb, .slice Bb mb db], [.func (.func g) #[] #[]]] w) ∧
      ((pairAuto st a b fin).next q x = some p → R (.tuple (Array.mk [pairV p, .bool true])) [[.int .i64 a.letters, .int .i64 a.start, .slice A n c, .slice B m d], [.int .i64 b.letters, .int .i64 b.start, .slice Ab nb cb, .slice Bb mb db], [.func (.func g) #[] #[]]] w)) :
    CallsI Try.prog 97 [pairV q, .int .i64 x, .pointer (some ⟨ba, 0, none⟩), .pointer (some ⟨bb, 0, none⟩), .pointer (some ⟨bk, 0, none⟩)] w
      [(ba, 25, [.int .i64 a.letters, .int .i64 a.start, .slice A n c, .slice B m d]), (bb, 25, [.int .i64 b.letters, .int .i64 b.start, .slice Ab nb cb, .slice Bb mb db]), (bk, 83, [.func (.func g) #[] #[]])] R := by
  have hxb : b.Let x := ⟨hx.1, by have := hx.2; omega⟩
  have fin3 : J97_3 g (a.step q.1 x) (b.step q.2 x) w R a.letters a.start A n c B m d b.letters b.start Ab nb cb Bb mb db := by
    rw [J97_3]
    refine hg _ _ _ _ ⟨_, rfl, rfl, ?_⟩
    have hh := hR (pstep a b q x)
    by_cases hok : okP st (pstep a b q x)
    · rw [show kf st (decide (a.step q.1 x ≥ 0)) (decide (b.step q.2 x ≥ 0)) = true from okP_kf.1 hok]
      exact hh.2 (pairAuto_some hok)
    · rw [show kf st (decide (a.step q.1 x ≥ 0)) (decide (b.step q.2 x ≥ 0)) = false from by
        have := mt okP_kf.2 hok
        rw [Bool.not_eq_true] at this; exact this]
      exact hh.1 (pairAuto_none hok)
  have fin7 : J97_7 b.letters b.start Ab nb cb Bb mb db q.2 x w g (a.step q.1 x) R a.letters a.start A n c B m d := by
    rw [J97_7]
    exact c58 hb sb h2 hxb ⟨_, rfl, rfl, fin3⟩
  refine s97 _ _ _ _ _ _ _ _ _ _ _ _ _ _ _ _ _ _ _ _ _ _ _ _ _ fun _ _ => ⟨?_, fun _ => ?_⟩
  · exact c58 ha sa h1 hx ⟨_, rfl, rfl, c58 hb sb h2 hxb ⟨_, rfl, rfl, fun _ => fin3⟩, fun _ => fin7⟩
  · exact c58 ha sa h1 hx ⟨_, rfl, rfl, fin7⟩
theorem c98 {ba bb bx : Nat} {A : Option Addr} {n c : Nat} {B : Option Addr} {m d : Nat} {Ab : Option Addr} {nb cb : Nat} {Bb : Option Addr} {mb db : Nat} {w : World} {q : IP} {R : Res}
    (hg : IsKf st gx) (ha : MachAt w a (.agg (Array.mk [.int .i64 a.letters, .int .i64 a.start, .slice A n c, .slice B m d]))) (hb : MachAt w b (.agg (Array.mk [.int .i64 b.letters, .int .i64 b.start, .slice Ab nb cb, .slice Bb mb db]))) (sa : a.Shaped) (sb : b.Shaped)
    (h1 : q.1 < a.next.length) (h2 : q.2 < b.next.length)
    (hR : R (.bool (finP st a b q)) [[.func (.func gx) #[] #[]], [.int .i64 a.letters, .int .i64 a.start, .slice A n c, .slice B m d], [.int .i64 b.letters, .int .i64 b.start, .slice Ab nb cb, .slice Bb mb db]] w) :
    CallsI Try.prog 98 [pairV q, .pointer (some ⟨bx, 0, none⟩), .pointer (some ⟨ba, 0, none⟩), .pointer (some ⟨bb, 0, none⟩)] w
      [(bx, 83, [.func (.func gx) #[] #[]]), (ba, 25, [.int .i64 a.letters, .int .i64 a.start, .slice A n c, .slice B m d]), (bb, 25, [.int .i64 b.letters, .int .i64 b.start, .slice Ab nb cb, .slice Bb mb db])] R := by
  have fa := sa.fin; have fb := sb.fin
  refine s98 _ _ _ _ _ _ _ _ _ _ _ _ _ _ _ _ _ _ _ _ _ _ _ _ fun _ => ?_
  exact c52 ha (by omega) ⟨_, rfl, rfl, c52 hb (by omega) ⟨_, rfl, rfl, hg _ _ _ _ ⟨_, rfl, rfl, hR⟩⟩⟩
end

def I12P (X : Auto IP) (first : IP) (most : Int) (w : World) : Int → Int → Int → Option Addr → Nat → Nat → Option Addr → Nat → Nat → Option Addr → Nat → Nat → Option Nat → Int → Int → Option Addr → Nat → Nat → Option Addr → Nat → Nat → Lp :=
  fun x13 _ _ _ _ _ _ _ _ A22 n23 n24 A25 x26 x27 A28 n29 n30 A31 n32 n33 => ⟨fun w' => ∃ F xs rows fins, Fam w w' F ∧ GP F 0 A22 n23 n24 xs ∧ NumMap F 1 KT.pair pairV A25 xs ∧ GII F 2 g10 A28 n29 n30 rows ∧ GSl F 3 A31 n32 n33 (bools fins) ∧ x26 = X.letters ∧ x27 = 0 ∧ Part X first xs rows ∧
    (∀ row ∈ rows, (row.length : Int) = X.letters) ∧ fins = (xs.take rows.length).map X.fin ∧ x13 = rows.length ∧ rows.length ≤ xs.length ∧ (xs.length : Int) ≤ most, fun _ => (most - x13).toNat⟩
def I38P (X : Auto IP) (first : IP) (most : Int) (w : World) (rows : List (List Int)) (fins : List Bool) (n36 : Nat) (A28 : Option Addr) (n29 n30 : Nat) (A31 : Option Addr) (n32 n33 : Nat) : Int → Int → Int → Option Addr → Nat → Nat → Option Addr → Nat → Nat → Option Addr → Nat → Nat → Option Nat → Lp :=
  fun x39 _ _ _ _ _ _ _ _ A48 n49 n50 A51 => ⟨fun w' => ∃ F xs cur, Fam w w' F ∧ GP F 0 A48 n49 n50 xs ∧ NumMap F 1 KT.pair pairV A51 xs ∧ GII F 2 g10 A28 n29 n30 rows ∧ GSl F 3 A31 n32 n33 (bools fins) ∧
    GSl F (g10 rows.length) (some ⟨n36, 0, none⟩) X.letters.toNat X.letters.toNat (ints (cur ++ List.replicate (X.letters - x39).toNat 0)) ∧ (cur.length : Int) = x39 ∧ Part X first xs (rows ++ [cur]) ∧ fins = (xs.take rows.length).map X.fin ∧ rows.length < xs.length ∧ (xs.length : Int) ≤ most ∧ 0 ≤ x39 ∧ x39 ≤ X.letters, fun _ => (X.letters - x39).toNat⟩

set_option maxHeartbeats 4000000 in
theorem c96 {ba bb bk bx : Nat} {l s : Int} {A : Option Addr} {n c : Nat} {B : Option Addr} {m d : Nat} {lb sb : Int} {Ab : Option Addr} {nb cb : Nat} {Bb : Option Addr} {mb db : Nat} {g gx : Nat} {X : Auto IP} {most : Int} {first : IP} {w : World} {R : Res}
    (hL0 : 0 ≤ X.letters) (hL : X.letters ≤ 1048576) (hm0 : 1 ≤ most) (hm1 : most ≤ 1048576)
    (hnext : ∀ w' q x (R' : Res), Ext w w' → X.From first q → 0 ≤ x → x < X.letters → (∀ y : IP, (X.next q x = none → R' (.tuple (Array.mk [pairV y, .bool false])) [[.int .i64 l, .int .i64 s, .slice A n c, .slice B m d], [.int .i64 lb, .int .i64 sb, .slice Ab nb cb, .slice Bb mb db], [.func (.func g) #[] #[]]] w') ∧
        (X.next q x = some y → R' (.tuple (Array.mk [pairV y, .bool true])) [[.int .i64 l, .int .i64 s, .slice A n c, .slice B m d], [.int .i64 lb, .int .i64 sb, .slice Ab nb cb, .slice Bb mb db], [.func (.func g) #[] #[]]] w')) →
      CallsI Try.prog 97 [pairV q, .int .i64 x, .pointer (some ⟨ba, 0, none⟩), .pointer (some ⟨bb, 0, none⟩), .pointer (some ⟨bk, 0, none⟩)] w' [(ba, 25, [.int .i64 l, .int .i64 s, .slice A n c, .slice B m d]), (bb, 25, [.int .i64 lb, .int .i64 sb, .slice Ab nb cb, .slice Bb mb db]), (bk, 83, [.func (.func g) #[] #[]])] R')
    (hend : ∀ w' q (R' : Res), Ext w w' → X.From first q → R' (.bool (X.fin q)) [[.func (.func gx) #[] #[]], [.int .i64 l, .int .i64 s, .slice A n c, .slice B m d], [.int .i64 lb, .int .i64 sb, .slice Ab nb cb, .slice Bb mb db]] w' →
      CallsI Try.prog 98 [pairV q, .pointer (some ⟨bx, 0, none⟩), .pointer (some ⟨ba, 0, none⟩), .pointer (some ⟨bb, 0, none⟩)] w' [(bx, 83, [.func (.func gx) #[] #[]]), (ba, 25, [.int .i64 l, .int .i64 s, .slice A n c, .slice B m d]), (bb, 25, [.int .i64 lb, .int .i64 sb, .slice Ab nb cb, .slice Bb mb db])] R')
    (hok : ∀ w' mm (A' : Option Addr) (n' c' : Nat) (B' : Option Addr) (k' d' : Nat) xs, MachNew w w' mm (.agg (Array.mk [.int .i64 X.letters, .int .i64 0, .slice A' n' c', .slice B' k' d'])) → Made X first mm xs → (xs.length : Int) ≤ most → R (.tuple (Array.mk [.agg (Array.mk [.int .i64 X.letters, .int .i64 0, .slice A' n' c', .slice B' k' d']), .bool true])) [[.int .i64 l, .int .i64 s, .slice A n c, .slice B m d], [.int .i64 lb, .int .i64 sb, .slice Ab nb cb, .slice Bb mb db], [.func (.func g) #[] #[]], [.func (.func gx) #[] #[]]] w')
    (hfail : ∀ w' (xs : List IP), Ext w w' → xs.Nodup → (∀ x ∈ xs, X.From first x) → most < xs.length → R (.tuple (Array.mk [.agg (Array.mk [.int .i64 0, .int .i64 0, .slice none 0 0, .slice none 0 0]), .bool false])) [[.int .i64 l, .int .i64 s, .slice A n c, .slice B m d], [.int .i64 lb, .int .i64 sb, .slice Ab nb cb, .slice Bb mb db], [.func (.func g) #[] #[]], [.func (.func gx) #[] #[]]] w') :
    CallsI Try.prog 96 [.int .i64 X.letters, .int .i64 most, pairV first, .func (.func 97) #[] #[.pointer (some ⟨ba, 0, none⟩), .pointer (some ⟨bb, 0, none⟩), .pointer (some ⟨bk, 0, none⟩)], .func (.func 98) #[] #[.pointer (some ⟨bx, 0, none⟩), .pointer (some ⟨ba, 0, none⟩), .pointer (some ⟨bb, 0, none⟩)]] w
      [(ba, 25, [.int .i64 l, .int .i64 s, .slice A n c, .slice B m d]), (bb, 25, [.int .i64 lb, .int .i64 sb, .slice Ab nb cb, .slice Bb mb db]), (bk, 83, [.func (.func g) #[] #[]]), (bx, 83, [.func (.func gx) #[] #[]])] R := by
  refine s96 _ _ _ _ _ _ _ _ _ _ _ _ _ _ _ _ _ _ _ _ _ _ _ _ _ _ _ _ fun _ _ n3 => ?_
  refine c57 (x := first) (Fam.empty w) (.nil rfl) (.inl ⟨rfl, rfl⟩) (by simp) (fun k h => by simp at h) fun _ F w5 A7 c9 r10 ho hF hls hmp => ?_
  refine ⟨0, rfl, A7, 1, c9, r10, rfl, fun _ => ?_⟩
  refine ⟨I12P X first most w, ⟨F, [first], [], [], hF, hls, hmp, GII.nil (by rw [ho 2 (by decide) (by decide)]), .nil (by rw [ho 3 (by decide) (by decide)]), rfl, rfl, .init X first, by simp, rfl, rfl, by simp, by simpa using hm0⟩, ?_⟩
  clear hF hls hmp ho
  intro x13 x14 x15 A16 n17 n18 A19 n20 n21 A22 n23 n24 A25 x26 x27 A28 n29 n30 A31 n32 n33 w34 hI n35 hk
  obtain ⟨F, xs, rows, fins, hF, hls, hmp, hrows, hfins, rfl, rfl, hpart, hlen, hfe, rfl, hle, hmost⟩ := hI
  subst hk
  have n23' : n23 = xs.length := hls.len
  refine condK_dec (fun hlt => ?_) fun hge => ?_
  · refine ⟨rfl, hL0, by omega, by omega, ?_⟩
    refine hF.mkRow (g10 rows.length) fun n36 F1 w37 ho1 hF1 hr1 => ?_
    rw [List.length_replicate] at hr1
    refine ⟨I38P X first most w rows fins n36 A28 n29 n30 A31 n32 n33, ⟨F1, xs, [], hF1, hls.same (ho1 0 (Ne.symm (g10_ne (by decide)))), hmp.same (ho1 1 (Ne.symm (g10_ne (by decide)))), hrows.keep ho1 (Ne.symm (g10_ne (by decide))) (fun t ht => by unfold g10; omega), hfins.keep ho1 (Ne.symm (g10_ne (by decide))),
      by rw [List.nil_append, ints_rep, Int.sub_zero]; exact hr1, rfl, Part.empty.2 hpart, hfe, by omega, hmost, by omega, hL0⟩, ?_⟩
    clear hF hls hmp hrows hfins hpart hF1 hr1 ho1 F1 hfe hmost n23' hlt
    clear hle
    intro x39 x40 x41 A42 n43 n44 A45 n46 n47 A48 n49 n50 A51 w52 hI n53 hk
    obtain ⟨F, xs, cur, hF, hls, hmp, hrows, hfins, hrow, hcur, hpart, hfe, hlt, hmost, h390, h391⟩ := hI
    subst hk
    have n49' : n49 = xs.length := hls.len
    have n29' : n29 = rows.length := hrows.len
    have hx := get_gp (l := xs) (i := (rows.length : Int)) (by omega) (by omega)
    rw [Int.toNat_natCast] at hx
    have hfrom := hpart.from_ _ (List.mem_of_getElem? hx)
    have g0' : (0 : Nat) ≠ g10 rows.length := Ne.symm (g10_ne (by decide))
    have g1' : (1 : Nat) ≠ g10 rows.length := Ne.symm (g10_ne (by decide))
    have g2' : (2 : Nat) ≠ g10 rows.length := Ne.symm (g10_ne (by decide))
    have g3' : (3 : Nat) ≠ g10 rows.length := Ne.symm (g10_ne (by decide))
    have gt' : ∀ t, t < rows.length → g10 t ≠ g10 rows.length := fun t ht => by unfold g10; omega
    refine condK_dec (fun hltx => ?_) fun hgex => ?_
    · refine hrow.set_int hF h390 (by simp; omega) fun F1 w55 ho1 hF1 hrow1 => ?_
      rw [show x39.toNat = cur.length by omega, set_row (by omega)] at hrow1
      have hls1 := hls.same (ho1 0 g0')
      refine hls1.get hF1 (by omega) (by omega) fun a57 hc1 hc2 => ⟨_, _, hc1, hc2, ?_⟩
      have next : ∀ (A48 : Option Addr) (n49 n50 : Nat) (A51 : Option Nat) (w60 : World) (F : FamF) (xs' : List IP) (v : Int), Fam w w60 F → GP F 0 A48 n49 n50 xs' → NumMap F 1 KT.pair pairV A51 xs' → GII F 2 g10 A28 n29 n30 rows → GSl F 3 A31 n32 n33 (bools fins) →
          GSl F (g10 rows.length) (some ⟨n36, 0, none⟩) X.letters.toNat X.letters.toNat (ints (cur ++ [v] ++ List.replicate ((X.letters - x39).toNat - 1) 0)) → Part X first xs' (rows ++ [cur ++ [v]]) → fins = (xs'.take rows.length).map X.fin → rows.length < xs'.length →
          J96_5 n49 most R l s A n c B m d lb sb Ab nb cb Bb mb db g gx w60 (I38P X first most w rows fins n36 A28 n29 n30 A31 n32 n33) x39 x40 x41 A42 n43 n44 A45 n46 n47 A48 n50 A51 (X.letters - x39).toNat := by
        intro A48 n49 n50 A51 w60 F xs' v hF hls hmp hrows hfins hrow hpart hfe hlt
        have n49' : n49 = xs'.length := hls.len
        refine condK_dec (fun hgt => hfail w60 xs' hF.base hpart.nodup hpart.from_ (by omega)) fun hng => ?_
        rw [wrap_id (by omega) (by omega)]
        refine ⟨⟨F, xs', cur ++ [v], hF, hls, hmp, hrows, hfins, ?_, by simp; omega, hpart, hfe, hlt, by omega, by omega, by omega⟩, by simp only [I38P]; omega⟩
        rw [show (X.letters - (x39 + 1)).toNat = (X.letters - x39).toNat - 1 by omega]; exact hrow
      refine hnext w55 _ x39 _ hF1.base hfrom h390 hltx fun y => ⟨fun hnone => ?_, fun hsome => ?_⟩
      · refine ⟨y.1, y.2, false, rfl, rfl, fun _ => ?_⟩
        exact next _ _ _ _ _ F1 xs (-1) hF1 hls1 (hmp.same (ho1 1 g1')) (hrows.keep ho1 g2' gt') (hfins.keep ho1 g3') hrow1 (hpart.none hx (by rw [hcur]; exact hnone)) hfe hlt
      · refine ⟨y.1, y.2, true, rfl, rfl, fun _ => ?_⟩
        refine c57 (x := y) hF1 hls1 (hmp.same (ho1 1 g1')) (by omega) (fun k hk => ?_) fun hy F2 w2 A2 c2 r2 ho2 hF2 hls2 hmp2 => ?_
        · refine ⟨k, rfl, _, _, _, _, rfl, ?_⟩
          refine hrow1.set_int hF1 h390 (by simp; omega) fun F3 w72 ho3 hF3 hrow3 => ?_
          rw [show x39.toNat = cur.length by omega, set_row2] at hrow3
          exact next _ _ _ _ _ F3 xs k hF3 (hls1.same (ho3 0 g0')) ((hmp.same (ho1 1 g1')).same (ho3 1 g1')) ((hrows.keep ho1 g2' gt').keep ho3 g2' gt') ((hfins.keep ho1 g3').keep ho3 g3') hrow3 (hpart.old hx (by rw [hcur]; exact hsome) hk) hfe hlt
        · refine ⟨xs.length, rfl, _, _, _, _, rfl, ?_⟩
          have e2 : ∀ j, 2 ≤ j → F2 j = F1 j := fun j hj => ho2 j (by omega) (by omega)
          have hrow2 := hrow1.same (e2 (g10 rows.length) (by unfold g10; omega))
          refine hrow2.set_int hF2 h390 (by simp; omega) fun F3 w72 ho3 hF3 hrow3 => ?_
          rw [show x39.toNat = cur.length by omega, set_row2] at hrow3
          refine next _ _ _ _ _ F3 (xs ++ [y]) xs.length hF3 (hls2.same (ho3 0 g0')) (hmp2.same (ho3 1 g1')) (((hrows.keep ho1 g2' gt').same (e2 2 (by decide)) fun t _ => e2 _ (by unfold g10; omega)).keep ho3 g2' gt') (((hfins.keep ho1 g3').same (e2 3 (by decide))).keep ho3 g3') hrow3
            (hpart.fresh hx (by rw [hcur]; exact hsome) (by omega) hy) (by rw [List.take_append_of_le_length (by omega)]; exact hfe) (by simp; omega)
    · have hcl : (X.letters - x39).toNat = 0 := by omega
      rw [hcl, List.replicate_zero, List.append_nil] at hrow
      refine hrows.pushRow hrow hF (fun t => g10_ne (by decide)) (by omega) fun F1 A75 c77 w78 ho1 hF1 hrows1 => ?_
      have hls1 := hls.same (ho1 0 (by decide))
      refine hls1.get hF1 (by omega) (by omega) fun a83 hc1 hc2 => ⟨_, _, hc1, hc2, ?_⟩
      refine hend w78 _ _ hF1.base hfrom ⟨_, rfl, rfl, ?_⟩
      have n32' : n32 = fins.length := by rw [hfins.len, bools_len]
      have hfl : fins.length = rows.length := by rw [hfe, List.length_map, List.length_take]; omega
      refine (hfins.keep ho1 (by decide)).push_bool hF1 (by omega) fun F2 A87 c89 w90 ho2 hF2 hfins2 => ?_
      rw [wrap_id (by omega) (by omega)]
      refine ⟨⟨F2, xs, rows ++ [cur], _, hF2, hls1.same (ho2 0 (by decide)), (hmp.same (ho1 1 (by decide))).same (ho2 1 (by decide)), hrows1.keep ho2 (by decide) (fun t _ => g10_ne (by decide)), hfins2, rfl, rfl, hpart, fun row hr => ?_, ?_, by simp, by simp; omega, hmost⟩, by simp only [I12P]; omega⟩
      · rcases List.mem_append.1 hr with hr | hr
        · exact hlen row hr
        · rw [List.mem_singleton] at hr; subst hr; omega
      · rw [List.length_append, List.length_singleton, List.take_add_one, hx, hfe]; simp
  · have hl2 : rows.length = xs.length := by omega
    refine hok w34 ⟨X.letters, 0, rows, fins⟩ _ _ _ _ _ _ xs ⟨F, _, _, _, _, _, _, rfl, hF, hrows, hfins⟩ ⟨hpart, rfl, hL0, rfl, hl2, hlen, by rw [hfe, hl2, List.take_length]⟩ hmost

theorem c66 {st : Bool} {g gx : Nat} {w : World} {a b : Mach} {v u : Value} {R : Res} (hg : IsKf st g) (hgx : IsKf st gx) (ha : MachAt w a v) (hb : MachAt w b u) (la : a.Lim) (lb : b.Lim) (few : ((a.next.length : Int) + 1) * (b.next.length + 1) ≤ 4000)
    (bad : fitc a b ≠ 0 → R (.tuple (Array.mk [zeroV, .int .i64 (fitc a b)])) [] w)
    (ok : fitc a b = 0 → ∀ w' mm v', MachNew w w' mm v' → IsJoin st a b mm → (mm.next.length : Int) ≤ (a.next.length + 1) * (b.next.length + 1) → R (.tuple (Array.mk [v', .int .i64 0])) [] w') :
    CallsI Try.prog 66 [v, u, .func (.func g) #[] #[], .func (.func gx) #[] #[]] w [] R := by
  have ha0 := ha; have hb0 := hb
  obtain ⟨A, n, c, B, k, d, rfl⟩ := ha.form
  obtain ⟨A', n', c', B', k', d', rfl⟩ := hb.form
  refine s66 _ _ _ _ _ _ _ _ _ _ _ _ _ _ _ _ _ _ _ _ fun n1 n2 n3 n4 _ => c55 ha0 hb0 la lb ⟨_, rfl, rfl, ?_⟩
  refine condK_bne (fun h => bad h) fun hfit => ?_
  obtain ⟨hva, hvb, hlet⟩ := fitc_ok.1 hfit
  have ok := ok hfit
  have hL := hva.letters
  have nA := hva.next; have nB := hvb.next
  refine c54 ha0 hva.shaped (by have := hva.next; omega) (by omega) fun w9 ma va hma hla hna => ?_
  have hma0 := hma.at_
  have hE9 := hma.below
  obtain ⟨A12, n13, n14, A15, n16, n17, rfl⟩ := hma0.form
  refine ⟨_, _, _, _, _, _, _, _, rfl, rfl, ?_⟩
  refine c54 (hb0.ext hE9) hvb.shaped (by have := hvb.next; omega) (by omega) fun w20 mb vb hmb hlb hnb => ?_
  have hmb0 := hmb.at_
  have hE20 := hmb.below
  obtain ⟨A23, n24, n25, A26, n27, n28, rfl⟩ := hmb0.form
  have hma1 := hma0.ext hE20
  refine ⟨_, _, _, _, _, _, _, _, rfl, rfl, ?_⟩
  have hsa := hla.shaped; have hsb := hlb.shaped
  have hletm : ma.letters = mb.letters := by rw [hla.letters, hlb.letters, hlet]
  have hE : Ext w w20 := hE9.trans' hE20
  have hsize : ((ma.next.length : Int) + 1) * (mb.next.length + 1) ≤ (a.next.length + 1) * (b.next.length + 1) := Int.mul_le_mul (by omega) (by omega) (by omega) (by omega)
  have hla1 : (ma.letters : Int) = a.letters := hla.letters
  refine hg _ _ _ _ ⟨_, rfl, rfl, ?_⟩
  have hkf := okP_kf (st := st) (p := (ma.start, mb.start))
  have h0L := hsa.letters
  cases hst : kf st (decide (0 ≤ ma.start)) (decide (0 ≤ mb.start)) with
  | false =>
    have hno : ¬ okP st (ma.start, mb.start) := fun h => by rw [hkf.1 h] at hst; cases hst
    refine condK_of (fun _ => ?_) fun h => by cases h
    refine c84 ⟨_, _, _, _, _, _, _, _, rfl, rfl, ?_⟩
    exact ok w20 (noneM ma.letters) _ (noneM_new hE _) ((none_join hno (noneM_least h0L)).of hla hlb) (by simp [noneM]; exact Int.mul_nonneg (by omega) (by omega))
  | true =>
    have hok : okP st (ma.start, mb.start) := hkf.2 hst
    refine condK_of (fun h => by cases h) fun _ => ?_
    refine c96 (X := pairAuto st ma mb (finP st ma mb)) (first := (ma.start, mb.start)) h0L (show ma.letters ≤ _ by omega) (by decide) (by decide) (fun w' q x R' hEw hq hx0 hx1 hr => ?_) (fun w' q R' hEw hq hr => ?_) (fun w' mm A1 n1 c1 B1 k1 d1 xs hnew hmade hle => ?_) fun w' xs hEw hnd hfr hgt => ?_
    · have hrg := from_rng hsa hsb hq
      exact c97 hg (hma1.ext hEw) (hmb0.ext hEw) hsa hsb hletm hrg.1.2 hrg.2.2 ⟨hx0, hx1⟩ (finP st ma mb) hr
    · have hrg := from_rng hsa hsb hq
      exact c98 hgx (hma1.ext hEw) (hmb0.ext hEw) hsa hsb hrg.1.2 hrg.2.2 hr
    · refine ⟨_, _, _, _, _, _, _, _, _, rfl, rfl, fun _ => ?_⟩
      refine condK_of (fun h => by cases h) fun _ => ?_
      have hpairs := hmade.pairs hsa hsb
      have hml : mm.letters = ma.letters := hmade.letters
      have hms : mm.start = 0 := hmade.start
      have hat := hnew.at_
      refine c54 hat hmade.shaped (by omega) (by omega) fun w62 mz vz hmz hlz hnz => ?_
      have hz0 := hmz
      obtain ⟨_, A65, n66, n67, A68, n69, n70, rfl, _, hgi, _⟩ := hmz
      have hn66 := hgi.len
      refine ⟨_, _, _, _, _, _, _, _, rfl, rfl, fun _ => ?_⟩
      refine condK_dec (fun h => by omega) fun _ => ?_
      exact ok w62 mz _ (hz0.after (hE.trans' hnew.below)) ((hmade.join hsa hsb hletm hlz).of hla hlb) (by omega)
    · have := pairs_bound (A := ma.next.length) (B := mb.next.length) hnd fun p hp => from_rng hsa hsb (hfr p hp)
      omega
theorem c34 {w : World} {a b : Mach} {v u : Value} {R : Res} (ha : MachAt w a v) (hb : MachAt w b u) (la : a.Lim) (lb : b.Lim) (few : ((a.next.length : Int) + 1) * (b.next.length + 1) ≤ 4000)
    (bad : fitc a b ≠ 0 → R (.tuple (Array.mk [zeroV, .int .i64 (fitc a b)])) [] w)
    (ok : fitc a b = 0 → ∀ w' mm v', MachNew w w' mm v' → IsJoin false a b mm → (mm.next.length : Int) ≤ (a.next.length + 1) * (b.next.length + 1) → R (.tuple (Array.mk [v', .int .i64 0])) [] w') :
    CallsI Try.prog 34 [v, u] w [] R := by
  have ha0 := ha; have hb0 := hb
  obtain ⟨A, n, c, B, k, d, rfl⟩ := ha.form
  obtain ⟨A', n', c', B', k', d', rfl⟩ := hb.form
  refine s34 _ _ _ _ _ _ _ _ _ _ _ _ _ _ _ _ _ _ fun _ _ _ => c66 (st := false) (fun _ _ _ _ h => c67 h) (fun _ _ _ _ h => c67 h) ha0 hb0 la lb few (fun h => ⟨_, _, _, _, _, _, _, _, _, rfl, rfl, bad h⟩) fun h w' mm v' hnew hj hl => ?_
  have ok := ok h w' mm v' hnew hj hl
  obtain ⟨_, _, _, _, _, _, _, rfl, _⟩ := hnew
  exact ⟨_, _, _, _, _, _, _, _, _, rfl, rfl, ok⟩
theorem c37 {w : World} {a b : Mach} {v u : Value} {R : Res} (ha : MachAt w a v) (hb : MachAt w b u) (la : a.Lim) (lb : b.Lim) (few : ((a.next.length : Int) + 1) * (b.next.length + 1) ≤ 4000)
    (bad : fitc a b ≠ 0 → R (.tuple (Array.mk [zeroV, .int .i64 (fitc a b)])) [] w)
    (ok : fitc a b = 0 → ∀ w' mm v', MachNew w w' mm v' → IsJoin true a b mm → (mm.next.length : Int) ≤ (a.next.length + 1) * (b.next.length + 1) → R (.tuple (Array.mk [v', .int .i64 0])) [] w') :
    CallsI Try.prog 37 [v, u] w [] R := by
  have ha0 := ha; have hb0 := hb
  obtain ⟨A, n, c, B, k, d, rfl⟩ := ha.form
  obtain ⟨A', n', c', B', k', d', rfl⟩ := hb.form
  refine s37 _ _ _ _ _ _ _ _ _ _ _ _ _ _ _ _ _ _ fun _ _ _ => c66 (st := true) (fun _ _ _ _ h => c69 h) (fun _ _ _ _ h => c69 h) ha0 hb0 la lb few (fun h => ⟨_, _, _, _, _, _, _, _, _, rfl, rfl, bad h⟩) fun h w' mm v' hnew hj hl => ?_
  have ok := ok h w' mm v' hnew hj hl
  obtain ⟨_, _, _, _, _, _, _, rfl, _⟩ := hnew
  exact ⟨_, _, _, _, _, _, _, _, _, rfl, rfl, ok⟩
end Go.Proofs.Ytnkpjlhbojjneaa.VC

/- The reference's machine of the pairs of a walk; both and either, by the reference. -/
namespace Go.Proofs.Ytnkpjlhbojjneaa.VC
open Go Go.RowKit

/-- what the machine of a walk is -/
def IsProd (st : Bool) (a b mm : Mach) : Prop := (okP st (a.start, b.start) ∧ ∃ xs, Made (pairAuto st a b (finP st a b)) (a.start, b.start) mm xs) ∨ (¬ okP st (a.start, b.start) ∧ mm = noneM a.letters)
structure WRows (st : Bool) (a b : Mach) (ps : List IP) (rs : List (List Int)) : Prop where
  len : rs.length = ps.length
  rows : ∀ row ∈ rs, (row.length : Int) = a.letters
  entry : ∀ {k x : Nat} {row : List Int} {t : Int} {p : IP}, rs[k]? = some row → row[x]? = some t → ps[k]? = some p → (∀ y : Nat, ps[y]? = some (pstep a b p x) → t = y) ∧ (pstep a b p x ∉ ps → t = -1)
  rng : ∀ p ∈ ps, (-1 ≤ p.1 ∧ p.1 < a.next.length) ∧ (-1 ≤ p.2 ∧ p.2 < b.next.length)
  prod : IsProd st a b ⟨a.letters, if ps.length = 0 then -1 else 0, rs, ps.map (finP st a b)⟩
theorem WD.rows {st : Bool} {a b : Mach} {ps : List IP} {cm bl : List Int} (h : WD st a b ps cm bl) (hL : 0 ≤ a.letters) : ∃ rs, WRows st a b ps rs := by
  rcases h with ⟨hok, rs, hws, hl, hrows⟩ | ⟨hno, rfl, rfl, rfl⟩
  · refine ⟨rs, hl, hrows, fun h1 h2 h3 => hws.entry h1 h2 h3, fun p hp => (hws.rng p hp).1, .inl ⟨hok, ps, hws.part _, rfl, hL, ?_, hl, hrows, rfl⟩⟩
    have := (List.getElem?_eq_some_iff.1 (hws.part fun _ => false).head).1
    rw [if_neg (by omega)]
  · exact ⟨[], rfl, fun _ h => (by cases h), fun h => by simp at h, fun _ h => (by cases h), .inr ⟨hno, rfl⟩⟩

def I99 (w : World) (a b : Mach) (st : Bool) (ps : List IP) (rs : List (List Int)) : Int → Int → Int → Option Addr → Nat → Nat → Option Addr → Nat → Nat → Lp :=
  fun x7 x8 x9 A10 n11 n12 A13 n14 n15 => ⟨fun w16 => ∃ F, Fam w w16 F ∧ GII F 2 g10 A10 n11 n12 (rs.take x7.toNat) ∧ GSl F 3 A13 n14 n15 (bools ((ps.take x7.toNat).map (finP st a b))) ∧ x8 = a.letters ∧ x9 = (if x7 = 0 then -1 else 0) ∧ 0 ≤ x7 ∧ x7 ≤ ps.length, fun _ => (ps.length - x7).toNat⟩

set_option maxHeartbeats 4000000 in
theorem c99 {w : World} {a b : Mach} {v u wv : Value} {st : Bool} {ps : List IP} {cm bl : List Int} {R : Res} (ha : MachAt w a v) (hb : MachAt w b u) (sa : a.Shaped) (sb : b.Shaped) (hl : a.letters = b.letters) (hL : a.letters ≤ 1048576) (hw : WalkV w wv ps cm bl) (hd : WD st a b ps cm bl) (few : ps.length ≤ 1048576)
    (hR : ∀ w' mm v', MachNew w w' mm v' → IsProd st a b mm → mm.next.length = ps.length → R v' [] w') : CallsI Try.prog 99 [v, u, wv, .bool st] w [] R := by
  have ha0 := ha; have hb0 := hb
  obtain ⟨A, n, c, B, k, d, rfl⟩ := ha.form
  obtain ⟨A', n', c', B', k', d', rfl⟩ := hb.form
  obtain ⟨P, pc, Fa, fc, Z, zc, rfl, _, hP, _, _⟩ := hw
  have h0L := sa.letters
  have fa := sa.fin; have fb := sb.fin
  obtain ⟨rs, hr⟩ := hd.rows h0L
  have hrl := hr.len
  refine s99 _ _ _ _ _ _ _ _ _ _ _ _ _ _ _ _ _ _ _ _ _ _ _ _ _ _ _ _ fun _ _ _ _ _ => ?_
  refine ⟨I99 w a b st ps rs, ⟨fun _ => none, Fam.empty w, GII.nil rfl, .nil rfl, rfl, rfl, by omega, by omega⟩, ?_⟩
  intro x7 x8 x9 A10 n11 n12 A13 n14 n15 w16 hI n17 hk
  obtain ⟨F, hF, hrows, hfins, rfl, rfl, h70, h71⟩ := hI
  subst hk
  have hE16 : Ext w w16 := hF.base
  refine condK_dec (fun hlt => ?_) fun hge => ?_
  · have hg := get_gp (l := ps) h70 hlt
    refine rowP_get (Ext.row hE16 hP) h70 hlt fun a18 c1 c2 => ⟨_, _, c1, c2, fun _ => ⟨rfl, h0L, by omega, by omega, ?_⟩⟩
    obtain ⟨p, hp⟩ : ∃ p, p = gp ps x7 := ⟨_, rfl⟩
    rw [← hp] at hg ⊢
    clear c1 c2
    have hprng := hr.rng p (List.mem_of_getElem? hg)
    have hrow := List.getElem?_eq_getElem (l := rs) (i := x7.toNat) (by omega)
    obtain ⟨row, hrw⟩ : ∃ row, row = rs[x7.toNat]'(by omega) := ⟨_, rfl⟩
    rw [← hrw] at hrow
    have hrlen := hr.rows row (List.mem_of_getElem? hrow)
    have htl : (rs.take x7.toNat).length = x7.toNat := by rw [List.length_take]; omega
    have hne2 : ∀ j, j < 10 → j ≠ g10 x7.toNat := fun j hj => by unfold g10; omega
    refine hF.mkRow (g10 x7.toNat) fun n22 F1 w23 ho1 hF1 hr1 => ?_
    rw [List.length_replicate] at hr1
    refine ⟨fun x25 => ⟨fun w26 => ∃ F, Fam w w26 F ∧ GII F 2 g10 A10 n11 n12 (rs.take x7.toNat) ∧ GSl F 3 A13 n14 n15 (bools ((ps.take x7.toNat).map (finP st a b))) ∧ GSl F (g10 x7.toNat) (some ⟨n22, 0, none⟩) a.letters.toNat a.letters.toNat (ints (row.take x25.toNat ++ List.replicate (a.letters - x25).toNat 0)) ∧ 0 ≤ x25 ∧ x25 ≤ a.letters, fun _ => (a.letters - x25).toNat⟩,
      ⟨F1, hF1, hrows.keep ho1 (hne2 2 (by decide)) (fun t ht => by rw [htl] at ht; unfold g10; omega), hfins.keep ho1 (hne2 3 (by decide)), by simp only [Int.toNat_zero, List.take_zero, List.nil_append, Int.sub_zero, ints_rep]; exact hr1, by omega, h0L⟩, ?_⟩
    clear hF hrows hfins hF1 hr1 ho1 F1
    rintro x25 w26 ⟨F, hF, hrows, hfins, hrr, h250, h251⟩ n27 rfl
    have hE26 : Ext w w26 := hF.base
    refine condK_dec (fun hltx => ?_) fun hgex => ?_
    · have hlet : a.Let x25 := ⟨h250, hltx⟩
      have hletb : b.Let x25 := ⟨h250, by omega⟩
      refine c49 (ha0.ext hE26) sa hprng.1.2 hlet ⟨_, rfl, rfl, ?_⟩
      refine c49 (hb0.ext hE26) sb hprng.2.2 hletb ⟨_, rfl, rfl, ?_⟩
      have hent := List.getElem?_eq_getElem (l := row) (i := x25.toNat) (by omega)
      have htcl : (row.take x25.toNat).length = x25.toNat := by rw [List.length_take]; omega
      have he := hr.entry hrow hent hg
      rw [show ((x25.toNat : Nat) : Int) = x25 by omega] at he
      have store : ∀ x39 : Int, row[x25.toNat]? = some x39 → IxV (some (Addr.mk n22 0 none)) a.letters.toNat 1 x25 fun (a40 : Addr) => SetK w26 a40 (Value.int IntKind.i64 x39) fun (w41 : World) => (∃ F, Fam w w41 F ∧ GII F 2 g10 A10 n11 n12 (rs.take x7.toNat) ∧ GSl F 3 A13 n14 n15 (bools ((ps.take x7.toNat).map (finP st a b))) ∧ GSl F (g10 x7.toNat) (some ⟨n22, 0, none⟩) a.letters.toNat a.letters.toNat (ints (row.take (IntKind.i64.wrap (x25 + 1)).toNat ++ List.replicate (a.letters - IntKind.i64.wrap (x25 + 1)).toNat 0)) ∧ 0 ≤ IntKind.i64.wrap (x25 + 1) ∧ IntKind.i64.wrap (x25 + 1) ≤ a.letters) ∧ (a.letters - IntKind.i64.wrap (x25 + 1)).toNat < (a.letters - x25).toNat := by
        intro x39 hx39
        refine hrr.set_int hF h250 (by simp; omega) fun F2 w41 ho2 hF2 hr2 => ?_
        have hs : (row.take x25.toNat ++ List.replicate (a.letters - x25).toNat 0).set x25.toNat x39 = row.take (x25 + 1).toNat ++ List.replicate (a.letters - (x25 + 1)).toNat 0 := by
          have := set_row (cur := row.take x25.toNat) (k := (a.letters - x25).toNat) (v := x39) (by omega)
          rw [htcl] at this
          rw [this, show (x25 + 1).toNat = x25.toNat + 1 by omega, List.take_add_one, hx39]
          simp only [Option.toList_some]
          rw [show (a.letters - x25).toNat - 1 = (a.letters - (x25 + 1)).toNat by omega]
        rw [hs] at hr2
        rw [wrap_id (by omega) (by omega)]
        exact ⟨⟨F2, hF2, hrows.keep ho2 (hne2 2 (by decide)) (fun t ht => by rw [htl] at ht; unfold g10; omega), hfins.keep ho2 (hne2 3 (by decide)), hr2, by omega, by omega⟩, by omega⟩
      refine c95 (p := pstep a b p x25) (Ext.row hE26 hP) (by omega) (fun kk hkk => ⟨_, rfl, rfl, ?_⟩) fun hno => ⟨_, rfl, rfl, ?_⟩
      · exact store _ (by rw [hent, he.1 kk hkk])
      · exact store _ (by rw [hent, he.2 hno])
    · have hx25 : x25 = a.letters := by omega
      subst hx25
      have htk : row.take a.letters.toNat ++ List.replicate (a.letters - a.letters).toNat 0 = row := by
        rw [Int.sub_self, Int.toNat_zero, List.replicate_zero, List.append_nil, List.take_of_length_le (by omega)]
      rw [htk] at hrr
      refine hrows.pushRow (by rw [htl]; exact hrr) hF (fun t => g10_ne (by decide)) (by rw [hrows.len]; omega) fun F2 A44 c44 w47 ho2 hF2 hrows2 => ?_
      have hE47 : Ext w w47 := hF2.base
      refine c50 (ha0.ext hE47) (by omega) ⟨_, rfl, rfl, ?_⟩
      refine c50 (hb0.ext hE47) (by omega) ⟨_, rfl, rfl, ?_⟩
      have push : ∀ t : Bool, t = finP st a b p → NewK w47 (Obj.cells (Array.mk [Value.bool t]) 4) fun n56 w57 => J99_9 A13 n14 n15 n56 w57 (I99 w a b st ps rs) x7 a.letters A44 (n11 + 1) c44 (ps.length - x7).toNat := by
        rintro t rfl
        have n14' : n14 = x7.toNat := by rw [hfins.len, bools_len, List.length_map, List.length_take]; omega
        refine (hfins.keep ho2 (by decide)).push_bool hF2 (by omega) fun F3 A58 c58 w61 ho3 hF3 hfins3 => ?_
        rw [wrap_id (by omega) (by omega)]
        refine ⟨⟨F3, hF3, ?_, ?_, rfl, by rw [if_neg (by omega)], by omega, by omega⟩, by simp only [I99]; omega⟩
        · rw [show (x7 + 1).toNat = x7.toNat + 1 by omega, List.take_add_one, hrow]
          exact hrows2.keep ho3 (by decide) fun t _ => g10_ne (by decide)
        · rw [show (x7 + 1).toNat = x7.toNat + 1 by omega, List.take_add_one, hg, List.map_append]
          exact hfins3
      have hfp : finP st a b p = kf st (a.ends p.1) (b.ends p.2) := rfl
      have j10 : finP st a b p = true → J99_10 w47 A13 n14 n15 (I99 w a b st ps rs) x7 a.letters A44 (n11 + 1) c44 (ps.length - x7).toNat := fun h => by
        rw [J99_10]; exact push true h.symm
      have j13 : (st = false ∨ a.ends p.1 = false ∨ b.ends p.2 = false) → J99_13 st (a.ends p.1) w47 A13 n14 n15 (I99 w a b st ps rs) x7 a.letters A44 (n11 + 1) c44 (ps.length - x7).toNat (b.ends p.2) := fun h => by
        rw [J99_13]
        refine condK_of (fun hst => ?_) fun hst => ?_
        · have hst : st = false := by simpa using hst
          refine condK_of (fun h1 => ?_) fun h1 => ?_
          · exact j10 (by rw [hfp, hst, h1]; rfl)
          · exact push _ (by rw [hfp, hst, h1]; rfl)
        · have hst : st = true := by simpa using hst
          refine push false ?_
          rw [hfp, hst]
          rcases h with h | h | h
          · rw [hst] at h; cases h
          · rw [h]; rfl
          · rw [h]; simp [kf]
      exact condK_of (fun hst => condK_of (fun h1 => condK_of (fun h2 => j10 (by rw [hfp, hst, h1, h2]; rfl)) fun h2 => j13 (.inr (.inr h2))) fun h1 => j13 (.inr (.inl h1))) fun hst => j13 (.inl hst)
  · have hx7 : x7.toNat = ps.length := by omega
    rw [hx7, ← hrl, List.take_length] at hrows
    rw [hx7, List.take_length] at hfins
    refine hR w16 ⟨a.letters, if ps.length = 0 then -1 else 0, rs, ps.map (finP st a b)⟩ _ ⟨F, _, _, _, _, _, _, ?_, hF, hrows, hfins⟩ hr.prod hrl
    have : (if x7 = 0 then (-1 : Int) else 0) = if ps.length = 0 then -1 else 0 := by
      by_cases h : ps.length = 0
      · rw [if_pos (by omega), if_pos h]
      · rw [if_neg (by omega), if_neg h]
    rw [this]

theorem c68 {st : Bool} {w : World} {a b : Mach} {v u : Value} {R : Res} (ha : MachAt w a v) (hb : MachAt w b u) (la : a.Lim) (lb : b.Lim) (few : ((a.next.length : Int) + 1) * (b.next.length + 1) ≤ 4000)
    (bad : fitc a b ≠ 0 → R (.tuple (Array.mk [zeroV, .int .i64 (fitc a b)])) [] w)
    (ok : fitc a b = 0 → ∀ w' mm v', MachNew w w' mm v' → IsJoin st a b mm → R (.tuple (Array.mk [v', .int .i64 0])) [] w') :
    CallsI Try.prog 68 [v, u, .bool st] w [] R := by
  have ha0 := ha; have hb0 := hb
  obtain ⟨A, n, c, B, k, d, rfl⟩ := ha.form
  obtain ⟨A', n', c', B', k', d', rfl⟩ := hb.form
  refine s68 _ _ _ _ _ _ _ _ _ _ _ _ _ _ _ _ _ _ _ fun _ _ _ => c62 ha0 hb0 la lb ⟨_, rfl, rfl, ?_⟩
  refine condK_bne (fun h => bad h) fun hfit => ?_
  obtain ⟨hva, hvb, hlet⟩ := fitc_ok.1 hfit
  have ok := ok hfit
  have hL := hva.letters
  have nA := hva.next; have nB := hvb.next
  have j19 : ∀ (w21 : World) (x y : Mach) (A13 : Option Addr) (n14 n15 : Nat) (A16 : Option Addr) (n17 n18 : Nat) (A24 : Option Addr) (n25 n26 : Nat) (A27 : Option Addr) (n28 n29 : Nat), Ext w w21 → MachAt w21 x (.agg (Array.mk [.int .i64 x.letters, .int .i64 x.start, .slice A13 n14 n15, .slice A16 n17 n18])) →
      MachAt w21 y (.agg (Array.mk [.int .i64 y.letters, .int .i64 y.start, .slice A24 n25 n26, .slice A27 n28 n29])) → IsLeast a x → IsLeast b y → x.next.length ≤ a.next.length → y.next.length ≤ b.next.length →
      J68_19 x.letters x.start A13 n14 n15 A16 n17 n18 y.letters y.start A24 n25 n26 A27 n28 n29 st w21 R := by
    intro w21 x y A13 n14 n15 A16 n17 n18 A24 n25 n26 A27 n28 n29 hE hx hy lx ly nx ny
    have hletm : x.letters = y.letters := by rw [lx.letters, ly.letters, hlet]
    have hxl : x.letters = a.letters := lx.letters
    have hsize : ((x.next.length : Int) + 1) * (y.next.length + 1) ≤ (a.next.length + 1) * (b.next.length + 1) := Int.mul_le_mul (by omega) (by omega) (by omega) (by omega)
    rw [J68_19]
    refine c63 hx hy lx.shaped ly.shaped hletm (by omega) (by omega) (by decide) fun w34 wv ps cm bl hE34 hwv hwd => ?_
    have hwv0 := hwv
    obtain ⟨P, pc, Fa, fc, Z, zc, rfl, _⟩ := hwv
    have hpl : (ps.length : Int) ≤ 4000 := by
      rcases hwd with ⟨_, rs, hws, _⟩ | ⟨_, rfl, _⟩
      · have := hws.count; omega
      · simp
    refine ⟨_, _, _, _, _, _, _, _, _, rfl, rfl, fun _ => ?_⟩
    refine condK_dec (fun h => by omega) fun _ => ?_
    refine c99 (hx.ext hE34) (hy.ext hE34) lx.shaped ly.shaped hletm (by omega) hwv0 hwd (by omega) fun w47 m0 v0 hm0 hprod hml => ?_
    have hat := hm0.at_
    have hE47 := hm0.below
    obtain ⟨A50, n51, n52, A53, n54, n55, rfl⟩ := hat.form
    refine ⟨_, _, _, _, _, _, _, _, rfl, rfl, ?_⟩
    have hlm : m0.letters = x.letters ∧ m0.Shaped ∧ ∀ mz, IsLeast m0 mz → IsJoin st x y mz := by
      rcases hprod with ⟨_, xs, hmade⟩ | ⟨hno, rfl⟩
      · exact ⟨hmade.letters, hmade.shaped, fun mz hz => hmade.join lx.shaped ly.shaped hletm hz⟩
      · exact ⟨rfl, (noneM_canon lx.shaped.letters).shaped, fun mz hz => none_join hno hz⟩
    refine c53 hat hlm.2.1 (by omega) (by omega) fun w58 mz vz hmz hlz hnz => ?_
    have hz0 := hmz
    obtain ⟨_, A61, n62, n63, A64, n65, n66, rfl, _, hgi, _⟩ := hmz
    have hn62 := hgi.len
    refine ⟨_, _, _, _, _, _, _, _, rfl, rfl, fun _ => ?_⟩
    refine condK_dec (fun h => by omega) fun _ => ?_
    exact ok w58 mz _ (hz0.after ((hE.trans' hE34).trans' hE47)) ((hlm.2.2 mz hlz).of lx ly)
  have second : ∀ (w10 : World) (x : Mach) (A13 : Option Addr) (n14 n15 : Nat) (A16 : Option Addr) (n17 n18 : Nat) (K : Int → Int → Option Addr → Nat → Nat → Option Addr → Nat → Nat → World → Prop), Ext w w10 → MachAt w10 x (.agg (Array.mk [.int .i64 x.letters, .int .i64 x.start, .slice A13 n14 n15, .slice A16 n17 n18])) → IsLeast a x → x.next.length ≤ a.next.length →
      (∀ x22 x23 A24 n25 n26 A27 n28 n29 w21, J68_19 x.letters x.start A13 n14 n15 A16 n17 n18 x22 x23 A24 n25 n26 A27 n28 n29 st w21 R → K x22 x23 A24 n25 n26 A27 n28 n29 w21) →
      CallsI Try.prog 53 [.agg (Array.mk [.int .i64 b.letters, .int .i64 b.start, .slice A' n' c', .slice B' k' d'])] w10 [] fun (v19 : Value) (l20 : List (List Value)) (w21 : World) => ∃ (x22 : Int), ∃ (x23 : Int), ∃ (A24 : Option Addr), ∃ (n25 : Nat), ∃ (n26 : Nat), ∃ (A27 : Option Addr), ∃ (n28 : Nat), ∃ (n29 : Nat), v19 = Value.agg (Array.mk [Value.int IntKind.i64 x22, Value.int IntKind.i64 x23, Value.slice A24 n25 n26, Value.slice A27 n28 n29]) ∧ l20 = [] ∧ K x22 x23 A24 n25 n26 A27 n28 n29 w21 := by
    intro w10 x A13 n14 n15 A16 n17 n18 K hE hx lx nx hK
    refine c53 (hb0.ext hE) hvb.shaped (by have := hvb.next; omega) (by omega) fun w21 y vy hy ly ny => ?_
    have haty := hy.at_
    obtain ⟨A24, n25, n26, A27, n28, n29, rfl⟩ := haty.form
    exact ⟨_, _, _, _, _, _, _, _, rfl, rfl, hK _ _ _ _ _ _ _ _ _ (j19 w21 x y _ _ _ _ _ _ _ _ _ _ _ _ (hE.trans' hy.below) (hx.ext hy.below) haty lx ly nx ny)⟩
  have j31 : ∀ (w10 : World) (x : Mach) (A13 : Option Addr) (n14 n15 : Nat) (A16 : Option Addr) (n17 n18 : Nat), Ext w w10 → MachAt w10 x (.agg (Array.mk [.int .i64 x.letters, .int .i64 x.start, .slice A13 n14 n15, .slice A16 n17 n18])) → IsLeast a x → x.next.length ≤ a.next.length →
      J68_31 b.letters b.start A' n' c' B' k' d' w10 x.letters x.start A13 n14 n15 A16 n17 n18 st R := fun w10 x A13 n14 n15 A16 n17 n18 hE hx lx nx => by
    rw [J68_31]; exact second w10 x _ _ _ _ _ _ _ hE hx lx nx fun _ _ _ _ _ _ _ _ _ h => h
  have j27 : ∀ (w10 : World) (x : Mach) (A13 : Option Addr) (n14 n15 : Nat) (A16 : Option Addr) (n17 n18 : Nat), Ext w w10 → MachAt w10 x (.agg (Array.mk [.int .i64 x.letters, .int .i64 x.start, .slice A13 n14 n15, .slice A16 n17 n18])) → IsLeast a x → x.next.length ≤ a.next.length →
      J68_27 b.letters b.start A' n' c' B' k' d' w10 x.letters x.start A13 n14 n15 A16 n17 n18 st R := fun w10 x A13 n14 n15 A16 n17 n18 hE hx lx nx => by
    rw [J68_27]; exact second w10 x _ _ _ _ _ _ _ hE hx lx nx fun _ _ _ _ _ _ _ _ _ h _ => h
  have first : ∀ (K : Int → Int → Option Addr → Nat → Nat → Option Addr → Nat → Nat → World → Prop), (∀ w10 (x : Mach) A13 n14 n15 A16 n17 n18, Ext w w10 → MachAt w10 x (.agg (Array.mk [.int .i64 x.letters, .int .i64 x.start, .slice A13 n14 n15, .slice A16 n17 n18])) → IsLeast a x → x.next.length ≤ a.next.length → K x.letters x.start A13 n14 n15 A16 n17 n18 w10) →
      CallsI Try.prog 53 [.agg (Array.mk [.int .i64 a.letters, .int .i64 a.start, .slice A n c, .slice B k d])] w [] fun (v19 : Value) (l20 : List (List Value)) (w21 : World) => ∃ (x22 : Int), ∃ (x23 : Int), ∃ (A24 : Option Addr), ∃ (n25 : Nat), ∃ (n26 : Nat), ∃ (A27 : Option Addr), ∃ (n28 : Nat), ∃ (n29 : Nat), v19 = Value.agg (Array.mk [Value.int IntKind.i64 x22, Value.int IntKind.i64 x23, Value.slice A24 n25 n26, Value.slice A27 n28 n29]) ∧ l20 = [] ∧ K x22 x23 A24 n25 n26 A27 n28 n29 w21 := by
    intro K hK
    refine c53 ha0 hva.shaped (by have := hva.next; omega) (by omega) fun w10 x vx hx lx nx => ?_
    have hatx := hx.at_
    obtain ⟨A13, n14, n15, A16, n17, n18, rfl⟩ := hatx.form
    exact ⟨_, _, _, _, _, _, _, _, rfl, rfl, hK w10 x _ _ _ _ _ _ hx.below hatx lx nx⟩
  have j39 : J68_39 a.letters a.start A n c B k d w b.letters b.start A' n' c' B' k' d' st R := by
    rw [J68_39]; exact first _ fun w10 x A13 n14 n15 A16 n17 n18 hE hx lx nx => ⟨j27 w10 x _ _ _ _ _ _ hE hx lx nx, fun _ => j31 w10 x _ _ _ _ _ _ hE hx lx nx⟩
  have j43 : J68_43 a.letters a.start A n c B k d w b.letters b.start A' n' c' B' k' d' st R := by
    rw [J68_43]; exact first _ fun w10 x A13 n14 n15 A16 n17 n18 hE hx lx nx => j31 w10 x _ _ _ _ _ _ hE hx lx nx
  refine ⟨first _ fun w10 x A13 n14 n15 A16 n17 n18 hE hx lx nx => ⟨second w10 x _ _ _ _ _ _ _ hE hx lx nx fun _ _ _ _ _ _ _ _ _ h => ⟨fun _ _ => h, fun _ _ => h⟩, fun _ => ⟨j27 w10 x _ _ _ _ _ _ hE hx lx nx, fun _ => j31 w10 x _ _ _ _ _ _ hE hx lx nx⟩, fun _ => ⟨j27 w10 x _ _ _ _ _ _ hE hx lx nx, fun _ => j31 w10 x _ _ _ _ _ _ hE hx lx nx⟩⟩, fun _ => ⟨j39, fun _ => j43⟩, fun _ => ⟨j39, fun _ => j43⟩⟩
theorem c35 {w : World} {a b : Mach} {v u : Value} {R : Res} (ha : MachAt w a v) (hb : MachAt w b u) (la : a.Lim) (lb : b.Lim) (few : ((a.next.length : Int) + 1) * (b.next.length + 1) ≤ 4000)
    (bad : fitc a b ≠ 0 → R (.tuple (Array.mk [zeroV, .int .i64 (fitc a b)])) [] w)
    (ok : fitc a b = 0 → ∀ w' mm v', MachNew w w' mm v' → IsJoin true a b mm → R (.tuple (Array.mk [v', .int .i64 0])) [] w') :
    CallsI Try.prog 35 [v, u] w [] R := by
  have ha0 := ha; have hb0 := hb
  obtain ⟨A, n, c, B, k, d, rfl⟩ := ha.form
  obtain ⟨A', n', c', B', k', d', rfl⟩ := hb.form
  refine s35 _ _ _ _ _ _ _ _ _ _ _ _ _ _ _ _ _ _ fun _ _ _ => c68 ha0 hb0 la lb few (fun h => ⟨_, _, _, _, _, _, _, _, _, rfl, rfl, bad h⟩) fun h w' mm v' hnew hj => ?_
  have ok := ok h w' mm v' hnew hj
  obtain ⟨_, _, _, _, _, _, _, rfl, _⟩ := hnew
  exact ⟨_, _, _, _, _, _, _, _, _, rfl, rfl, ok⟩
theorem c36 {w : World} {a b : Mach} {v u : Value} {R : Res} (ha : MachAt w a v) (hb : MachAt w b u) (la : a.Lim) (lb : b.Lim) (few : ((a.next.length : Int) + 1) * (b.next.length + 1) ≤ 4000)
    (bad : fitc a b ≠ 0 → R (.tuple (Array.mk [zeroV, .int .i64 (fitc a b)])) [] w)
    (ok : fitc a b = 0 → ∀ w' mm v', MachNew w w' mm v' → IsJoin false a b mm → R (.tuple (Array.mk [v', .int .i64 0])) [] w') :
    CallsI Try.prog 36 [v, u] w [] R := by
  have ha0 := ha; have hb0 := hb
  obtain ⟨A, n, c, B, k, d, rfl⟩ := ha.form
  obtain ⟨A', n', c', B', k', d', rfl⟩ := hb.form
  refine s36 _ _ _ _ _ _ _ _ _ _ _ _ _ _ _ _ _ _ fun _ _ _ => c68 ha0 hb0 la lb few (fun h => ⟨_, _, _, _, _, _, _, _, _, rfl, rfl, bad h⟩) fun h w' mm v' hnew hj => ?_
  have ok := ok h w' mm v' hnew hj
  obtain ⟨_, _, _, _, _, _, _, rfl, _⟩ := hnew
  exact ⟨_, _, _, _, _, _, _, _, _, rfl, rfl, ok⟩
end Go.Proofs.Ytnkpjlhbojjneaa.VC

/- The conditions of functions, printed by wip/tools/gen.py. -/
namespace Go.Proofs.Ytnkpjlhbojjneaa.VC
open Go Go.RowKit

def J11_1 (w5 : World) (R : Value → List (List Value) → World → Prop) : Prop := CallsI Try.prog 15 [] w5 [] fun (v7 : Value) (l8 : List (List Value)) (w9 : World) => ∃ (t10 : Bool), v7 = Value.bool
    t10 ∧ l8 = [] ∧ R (Value.bool t10) [] w9

def J11_2 (x105 : Int) (x106 : Int) (A107 : Option Addr) (n108 : Nat) (n109 : Nat) (A110 : Option Addr) (n111 : Nat) (n112 : Nat) (w121 : World) (R : Value → List (List Value) → World → Prop) : Prop
    := CallsI Try.prog 24 [Value.agg (Array.mk [Value.int IntKind.i64 x105, Value.int IntKind.i64 x106, Value.slice A107 n108 n109, Value.slice A110 n111 n112]), Value.agg (Array.mk [Value.int IntKind.i64
    0, Value.int IntKind.i64 0, Value.slice none 0 0, Value.slice none 0 0])] w121 [] fun (v127 : Value) (l128 : List (List Value)) (w129 : World) => ∃ (t130 : Bool), v127 = Value.bool t130 ∧ l128 = [] ∧
    condK t130 (J11_1 w129 R) (R (Value.bool false) [] w129)

def J11_5 (x43 : Int) (x105 : Int) (x106 : Int) (A107 : Option Addr) (n108 : Nat) (n109 : Nat) (A110 : Option Addr) (n111 : Nat) (n112 : Nat) (x35 : Int) (x36 : Int) (A37 : Option Addr) (n38 : Nat)
    (n39 : Nat) (A40 : Option Addr) (n41 : Nat) (n42 : Nat) (w117 : World) (R : Value → List (List Value) → World → Prop) : Prop := condK (x43 == 0) (CallsI Try.prog 24 [Value.agg (Array.mk [Value.int
    IntKind.i64 x105, Value.int IntKind.i64 x106, Value.slice A107 n108 n109, Value.slice A110 n111 n112]), Value.agg (Array.mk [Value.int IntKind.i64 x35, Value.int IntKind.i64 x36, Value.slice A37 n38
    n39, Value.slice A40 n41 n42])] w117 [] fun (v119 : Value) (l120 : List (List Value)) (w121 : World) => ∃ (t122 : Bool), v119 = Value.bool t122 ∧ l120 = [] ∧ condK t122 (J11_1 w121 R) (condK (x43 !=
    0) (J11_2 x105 x106 A107 n108 n109 A110 n111 n112 w121 R) (R (Value.bool false) [] w121))) (condK (x43 != 0) (J11_2 x105 x106 A107 n108 n109 A110 n111 n112 w117 R) (R (Value.bool false) [] w117))

def J11_8 (x30 : Int) (x70 : Int) (x71 : Int) (A72 : Option Addr) (n73 : Nat) (n74 : Nat) (A75 : Option Addr) (n76 : Nat) (n77 : Nat) (w117 : World) (x43 : Int) (x105 : Int) (x106 : Int) (A107 :
    Option Addr) (n108 : Nat) (n109 : Nat) (A110 : Option Addr) (n111 : Nat) (n112 : Nat) (x35 : Int) (x36 : Int) (A37 : Option Addr) (n38 : Nat) (n39 : Nat) (A40 : Option Addr) (n41 : Nat) (n42 : Nat) (R
    : Value → List (List Value) → World → Prop) : Prop := condK (x30 != 0) (CallsI Try.prog 24 [Value.agg (Array.mk [Value.int IntKind.i64 x70, Value.int IntKind.i64 x71, Value.slice A72 n73 n74,
    Value.slice A75 n76 n77]), Value.agg (Array.mk [Value.int IntKind.i64 0, Value.int IntKind.i64 0, Value.slice none 0 0, Value.slice none 0 0])] w117 [] fun (v143 : Value) (l144 : List (List Value))
    (w145 : World) => ∃ (t146 : Bool), v143 = Value.bool t146 ∧ l144 = [] ∧ condK t146 (J11_5 x43 x105 x106 A107 n108 n109 A110 n111 n112 x35 x36 A37 n38 n39 A40 n41 n42 w145 R) (R (Value.bool false) []
    w145)) (R (Value.bool false) [] w117)

def J11_17 (x30 : Int) (x78 : Int) (R : Value → List (List Value) → World → Prop) (w104 : World) (x43 : Int) (x113 : Int) (x70 : Int) (x71 : Int) (A72 : Option Addr) (n73 : Nat) (n74 : Nat) (A75 :
    Option Addr) (n76 : Nat) (n77 : Nat) (x22 : Int) (x23 : Int) (A24 : Option Addr) (n25 : Nat) (n26 : Nat) (A27 : Option Addr) (n28 : Nat) (n29 : Nat) (x105 : Int) (x106 : Int) (A107 : Option Addr)
    (n108 : Nat) (n109 : Nat) (A110 : Option Addr) (n111 : Nat) (n112 : Nat) (x35 : Int) (x36 : Int) (A37 : Option Addr) (n38 : Nat) (n39 : Nat) (A40 : Option Addr) (n41 : Nat) (n42 : Nat) : Prop := condK
    (x30 != x78) (R (Value.bool false) [] w104) (condK (x43 != x113) (R (Value.bool false) [] w104) (condK (x30 == 0) (CallsI Try.prog 24 [Value.agg (Array.mk [Value.int IntKind.i64 x70, Value.int
    IntKind.i64 x71, Value.slice A72 n73 n74, Value.slice A75 n76 n77]), Value.agg (Array.mk [Value.int IntKind.i64 x22, Value.int IntKind.i64 x23, Value.slice A24 n25 n26, Value.slice A27 n28 n29])] w104
    [] fun (v115 : Value) (l116 : List (List Value)) (w117 : World) => ∃ (t118 : Bool), v115 = Value.bool t118 ∧ l116 = [] ∧ condK t118 (J11_5 x43 x105 x106 A107 n108 n109 A110 n111 n112 x35 x36 A37 n38
    n39 A40 n41 n42 w117 R) (J11_8 x30 x70 x71 A72 n73 n74 A75 n76 n77 w117 x43 x105 x106 A107 n108 n109 A110 n111 n112 x35 x36 A37 n38 n39 A40 n41 n42 R)) (J11_8 x30 x70 x71 A72 n73 n74 A75 n76 n77 w104
    x43 x105 x106 A107 n108 n109 A110 n111 n112 x35 x36 A37 n38 n39 A40 n41 n42 R)))

def J11_39 (x83 : Int) (x84 : Int) (A85 : Option Addr) (n86 : Nat) (n87 : Nat) (A88 : Option Addr) (n89 : Nat) (n90 : Nat) (x94 : Int) (x95 : Int) (A96 : Option Addr) (n97 : Nat) (n98 : Nat) (A99 :
    Option Addr) (n100 : Nat) (n101 : Nat) (w93 : World) (x30 : Int) (x78 : Int) (R : Value → List (List Value) → World → Prop) (x43 : Int) (x70 : Int) (x71 : Int) (A72 : Option Addr) (n73 : Nat) (n74 :
    Nat) (A75 : Option Addr) (n76 : Nat) (n77 : Nat) (x22 : Int) (x23 : Int) (A24 : Option Addr) (n25 : Nat) (n26 : Nat) (A27 : Option Addr) (n28 : Nat) (n29 : Nat) (x35 : Int) (x36 : Int) (A37 : Option
    Addr) (n38 : Nat) (n39 : Nat) (A40 : Option Addr) (n41 : Nat) (n42 : Nat) : Prop := CallsI Try.prog 34 [Value.agg (Array.mk [Value.int IntKind.i64 x83, Value.int IntKind.i64 x84, Value.slice A85 n86
    n87, Value.slice A88 n89 n90]), Value.agg (Array.mk [Value.int IntKind.i64 x94, Value.int IntKind.i64 x95, Value.slice A96 n97 n98, Value.slice A99 n100 n101])] w93 [] fun (v200 : Value) (l201 : List
    (List Value)) (w202 : World) => ∃ (x203 : Int), ∃ (x204 : Int), ∃ (A205 : Option Addr), ∃ (n206 : Nat), ∃ (n207 : Nat), ∃ (A208 : Option Addr), ∃ (n209 : Nat), ∃ (n210 : Nat), ∃ (x211 : Int), v200 =
    Value.tuple (Array.mk [Value.agg (Array.mk [Value.int IntKind.i64 x203, Value.int IntKind.i64 x204, Value.slice A205 n206 n207, Value.slice A208 n209 n210]), Value.int IntKind.i64 x211]) ∧ l201 = [] ∧
    J11_17 x30 x78 R w202 x43 x211 x70 x71 A72 n73 n74 A75 n76 n77 x22 x23 A24 n25 n26 A27 n28 n29 x203 x204 A205 n206 n207 A208 n209 n210 x35 x36 A37 n38 n39 A40 n41 n42

def J11_59 (lb : Int) (sb : Int) (Ab : Option Addr) (nb : Nat) (cb : Nat) (Bb : Option Addr) (mb : Nat) (db : Nat) (w82 : World) (x83 : Int) (x84 : Int) (A85 : Option Addr) (n86 : Nat) (n87 : Nat)
    (A88 : Option Addr) (n89 : Nat) (n90 : Nat) (x30 : Int) (x78 : Int) (R : Value → List (List Value) → World → Prop) (x43 : Int) (x70 : Int) (x71 : Int) (A72 : Option Addr) (n73 : Nat) (n74 : Nat) (A75
    : Option Addr) (n76 : Nat) (n77 : Nat) (x22 : Int) (x23 : Int) (A24 : Option Addr) (n25 : Nat) (n26 : Nat) (A27 : Option Addr) (n28 : Nat) (n29 : Nat) (x35 : Int) (x36 : Int) (A37 : Option Addr) (n38
    : Nat) (n39 : Nat) (A40 : Option Addr) (n41 : Nat) (n42 : Nat) : Prop := CallsI Try.prog 19 [Value.agg (Array.mk [Value.int IntKind.i64 lb, Value.int IntKind.i64 sb, Value.slice Ab nb cb, Value.slice
    Bb mb db])] w82 [] fun (v213 : Value) (l214 : List (List Value)) (w215 : World) => ∃ (x216 : Int), ∃ (x217 : Int), ∃ (A218 : Option Addr), ∃ (n219 : Nat), ∃ (n220 : Nat), ∃ (A221 : Option Addr), ∃
    (n222 : Nat), ∃ (n223 : Nat), v213 = Value.agg (Array.mk [Value.int IntKind.i64 x216, Value.int IntKind.i64 x217, Value.slice A218 n219 n220, Value.slice A221 n222 n223]) ∧ l214 = [] ∧ J11_39 x83 x84
    A85 n86 n87 A88 n89 n90 x216 x217 A218 n219 n220 A221 n222 n223 w215 x30 x78 R x43 x70 x71 A72 n73 n74 A75 n76 n77 x22 x23 A24 n25 n26 A27 n28 n29 x35 x36 A37 n38 n39 A40 n41 n42

def J11_80 (l : Int) (s : Int) (A : Option Addr) (n : Nat) (c : Nat) (B : Option Addr) (m : Nat) (d : Nat) (w69 : World) (lb : Int) (sb : Int) (Ab : Option Addr) (nb : Nat) (cb : Nat) (Bb : Option
    Addr) (mb : Nat) (db : Nat) (x30 : Int) (x78 : Int) (R : Value → List (List Value) → World → Prop) (x43 : Int) (x70 : Int) (x71 : Int) (A72 : Option Addr) (n73 : Nat) (n74 : Nat) (A75 : Option Addr)
    (n76 : Nat) (n77 : Nat) (x22 : Int) (x23 : Int) (A24 : Option Addr) (n25 : Nat) (n26 : Nat) (A27 : Option Addr) (n28 : Nat) (n29 : Nat) (x35 : Int) (x36 : Int) (A37 : Option Addr) (n38 : Nat) (n39 :
    Nat) (A40 : Option Addr) (n41 : Nat) (n42 : Nat) : Prop := (CallsI Try.prog 19 [Value.agg (Array.mk [Value.int IntKind.i64 l, Value.int IntKind.i64 s, Value.slice A n c, Value.slice B m d])] w69 []
    fun (v80 : Value) (l81 : List (List Value)) (w82 : World) => ∃ (x83 : Int), ∃ (x84 : Int), ∃ (A85 : Option Addr), ∃ (n86 : Nat), ∃ (n87 : Nat), ∃ (A88 : Option Addr), ∃ (n89 : Nat), ∃ (n90 : Nat), v80
    = Value.agg (Array.mk [Value.int IntKind.i64 x83, Value.int IntKind.i64 x84, Value.slice A85 n86 n87, Value.slice A88 n89 n90]) ∧ l81 = [] ∧ (CallsI Try.prog 19 [Value.agg (Array.mk [Value.int
    IntKind.i64 lb, Value.int IntKind.i64 sb, Value.slice Ab nb cb, Value.slice Bb mb db])] w82 [] fun (v91 : Value) (l92 : List (List Value)) (w93 : World) => ∃ (x94 : Int), ∃ (x95 : Int), ∃ (A96 :
    Option Addr), ∃ (n97 : Nat), ∃ (n98 : Nat), ∃ (A99 : Option Addr), ∃ (n100 : Nat), ∃ (n101 : Nat), v91 = Value.agg (Array.mk [Value.int IntKind.i64 x94, Value.int IntKind.i64 x95, Value.slice A96 n97
    n98, Value.slice A99 n100 n101]) ∧ l92 = [] ∧ (CallsI Try.prog 34 [Value.agg (Array.mk [Value.int IntKind.i64 x83, Value.int IntKind.i64 x84, Value.slice A85 n86 n87, Value.slice A88 n89 n90]),
    Value.agg (Array.mk [Value.int IntKind.i64 x94, Value.int IntKind.i64 x95, Value.slice A96 n97 n98, Value.slice A99 n100 n101])] w93 [] fun (v102 : Value) (l103 : List (List Value)) (w104 : World) =>
    ∃ (x105 : Int), ∃ (x106 : Int), ∃ (A107 : Option Addr), ∃ (n108 : Nat), ∃ (n109 : Nat), ∃ (A110 : Option Addr), ∃ (n111 : Nat), ∃ (n112 : Nat), ∃ (x113 : Int), v102 = Value.tuple (Array.mk [Value.agg
    (Array.mk [Value.int IntKind.i64 x105, Value.int IntKind.i64 x106, Value.slice A107 n108 n109, Value.slice A110 n111 n112]), Value.int IntKind.i64 x113]) ∧ l103 = [] ∧ (Nat → J11_17 x30 x78 R w104 x43
    x113 x70 x71 A72 n73 n74 A75 n76 n77 x22 x23 A24 n25 n26 A27 n28 n29 x105 x106 A107 n108 n109 A110 n111 n112 x35 x36 A37 n38 n39 A40 n41 n42)) ∧ (Nat → J11_39 x83 x84 A85 n86 n87 A88 n89 n90 x94 x95
    A96 n97 n98 A99 n100 n101 w93 x30 x78 R x43 x70 x71 A72 n73 n74 A75 n76 n77 x22 x23 A24 n25 n26 A27 n28 n29 x35 x36 A37 n38 n39 A40 n41 n42)) ∧ (Nat → J11_59 lb sb Ab nb cb Bb mb db w82 x83 x84 A85
    n86 n87 A88 n89 n90 x30 x78 R x43 x70 x71 A72 n73 n74 A75 n76 n77 x22 x23 A24 n25 n26 A27 n28 n29 x35 x36 A37 n38 n39 A40 n41 n42)) ∧ ∀ (_n236 : Nat), CallsI Try.prog 19 [Value.agg (Array.mk
    [Value.int IntKind.i64 l, Value.int IntKind.i64 s, Value.slice A n c, Value.slice B m d])] w69 [] fun (v237 : Value) (l238 : List (List Value)) (w239 : World) => ∃ (x240 : Int), ∃ (x241 : Int), ∃
    (A242 : Option Addr), ∃ (n243 : Nat), ∃ (n244 : Nat), ∃ (A245 : Option Addr), ∃ (n246 : Nat), ∃ (n247 : Nat), v237 = Value.agg (Array.mk [Value.int IntKind.i64 x240, Value.int IntKind.i64 x241,
    Value.slice A242 n243 n244, Value.slice A245 n246 n247]) ∧ l238 = [] ∧ J11_59 lb sb Ab nb cb Bb mb db w239 x240 x241 A242 n243 n244 A245 n246 n247 x30 x78 R x43 x70 x71 A72 n73 n74 A75 n76 n77 x22 x23
    A24 n25 n26 A27 n28 n29 x35 x36 A37 n38 n39 A40 n41 n42

def J11_102 (x48 : Int) (x49 : Int) (A50 : Option Addr) (n51 : Nat) (n52 : Nat) (A53 : Option Addr) (n54 : Nat) (n55 : Nat) (x59 : Int) (x60 : Int) (A61 : Option Addr) (n62 : Nat) (n63 : Nat) (A64 :
    Option Addr) (n65 : Nat) (n66 : Nat) (w58 : World) (l : Int) (s : Int) (A : Option Addr) (n : Nat) (c : Nat) (B : Option Addr) (m : Nat) (d : Nat) (lb : Int) (sb : Int) (Ab : Option Addr) (nb : Nat)
    (cb : Nat) (Bb : Option Addr) (mb : Nat) (db : Nat) (x30 : Int) (R : Value → List (List Value) → World → Prop) (x43 : Int) (x22 : Int) (x23 : Int) (A24 : Option Addr) (n25 : Nat) (n26 : Nat) (A27 :
    Option Addr) (n28 : Nat) (n29 : Nat) (x35 : Int) (x36 : Int) (A37 : Option Addr) (n38 : Nat) (n39 : Nat) (A40 : Option Addr) (n41 : Nat) (n42 : Nat) : Prop := CallsI Try.prog 37 [Value.agg (Array.mk
    [Value.int IntKind.i64 x48, Value.int IntKind.i64 x49, Value.slice A50 n51 n52, Value.slice A53 n54 n55]), Value.agg (Array.mk [Value.int IntKind.i64 x59, Value.int IntKind.i64 x60, Value.slice A61
    n62 n63, Value.slice A64 n65 n66])] w58 [] fun (v272 : Value) (l273 : List (List Value)) (w274 : World) => ∃ (x275 : Int), ∃ (x276 : Int), ∃ (A277 : Option Addr), ∃ (n278 : Nat), ∃ (n279 : Nat), ∃
    (A280 : Option Addr), ∃ (n281 : Nat), ∃ (n282 : Nat), ∃ (x283 : Int), v272 = Value.tuple (Array.mk [Value.agg (Array.mk [Value.int IntKind.i64 x275, Value.int IntKind.i64 x276, Value.slice A277 n278
    n279, Value.slice A280 n281 n282]), Value.int IntKind.i64 x283]) ∧ l273 = [] ∧ J11_80 l s A n c B m d w274 lb sb Ab nb cb Bb mb db x30 x283 R x43 x275 x276 A277 n278 n279 A280 n281 n282 x22 x23 A24
    n25 n26 A27 n28 n29 x35 x36 A37 n38 n39 A40 n41 n42

def J11_122 (lb : Int) (sb : Int) (Ab : Option Addr) (nb : Nat) (cb : Nat) (Bb : Option Addr) (mb : Nat) (db : Nat) (w47 : World) (x48 : Int) (x49 : Int) (A50 : Option Addr) (n51 : Nat) (n52 : Nat)
    (A53 : Option Addr) (n54 : Nat) (n55 : Nat) (l : Int) (s : Int) (A : Option Addr) (n : Nat) (c : Nat) (B : Option Addr) (m : Nat) (d : Nat) (x30 : Int) (R : Value → List (List Value) → World → Prop)
    (x43 : Int) (x22 : Int) (x23 : Int) (A24 : Option Addr) (n25 : Nat) (n26 : Nat) (A27 : Option Addr) (n28 : Nat) (n29 : Nat) (x35 : Int) (x36 : Int) (A37 : Option Addr) (n38 : Nat) (n39 : Nat) (A40 :
    Option Addr) (n41 : Nat) (n42 : Nat) : Prop := CallsI Try.prog 19 [Value.agg (Array.mk [Value.int IntKind.i64 lb, Value.int IntKind.i64 sb, Value.slice Ab nb cb, Value.slice Bb mb db])] w47 [] fun
    (v285 : Value) (l286 : List (List Value)) (w287 : World) => ∃ (x288 : Int), ∃ (x289 : Int), ∃ (A290 : Option Addr), ∃ (n291 : Nat), ∃ (n292 : Nat), ∃ (A293 : Option Addr), ∃ (n294 : Nat), ∃ (n295 :
    Nat), v285 = Value.agg (Array.mk [Value.int IntKind.i64 x288, Value.int IntKind.i64 x289, Value.slice A290 n291 n292, Value.slice A293 n294 n295]) ∧ l286 = [] ∧ J11_102 x48 x49 A50 n51 n52 A53 n54 n55
    x288 x289 A290 n291 n292 A293 n294 n295 w287 l s A n c B m d lb sb Ab nb cb Bb mb db x30 R x43 x22 x23 A24 n25 n26 A27 n28 n29 x35 x36 A37 n38 n39 A40 n41 n42

set_option maxRecDepth 100000 in
theorem s11 (l s : Int) (A : Option Addr) (n c : Nat) (B : Option Addr) (m d : Nat) (lb sb : Int) (Ab : Option Addr) (nb cb : Nat) (Bb : Option Addr) (mb db : Nat) (w : World) (R : Value → List (List Value) → World → Prop) (h :
    ∀ (_n1 _n2 : Nat), CallsI Try.prog 21 [Value.agg (Array.mk [Value.int IntKind.i64 l, Value.int IntKind.i64 s, Value.slice A n c, Value.slice B m d])] w [] fun (v3 : Value) (l4 : List (List Value)) (w5
        : World) => ∃ (t6 : Bool), v3 = Value.bool t6 ∧ l4 = [] ∧ condK (!t6) (J11_1 w5 R) (CallsI Try.prog 21 [Value.agg (Array.mk [Value.int IntKind.i64 lb, Value.int IntKind.i64 sb, Value.slice Ab nb cb,
        Value.slice Bb mb db])] w5 [] fun (v11 : Value) (l12 : List (List Value)) (w13 : World) => ∃ (t14 : Bool), v11 = Value.bool t14 ∧ l12 = [] ∧ condK (!t14) (J11_1 w13 R) (CallsI Try.prog 35 [Value.agg
        (Array.mk [Value.int IntKind.i64 l, Value.int IntKind.i64 s, Value.slice A n c, Value.slice B m d]), Value.agg (Array.mk [Value.int IntKind.i64 lb, Value.int IntKind.i64 sb, Value.slice Ab nb cb,
        Value.slice Bb mb db])] w13 [] fun (v19 : Value) (l20 : List (List Value)) (w21 : World) => ∃ (x22 : Int), ∃ (x23 : Int), ∃ (A24 : Option Addr), ∃ (n25 : Nat), ∃ (n26 : Nat), ∃ (A27 : Option Addr), ∃
        (n28 : Nat), ∃ (n29 : Nat), ∃ (x30 : Int), v19 = Value.tuple (Array.mk [Value.agg (Array.mk [Value.int IntKind.i64 x22, Value.int IntKind.i64 x23, Value.slice A24 n25 n26, Value.slice A27 n28 n29]),
        Value.int IntKind.i64 x30]) ∧ l20 = [] ∧ ∀ (_n31 : Nat), CallsI Try.prog 36 [Value.agg (Array.mk [Value.int IntKind.i64 l, Value.int IntKind.i64 s, Value.slice A n c, Value.slice B m d]), Value.agg
        (Array.mk [Value.int IntKind.i64 lb, Value.int IntKind.i64 sb, Value.slice Ab nb cb, Value.slice Bb mb db])] w21 [] fun (v32 : Value) (l33 : List (List Value)) (w34 : World) => ∃ (x35 : Int), ∃ (x36 :
        Int), ∃ (A37 : Option Addr), ∃ (n38 : Nat), ∃ (n39 : Nat), ∃ (A40 : Option Addr), ∃ (n41 : Nat), ∃ (n42 : Nat), ∃ (x43 : Int), v32 = Value.tuple (Array.mk [Value.agg (Array.mk [Value.int IntKind.i64
        x35, Value.int IntKind.i64 x36, Value.slice A37 n38 n39, Value.slice A40 n41 n42]), Value.int IntKind.i64 x43]) ∧ l33 = [] ∧ ∀ (_n44 : Nat), (CallsI Try.prog 19 [Value.agg (Array.mk [Value.int
        IntKind.i64 l, Value.int IntKind.i64 s, Value.slice A n c, Value.slice B m d])] w34 [] fun (v45 : Value) (l46 : List (List Value)) (w47 : World) => ∃ (x48 : Int), ∃ (x49 : Int), ∃ (A50 : Option Addr),
        ∃ (n51 : Nat), ∃ (n52 : Nat), ∃ (A53 : Option Addr), ∃ (n54 : Nat), ∃ (n55 : Nat), v45 = Value.agg (Array.mk [Value.int IntKind.i64 x48, Value.int IntKind.i64 x49, Value.slice A50 n51 n52, Value.slice
        A53 n54 n55]) ∧ l46 = [] ∧ (CallsI Try.prog 19 [Value.agg (Array.mk [Value.int IntKind.i64 lb, Value.int IntKind.i64 sb, Value.slice Ab nb cb, Value.slice Bb mb db])] w47 [] fun (v56 : Value) (l57 :
        List (List Value)) (w58 : World) => ∃ (x59 : Int), ∃ (x60 : Int), ∃ (A61 : Option Addr), ∃ (n62 : Nat), ∃ (n63 : Nat), ∃ (A64 : Option Addr), ∃ (n65 : Nat), ∃ (n66 : Nat), v56 = Value.agg (Array.mk
        [Value.int IntKind.i64 x59, Value.int IntKind.i64 x60, Value.slice A61 n62 n63, Value.slice A64 n65 n66]) ∧ l57 = [] ∧ (CallsI Try.prog 37 [Value.agg (Array.mk [Value.int IntKind.i64 x48, Value.int
        IntKind.i64 x49, Value.slice A50 n51 n52, Value.slice A53 n54 n55]), Value.agg (Array.mk [Value.int IntKind.i64 x59, Value.int IntKind.i64 x60, Value.slice A61 n62 n63, Value.slice A64 n65 n66])] w58
        [] fun (v67 : Value) (l68 : List (List Value)) (w69 : World) => ∃ (x70 : Int), ∃ (x71 : Int), ∃ (A72 : Option Addr), ∃ (n73 : Nat), ∃ (n74 : Nat), ∃ (A75 : Option Addr), ∃ (n76 : Nat), ∃ (n77 : Nat),
        ∃ (x78 : Int), v67 = Value.tuple (Array.mk [Value.agg (Array.mk [Value.int IntKind.i64 x70, Value.int IntKind.i64 x71, Value.slice A72 n73 n74, Value.slice A75 n76 n77]), Value.int IntKind.i64 x78]) ∧
        l68 = [] ∧ (Nat → J11_80 l s A n c B m d w69 lb sb Ab nb cb Bb mb db x30 x78 R x43 x70 x71 A72 n73 n74 A75 n76 n77 x22 x23 A24 n25 n26 A27 n28 n29 x35 x36 A37 n38 n39 A40 n41 n42)) ∧ (Nat → J11_102
        x48 x49 A50 n51 n52 A53 n54 n55 x59 x60 A61 n62 n63 A64 n65 n66 w58 l s A n c B m d lb sb Ab nb cb Bb mb db x30 R x43 x22 x23 A24 n25 n26 A27 n28 n29 x35 x36 A37 n38 n39 A40 n41 n42)) ∧ (Nat → J11_122
        lb sb Ab nb cb Bb mb db w47 x48 x49 A50 n51 n52 A53 n54 n55 l s A n c B m d x30 R x43 x22 x23 A24 n25 n26 A27 n28 n29 x35 x36 A37 n38 n39 A40 n41 n42)) ∧ ∀ (_n308 : Nat), CallsI Try.prog 19 [Value.agg
        (Array.mk [Value.int IntKind.i64 l, Value.int IntKind.i64 s, Value.slice A n c, Value.slice B m d])] w34 [] fun (v309 : Value) (l310 : List (List Value)) (w311 : World) => ∃ (x312 : Int), ∃ (x313 :
        Int), ∃ (A314 : Option Addr), ∃ (n315 : Nat), ∃ (n316 : Nat), ∃ (A317 : Option Addr), ∃ (n318 : Nat), ∃ (n319 : Nat), v309 = Value.agg (Array.mk [Value.int IntKind.i64 x312, Value.int IntKind.i64
        x313, Value.slice A314 n315 n316, Value.slice A317 n318 n319]) ∧ l310 = [] ∧ J11_122 lb sb Ab nb cb Bb mb db w311 x312 x313 A314 n315 n316 A317 n318 n319 l s A n c B m d x30 R x43 x22 x23 A24 n25 n26
        A27 n28 n29 x35 x36 A37 n38 n39 A40 n41 n42))) :
    CallsI Try.prog 11 [(.agg #[.int .i64 l, .int .i64 s, .slice A n c, .slice B m d]), (.agg #[.int .i64 lb, .int .i64 sb, .slice Ab nb cb, .slice Bb mb db])] w [] R :=
  vcFun_sound (H := ⟨[], []⟩) (args := [.v (.agg #[.int .i64 l, .int .i64 s, .slice A n c, .slice B m d]), .v (.agg #[.int .i64 lb, .int .i64 sb, .slice Ab nb cb, .slice Bb mb db])]) (L := []) goodP Try.func11 (by simp [okp]) (by rw [Try.ntmps11]; simp) (by simp [okp]) (Eq.mp (by kernel_rfl) h)

end Go.Proofs.Ytnkpjlhbojjneaa.VC

/- The law of joins. -/
namespace Go.Proofs.Ytnkpjlhbojjneaa.VC
open Go Go.RowKit

/-- what Both and Either tell -/
def JRes (st : Bool) (a b mm : Mach) (x : Int) : Prop := (fitc a b ≠ 0 ∧ x = fitc a b ∧ mm = zeroM) ∨ (fitc a b = 0 ∧ x = 0 ∧ IsJoin st a b mm)
theorem JRes.unique {st : Bool} {a b mm nn : Mach} {x y : Int} (h : JRes st a b mm x) (k : JRes st a b nn y) : x = y ∧ mm = nn := by
  rcases h with ⟨h1, rfl, rfl⟩ | ⟨h1, rfl, h2⟩
  · rcases k with ⟨_, rfl, rfl⟩ | ⟨k1, _⟩
    · exact ⟨rfl, rfl⟩
    · exact absurd k1 h1
  · rcases k with ⟨k1, _⟩ | ⟨_, rfl, k2⟩
    · exact absurd h1 k1
    · exact ⟨rfl, h2.unique k2⟩
theorem JRes.zero {st : Bool} {a b mm : Mach} {x : Int} (h : JRes st a b mm x) (hx : x ≠ 0) : mm = zeroM := by
  rcases h with ⟨_, _, h⟩ | ⟨_, h, _⟩
  · exact h
  · exact absurd h hx
theorem few30 {a b : Mach} (ha : a.Small) (hb : b.Small) : ((a.next.length : Int) + 1) * (b.next.length + 1) ≤ 4000 := by
  have h1 := ha.1; have h2 := hb.1
  have : ((a.next.length : Int) + 1) * (b.next.length + 1) ≤ 31 * 31 := Int.mul_le_mul (by omega) (by omega) (by omega) (by omega)
  omega
theorem join_lim {a b : Mach} {st : Bool} {mm : Mach} (few : ((a.next.length : Int) + 1) * (b.next.length + 1) ≤ 4000) (h : fitc a b = 0) (hj : IsJoin st a b mm) (hl : (mm.next.length : Int) ≤ (a.next.length + 1) * (b.next.length + 1)) : mm.Lim := by
  have hv := (fitc_ok.1 h).1.letters
  have := hj.letters
  exact hj.canon.shaped.lim (by omega) (by omega)
section
variable {w : World} {a b : Mach} {v u : Value} {R : Res} (ha : MachAt w a v) (hb : MachAt w b u) (la : a.Lim) (lb : b.Lim) (few : ((a.next.length : Int) + 1) * (b.next.length + 1) ≤ 4000)
include ha hb la lb few
theorem c37r (hR : ∀ w' mm x A n c B k d, Ext w w' → MachAt w' mm (.agg (Array.mk [.int .i64 mm.letters, .int .i64 mm.start, .slice A n c, .slice B k d])) → JRes true a b mm x → mm.Lim → mm.next.length ≤ 4000 → R (.tuple (Array.mk [.agg (Array.mk [.int .i64 mm.letters, .int .i64 mm.start, .slice A n c, .slice B k d]), .int .i64 x])) [] w') :
    CallsI Try.prog 37 [v, u] w [] R := by
  refine c37 ha hb la lb few (fun h => hR w zeroM _ _ _ _ _ _ _ Ext.rfl' (zeroM_at w) (.inl ⟨h, rfl, rfl⟩) zeroM_lim (by simp [zeroM])) fun h w' mm v' hnew hj hl => ?_
  have hat := hnew.at_
  obtain ⟨A, n, c, B, k, d, rfl⟩ := hat.form
  exact hR w' mm 0 _ _ _ _ _ _ hnew.below hat (.inr ⟨h, rfl, hj⟩) (join_lim few h hj hl) (by omega)
theorem c34r (hR : ∀ w' mm x A n c B k d, Ext w w' → MachAt w' mm (.agg (Array.mk [.int .i64 mm.letters, .int .i64 mm.start, .slice A n c, .slice B k d])) → JRes false a b mm x → mm.Lim → mm.next.length ≤ 4000 → R (.tuple (Array.mk [.agg (Array.mk [.int .i64 mm.letters, .int .i64 mm.start, .slice A n c, .slice B k d]), .int .i64 x])) [] w') :
    CallsI Try.prog 34 [v, u] w [] R := by
  refine c34 ha hb la lb few (fun h => hR w zeroM _ _ _ _ _ _ _ Ext.rfl' (zeroM_at w) (.inl ⟨h, rfl, rfl⟩) zeroM_lim (by simp [zeroM])) fun h w' mm v' hnew hj hl => ?_
  have hat := hnew.at_
  obtain ⟨A, n, c, B, k, d, rfl⟩ := hat.form
  exact hR w' mm 0 _ _ _ _ _ _ hnew.below hat (.inr ⟨h, rfl, hj⟩) (join_lim few h hj hl) (by omega)
theorem c35r (hR : ∀ w' mm x A n c B k d, Ext w w' → MachAt w' mm (.agg (Array.mk [.int .i64 mm.letters, .int .i64 mm.start, .slice A n c, .slice B k d])) → JRes true a b mm x → R (.tuple (Array.mk [.agg (Array.mk [.int .i64 mm.letters, .int .i64 mm.start, .slice A n c, .slice B k d]), .int .i64 x])) [] w') :
    CallsI Try.prog 35 [v, u] w [] R := by
  refine c35 ha hb la lb few (fun h => hR w zeroM _ _ _ _ _ _ _ Ext.rfl' (zeroM_at w) (.inl ⟨h, rfl, rfl⟩)) fun h w' mm v' hnew hj => ?_
  have hat := hnew.at_
  obtain ⟨A, n, c, B, k, d, rfl⟩ := hat.form
  exact hR w' mm 0 _ _ _ _ _ _ hnew.below hat (.inr ⟨h, rfl, hj⟩)
theorem c36r (hR : ∀ w' mm x A n c B k d, Ext w w' → MachAt w' mm (.agg (Array.mk [.int .i64 mm.letters, .int .i64 mm.start, .slice A n c, .slice B k d])) → JRes false a b mm x → R (.tuple (Array.mk [.agg (Array.mk [.int .i64 mm.letters, .int .i64 mm.start, .slice A n c, .slice B k d]), .int .i64 x])) [] w') :
    CallsI Try.prog 36 [v, u] w [] R := by
  refine c36 ha hb la lb few (fun h => hR w zeroM _ _ _ _ _ _ _ Ext.rfl' (zeroM_at w) (.inl ⟨h, rfl, rfl⟩)) fun h w' mm v' hnew hj => ?_
  have hat := hnew.at_
  obtain ⟨A, n, c, B, k, d, rfl⟩ := hat.form
  exact hR w' mm 0 _ _ _ _ _ _ hnew.below hat (.inr ⟨h, rfl, hj⟩)
end

set_option maxHeartbeats 4000000 in
theorem c11 {w : World} {a b : Mach} {v u : Value} {R : Res} (ha : MachAt w a v) (la : a.Lim) (hb : MachAt w b u) (lb : b.Lim)
    (hR : ∀ w', Ext w w' → R (.bool true) [] w') : CallsI Try.prog 11 [v, u] w [] R := by
  have ha0 := ha; have hb0 := hb
  obtain ⟨A, n, c, B, k, d, rfl⟩ := ha.form
  obtain ⟨A', n', c', B', k', d', rfl⟩ := hb.form
  have awake : ∀ w', Ext w w' → J11_1 w' R := fun w' hE => c15 fun w2 hE2 => ⟨_, rfl, rfl, hR w2 (hE.trans' hE2)⟩
  refine s11 _ _ _ _ _ _ _ _ _ _ _ _ _ _ _ _ _ _ fun _ _ => c21 ha0 (fun hsa => ⟨_, rfl, rfl, ?_⟩) fun _ => ⟨_, rfl, rfl, awake w Ext.rfl'⟩
  refine condK_of (fun h => by cases h) fun _ => ?_
  refine c21 hb0 (fun hsb => ⟨_, rfl, rfl, ?_⟩) fun _ => ⟨_, rfl, rfl, awake w Ext.rfl'⟩
  refine condK_of (fun h => by cases h) fun _ => ?_
  have few := few30 hsa hsb
  refine c35r ha0 hb0 la lb few fun w21 xm x30 A24 n25 n26 A27 n28 n29 hE21 hxm hjx => ⟨_, _, _, _, _, _, _, _, _, rfl, rfl, fun _ => ?_⟩
  refine c36r (ha0.ext hE21) (hb0.ext hE21) la lb few fun w34 ym x43 A37 n38 n39 A40 n41 n42 hE34' hym hjy => ⟨_, _, _, _, _, _, _, _, _, rfl, rfl, fun _ => ?_⟩
  have hE34 : Ext w w34 := hE21.trans' hE34'
  have hxm := hxm.ext hE34'
  have j17 : ∀ (w104 : World) (mm nn : Mach) (x78 x113 : Int) (A72 : Option Addr) (n73 n74 : Nat) (A75 : Option Addr) (n76 n77 : Nat) (A107 : Option Addr) (n108 n109 : Nat) (A110 : Option Addr) (n111 n112 : Nat), Ext w34 w104 →
      MachAt w104 mm (.agg (Array.mk [.int .i64 mm.letters, .int .i64 mm.start, .slice A72 n73 n74, .slice A75 n76 n77])) → MachAt w104 nn (.agg (Array.mk [.int .i64 nn.letters, .int .i64 nn.start, .slice A107 n108 n109, .slice A110 n111 n112])) → JRes true a b mm x78 → JRes false a b nn x113 → mm.Lim → nn.Lim →
      J11_17 x30 x78 R w104 x43 x113 mm.letters mm.start A72 n73 n74 A75 n76 n77 xm.letters xm.start A24 n25 n26 A27 n28 n29 nn.letters nn.start A107 n108 n109 A110 n111 n112 ym.letters ym.start A37 n38 n39 A40 n41 n42 := by
    intro w104 mm nn x78 x113 A72 n73 n74 A75 n76 n77 A107 n108 n109 A110 n111 n112 hE hmm hnn hjm hjn lm ln
    obtain ⟨rfl, rfl⟩ := hjx.unique hjm
    obtain ⟨rfl, rfl⟩ := hjy.unique hjn
    have end_ := awake w104 (hE34.trans' hE)
    have j2 : x43 ≠ 0 → J11_2 ym.letters ym.start A107 n108 n109 A110 n111 n112 w104 R := fun h => by
      rw [J11_2]
      refine c24 hnn (zeroM_at _) ln (fun _ => ⟨_, rfl, rfl, condK_of (fun _ => end_) fun h => by cases h⟩) fun hne => absurd (hjy.zero h) hne
    have j5 : J11_5 x43 ym.letters ym.start A107 n108 n109 A110 n111 n112 ym.letters ym.start A37 n38 n39 A40 n41 n42 w104 R := by
      rw [J11_5]
      refine condK_beq (fun h => ?_) fun h => condK_bne (fun h => j2 h) fun h2 => absurd h2 h
      exact c24 hnn (hym.ext hE) ln (fun _ => ⟨_, rfl, rfl, condK_of (fun _ => end_) fun h => by cases h⟩) fun hne => absurd rfl hne
    have j8 : x30 ≠ 0 → J11_8 x30 xm.letters xm.start A72 n73 n74 A75 n76 n77 w104 x43 ym.letters ym.start A107 n108 n109 A110 n111 n112 ym.letters ym.start A37 n38 n39 A40 n41 n42 R := fun h => by
      rw [J11_8]
      refine condK_bne (fun h => ?_) fun h2 => absurd h2 h
      exact c24 hmm (zeroM_at _) lm (fun _ => ⟨_, rfl, rfl, condK_of (fun _ => j5) fun h => by cases h⟩) fun hne => absurd (hjx.zero h) hne
    rw [J11_17]
    refine condK_bne (fun h => absurd rfl h) fun _ => condK_bne (fun h => absurd rfl h) fun _ => ?_
    refine condK_beq (fun h => ?_) fun h => j8 h
    exact c24 hmm (hxm.ext hE) lm (fun _ => ⟨_, rfl, rfl, condK_of (fun _ => j5) fun h => by cases h⟩) fun hne => absurd rfl hne
  have j39 : ∀ (w93 : World) (mm : Mach) (x78 : Int) (A85 : Option Addr) (n86 n87 : Nat) (A88 : Option Addr) (n89 n90 : Nat) (A96 : Option Addr) (n97 n98 : Nat) (A99 : Option Addr) (n100 n101 : Nat) (A72 : Option Addr) (n73 n74 : Nat) (A75 : Option Addr) (n76 n77 : Nat), Ext w34 w93 →
      MachAt w93 a (.agg (Array.mk [.int .i64 a.letters, .int .i64 a.start, .slice A85 n86 n87, .slice A88 n89 n90])) → MachAt w93 b (.agg (Array.mk [.int .i64 b.letters, .int .i64 b.start, .slice A96 n97 n98, .slice A99 n100 n101])) →
      MachAt w93 mm (.agg (Array.mk [.int .i64 mm.letters, .int .i64 mm.start, .slice A72 n73 n74, .slice A75 n76 n77])) → JRes true a b mm x78 → mm.Lim →
      J11_39 a.letters a.start A85 n86 n87 A88 n89 n90 b.letters b.start A96 n97 n98 A99 n100 n101 w93 x30 x78 R x43 mm.letters mm.start A72 n73 n74 A75 n76 n77 xm.letters xm.start A24 n25 n26 A27 n28 n29 ym.letters ym.start A37 n38 n39 A40 n41 n42 := by
    intro w93 mm x78 A85 n86 n87 A88 n89 n90 A96 n97 n98 A99 n100 n101 A72 n73 n74 A75 n76 n77 hE h1 h2 hmm hjm lm
    rw [J11_39]
    exact c34r h1 h2 la lb few fun w' nn x' _ _ _ _ _ _ hE' hnn hjn ln _ => ⟨_, _, _, _, _, _, _, _, _, rfl, rfl, j17 w' mm nn x78 x' _ _ _ _ _ _ _ _ _ _ _ _ (hE.trans' hE') (hmm.ext hE') hnn hjm hjn lm ln⟩
  have j59 : ∀ (w82 : World) (mm : Mach) (x78 : Int) (A85 : Option Addr) (n86 n87 : Nat) (A88 : Option Addr) (n89 n90 : Nat) (A72 : Option Addr) (n73 n74 : Nat) (A75 : Option Addr) (n76 n77 : Nat), Ext w34 w82 →
      MachAt w82 a (.agg (Array.mk [.int .i64 a.letters, .int .i64 a.start, .slice A85 n86 n87, .slice A88 n89 n90])) →
      MachAt w82 mm (.agg (Array.mk [.int .i64 mm.letters, .int .i64 mm.start, .slice A72 n73 n74, .slice A75 n76 n77])) → JRes true a b mm x78 → mm.Lim →
      J11_59 b.letters b.start A' n' c' B' k' d' w82 a.letters a.start A85 n86 n87 A88 n89 n90 x30 x78 R x43 mm.letters mm.start A72 n73 n74 A75 n76 n77 xm.letters xm.start A24 n25 n26 A27 n28 n29 ym.letters ym.start A37 n38 n39 A40 n41 n42 := by
    intro w82 mm x78 A85 n86 n87 A88 n89 n90 A72 n73 n74 A75 n76 n77 hE h1 hmm hjm lm
    rw [J11_59]
    refine c19 (hb0.ext (hE34.trans' hE)) lb fun w93 v91 hcp => ?_
    obtain ⟨A96, n97, n98, A99, n100, n101, rfl⟩ := hcp.at_.form
    have hE' := hcp.below
    exact ⟨_, _, _, _, _, _, _, _, rfl, rfl, j39 w93 mm x78 _ _ _ _ _ _ _ _ _ _ _ _ _ _ _ _ _ _ (hE.trans' hE') (h1.ext hE') hcp.at_ (hmm.ext hE') hjm lm⟩
  have j80 : ∀ (w69 : World) (mm : Mach) (x78 : Int) (A72 : Option Addr) (n73 n74 : Nat) (A75 : Option Addr) (n76 n77 : Nat), Ext w34 w69 →
      MachAt w69 mm (.agg (Array.mk [.int .i64 mm.letters, .int .i64 mm.start, .slice A72 n73 n74, .slice A75 n76 n77])) → JRes true a b mm x78 → mm.Lim →
      J11_80 a.letters a.start A n c B k d w69 b.letters b.start A' n' c' B' k' d' x30 x78 R x43 mm.letters mm.start A72 n73 n74 A75 n76 n77 xm.letters xm.start A24 n25 n26 A27 n28 n29 ym.letters ym.start A37 n38 n39 A40 n41 n42 := by
    intro w69 mm x78 A72 n73 n74 A75 n76 n77 hE hmm hjm lm
    have hEw : Ext w w69 := hE34.trans' hE
    rw [J11_80]
    refine ⟨c19 (ha0.ext hEw) la fun w82 v80 hcp => ?_, fun _ => c19 (ha0.ext hEw) la fun w82 v80 hcp => ?_⟩
    · have hE' := hcp.below
      have hat := hcp.at_
      obtain ⟨A85, n86, n87, A88, n89, n90, rfl⟩ := hat.form
      refine ⟨_, _, _, _, _, _, _, _, rfl, rfl, c19 (hb0.ext (hEw.trans' hE')) lb fun w93 v91 hcp2 => ?_, fun _ => j59 w82 mm x78 _ _ _ _ _ _ _ _ _ _ _ _ (hE.trans' hE') hat (hmm.ext hE') hjm lm⟩
      have hE2 := hcp2.below
      have hat2 := hcp2.at_
      obtain ⟨A96, n97, n98, A99, n100, n101, rfl⟩ := hat2.form
      have hE3 := (hE.trans' hE').trans' hE2
      exact ⟨_, _, _, _, _, _, _, _, rfl, rfl, c34r (hat.ext hE2) hat2 la lb few fun w' nn x' _ _ _ _ _ _ hE4 hnn hjn ln _ => ⟨_, _, _, _, _, _, _, _, _, rfl, rfl, fun _ => j17 w' mm nn x78 x' _ _ _ _ _ _ _ _ _ _ _ _ (hE3.trans' hE4) (((hmm.ext hE').ext hE2).ext hE4) hnn hjm hjn lm ln⟩,
        fun _ => j39 w93 mm x78 _ _ _ _ _ _ _ _ _ _ _ _ _ _ _ _ _ _ hE3 (hat.ext hE2) hat2 ((hmm.ext hE').ext hE2) hjm lm⟩
    · have hat := hcp.at_
      obtain ⟨A85, n86, n87, A88, n89, n90, rfl⟩ := hat.form
      exact ⟨_, _, _, _, _, _, _, _, rfl, rfl, j59 w82 mm x78 _ _ _ _ _ _ _ _ _ _ _ _ (hE.trans' hcp.below) hat (hmm.ext hcp.below) hjm lm⟩
  have j102 : ∀ (w58 : World) (A50 : Option Addr) (n51 n52 : Nat) (A53 : Option Addr) (n54 n55 : Nat) (A61 : Option Addr) (n62 n63 : Nat) (A64 : Option Addr) (n65 n66 : Nat), Ext w34 w58 →
      MachAt w58 a (.agg (Array.mk [.int .i64 a.letters, .int .i64 a.start, .slice A50 n51 n52, .slice A53 n54 n55])) → MachAt w58 b (.agg (Array.mk [.int .i64 b.letters, .int .i64 b.start, .slice A61 n62 n63, .slice A64 n65 n66])) →
      J11_102 a.letters a.start A50 n51 n52 A53 n54 n55 b.letters b.start A61 n62 n63 A64 n65 n66 w58 a.letters a.start A n c B k d b.letters b.start A' n' c' B' k' d' x30 R x43 xm.letters xm.start A24 n25 n26 A27 n28 n29 ym.letters ym.start A37 n38 n39 A40 n41 n42 := by
    intro w58 A50 n51 n52 A53 n54 n55 A61 n62 n63 A64 n65 n66 hE h1 h2
    rw [J11_102]
    exact c37r h1 h2 la lb few fun w' mm x' _ _ _ _ _ _ hE' hmm hjm lm _ => ⟨_, _, _, _, _, _, _, _, _, rfl, rfl, j80 w' mm x' _ _ _ _ _ _ (hE.trans' hE') hmm hjm lm⟩
  have j122 : ∀ (w47 : World) (A50 : Option Addr) (n51 n52 : Nat) (A53 : Option Addr) (n54 n55 : Nat), Ext w34 w47 →
      MachAt w47 a (.agg (Array.mk [.int .i64 a.letters, .int .i64 a.start, .slice A50 n51 n52, .slice A53 n54 n55])) →
      J11_122 b.letters b.start A' n' c' B' k' d' w47 a.letters a.start A50 n51 n52 A53 n54 n55 a.letters a.start A n c B k d x30 R x43 xm.letters xm.start A24 n25 n26 A27 n28 n29 ym.letters ym.start A37 n38 n39 A40 n41 n42 := by
    intro w47 A50 n51 n52 A53 n54 n55 hE h1
    rw [J11_122]
    refine c19 (hb0.ext (hE34.trans' hE)) lb fun w58 v56 hcp => ?_
    have hat := hcp.at_
    obtain ⟨A61, n62, n63, A64, n65, n66, rfl⟩ := hat.form
    exact ⟨_, _, _, _, _, _, _, _, rfl, rfl, j102 w58 _ _ _ _ _ _ _ _ _ _ _ _ (hE.trans' hcp.below) (h1.ext hcp.below) hat⟩
  refine ⟨c19 (ha0.ext hE34) la fun w47 v45 hcp => ?_, fun _ => c19 (ha0.ext hE34) la fun w47 v45 hcp => ?_⟩
  · have hE' := hcp.below
    have hat := hcp.at_
    obtain ⟨A50, n51, n52, A53, n54, n55, rfl⟩ := hat.form
    refine ⟨_, _, _, _, _, _, _, _, rfl, rfl, c19 (hb0.ext (hE34.trans' hE')) lb fun w58 v56 hcp2 => ?_, fun _ => j122 w47 _ _ _ _ _ _ hE' hat⟩
    have hE2 := hcp2.below
    have hat2 := hcp2.at_
    obtain ⟨A61, n62, n63, A64, n65, n66, rfl⟩ := hat2.form
    exact ⟨_, _, _, _, _, _, _, _, rfl, rfl, c37r (hat.ext hE2) hat2 la lb few fun w' mm x' _ _ _ _ _ _ hE4 hmm hjm lm _ => ⟨_, _, _, _, _, _, _, _, _, rfl, rfl, fun _ => j80 w' mm x' _ _ _ _ _ _ ((hE'.trans' hE2).trans' hE4) hmm hjm lm⟩,
      fun _ => j102 w58 _ _ _ _ _ _ _ _ _ _ _ _ (hE'.trans' hE2) (hat.ext hE2) hat2⟩
  · have hat := hcp.at_
    obtain ⟨A50, n51, n52, A53, n54, n55, rfl⟩ := hat.form
    exact ⟨_, _, _, _, _, _, _, _, rfl, rfl, j122 w47 _ _ _ _ _ _ hcp.below hat⟩
end Go.Proofs.Ytnkpjlhbojjneaa.VC
