/- Relations and the checker, by the reference. -/
import Derived.Test.YtnkpjlhbojjneaaGb
import Derived.Test.YtnkpjlhbojjneaaGl
/- The conditions of functions, printed by wip/tools/gen.py. -/
namespace Go.Proofs.Ytnkpjlhbojjneaa.VC
open Go Go.RowKit

set_option maxRecDepth 100000 in
theorem s64 (p q pb qb : Int) (w : World) (R : Value → List (List Value) → World → Prop) (h :
    ∀ (_n1 _n2 : Nat), condK (decide (p < pb)) (R (Value.bool true) [] w) (condK (p == pb) (R (Value.bool (decide (q < qb))) [] w) (R (Value.bool false) [] w))) :
    CallsI Try.prog 64 [(.agg #[.int .i64 p, .int .i64 q]), (.agg #[.int .i64 pb, .int .i64 qb])] w [] R :=
  vcFun_sound (H := ⟨[], []⟩) (args := [.v (.agg #[.int .i64 p, .int .i64 q]), .v (.agg #[.int .i64 pb, .int .i64 qb])]) (L := []) goodP Try.func64 (by simp [okp]) (by rw [Try.ntmps64]; simp) (by simp [okp]) (Eq.mp (by kernel_rfl) h)

def J32_7 (I26 : Int → Option Addr → Nat → Nat → Lp) (x27 : Int) (A38 : Option Addr) (n39 : Nat) (n40 : Nat) (w54 : World) (n32 : Nat) : Prop := (I26 (IntKind.i64.wrap (x27 + 1)) A38 n39 n40).1 w54 ∧
    (I26 (IntKind.i64.wrap (x27 + 1)) A38 n39 n40).m w54 < n32

set_option maxRecDepth 100000 in
theorem s32 (l s : Int) (A : Option Addr) (n c : Nat) (B : Option Addr) (m d : Nat) (lb sb : Int) (Ab : Option Addr) (nb cb : Nat) (Bb : Option Addr) (mb db : Nat) (w : World) (R : Value → List (List Value) → World → Prop) (h :
    ∀ (_n1 _n2 : Nat), CallsI Try.prog 29 [Value.agg (Array.mk [Value.int IntKind.i64 l, Value.int IntKind.i64 s, Value.slice A n c, Value.slice B m d]), Value.agg (Array.mk [Value.int IntKind.i64 lb,
        Value.int IntKind.i64 sb, Value.slice Ab nb cb, Value.slice Bb mb db])] w [] fun (v3 : Value) (l4 : List (List Value)) (w5 : World) => ∃ (A6 : Option Addr), ∃ (n7 : Nat), ∃ (n8 : Nat), ∃ (t9 : Bool),
        ∃ (x10 : Int), v3 = Value.tuple (Array.mk [Value.slice A6 n7 n8, Value.bool t9, Value.int IntKind.i64 x10]) ∧ l4 = [] ∧ condK (x10 == 0) (R (Value.tuple (Array.mk [Value.slice none 0 0, Value.int
        IntKind.i64 8])) [] w5) (condK (x10 != 7) (R (Value.tuple (Array.mk [Value.slice none 0 0, Value.int IntKind.i64 x10])) [] w5) (CallsI Try.prog 63 [Value.agg (Array.mk [Value.int IntKind.i64 l,
        Value.int IntKind.i64 s, Value.slice A n c, Value.slice B m d]), Value.agg (Array.mk [Value.int IntKind.i64 lb, Value.int IntKind.i64 sb, Value.slice Ab nb cb, Value.slice Bb mb db]), Value.bool
        false, Value.int IntKind.i64 20000] w5 [] fun (v11 : Value) (l12 : List (List Value)) (w13 : World) => ∃ (A14 : Option Addr), ∃ (n15 : Nat), ∃ (n16 : Nat), ∃ (A17 : Option Addr), ∃ (n18 : Nat), ∃ (n19
        : Nat), ∃ (A20 : Option Addr), ∃ (n21 : Nat), ∃ (n22 : Nat), v11 = Value.agg (Array.mk [Value.slice A14 n15 n16, Value.slice A17 n18 n19, Value.slice A20 n21 n22]) ∧ l12 = [] ∧ ∀ (_n23 : Nat), condK
        (decide ((↑n15 : Int) > 20000)) (R (Value.tuple (Array.mk [Value.slice none 0 0, Value.int IntKind.i64 5])) [] w13) (NewK w13 (Obj.cells (Array.mk []) 50) fun (n24 : Nat) (w25 : World) => ∃ (I26 : Int
        → Option Addr → Nat → Nat → Lp), (I26 0 (some (Addr.mk n24 0 none)) 0 0).1 w25 ∧ ∀ (x27 : Int) (A28 : Option Addr) (n29 n30 : Nat) (w31 : World), (I26 x27 A28 n29 n30).1 w31 → ∀ (n32 : Nat), (I26 x27
        A28 n29 n30).m w31 = n32 → condK (decide (x27 < (↑n15 : Int))) (IxV A14 n15 2 x27 fun (a33 : Addr) => ∃ (x34 : Int), ∃ (x35 : Int), w31.cell? a33 = some (Value.int IntKind.i64 x34) ∧ w31.cell?
        (a33.add 1) = some (Value.int IntKind.i64 x35) ∧ NewK w31 (Obj.cells (Array.mk [Value.int IntKind.i64 x34, Value.int IntKind.i64 x35]) 50) fun (n36 : Nat) (w37 : World) => AppK 16 2 [Value.int
        IntKind.i64 0, Value.int IntKind.i64 0] 50 A28 n29 n30 (some (Addr.mk n36 0 none)) 1 w37 fun (A38 : Option Addr) (n39 n40 : Nat) (w41 : World) => ∃ (I42 : Int → Lp), (I42 (IntKind.i64.wrap ((↑n39 :
        Int) - 1))).1 w41 ∧ ∀ (x43 : Int) (w44 : World), (I42 x43).1 w44 → ∀ (n45 : Nat), (I42 x43).m w44 = n45 → condK (decide (x43 > 0)) (IxV A38 n39 2 x43 fun (a46 : Addr) => ∃ (x47 : Int), ∃ (x48 : Int),
        w44.cell? a46 = some (Value.int IntKind.i64 x47) ∧ w44.cell? (a46.add 1) = some (Value.int IntKind.i64 x48) ∧ IxV A38 n39 2 (IntKind.i64.wrap (x43 - 1)) fun (a49 : Addr) => ∃ (x50 : Int), ∃ (x51 :
        Int), w44.cell? a49 = some (Value.int IntKind.i64 x50) ∧ w44.cell? (a49.add 1) = some (Value.int IntKind.i64 x51) ∧ CallsI Try.prog 64 [Value.agg (Array.mk [Value.int IntKind.i64 x47, Value.int
        IntKind.i64 x48]), Value.agg (Array.mk [Value.int IntKind.i64 x50, Value.int IntKind.i64 x51])] w44 [] fun (v52 : Value) (l53 : List (List Value)) (w54 : World) => ∃ (t55 : Bool), v52 = Value.bool t55
        ∧ l53 = [] ∧ condK t55 (IxV A38 n39 2 x43 fun (a56 : Addr) => ∃ (x57 : Int), ∃ (x58 : Int), w54.cell? a56 = some (Value.int IntKind.i64 x57) ∧ w54.cell? (a56.add 1) = some (Value.int IntKind.i64 x58)
        ∧ IxV A38 n39 2 (IntKind.i64.wrap (x43 - 1)) fun (a59 : Addr) => ∃ (x60 : Int), ∃ (x61 : Int), w54.cell? a59 = some (Value.int IntKind.i64 x60) ∧ w54.cell? (a59.add 1) = some (Value.int IntKind.i64
        x61) ∧ IxV A38 n39 2 (IntKind.i64.wrap (x43 - 1)) fun (a62 : Addr) => SetK w54 a62 (Value.int IntKind.i64 x57) fun (w63 : World) => SetK w63 (a62.add 1) (Value.int IntKind.i64 x58) fun (w64 : World)
        => IxV A38 n39 2 x43 fun (a65 : Addr) => SetK w64 a65 (Value.int IntKind.i64 x60) fun (w66 : World) => SetK w66 (a65.add 1) (Value.int IntKind.i64 x61) fun (w67 : World) => (I42 (IntKind.i64.wrap (x43
        - 1))).1 w67 ∧ (I42 (IntKind.i64.wrap (x43 - 1))).m w67 < n45) (J32_7 I26 x27 A38 n39 n40 w54 n32)) (J32_7 I26 x27 A38 n39 n40 w44 n32)) (R (Value.tuple (Array.mk [Value.slice A28 n29 n30, Value.int
        IntKind.i64 0])) [] w31))))) :
    CallsI Try.prog 32 [(.agg #[.int .i64 l, .int .i64 s, .slice A n c, .slice B m d]), (.agg #[.int .i64 lb, .int .i64 sb, .slice Ab nb cb, .slice Bb mb db])] w [] R :=
  vcFun_sound (H := ⟨[], [(0, [(11, .int .i64), (10, .slice)], []), (2, [(12, .int .i64)], [])]⟩) (args := [.v (.agg #[.int .i64 l, .int .i64 s, .slice A n c, .slice B m d]), .v (.agg #[.int .i64 lb, .int .i64 sb, .slice Ab nb cb, .slice Bb mb db])]) (L := []) goodP Try.func32 (by simp [okp]) (by rw [Try.ntmps32]; simp) (by simp [okp]) (Eq.mp (by kernel_rfl) h)

def J65_2 (D : Option Addr) (k : Nat) (e : Nat) (p : Int) (q : Int) (w : World) (R : Value → List (List Value) → World → Prop) : Prop := CallsI Try.prog 95 [Value.slice D k e, Value.agg (Array.mk
    [Value.int IntKind.i64 p, Value.int IntKind.i64 q])] w [] fun (v2 : Value) (l3 : List (List Value)) (w4 : World) => ∃ (x5 : Int), v2 = Value.int IntKind.i64 x5 ∧ l3 = [] ∧ R (Value.bool (decide (x5 ≥
    0))) [] w4

set_option maxRecDepth 100000 in
theorem s65 (D : Option Addr) (k e : Nat) (p q : Int) (w : World) (R : Value → List (List Value) → World → Prop) (h :
    ∀ (_n1 : Nat), condK (decide (p < 0)) (condK (decide (q < 0)) (R (Value.bool true) [] w) (J65_2 D k e p q w R)) (J65_2 D k e p q w R)) :
    CallsI Try.prog 65 [(.slice D k e), (.agg #[.int .i64 p, .int .i64 q])] w [] R :=
  vcFun_sound (H := ⟨[], []⟩) (args := [.v (.slice D k e), .v (.agg #[.int .i64 p, .int .i64 q])]) (L := []) goodP Try.func65 (by simp [okp]) (by rw [Try.ntmps65]; simp) (by simp [okp]) (Eq.mp (by kernel_rfl) h)

def J33_1 (I7 : Int → Lp) (x8 : Int) (w20 : World) (n10 : Nat) : Prop := (I7 (IntKind.i64.wrap (x8 + 1))).1 w20 ∧ (I7 (IntKind.i64.wrap (x8 + 1))).m w20 < n10

def J33_6 (x8 : Int) (D : Option Addr) (k : Nat) (w9 : World) (x12 : Int) (x13 : Int) (R : Value → List (List Value) → World → Prop) (I7 : Int → Lp) (n10 : Nat) : Prop := condK (decide (x8 > 0)) (IxV
    D k 2 (IntKind.i64.wrap (x8 - 1)) fun (a15 : Addr) => ∃ (x16 : Int), ∃ (x17 : Int), w9.cell? a15 = some (Value.int IntKind.i64 x16) ∧ w9.cell? (a15.add 1) = some (Value.int IntKind.i64 x17) ∧ CallsI
    Try.prog 64 [Value.agg (Array.mk [Value.int IntKind.i64 x16, Value.int IntKind.i64 x17]), Value.agg (Array.mk [Value.int IntKind.i64 x12, Value.int IntKind.i64 x13])] w9 [] fun (v18 : Value) (l19 :
    List (List Value)) (w20 : World) => ∃ (t21 : Bool), v18 = Value.bool t21 ∧ l19 = [] ∧ condK (!t21) (R (Value.int IntKind.i64 2) [] w20) (J33_1 I7 x8 w20 n10)) (J33_1 I7 x8 w9 n10)

set_option maxRecDepth 100000 in
theorem s33 (l s : Int) (A : Option Addr) (n c : Nat) (B : Option Addr) (m d : Nat) (lb sb : Int) (Ab : Option Addr) (nb cb : Nat) (Bb : Option Addr) (mb db : Nat) (D : Option Addr) (k e : Nat) (w : World) (R : Value → List (List Value) → World → Prop) (h :
    ∀ (_n1 _n2 : Nat), CallsI Try.prog 62 [Value.agg (Array.mk [Value.int IntKind.i64 l, Value.int IntKind.i64 s, Value.slice A n c, Value.slice B m d]), Value.agg (Array.mk [Value.int IntKind.i64 lb,
        Value.int IntKind.i64 sb, Value.slice Ab nb cb, Value.slice Bb mb db])] w [] fun (v3 : Value) (l4 : List (List Value)) (w5 : World) => ∃ (x6 : Int), v3 = Value.int IntKind.i64 x6 ∧ l4 = [] ∧ condK (x6
        != 0) (R (Value.int IntKind.i64 x6) [] w5) (∃ (I7 : Int → Lp), (I7 0).1 w5 ∧ ∀ (x8 : Int) (w9 : World), (I7 x8).1 w9 → ∀ (n10 : Nat), (I7 x8).m w9 = n10 → condK (decide (x8 < (↑k : Int))) (IxV D k 2
        x8 fun (a11 : Addr) => ∃ (x12 : Int), ∃ (x13 : Int), w9.cell? a11 = some (Value.int IntKind.i64 x12) ∧ w9.cell? (a11.add 1) = some (Value.int IntKind.i64 x13) ∧ ∀ (_n14 : Nat), condK (decide (x12 <
        -1)) (R (Value.int IntKind.i64 2) [] w9) (condK (decide (x12 ≥ (↑n : Int))) (R (Value.int IntKind.i64 2) [] w9) (condK (decide (x13 < -1)) (R (Value.int IntKind.i64 2) [] w9) (condK (decide (x13 ≥
        (↑nb : Int))) (R (Value.int IntKind.i64 2) [] w9) (condK (decide (x12 < 0)) (condK (decide (x13 < 0)) (R (Value.int IntKind.i64 2) [] w9) (J33_6 x8 D k w9 x12 x13 R I7 n10)) (J33_6 x8 D k w9 x12 x13 R
        I7 n10)))))) (CallsI Try.prog 65 [Value.slice D k e, Value.agg (Array.mk [Value.int IntKind.i64 s, Value.int IntKind.i64 sb])] w9 [] fun (v29 : Value) (l30 : List (List Value)) (w31 : World) => ∃ (t32
        : Bool), v29 = Value.bool t32 ∧ l30 = [] ∧ condK (!t32) (R (Value.int IntKind.i64 8) [] w31) (∃ (I33 : Int → Lp), (I33 0).1 w31 ∧ ∀ (x34 : Int) (w35 : World), (I33 x34).1 w35 → ∀ (n36 : Nat), (I33
        x34).m w35 = n36 → condK (decide (x34 < (↑k : Int))) (IxV D k 2 x34 fun (a37 : Addr) => ∃ (x38 : Int), ∃ (x39 : Int), w35.cell? a37 = some (Value.int IntKind.i64 x38) ∧ w35.cell? (a37.add 1) = some
        (Value.int IntKind.i64 x39) ∧ ∀ (_n40 : Nat), CallsI Try.prog 50 [Value.agg (Array.mk [Value.int IntKind.i64 l, Value.int IntKind.i64 s, Value.slice A n c, Value.slice B m d]), Value.int IntKind.i64
        x38] w35 [] fun (v41 : Value) (l42 : List (List Value)) (w43 : World) => ∃ (t44 : Bool), v41 = Value.bool t44 ∧ l42 = [] ∧ CallsI Try.prog 50 [Value.agg (Array.mk [Value.int IntKind.i64 lb, Value.int
        IntKind.i64 sb, Value.slice Ab nb cb, Value.slice Bb mb db]), Value.int IntKind.i64 x39] w43 [] fun (v45 : Value) (l46 : List (List Value)) (w47 : World) => ∃ (t48 : Bool), v45 = Value.bool t48 ∧ l46
        = [] ∧ condK (!t44 == t48) (R (Value.int IntKind.i64 8) [] w47) (∃ (I49 : Int → Lp), (I49 0).1 w47 ∧ ∀ (x50 : Int) (w51 : World), (I49 x50).1 w51 → ∀ (n52 : Nat), (I49 x50).m w51 = n52 → condK (decide
        (x50 < l)) (CallsI Try.prog 49 [Value.agg (Array.mk [Value.int IntKind.i64 l, Value.int IntKind.i64 s, Value.slice A n c, Value.slice B m d]), Value.int IntKind.i64 x38, Value.int IntKind.i64 x50] w51
        [] fun (v53 : Value) (l54 : List (List Value)) (w55 : World) => ∃ (x56 : Int), v53 = Value.int IntKind.i64 x56 ∧ l54 = [] ∧ CallsI Try.prog 49 [Value.agg (Array.mk [Value.int IntKind.i64 lb, Value.int
        IntKind.i64 sb, Value.slice Ab nb cb, Value.slice Bb mb db]), Value.int IntKind.i64 x39, Value.int IntKind.i64 x50] w55 [] fun (v57 : Value) (l58 : List (List Value)) (w59 : World) => ∃ (x60 : Int),
        v57 = Value.int IntKind.i64 x60 ∧ l58 = [] ∧ CallsI Try.prog 65 [Value.slice D k e, Value.agg (Array.mk [Value.int IntKind.i64 x56, Value.int IntKind.i64 x60])] w59 [] fun (v61 : Value) (l62 : List
        (List Value)) (w63 : World) => ∃ (t64 : Bool), v61 = Value.bool t64 ∧ l62 = [] ∧ condK (!t64) (R (Value.int IntKind.i64 8) [] w63) (J33_1 I49 x50 w63 n52)) (J33_1 I33 x34 w51 n36))) (R (Value.int
        IntKind.i64 0) [] w35))))) :
    CallsI Try.prog 33 [(.agg #[.int .i64 l, .int .i64 s, .slice A n c, .slice B m d]), (.agg #[.int .i64 lb, .int .i64 sb, .slice Ab nb cb, .slice Bb mb db]), (.slice D k e)] w [] R :=
  vcFun_sound (H := ⟨[], [(0, [(8, .int .i64)], []), (2, [(10, .int .i64)], []), (4, [(12, .int .i64)], [])]⟩) (args := [.v (.agg #[.int .i64 l, .int .i64 s, .slice A n c, .slice B m d]), .v (.agg #[.int .i64 lb, .int .i64 sb, .slice Ab nb cb, .slice Bb mb db]), .v (.slice D k e)]) (L := []) goodP Try.func33 (by simp [okp]) (by rw [Try.ntmps33]; simp) (by simp [okp]) (Eq.mp (by kernel_rfl) h)

end Go.Proofs.Ytnkpjlhbojjneaa.VC

/- The conditions of functions, printed by wip/tools/gen.py. -/
namespace Go.Proofs.Ytnkpjlhbojjneaa.VC
open Go Go.RowKit

def J8_1 (w5 : World) (R : Value → List (List Value) → World → Prop) : Prop := CallsI Try.prog 15 [] w5 [] fun (v7 : Value) (l8 : List (List Value)) (w9 : World) => ∃ (t10 : Bool), v7 = Value.bool t10
    ∧ l8 = [] ∧ R (Value.bool t10) [] w9

def J8_7 (n95 : Nat) (D : Option Addr) (k : Nat) (w96 : World) (x76 : Int) (x77 : Int) (A78 : Option Addr) (n79 : Nat) (n80 : Nat) (A81 : Option Addr) (n82 : Nat) (n83 : Nat) (x87 : Int) (x88 : Int)
    (A89 : Option Addr) (n90 : Nat) (n91 : Nat) (A92 : Option Addr) (n93 : Nat) (n94 : Nat) (x33 : Int) (R : Value → List (List Value) → World → Prop) : Prop := AppK 16 2 [Value.int IntKind.i64 0,
    Value.int IntKind.i64 0] 50 (some (Addr.mk n95 0 none)) 0 0 D k w96 fun (A97 : Option Addr) (n98 n99 : Nat) (w100 : World) => CallsI Try.prog 28 [Value.agg (Array.mk [Value.int IntKind.i64 x76,
    Value.int IntKind.i64 x77, Value.slice A78 n79 n80, Value.slice A81 n82 n83]), Value.agg (Array.mk [Value.int IntKind.i64 x87, Value.int IntKind.i64 x88, Value.slice A89 n90 n91, Value.slice A92 n93
    n94]), Value.slice A97 n98 n99] w100 [] fun (v101 : Value) (l102 : List (List Value)) (w103 : World) => ∃ (x104 : Int), v101 = Value.int IntKind.i64 x104 ∧ l102 = [] ∧ condK (x104 == x33) (J8_1 w103
    R) (R (Value.bool false) [] w103)

def J8_16 (lb : Int) (sb : Int) (Ab : Option Addr) (nb : Nat) (cb : Nat) (Bb : Option Addr) (mb : Nat) (db : Nat) (w110 : World) (n109 : Nat) (D : Option Addr) (k : Nat) (x76 : Int) (x77 : Int) (A78 :
    Option Addr) (n79 : Nat) (n80 : Nat) (A81 : Option Addr) (n82 : Nat) (n83 : Nat) (x33 : Int) (R : Value → List (List Value) → World → Prop) : Prop := CallsI Try.prog 19 [Value.agg (Array.mk [Value.int
    IntKind.i64 lb, Value.int IntKind.i64 sb, Value.slice Ab nb cb, Value.slice Bb mb db])] w110 [] fun (v111 : Value) (l112 : List (List Value)) (w113 : World) => ∃ (x114 : Int), ∃ (x115 : Int), ∃ (A116
    : Option Addr), ∃ (n117 : Nat), ∃ (n118 : Nat), ∃ (A119 : Option Addr), ∃ (n120 : Nat), ∃ (n121 : Nat), v111 = Value.agg (Array.mk [Value.int IntKind.i64 x114, Value.int IntKind.i64 x115, Value.slice
    A116 n117 n118, Value.slice A119 n120 n121]) ∧ l112 = [] ∧ J8_7 n109 D k w113 x76 x77 A78 n79 n80 A81 n82 n83 x114 x115 A116 n117 n118 A119 n120 n121 x33 R

set_option maxRecDepth 100000 in
theorem s8 (l s : Int) (A : Option Addr) (n c : Nat) (B : Option Addr) (m d : Nat) (lb sb : Int) (Ab : Option Addr) (nb cb : Nat) (Bb : Option Addr) (mb db : Nat) (D : Option Addr) (k e : Nat) (w : World) (R : Value → List (List Value) → World → Prop) (h :
    ∀ (_n1 _n2 : Nat), CallsI Try.prog 21 [Value.agg (Array.mk [Value.int IntKind.i64 l, Value.int IntKind.i64 s, Value.slice A n c, Value.slice B m d])] w [] fun (v3 : Value) (l4 : List (List Value)) (w5
        : World) => ∃ (t6 : Bool), v3 = Value.bool t6 ∧ l4 = [] ∧ condK (!t6) (J8_1 w5 R) (CallsI Try.prog 21 [Value.agg (Array.mk [Value.int IntKind.i64 lb, Value.int IntKind.i64 sb, Value.slice Ab nb cb,
        Value.slice Bb mb db])] w5 [] fun (v11 : Value) (l12 : List (List Value)) (w13 : World) => ∃ (t14 : Bool), v11 = Value.bool t14 ∧ l12 = [] ∧ condK (!t14) (J8_1 w13 R) (condK (decide ((↑k : Int) >
        1000)) (J8_1 w13 R) (CallsI Try.prog 32 [Value.agg (Array.mk [Value.int IntKind.i64 l, Value.int IntKind.i64 s, Value.slice A n c, Value.slice B m d]), Value.agg (Array.mk [Value.int IntKind.i64 lb,
        Value.int IntKind.i64 sb, Value.slice Ab nb cb, Value.slice Bb mb db])] w13 [] fun (v23 : Value) (l24 : List (List Value)) (w25 : World) => ∃ (A26 : Option Addr), ∃ (n27 : Nat), ∃ (n28 : Nat), ∃ (x29
        : Int), v23 = Value.tuple (Array.mk [Value.slice A26 n27 n28, Value.int IntKind.i64 x29]) ∧ l24 = [] ∧ CallsI Try.prog 33 [Value.agg (Array.mk [Value.int IntKind.i64 l, Value.int IntKind.i64 s,
        Value.slice A n c, Value.slice B m d]), Value.agg (Array.mk [Value.int IntKind.i64 lb, Value.int IntKind.i64 sb, Value.slice Ab nb cb, Value.slice Bb mb db]), Value.slice D k e] w25 [] fun (v30 :
        Value) (l31 : List (List Value)) (w32 : World) => ∃ (x33 : Int), v30 = Value.int IntKind.i64 x33 ∧ l31 = [] ∧ CallsI Try.prog 19 [Value.agg (Array.mk [Value.int IntKind.i64 l, Value.int IntKind.i64 s,
        Value.slice A n c, Value.slice B m d])] w32 [] fun (v34 : Value) (l35 : List (List Value)) (w36 : World) => ∃ (x37 : Int), ∃ (x38 : Int), ∃ (A39 : Option Addr), ∃ (n40 : Nat), ∃ (n41 : Nat), ∃ (A42 :
        Option Addr), ∃ (n43 : Nat), ∃ (n44 : Nat), v34 = Value.agg (Array.mk [Value.int IntKind.i64 x37, Value.int IntKind.i64 x38, Value.slice A39 n40 n41, Value.slice A42 n43 n44]) ∧ l35 = [] ∧ CallsI
        Try.prog 19 [Value.agg (Array.mk [Value.int IntKind.i64 lb, Value.int IntKind.i64 sb, Value.slice Ab nb cb, Value.slice Bb mb db])] w36 [] fun (v45 : Value) (l46 : List (List Value)) (w47 : World) =>
        ∃ (x48 : Int), ∃ (x49 : Int), ∃ (A50 : Option Addr), ∃ (n51 : Nat), ∃ (n52 : Nat), ∃ (A53 : Option Addr), ∃ (n54 : Nat), ∃ (n55 : Nat), v45 = Value.agg (Array.mk [Value.int IntKind.i64 x48, Value.int
        IntKind.i64 x49, Value.slice A50 n51 n52, Value.slice A53 n54 n55]) ∧ l46 = [] ∧ CallsI Try.prog 27 [Value.agg (Array.mk [Value.int IntKind.i64 x37, Value.int IntKind.i64 x38, Value.slice A39 n40 n41,
        Value.slice A42 n43 n44]), Value.agg (Array.mk [Value.int IntKind.i64 x48, Value.int IntKind.i64 x49, Value.slice A50 n51 n52, Value.slice A53 n54 n55])] w47 [] fun (v56 : Value) (l57 : List (List
        Value)) (w58 : World) => ∃ (A59 : Option Addr), ∃ (n60 : Nat), ∃ (n61 : Nat), ∃ (x62 : Int), v56 = Value.tuple (Array.mk [Value.slice A59 n60 n61, Value.int IntKind.i64 x62]) ∧ l57 = [] ∧ condK (x29
        != x62) (R (Value.bool false) [] w58) (condK ((↑n60 : Int) != (↑n27 : Int)) (R (Value.bool false) [] w58) (∃ (I63 : Int → Lp), (I63 0).1 w58 ∧ ∀ (x64 : Int) (w65 : World), (I63 x64).1 w65 → ∀ (n66 :
        Nat), (I63 x64).m w65 = n66 → condK (decide (x64 < (↑n60 : Int))) (IxV A59 n60 2 x64 fun (a67 : Addr) => ∃ (x68 : Int), ∃ (x69 : Int), w65.cell? a67 = some (Value.int IntKind.i64 x68) ∧ w65.cell?
        (a67.add 1) = some (Value.int IntKind.i64 x69) ∧ IxV A26 n27 2 x64 fun (a70 : Addr) => ∃ (x71 : Int), ∃ (x72 : Int), w65.cell? a70 = some (Value.int IntKind.i64 x71) ∧ w65.cell? (a70.add 1) = some
        (Value.int IntKind.i64 x72) ∧ condK (!(x68 == x71 && x69 == x72)) (R (Value.bool false) [] w65) ((I63 (IntKind.i64.wrap (x64 + 1))).1 w65 ∧ (I63 (IntKind.i64.wrap (x64 + 1))).m w65 < n66)) ((CallsI
        Try.prog 19 [Value.agg (Array.mk [Value.int IntKind.i64 l, Value.int IntKind.i64 s, Value.slice A n c, Value.slice B m d])] w65 [] fun (v73 : Value) (l74 : List (List Value)) (w75 : World) => ∃ (x76 :
        Int), ∃ (x77 : Int), ∃ (A78 : Option Addr), ∃ (n79 : Nat), ∃ (n80 : Nat), ∃ (A81 : Option Addr), ∃ (n82 : Nat), ∃ (n83 : Nat), v73 = Value.agg (Array.mk [Value.int IntKind.i64 x76, Value.int
        IntKind.i64 x77, Value.slice A78 n79 n80, Value.slice A81 n82 n83]) ∧ l74 = [] ∧ (CallsI Try.prog 19 [Value.agg (Array.mk [Value.int IntKind.i64 lb, Value.int IntKind.i64 sb, Value.slice Ab nb cb,
        Value.slice Bb mb db])] w75 [] fun (v84 : Value) (l85 : List (List Value)) (w86 : World) => ∃ (x87 : Int), ∃ (x88 : Int), ∃ (A89 : Option Addr), ∃ (n90 : Nat), ∃ (n91 : Nat), ∃ (A92 : Option Addr), ∃
        (n93 : Nat), ∃ (n94 : Nat), v84 = Value.agg (Array.mk [Value.int IntKind.i64 x87, Value.int IntKind.i64 x88, Value.slice A89 n90 n91, Value.slice A92 n93 n94]) ∧ l85 = [] ∧ NewK w86 (Obj.cells
        (Array.mk []) 50) fun (n95 : Nat) (w96 : World) => J8_7 n95 D k w96 x76 x77 A78 n79 n80 A81 n82 n83 x87 x88 A89 n90 n91 A92 n93 n94 x33 R) ∧ NewK w75 (Obj.cells (Array.mk []) 50) fun (n109 : Nat)
        (w110 : World) => J8_16 lb sb Ab nb cb Bb mb db w110 n109 D k x76 x77 A78 n79 n80 A81 n82 n83 x33 R) ∧ NewK w65 (Obj.cells (Array.mk []) 50) fun (n134 : Nat) (w135 : World) => CallsI Try.prog 19
        [Value.agg (Array.mk [Value.int IntKind.i64 l, Value.int IntKind.i64 s, Value.slice A n c, Value.slice B m d])] w135 [] fun (v136 : Value) (l137 : List (List Value)) (w138 : World) => ∃ (x139 : Int),
        ∃ (x140 : Int), ∃ (A141 : Option Addr), ∃ (n142 : Nat), ∃ (n143 : Nat), ∃ (A144 : Option Addr), ∃ (n145 : Nat), ∃ (n146 : Nat), v136 = Value.agg (Array.mk [Value.int IntKind.i64 x139, Value.int
        IntKind.i64 x140, Value.slice A141 n142 n143, Value.slice A144 n145 n146]) ∧ l137 = [] ∧ J8_16 lb sb Ab nb cb Bb mb db w138 n134 D k x139 x140 A141 n142 n143 A144 n145 n146 x33 R))))))) :
    CallsI Try.prog 8 [(.agg #[.int .i64 l, .int .i64 s, .slice A n c, .slice B m d]), (.agg #[.int .i64 lb, .int .i64 sb, .slice Ab nb cb, .slice Bb mb db]), (.slice D k e)] w [] R :=
  vcFun_sound (H := ⟨[], [(0, [(12, .int .i64)], [])]⟩) (args := [.v (.agg #[.int .i64 l, .int .i64 s, .slice A n c, .slice B m d]), .v (.agg #[.int .i64 lb, .int .i64 sb, .slice Ab nb cb, .slice Bb mb db]), .v (.slice D k e)]) (L := []) goodP Try.func8 (by simp [okp]) (by rw [Try.ntmps8]; simp) (by simp [okp]) (Eq.mp (by kernel_rfl) h)

def J38_1 (I8 : Int → Lp) (x9 : Int) (w15 : World) (n11 : Nat) : Prop := (I8 (IntKind.i64.wrap (x9 + 1))).1 w15 ∧ (I8 (IntKind.i64.wrap (x9 + 1))).m w15 < n11

set_option maxRecDepth 100000 in
theorem s38 (l s : Int) (A : Option Addr) (n c : Nat) (B : Option Addr) (m d : Nat) (q : Int) (w : World) (R : Value → List (List Value) → World → Prop) (h :
    ∀ (_n1 : Nat), CallsI Try.prog 16 [Value.agg (Array.mk [Value.int IntKind.i64 l, Value.int IntKind.i64 s, Value.slice A n c, Value.slice B m d])] w [] fun (v2 : Value) (l3 : List (List Value)) (w4 :
        World) => ∃ (x5 : Int), v2 = Value.int IntKind.i64 x5 ∧ l3 = [] ∧ condK (x5 != 0) (R (Value.tuple (Array.mk [Value.int IntKind.u64 0, Value.int IntKind.i64 1])) [] w4) (condK (decide (q < 0)) (R
        (Value.tuple (Array.mk [Value.int IntKind.u64 0, Value.int IntKind.i64 1])) [] w4) (condK (decide (q > 1000)) (R (Value.tuple (Array.mk [Value.int IntKind.u64 0, Value.int IntKind.i64 1])) [] w4) ((↑n
        : Int) = (↑n : Int) ∧ 0 ≤ (↑n : Int) ∧ (↑n : Int) * (↑8 : Int) ≤ 281474976710656 ∧ (↑n : Int) ≤ 9223372036854775807 ∧ NewK w4 (Obj.cells (Array.mk (List.replicate n (Value.int IntKind.u64 0))) 45) fun
        (n6 : Nat) (w7 : World) => ∃ (I8 : Int → Lp), (I8 0).1 w7 ∧ ∀ (x9 : Int) (w10 : World), (I8 x9).1 w10 → ∀ (n11 : Nat), (I8 x9).m w10 = n11 → condK (decide (x9 < (↑n : Int))) (IxV B m 1 x9 fun (a12 :
        Addr) => ∃ (t13 : Bool), w10.cell? a12 = some (Value.bool t13) ∧ condK t13 (IxV (some (Addr.mk n6 0 none)) n 1 x9 fun (a14 : Addr) => SetK w10 a14 (Value.int IntKind.u64 1) fun (w15 : World) => J38_1
        I8 x9 w15 n11) (J38_1 I8 x9 w10 n11)) (∃ (I16 : Int → Option Addr → Nat → Nat → Lp), (I16 0 (some (Addr.mk n6 0 none)) n n).1 w10 ∧ ∀ (x17 : Int) (A18 : Option Addr) (n19 n20 : Nat) (w21 : World),
        (I16 x17 A18 n19 n20).1 w21 → ∀ (n22 : Nat), (I16 x17 A18 n19 n20).m w21 = n22 → condK (decide (x17 < q)) ((↑n19 : Int) = (↑n19 : Int) ∧ 0 ≤ (↑n19 : Int) ∧ (↑n19 : Int) * (↑8 : Int) ≤ 281474976710656
        ∧ (↑n19 : Int) ≤ 9223372036854775807 ∧ NewK w21 (Obj.cells (Array.mk (List.replicate n19 (Value.int IntKind.u64 0))) 45) fun (n23 : Nat) (w24 : World) => ∃ (I25 : Int → Lp), (I25 0).1 w24 ∧ ∀ (x26 :
        Int) (w27 : World), (I25 x26).1 w27 → ∀ (n28 : Nat), (I25 x26).m w27 = n28 → condK (decide (x26 < (↑n19 : Int))) (∃ (I29 : Int → Lp), (I29 0).1 w27 ∧ ∀ (x30 : Int) (w31 : World), (I29 x30).1 w31 → ∀
        (n32 : Nat), (I29 x30).m w31 = n32 → condK (decide (x30 < l)) (IxV A n 1 x26 fun (a33 : Addr) => ∃ (A34 : Option Addr), ∃ (n35 : Nat), ∃ (n36 : Nat), w31.cell? a33 = some (Value.slice A34 n35 n36) ∧
        IxV A34 n35 1 x30 fun (a37 : Addr) => ∃ (x38 : Int), w31.cell? a37 = some (Value.int IntKind.i64 x38) ∧ condK (decide (x38 ≥ 0)) (IxV (some (Addr.mk n23 0 none)) n19 1 x26 fun (a39 : Addr) => ∃ (x40 :
        Int), w31.cell? a39 = some (Value.int IntKind.u64 x40) ∧ IxV A n 1 x26 fun (a41 : Addr) => ∃ (A42 : Option Addr), ∃ (n43 : Nat), ∃ (n44 : Nat), w31.cell? a41 = some (Value.slice A42 n43 n44) ∧ IxV A42
        n43 1 x30 fun (a45 : Addr) => ∃ (x46 : Int), w31.cell? a45 = some (Value.int IntKind.i64 x46) ∧ IxV A18 n19 1 x46 fun (a47 : Addr) => ∃ (x48 : Int), w31.cell? a47 = some (Value.int IntKind.u64 x48) ∧
        IxV (some (Addr.mk n23 0 none)) n19 1 x26 fun (a49 : Addr) => SetK w31 a49 (Value.int IntKind.u64 (IntKind.u64.wrap (x40 + x48))) fun (w50 : World) => J38_1 I29 x30 w50 n32) (J38_1 I29 x30 w31 n32))
        (J38_1 I25 x26 w31 n28)) ((I16 (IntKind.i64.wrap (x17 + 1)) (some (Addr.mk n23 0 none)) n19 n19).1 w27 ∧ (I16 (IntKind.i64.wrap (x17 + 1)) (some (Addr.mk n23 0 none)) n19 n19).m w27 < n22)) (condK
        (decide (s < 0)) (R (Value.tuple (Array.mk [Value.int IntKind.u64 0, Value.int IntKind.i64 0])) [] w21) (IxV A18 n19 1 s fun (a51 : Addr) => ∃ (x52 : Int), w21.cell? a51 = some (Value.int IntKind.u64
        x52) ∧ R (Value.tuple (Array.mk [Value.int IntKind.u64 x52, Value.int IntKind.i64 0])) [] w21))))))) :
    CallsI Try.prog 38 [(.agg #[.int .i64 l, .int .i64 s, .slice A n c, .slice B m d]), (.int .i64 q)] w [] R :=
  vcFun_sound (H := ⟨[], [(0, [(7, .int .i64)], []), (2, [(8, .int .i64), (6, .slice)], []), (4, [(10, .int .i64)], []), (6, [(11, .int .i64)], [])]⟩) (args := [.v (.agg #[.int .i64 l, .int .i64 s, .slice A n c, .slice B m d]), .v (.int .i64 q)]) (L := []) goodP Try.func38 (by simp [okp]) (by rw [Try.ntmps38]; simp) (by simp [okp]) (Eq.mp (by kernel_rfl) h)

end Go.Proofs.Ytnkpjlhbojjneaa.VC

/- The relation and the checker: the reference, and the law. -/
namespace Go.Proofs.Ytnkpjlhbojjneaa.VC
open Go Go.RowKit

instance (p q : IP) : Decidable (plt p q) := by unfold plt; infer_instance
theorem c64 {w : World} {p q : IP} {R : Res} (yes : plt p q → R (.bool true) [] w) (no : ¬ plt p q → R (.bool false) [] w) : CallsI Try.prog 64 [.agg (Array.mk [.int .i64 p.1, .int .i64 p.2]), .agg (Array.mk [.int .i64 q.1, .int .i64 q.2])] w [] R := by
  refine s64 _ _ _ _ _ _ fun _ _ => ?_
  refine condK_dec (fun h => yes (.inl h)) fun h1 => condK_beq (fun h2 => ?_) fun h2 => no fun h => by unfold plt at h; omega
  by_cases h3 : p.2 < q.2
  · rw [decide_eq_true h3]; exact yes (.inr ⟨h2, h3⟩)
  · rw [decide_eq_false h3]; exact no fun h => by unfold plt at h; omega
theorem c65 {w : World} {D : Option Addr} {e : Nat} {ps : List IP} {p : IP} {R : Res} (hD : Row w D (pcells ps)) (hl : ps.length ≤ 1099511627776) (hp : -1 ≤ p.1 ∧ -1 ≤ p.2) (yes : There ps p → R (.bool true) [] w) (no : ¬ There ps p → R (.bool false) [] w) :
    CallsI Try.prog 65 [.slice D ps.length e, .agg (Array.mk [.int .i64 p.1, .int .i64 p.2])] w [] R := by
  have look : p ≠ nowhere → J65_2 D ps.length e p.1 p.2 w R := fun hn => by
    rw [J65_2]
    refine c95 hD hl (fun k hk => ⟨_, rfl, rfl, ?_⟩) fun hno => ⟨_, rfl, rfl, ?_⟩
    · rw [decide_eq_true (by omega)]; exact yes (.inr (List.mem_of_getElem? hk))
    · rw [decide_eq_false (by omega)]; exact no fun h => h.elim hn hno
  refine s65 _ _ _ _ _ _ _ fun _ => ?_
  refine condK_dec (fun h1 => condK_dec (fun h2 => ?_) fun h2 => ?_) fun h1 => ?_
  · exact yes (.inl (Prod.ext (show p.1 = -1 by omega) (show p.2 = -1 by omega)))
  · exact look fun h => by rw [h] at h2; exact h2 (by decide)
  · exact look fun h => by rw [h] at h1; exact h1 (by decide)

set_option maxHeartbeats 4000000 in
theorem c33 {w : World} {a b : Mach} {v u pv : Value} {ps : List IP} {R : Res} (ha : MachAt w a v) (hb : MachAt w b u) (hp : SlP w pv ps) (la : a.Lim) (lb : b.Lim) (hl : ps.length ≤ 1099511627776)
    (hR : R (.int .i64 (checkc a b ps)) [] w) : CallsI Try.prog 33 [v, u, pv] w [] R := by
  have ha0 := ha; have hb0 := hb
  obtain ⟨_, _, rfl, ⟨A, c, hs, rfl, hA, hAl, hAx⟩, ⟨B, d, rfl, hB⟩⟩ := ha
  obtain ⟨_, _, rfl, ⟨A', c', hs', rfl, hA', hAl', hAx'⟩, ⟨B', d', rfl, hB'⟩⟩ := hb
  obtain ⟨D, e, rfl, _, hD⟩ := hp
  refine s33 _ _ _ _ _ _ _ _ _ _ _ _ _ _ _ _ _ _ _ _ _ fun _ _ => c62 ha0 hb0 la lb ⟨_, rfl, rfl, ?_⟩
  refine condK_bne (fun h => ?_) fun hfit => ?_
  · unfold checkc at hR; rw [if_pos h] at hR; exact hR
  obtain ⟨hva, hvb, hlet⟩ := fitc_ok.1 hfit
  have sa := hva.shaped; have sb := hvb.shaped
  have nA := hva.next; have nB := hvb.next; have hL := hva.letters
  have fa := sa.fin; have fb := sb.fin
  have bad : ¬ FormP a b ps → R (.int .i64 2) [] w := fun hn => by
    unfold checkc at hR; rw [if_neg (by omega), if_neg hn] at hR; exact hR
  have apart : FormP a b ps → ¬ ShownP a b ps → R (.int .i64 8) [] w := fun hf hn => by
    unfold checkc at hR; rw [if_neg (by omega), if_pos hf, if_neg hn] at hR; exact hR
  have good : FormP a b ps → ShownP a b ps → R (.int .i64 0) [] w := fun hf hn => by
    unfold checkc at hR; rw [if_neg (by omega), if_pos hf, if_pos hn] at hR; exact hR
  clear hR
  refine ⟨fun x8 => ⟨fun w9 => w9 = w ∧ FormI a b ps x8 ∧ 0 ≤ x8 ∧ x8 ≤ ps.length, fun _ => (ps.length - x8).toNat⟩, ⟨rfl, ⟨fun p hp => by simp at hp, fun k k' h0 h1 h2 => by omega⟩, by omega, by omega⟩, ?_⟩
  rintro x8 w9 ⟨rfl, hfo, h80, h81⟩ n10 rfl
  refine condK_dec (fun hlt => ?_) fun hge => ?_
  · have hmem := List.mem_of_getElem? (get_gp (l := ps) h80 hlt)
    refine rowP_get hD h80 hlt fun a11 c1 c2 => ⟨_, _, c1, c2, fun _ => ?_⟩
    have no : ¬ ((-1 ≤ (gp ps x8).1 ∧ (gp ps x8).1 < a.next.length) ∧ (-1 ≤ (gp ps x8).2 ∧ (gp ps x8).2 < b.next.length) ∧ gp ps x8 ≠ nowhere) → R (.int .i64 2) [] w9 := fun hn => bad fun hf => hn (hf.rng _ hmem)
    have nn : gp ps x8 = nowhere → (gp ps x8).1 = -1 ∧ (gp ps x8).2 = -1 := fun e => by rw [e]; exact ⟨rfl, rfl⟩
    refine condK_dec (fun h => no fun e => by omega) fun h1 => condK_dec (fun h => no fun e => by omega) fun h2 => condK_dec (fun h => no fun e => by omega) fun h3 => condK_dec (fun h => no fun e => by omega) fun h4 => ?_
    have next : gp ps x8 ≠ nowhere → (0 < x8 → plt (gp ps (x8 - 1)) (gp ps x8)) → J33_1 (fun x8 => ⟨fun w9' => w9' = w9 ∧ FormI a b ps x8 ∧ 0 ≤ x8 ∧ x8 ≤ ps.length, fun _ => (ps.length - x8).toNat⟩) x8 w9 (ps.length - x8).toNat := fun hn hs => by
      rw [J33_1, wrap_id (by omega) (by omega)]
      exact ⟨⟨rfl, hfo.next h80 hlt ⟨by omega, by omega, hn⟩ hs, by omega, by omega⟩, by simp only []; omega⟩
    have order : gp ps x8 ≠ nowhere → J33_6 x8 D ps.length w9 (gp ps x8).1 (gp ps x8).2 R (fun x8 => ⟨fun w9' => w9' = w9 ∧ FormI a b ps x8 ∧ 0 ≤ x8 ∧ x8 ≤ ps.length, fun _ => (ps.length - x8).toNat⟩) (ps.length - x8).toNat := fun hn => by
      rw [J33_6]
      refine condK_dec (fun hpos => ?_) fun hz => next hn fun h => by omega
      rw [wrap_id (by omega) (by omega)]
      refine rowP_get hD (x := x8 - 1) (by omega) (by omega) fun a15 d1 d2 => ⟨_, _, d1, d2, ?_⟩
      refine c64 (p := gp ps (x8 - 1)) (q := gp ps x8) (fun h => ⟨_, rfl, rfl, ?_⟩) fun h => ⟨_, rfl, rfl, ?_⟩
      · exact condK_of (fun h => by cases h) fun _ => next hn fun _ => h
      · exact condK_of (fun _ => bad fun hf => h (hf.adj (by omega) (by omega) hlt)) fun h => by cases h
    refine condK_dec (fun h5 => condK_dec (fun h6 => no fun e => e.2.2 (Prod.ext (show _ = (-1 : Int) by omega) (show _ = (-1 : Int) by omega))) fun h6 => order fun e => by have := nn e; omega) fun h5 => order fun e => by have := nn e; omega
  · have hform := hfo.form (by omega)
    have hrng := hform.rng
    have rs := sa.start_range; have rt := sb.start_range
    refine c65 (p := (a.start, b.start)) hD hl ⟨rs.1, rt.1⟩ (fun hst => ⟨_, rfl, rfl, ?_⟩) fun hno => ⟨_, rfl, rfl, ?_⟩
    · refine condK_of (fun h => by cases h) fun _ => ?_
      refine ⟨fun x34 => ⟨fun w35 => w35 = w9 ∧ 0 ≤ x34 ∧ x34 ≤ ps.length ∧ ∀ (k : Nat) p, (k : Int) < x34 → ps[k]? = some p → a.ends p.1 = b.ends p.2 ∧ ∀ x, a.Let x → There ps (pstep a b p x), fun _ => (ps.length - x34).toNat⟩, ⟨rfl, by omega, by omega, fun k p h => by omega⟩, ?_⟩
      rintro x34 w35 ⟨rfl, h340, h341, hok⟩ n36 rfl
      refine condK_dec (fun hlt => ?_) fun hge2 => ?_
      · have hg := get_gp (l := ps) h340 hlt
        have hr := hrng _ (List.mem_of_getElem? hg)
        refine rowP_get hD h340 hlt fun a37 c1 c2 => ⟨_, _, c1, c2, fun _ => ?_⟩
        refine c50 ha0 (by omega) ⟨_, rfl, rfl, ?_⟩
        refine c50 hb0 (by omega) ⟨_, rfl, rfl, ?_⟩
        refine condK_of (fun hne => apart hform fun h => ?_) fun heq => ?_
        · have := h.ends _ (List.mem_of_getElem? hg)
          rw [this] at hne; simp at hne
        have he : a.ends (gp ps x34).1 = b.ends (gp ps x34).2 := by simpa using heq
        refine ⟨fun x50 => ⟨fun w51 => w51 = w35 ∧ 0 ≤ x50 ∧ x50 ≤ a.letters ∧ ∀ x, 0 ≤ x → x < x50 → There ps (pstep a b (gp ps x34) x), fun _ => (a.letters - x50).toNat⟩, ⟨rfl, by omega, sa.letters, fun x h0 h1 => by omega⟩, ?_⟩
        rintro x50 w51 ⟨rfl, h500, h501, hst2⟩ n52 rfl
        refine condK_dec (fun hlt2 => ?_) fun hge3 => ?_
        · have hlx : a.Let x50 := ⟨h500, hlt2⟩
          refine c49 ha0 sa (by omega) hlx ⟨_, rfl, rfl, ?_⟩
          refine c49 hb0 sb (by omega) ⟨h500, by omega⟩ ⟨_, rfl, rfl, ?_⟩
          refine c65 (p := pstep a b (gp ps x34) x50) hD hl ⟨(sa.step_range _ _).1, (sb.step_range _ _).1⟩ (fun ht => ⟨_, rfl, rfl, ?_⟩) fun hno => ⟨_, rfl, rfl, ?_⟩
          · refine condK_of (fun h => by cases h) fun _ => ?_
            rw [J33_1, wrap_id (by omega) (by omega)]
            refine ⟨⟨rfl, by omega, by omega, fun x x0 x1 => ?_⟩, by simp only []; omega⟩
            by_cases e : x = x50
            · subst e; exact ht
            · exact hst2 x x0 (by omega)
          · exact condK_of (fun _ => apart hform fun h => hno (h.steps _ (List.mem_of_getElem? hg) x50 hlx)) fun h => by cases h
        · rw [J33_1, wrap_id (by omega) (by omega)]
          refine ⟨⟨rfl, by omega, by omega, fun k p hk hp => ?_⟩, by simp only []; omega⟩
          by_cases e : (k : Int) = x34
          · have : x34.toNat = k := by omega
            rw [this, hp] at hg; injection hg with hg; subst hg
            exact ⟨he, fun x hx => hst2 x hx.1 (by unfold Mach.Let at hx; omega)⟩
          · exact hok k p (by omega) hp
      · refine good hform ⟨hst, fun p hp => ?_, fun p hp x hx => ?_⟩
        · obtain ⟨k, hk⟩ := List.mem_iff_getElem?.1 hp
          exact (hok k p (by have := (List.getElem?_eq_some_iff.1 hk).1; omega) hk).1
        · obtain ⟨k, hk⟩ := List.mem_iff_getElem?.1 hp
          exact (hok k p (by have := (List.getElem?_eq_some_iff.1 hk).1; omega) hk).2 x hx
    · exact condK_of (fun _ => apart hform fun h => hno h.start) fun h => by cases h
end Go.Proofs.Ytnkpjlhbojjneaa.VC

/- The relation of two machines, by the reference; the law. -/
namespace Go.Proofs.Ytnkpjlhbojjneaa.VC
open Go Go.RowKit

theorem pcells_set : ∀ (ps : List IP) (i : Nat) (p : IP), i < ps.length → ((pcells ps).set (i * 2) (.int .i64 p.1)).set (i * 2 + 1) (.int .i64 p.2) = pcells (ps.set i p)
  | [], i, p, h => by simp at h
  | q :: r, 0, p, _ => rfl
  | q :: r, i + 1, p, h => by
    have := pcells_set r i p (by simpa using h)
    have e : (i + 1) * 2 = i * 2 + 1 + 1 := by omega
    simp only [pcells, e, List.set_cons_succ]
    rw [this]
section
variable {w0 w : World} {F : FamF} {i : Nat} {A : Option Addr} {n c : Nat} {ps : List IP}
/-- a pair, stored -/
theorem GP.set (h : GP F i A n c ps) (hF : Fam w0 w F) {x : Int} (h0 : 0 ≤ x) (h1 : x < ps.length) {p : IP} {K : World → Prop} (hk : ∀ F' w', Only i F F' → Fam w0 w' F' → GP F' i A n c (ps.set x.toNat p) → K w') :
    IxV A n 2 x fun a => SetK w a (.int .i64 p.1) fun w1 => SetK w1 (a.add 1) (.int .i64 p.2) K := by
  have hn := h.len
  rcases h with ⟨_, _, _, _, rfl⟩ | ⟨b, rest, hi, hA, _, hc⟩
  · simp at h1; omega
  have hl := pcells_len ps
  refine ⟨_, hA, h0, by omega, ?_⟩
  rw [add_none, Nat.zero_add]
  refine hF.write hi (by simp; omega) rfl fun w1 hw1 => ?_
  rw [add_none]
  refine hw1.write (upd_self _ _ _) (by simp; omega) rfl fun w2 hw2 => ?_
  refine hk _ w2 (fun j hj => by rw [upd_ne hj, upd_ne hj]) hw2 (.inr ⟨b, rest, ?_, hA, by simp [hn], by simpa using hc⟩)
  rw [upd_self, ← pcells_set ps x.toNat p (by omega), List.set_append_left _ _ (by omega), List.set_append_left _ _ (by rw [List.length_set]; omega)]
theorem Fam.mkGP (hF : Fam w0 w F) (i : Nat) {e : TypeId} {K : Nat → World → Prop} (hk : ∀ b F' w', Ext w w' → Only i F F' → Fam w0 w' F' → GP F' i (some ⟨b, 0, none⟩) 0 0 [] → K b w') : NewK w (.cells (Array.mk []) e (0, 0)) K :=
  hF.mkRowE i (xs := []) fun b F' w' hE ho hF' hs => hk b F' w' hE ho hF' (by
    rcases hs with ⟨_, h, _⟩ | ⟨b', rest, h1, h2, h3, h4⟩
    · cases h
    · exact .inr ⟨b', rest, h1, h2, rfl, by simp at h4; simp [h4]⟩)
/-- pairs are put behind none -/
theorem GP.copy {y z : Value} {e2 : TypeId} {D : Option Addr} {qs : List IP} (h : GP F i A 0 0 []) (hF : Fam w0 w F) (hD : Row w D (pcells qs)) (hl : qs.length ≤ 8796093022206) {K : Option Addr → Nat → Nat → World → Prop}
    (k : ∀ F' A' c' w', Ext w w' → Only i F F' → Fam w0 w' F' → GP F' i A' qs.length c' qs → K A' qs.length c' w') : AppK 16 2 [y, z] e2 A 0 0 D qs.length w K := by
  refine ⟨[], pcells qs, by simp, by rw [pcells_len]; omega, fun h => absurd rfl h, hD, pcells_one1, by omega, fun hle => .inl ?_, fun hlt cap hcap => ?_⟩
  · have : qs = [] := List.eq_nil_of_length_eq_zero (by omega)
    subst this
    exact ⟨rfl, k F A 0 w Ext.rfl' (fun _ _ => rfl) hF h⟩
  · rw [Nat.zero_add] at *
    exact fun b w' hn => k _ _ _ w' hn.ext upd_only (hF.only (c := .cells (pcells qs ++ rep (cap - qs.length) [y, z])) hn.only ⟨e2, by rw [← List.nil_append (pcells qs)]; exact hn.new⟩ (.inr hn.lo)) (.inr ⟨b, _, by rw [upd_self], rfl, rfl, by rw [rep2_len]; omega⟩)
end

/-- an element on its way to its place -/
def Sink (srt : List IP) (p : IP) (k : Int) (ys : List IP) : Prop := ∃ L1 L2, ys = L1 ++ p :: L2 ∧ (L1.length : Int) = k ∧ srt = L1 ++ L2 ∧ ∀ q ∈ L2, plt p q
theorem Sink.init (srt : List IP) (p : IP) : Sink srt p srt.length (srt ++ [p]) := ⟨srt, [], rfl, rfl, by simp, by simp⟩
theorem Sink.len {srt : List IP} {p : IP} {k : Int} {ys : List IP} (h : Sink srt p k ys) : ys.length = srt.length + 1 := by
  obtain ⟨L1, L2, rfl, _, rfl, _⟩ := h; simp; omega
theorem Sink.here {srt : List IP} {p : IP} {k : Int} {ys : List IP} (h : Sink srt p k ys) : gp ys k = p := by
  obtain ⟨L1, L2, rfl, hk, rfl, _⟩ := h
  exact gp_get (by rw [show k.toNat = L1.length by omega]; simp)
theorem Sink.rng {srt : List IP} {p : IP} {k : Int} {ys : List IP} (h : Sink srt p k ys) : 0 ≤ k ∧ k < ys.length := by
  obtain ⟨L1, L2, rfl, hk, rfl, _⟩ := h
  simp; omega
theorem Sink.swap {srt : List IP} {p : IP} {k : Int} {ys : List IP} (h : Sink srt p k ys) (hk : 0 < k) (hlt : plt p (gp ys (k - 1))) : Sink srt p (k - 1) ((ys.set (k - 1).toNat p).set k.toNat (gp ys (k - 1))) := by
  obtain ⟨L1, L2, rfl, hl, rfl, hq⟩ := h
  obtain rfl | ⟨L, q, rfl⟩ := List.eq_nil_or_concat L1
  · simp at hl; omega
  rw [List.concat_eq_append] at hl ⊢
  rw [List.length_append, List.length_singleton] at hl
  have e1 : (k - 1).toNat = L.length := by omega
  have e2 : k.toNat = L.length + 1 := by omega
  have eq : gp (L ++ [q] ++ p :: L2) (k - 1) = q := gp_get (by rw [e1]; simp)
  rw [List.concat_eq_append] at hlt
  rw [eq] at hlt ⊢
  refine ⟨L, q :: L2, ?_, by omega, by simp, fun r hr => ?_⟩
  · rw [e1, e2, List.append_assoc]
    simp
  · rcases List.mem_cons.1 hr with rfl | hr
    · exact hlt
    · exact hq r hr
theorem Sink.done {srt : List IP} {p : IP} {k : Int} {ys : List IP} (h : Sink srt p k ys) (hs : srt.Pairwise plt) (hp : p ∉ srt) (hn : k = 0 ∨ ¬ plt p (gp ys (k - 1))) : ys.Pairwise plt ∧ ∀ q, q ∈ ys ↔ q ∈ srt ∨ q = p := by
  obtain ⟨L1, L2, rfl, hl, rfl, hq⟩ := h
  rw [List.pairwise_append] at hs
  obtain ⟨s1, s2, s3⟩ := hs
  refine ⟨?_, fun q => ?_⟩
  rotate_left
  · simp only [List.mem_append, List.mem_cons]
    exact ⟨fun h => h.elim (fun h => .inl (.inl h)) fun h => h.elim .inr fun h => .inl (.inr h), fun h => h.elim (fun h => h.elim .inl fun h => .inr (.inr h)) fun h => .inr (.inl h)⟩
  have last : ∀ r ∈ L1, plt r p := fun r hr => by
    obtain rfl | ⟨L, q, rfl⟩ := List.eq_nil_or_concat L1
    · cases hr
    rw [List.concat_eq_append] at *
    rw [List.length_append, List.length_singleton] at hl
    have eq : gp (L ++ [q] ++ p :: L2) (k - 1) = q := gp_get (by rw [show (k - 1).toNat = L.length by omega]; simp)
    rw [eq] at hn
    have hqp : plt q p := by
      rcases hn with hn | hn
      · omega
      · rcases plt_total p q with h | h | h
        · exact absurd h hn
        · subst h; exact absurd (by simp) hp
        · exact h
    rcases List.mem_append.1 hr with hr | hr
    · exact plt_trans ((List.pairwise_append.1 s1).2.2 r hr q (by simp)) hqp
    · rw [List.mem_singleton] at hr; subst hr; exact hqp
  rw [List.pairwise_append, List.pairwise_cons]
  refine ⟨s1, ⟨hq, s2⟩, fun r hr q hq2 => ?_⟩
  rcases List.mem_cons.1 hq2 with rfl | hq2
  · exact last r hr
  · exact s3 r hr q hq2

theorem WD.found {a b : Mach} {ps : List IP} {cm bl : List Int} (h : WD false a b ps cm bl) (ha : a.Shaped) (hb : b.Shaped) (hl : a.letters = b.letters) : ps.Nodup ∧ ∀ p, p ∈ ps ↔ FoundP a b p := by
  rcases h with ⟨hst, rs, hws, hrl, _⟩ | ⟨hno, rfl, _⟩
  · obtain ⟨ws, hW⟩ := hws.walk rfl
    exact ⟨hW.nodup, hW.found (Int.le_refl _) (fun h => by
      have := (hws.rng _ h).2
      rcases this with h | h <;> exact absurd h (by decide)) ha hb hl⟩
  · exact ⟨List.nodup_nil, fun p => ⟨(fun h => by cases h), fun h => absurd h (not_found (not_okP hno ha.start_range.1 hb.start_range.1) p)⟩⟩

set_option maxHeartbeats 4000000 in
theorem c32 {w : World} {a b : Mach} {v u : Value} {R : Res} (ha : MachAt w a v) (hb : MachAt w b u) (la : a.Lim) (lb : b.Lim) (hsma : a.next.length ≤ 60) (hsmb : b.next.length ≤ 60)
    (bad : fitc a b ≠ 0 → R (.tuple (Array.mk [.slice none 0 0, .int .i64 (fitc a b)])) [] w)
    (apart : fitc a b = 0 → (¬ ∀ u, a.acc a.start u = b.acc b.start u) → ∀ w', Ext w w' → R (.tuple (Array.mk [.slice none 0 0, .int .i64 8])) [] w')
    (ok : fitc a b = 0 → (∀ u, a.acc a.start u = b.acc b.start u) → ∀ w' pv qs, Ext w w' → SlP w' pv qs → qs.Pairwise plt → (∀ p, p ∈ qs ↔ FoundP a b p) → qs.length ≤ 1099511627776 → R (.tuple (Array.mk [pv, .int .i64 0])) [] w') :
    CallsI Try.prog 32 [v, u] w [] R := by
  have ha0 := ha; have hb0 := hb
  obtain ⟨A, n, c, B, k, d, rfl⟩ := ha.form
  obtain ⟨A', n', c', B', k', d', rfl⟩ := hb.form
  refine s32 _ _ _ _ _ _ _ _ _ _ _ _ _ _ _ _ _ _ fun _ _ => ?_
  refine c29 ha0 hb0 la lb hsma hsmb (fun hbad => ?_) (fun hfit hw w5 hE5 => ?_) fun hfit w5 wv x hE5 hx hxl hf => ?_
  · refine ⟨_, _, _, _, _, rfl, rfl, ?_⟩
    refine condK_beq (fun h => absurd h hbad) fun _ => condK_bne (fun _ => bad hbad) fun h => ?_
    rcases fitc_cases a b with h2 | h2 | h2 <;> omega
  · obtain ⟨hva, hvb, hlet⟩ := fitc_ok.1 hfit
    have hal := hva.letters
    have h3 : ((a.next.length : Int) + 1) * (b.next.length + 1) ≤ 61 * 61 := Int.mul_le_mul (by omega) (by omega) (by omega) (by omega)
    refine ⟨_, _, _, _, _, rfl, rfl, ?_⟩
    refine condK_beq (fun h => by omega) fun _ => condK_bne (fun h => absurd rfl h) fun _ => ?_
    refine c63 (ha0.ext hE5) (hb0.ext hE5) hva.shaped hvb.shaped hlet (by omega) (by omega) (by decide) fun w13 wv ps cm bl hE13 hwv hwd => ?_
    obtain ⟨P, pc, Fa, fc, Z, zc, rfl, hcap, hP, hC, hB⟩ := hwv
    obtain ⟨hnd, hfound⟩ := hwd.found hva.shaped hvb.shaped hlet
    have hfew := found_few hva.shaped hvb.shaped hsma hsmb hnd fun p hp => (hfound p).1 hp
    refine ⟨_, _, _, _, _, _, _, _, _, rfl, rfl, fun _ => ?_⟩
    refine condK_dec (fun h => by omega) fun _ => ?_
    have hE : Ext w w13 := hE5.trans' hE13
    refine (Fam.empty w13).mkGP 0 fun n24 F w25 hE25 ho hF hG => ?_
    refine ⟨fun x27 A28 n29 n30 => ⟨fun w31 => ∃ F ys, Fam w13 w31 F ∧ GP F 0 A28 n29 n30 ys ∧ ys.Pairwise plt ∧ (∀ q, q ∈ ys ↔ q ∈ ps.take x27.toNat) ∧ (ys.length : Int) = x27 ∧ 0 ≤ x27 ∧ x27 ≤ ps.length, fun _ => (ps.length - x27).toNat⟩,
      ⟨F, [], hF, hG, List.Pairwise.nil, by simp, rfl, by omega, by omega⟩, ?_⟩
    clear hF hG ho hE25 F
    rintro x27 A28 n29 n30 w31 ⟨F, srt, hF, hG, hsrt, hmem, hyl, h270, h271⟩ n32 rfl
    refine condK_dec (fun hlt => ?_) fun hge => ?_
    · have hg := get_gp (l := ps) h270 hlt
      have hn29 := hG.len
      subst hn29
      have hnew : gp ps x27 ∉ srt := fun h => by
        have h1 := (hmem _).1 h
        obtain ⟨j, hj⟩ := List.mem_iff_getElem?.1 h1
        have hjl := (List.getElem?_eq_some_iff.1 hj).1
        rw [List.length_take] at hjl
        rw [List.getElem?_take_of_lt (by omega)] at hj
        obtain ⟨k1, k2⟩ := List.getElem?_eq_some_iff.1 hj
        obtain ⟨l1, l2⟩ := List.getElem?_eq_some_iff.1 hg
        have := (List.getElem_inj hnd (h₀ := k1) (h₁ := l1)).1 (by rw [k2, l2])
        omega
      refine rowP_get (Ext.row hF.base hP) h270 hlt fun a33 c1 c2 => ⟨_, _, c1, c2, ?_⟩
      refine hG.push (p := gp ps x27) hF (by omega) fun F2 A38 n40 w41 ho2 hF2 hG2 => ?_
      rw [show IntKind.i64.wrap ((((srt.length + 1 : Nat)) : Int) - 1) = srt.length by rw [wrap_id (by omega) (by omega)]; omega]
      refine ⟨fun x43 => ⟨fun w44 => ∃ F ys, Fam w13 w44 F ∧ GP F 0 A38 (srt.length + 1) n40 ys ∧ Sink srt (gp ps x27) x43 ys, fun _ => x43.toNat⟩, ⟨F2, _, hF2, hG2, Sink.init _ _⟩, ?_⟩
      clear hF hG hF2 hG2 ho2 c1 c2 F F2
      rintro x43 w44 ⟨F, ys, hF, hG, hsk⟩ n45 rfl
      have hrng := hsk.rng; have hysl := hsk.len
      have next : ∀ w54, (∃ F, Fam w13 w54 F ∧ GP F 0 A38 (srt.length + 1) n40 ys) → (x43 = 0 ∨ ¬ plt (gp ps x27) (gp ys (x43 - 1))) → J32_7 (fun x27 A28 n29 n30 => ⟨fun w31 => ∃ F ys, Fam w13 w31 F ∧ GP F 0 A28 n29 n30 ys ∧ ys.Pairwise plt ∧ (∀ q, q ∈ ys ↔ q ∈ ps.take x27.toNat) ∧ (ys.length : Int) = x27 ∧ 0 ≤ x27 ∧ x27 ≤ ps.length, fun _ => (ps.length - x27).toNat⟩) x27 A38 (srt.length + 1) n40 w54 (ps.length - x27).toNat := by
        rintro w54 ⟨F5, hF5, hG5⟩ hn
        obtain ⟨d1, d2⟩ := hsk.done hsrt hnew hn
        rw [J32_7, wrap_id (by omega) (by omega)]
        exact ⟨⟨F5, ys, hF5, hG5, d1, fun q => by rw [d2, hmem, takeP_mem h270 hlt], by omega, by omega, by omega⟩, by simp only []; omega⟩
      refine condK_dec (fun hpos => ?_) fun hz => next w44 ⟨F, hF, hG⟩ (.inl (by omega))
      have here := hsk.here
      rw [wrap_id (x := x43 - 1) (by omega) (by omega)]
      refine hG.get hF hrng.1 hrng.2 fun a46 c1 c2 => ⟨_, _, c1, c2, ?_⟩
      refine hG.get hF (x := x43 - 1) (by omega) (by omega) fun a49 d1 d2 => ⟨_, _, d1, d2, ?_⟩
      refine c64 (p := gp ys x43) (q := gp ys (x43 - 1)) (fun h => ⟨_, rfl, rfl, ?_⟩) fun h => ⟨_, rfl, rfl, ?_⟩
      · refine condK_of (fun _ => ?_) fun h => by cases h
        refine hG.get hF hrng.1 hrng.2 fun a56 c1 c2 => ⟨_, _, c1, c2, ?_⟩
        refine hG.get hF (x := x43 - 1) (by omega) (by omega) fun a59 d1 d2 => ⟨_, _, d1, d2, ?_⟩
        refine hG.set (p := gp ys x43) hF (x := x43 - 1) (by omega) (by omega) fun F3 w64 ho3 hF3 hG3 => ?_
        refine hG3.set (p := gp ys (x43 - 1)) hF3 (x := x43) hrng.1 (by rw [List.length_set]; omega) fun F4 w67 ho4 hF4 hG4 => ?_
        rw [here] at hG4 h
        exact ⟨⟨F4, _, hF4, hG4, hsk.swap hpos h⟩, by simp only []; omega⟩
      · refine condK_of (fun h => by cases h) fun _ => ?_
        rw [here] at h
        exact next w44 ⟨F, hF, hG⟩ (.inr h)
    · have ex : ps.take x27.toNat = ps := List.take_of_length_le (by omega)
      rw [ex] at hmem
      have hn29 := hG.len
      subst hn29
      exact ok hfit hw w31 _ srt (hE.trans' hF.base) ⟨_, _, rfl, hG.cap, hG.row hF⟩ hsrt (fun p => by rw [hmem, hfound]) (by omega)
  · have hx0 := hx
    obtain ⟨X, xc, rfl, hX⟩ := hx
    refine ⟨_, _, _, _, _, rfl, rfl, ?_⟩
    exact condK_beq (fun _ => apart hfit (fun h => hf.parts (h x)) w5 hE5) fun h => absurd rfl h
end Go.Proofs.Ytnkpjlhbojjneaa.VC

/- The law of relations. -/
namespace Go.Proofs.Ytnkpjlhbojjneaa.VC
open Go Go.RowKit

/-- what Relate tells -/
def RelRes (a b : Mach) (x : Int) (qs : List IP) : Prop :=
  (fitc a b ≠ 0 ∧ x = fitc a b ∧ qs = []) ∨ (fitc a b = 0 ∧ (¬ ∀ u, a.acc a.start u = b.acc b.start u) ∧ x = 8 ∧ qs = []) ∨ (fitc a b = 0 ∧ (∀ u, a.acc a.start u = b.acc b.start u) ∧ x = 0 ∧ qs.Pairwise plt ∧ ∀ p, p ∈ qs ↔ FoundP a b p)
theorem RelRes.unique {a b : Mach} {x y : Int} {qs rs : List IP} (h : RelRes a b x qs) (k : RelRes a b y rs) : x = y ∧ qs = rs := by
  rcases h with ⟨h1, rfl, rfl⟩ | ⟨h1, h2, rfl, rfl⟩ | ⟨h1, h2, rfl, h3, h4⟩
  · rcases k with ⟨k1, rfl, rfl⟩ | ⟨k1, _⟩ | ⟨k1, _⟩
    · exact ⟨rfl, rfl⟩
    · exact absurd k1 h1
    · exact absurd k1 h1
  · rcases k with ⟨k1, _⟩ | ⟨k1, _, rfl, rfl⟩ | ⟨k1, k2, _⟩
    · exact absurd h1 k1
    · exact ⟨rfl, rfl⟩
    · exact absurd k2 h2
  · rcases k with ⟨k1, _⟩ | ⟨k1, k2, _⟩ | ⟨k1, k2, rfl, k3, k4⟩
    · exact absurd h1 k1
    · exact absurd h2 k2
    · exact ⟨rfl, sorted_unique h3 k3 fun p => by rw [h4, k4]⟩
theorem nilP (w : World) : SlP w (.slice none 0 0) [] := ⟨none, 0, rfl, Nat.zero_le _, fun h => absurd rfl h⟩

set_option maxHeartbeats 4000000 in
theorem c8 {w : World} {a b : Mach} {v u pv : Value} {ps : List IP} {R : Res} (ha : MachAt w a v) (la : a.Lim) (hb : MachAt w b u) (lb : b.Lim) (hp : SlP w pv ps) (hpl : ps.length ≤ 8796093021952)
    (hR : ∀ w', Ext w w' → R (.bool true) [] w') : CallsI Try.prog 8 [v, u, pv] w [] R := by
  have ha0 := ha; have hb0 := hb; have hp0 := hp
  obtain ⟨A, n, c, B, k, d, rfl⟩ := ha.form
  obtain ⟨A', n', c', B', k', d', rfl⟩ := hb.form
  obtain ⟨D, pc, rfl, hcap, hD⟩ := hp
  have awake : ∀ w', Ext w w' → J8_1 w' R := fun w' hE => c15 fun w2 hE2 => ⟨_, rfl, rfl, hR w2 (hE.trans' hE2)⟩
  refine s8 _ _ _ _ _ _ _ _ _ _ _ _ _ _ _ _ _ _ _ _ _ fun _ _ => c21 ha0 (fun hsa => ⟨_, rfl, rfl, ?_⟩) fun _ => ⟨_, rfl, rfl, awake w Ext.rfl'⟩
  refine condK_of (fun h => by cases h) fun _ => ?_
  refine c21 hb0 (fun hsb => ⟨_, rfl, rfl, ?_⟩) fun _ => ⟨_, rfl, rfl, awake w Ext.rfl'⟩
  refine condK_of (fun h => by cases h) fun _ => ?_
  refine condK_dec (fun _ => awake w Ext.rfl') fun hp1000 => ?_
  have h1 := hsa.1; have h2 := hsb.1
  -- the checker once more
  have j7 : ∀ (wb w96 : World) (F : FamF) (n95 : Nat) (A78 : Option Addr) (n79 n80 : Nat) (A81 : Option Addr) (n82 n83 : Nat) (A89 : Option Addr) (n90 n91 : Nat) (A92 : Option Addr) (n93 n94 : Nat), Ext w wb → Fam wb w96 F → GP F 0 (some ⟨n95, 0, none⟩) 0 0 [] →
      MachAt w96 a (.agg (Array.mk [.int .i64 a.letters, .int .i64 a.start, .slice A78 n79 n80, .slice A81 n82 n83])) → MachAt w96 b (.agg (Array.mk [.int .i64 b.letters, .int .i64 b.start, .slice A89 n90 n91, .slice A92 n93 n94])) →
      J8_7 n95 D ps.length w96 a.letters a.start A78 n79 n80 A81 n82 n83 b.letters b.start A89 n90 n91 A92 n93 n94 (checkc a b ps) R := by
    intro wb w96 F n95 A78 n79 n80 A81 n82 n83 A89 n90 n91 A92 n93 n94 hE hF hG hat hbt
    rw [J8_7]
    refine hG.copy (F := F) (i := 0) hF (Ext.row (hE.trans' hF.base) hD) (by omega) fun F2 A97 c99 w100 hE2 ho2 hF2 hG2 => ?_
    refine c28 (hat.ext hE2) (hbt.ext hE2) ⟨_, _, rfl, hG2.cap, hG2.row hF2⟩ la lb (by omega) fun w103 hE103 => ⟨_, rfl, rfl, ?_⟩
    exact condK_beq (fun _ => awake w103 (hE.trans' (Ext.trans' hF2.base hE103))) fun h => absurd rfl h
  -- behind the reference's answer
  have rest : ∀ (w25 : World) (A26 : Option Addr) (n27 n28 : Nat) (x29 : Int) (qs : List IP), Ext w w25 → SlP w25 (.slice A26 n27 n28) qs → RelRes a b x29 qs → qs.length ≤ 1099511627776 →
      CallsI Try.prog 33 [.agg (Array.mk [.int .i64 a.letters, .int .i64 a.start, .slice A n c, .slice B k d]), .agg (Array.mk [.int .i64 b.letters, .int .i64 b.start, .slice A' n' c', .slice B' k' d']), .slice D ps.length pc] w25 [] fun v30 l31 w32 => ∃ x33, v30 = .int .i64 x33 ∧ l31 = [] ∧
        CallsI Try.prog 19 [.agg (Array.mk [.int .i64 a.letters, .int .i64 a.start, .slice A n c, .slice B k d])] w32 [] fun v34 l35 w36 => ∃ x37 x38 A39 n40 n41 A42 n43 n44, v34 = .agg (Array.mk [.int .i64 x37, .int .i64 x38, .slice A39 n40 n41, .slice A42 n43 n44]) ∧ l35 = [] ∧
          CallsI Try.prog 19 [.agg (Array.mk [.int .i64 b.letters, .int .i64 b.start, .slice A' n' c', .slice B' k' d'])] w36 [] fun v45 l46 w47 => ∃ x48 x49 A50 n51 n52 A53 n54 n55, v45 = .agg (Array.mk [.int .i64 x48, .int .i64 x49, .slice A50 n51 n52, .slice A53 n54 n55]) ∧ l46 = [] ∧
            CallsI Try.prog 27 [.agg (Array.mk [.int .i64 x37, .int .i64 x38, .slice A39 n40 n41, .slice A42 n43 n44]), .agg (Array.mk [.int .i64 x48, .int .i64 x49, .slice A50 n51 n52, .slice A53 n54 n55])] w47 [] fun v56 l57 w58 => ∃ A59 n60 n61 x62, v56 = .tuple (Array.mk [.slice A59 n60 n61, .int .i64 x62]) ∧ l57 = [] ∧
              condK (x29 != x62) (R (.bool false) [] w58) (condK ((n60 : Int) != (n27 : Int)) (R (.bool false) [] w58) (∃ (I63 : Int → Lp), (I63 0).1 w58 ∧ ∀ (x64 : Int) (w65 : World), (I63 x64).1 w65 → ∀ (n66 : Nat), (I63 x64).m w65 = n66 →
                condK (decide (x64 < (n60 : Int))) (IxV A59 n60 2 x64 fun a67 => ∃ x68 x69, w65.cell? a67 = some (.int .i64 x68) ∧ w65.cell? (a67.add 1) = some (.int .i64 x69) ∧ IxV A26 n27 2 x64 fun a70 => ∃ x71 x72, w65.cell? a70 = some (.int .i64 x71) ∧ w65.cell? (a70.add 1) = some (.int .i64 x72) ∧
                  condK (!(x68 == x71 && x69 == x72)) (R (.bool false) [] w65) ((I63 (IntKind.i64.wrap (x64 + 1))).1 w65 ∧ (I63 (IntKind.i64.wrap (x64 + 1))).m w65 < n66))
                ((CallsI Try.prog 19 [.agg (Array.mk [.int .i64 a.letters, .int .i64 a.start, .slice A n c, .slice B k d])] w65 [] fun v73 l74 w75 => ∃ x76 x77 A78 n79 n80 A81 n82 n83, v73 = .agg (Array.mk [.int .i64 x76, .int .i64 x77, .slice A78 n79 n80, .slice A81 n82 n83]) ∧ l74 = [] ∧
                  (CallsI Try.prog 19 [.agg (Array.mk [.int .i64 b.letters, .int .i64 b.start, .slice A' n' c', .slice B' k' d'])] w75 [] fun v84 l85 w86 => ∃ x87 x88 A89 n90 n91 A92 n93 n94, v84 = .agg (Array.mk [.int .i64 x87, .int .i64 x88, .slice A89 n90 n91, .slice A92 n93 n94]) ∧ l85 = [] ∧
                    NewK w86 (.cells (Array.mk []) 50 (0, 0)) fun n95 w96 => J8_7 n95 D ps.length w96 x76 x77 A78 n79 n80 A81 n82 n83 x87 x88 A89 n90 n91 A92 n93 n94 x33 R) ∧
                  NewK w75 (.cells (Array.mk []) 50 (0, 0)) fun n109 w110 => J8_16 b.letters b.start A' n' c' B' k' d' w110 n109 D ps.length x76 x77 A78 n79 n80 A81 n82 n83 x33 R) ∧
                NewK w65 (.cells (Array.mk []) 50 (0, 0)) fun n134 w135 => CallsI Try.prog 19 [.agg (Array.mk [.int .i64 a.letters, .int .i64 a.start, .slice A n c, .slice B k d])] w135 [] fun v136 l137 w138 => ∃ x139 x140 A141 n142 n143 A144 n145 n146, v136 = .agg (Array.mk [.int .i64 x139, .int .i64 x140, .slice A141 n142 n143, .slice A144 n145 n146]) ∧ l137 = [] ∧
                  J8_16 b.letters b.start A' n' c' B' k' d' w138 n134 D ps.length x139 x140 A141 n142 n143 A144 n145 n146 x33 R))) := by
    intro w25 A26 n27 n28 x29 qs hE25 hqs hres hql
    refine c33 (ha0.ext hE25) (hb0.ext hE25) (hp0.ext hE25) la lb (by omega) ⟨_, rfl, rfl, ?_⟩
    refine c19 (ha0.ext hE25) la fun w36 av hca => ?_
    obtain ⟨A39, n40, n41, A42, n43, n44, rfl⟩ := hca.at_.form
    refine ⟨_, _, _, _, _, _, _, _, rfl, rfl, ?_⟩
    refine c19 (hb0.ext (hE25.trans' hca.below)) lb fun w47 bv hcb => ?_
    obtain ⟨A50, n51, n52, A53, n54, n55, rfl⟩ := hcb.at_.form
    refine ⟨_, _, _, _, _, _, _, _, rfl, rfl, ?_⟩
    have hE47 : Ext w25 w47 := hca.below.trans' hcb.below
    have fin : ∀ (w58 : World) (pv : Value) (x62 : Int) (rs : List IP), Ext w47 w58 → SlP w58 pv rs → RelRes a b x62 rs → ∃ A59 n60 n61, pv = .slice A59 n60 n61 ∧
        condK (x29 != x62) (R (.bool false) [] w58) (condK ((n60 : Int) != (n27 : Int)) (R (.bool false) [] w58) (∃ (I63 : Int → Lp), (I63 0).1 w58 ∧ ∀ (x64 : Int) (w65 : World), (I63 x64).1 w65 → ∀ (n66 : Nat), (I63 x64).m w65 = n66 →
                condK (decide (x64 < (n60 : Int))) (IxV A59 n60 2 x64 fun a67 => ∃ x68 x69, w65.cell? a67 = some (.int .i64 x68) ∧ w65.cell? (a67.add 1) = some (.int .i64 x69) ∧ IxV A26 n27 2 x64 fun a70 => ∃ x71 x72, w65.cell? a70 = some (.int .i64 x71) ∧ w65.cell? (a70.add 1) = some (.int .i64 x72) ∧
                  condK (!(x68 == x71 && x69 == x72)) (R (.bool false) [] w65) ((I63 (IntKind.i64.wrap (x64 + 1))).1 w65 ∧ (I63 (IntKind.i64.wrap (x64 + 1))).m w65 < n66))
                ((CallsI Try.prog 19 [.agg (Array.mk [.int .i64 a.letters, .int .i64 a.start, .slice A n c, .slice B k d])] w65 [] fun v73 l74 w75 => ∃ x76 x77 A78 n79 n80 A81 n82 n83, v73 = .agg (Array.mk [.int .i64 x76, .int .i64 x77, .slice A78 n79 n80, .slice A81 n82 n83]) ∧ l74 = [] ∧
                  (CallsI Try.prog 19 [.agg (Array.mk [.int .i64 b.letters, .int .i64 b.start, .slice A' n' c', .slice B' k' d'])] w75 [] fun v84 l85 w86 => ∃ x87 x88 A89 n90 n91 A92 n93 n94, v84 = .agg (Array.mk [.int .i64 x87, .int .i64 x88, .slice A89 n90 n91, .slice A92 n93 n94]) ∧ l85 = [] ∧
                    NewK w86 (.cells (Array.mk []) 50 (0, 0)) fun n95 w96 => J8_7 n95 D ps.length w96 x76 x77 A78 n79 n80 A81 n82 n83 x87 x88 A89 n90 n91 A92 n93 n94 (checkc a b ps) R) ∧
                  NewK w75 (.cells (Array.mk []) 50 (0, 0)) fun n109 w110 => J8_16 b.letters b.start A' n' c' B' k' d' w110 n109 D ps.length x76 x77 A78 n79 n80 A81 n82 n83 (checkc a b ps) R) ∧
                NewK w65 (.cells (Array.mk []) 50 (0, 0)) fun n134 w135 => CallsI Try.prog 19 [.agg (Array.mk [.int .i64 a.letters, .int .i64 a.start, .slice A n c, .slice B k d])] w135 [] fun v136 l137 w138 => ∃ x139 x140 A141 n142 n143 A144 n145 n146, v136 = .agg (Array.mk [.int .i64 x139, .int .i64 x140, .slice A141 n142 n143, .slice A144 n145 n146]) ∧ l137 = [] ∧
                  J8_16 b.letters b.start A' n' c' B' k' d' w138 n134 D ps.length x139 x140 A141 n142 n143 A144 n145 n146 (checkc a b ps) R))) := by
      intro w58 pv x62 rs hE58 hrs hres2
      obtain ⟨ex, eq⟩ := hres.unique hres2
      subst ex eq
      have hqs58 := hqs.ext (hE47.trans' hE58)
      obtain ⟨Q, qc, e, _, hQ⟩ := hqs58
      injection e with e1 e2 e3; subst e1 e2 e3
      obtain ⟨S, sc, rfl, _, hS⟩ := hrs
      have hE : Ext w w58 := hE25.trans' (hE47.trans' hE58)
      refine ⟨_, _, _, rfl, condK_bne (fun h => absurd rfl h) fun _ => condK_bne (fun h => absurd rfl h) fun _ => ?_⟩
      refine ⟨fun x64 => ⟨fun w65 => w65 = w58 ∧ 0 ≤ x64 ∧ x64 ≤ qs.length, fun _ => (qs.length - x64).toNat⟩, ⟨rfl, by omega, by omega⟩, ?_⟩
      rintro x64 w65 ⟨rfl, h640, h641⟩ n66 rfl
      refine condK_dec (fun hlt => ?_) fun hge => ?_
      · refine rowP_get hS h640 hlt fun a67 c1 c2 => ⟨_, _, c1, c2, ?_⟩
        refine rowP_get hQ h640 hlt fun a70 d1 d2 => ⟨_, _, d1, d2, ?_⟩
        refine condK_of (fun h => by simp at h) fun _ => ?_
        rw [wrap_id (by omega) (by omega)]
        exact ⟨⟨rfl, by omega, by omega⟩, by simp only []; omega⟩
      · have copyB : ∀ (wb w110 : World) (F : FamF) (n109 : Nat) (A78 : Option Addr) (n79 n80 : Nat) (A81 : Option Addr) (n82 n83 : Nat), Ext w wb → Fam wb w110 F → GP F 0 (some ⟨n109, 0, none⟩) 0 0 [] → MachAt w110 a (.agg (Array.mk [.int .i64 a.letters, .int .i64 a.start, .slice A78 n79 n80, .slice A81 n82 n83])) →
            J8_16 b.letters b.start A' n' c' B' k' d' w110 n109 D ps.length a.letters a.start A78 n79 n80 A81 n82 n83 (checkc a b ps) R := by
          intro wb w110 F n109 A78 n79 n80 A81 n82 n83 hEb hF hG hat
          rw [J8_16]
          refine c19 (hb0.ext (hEb.trans' hF.base)) lb fun w113 v111 hcp => ?_
          obtain ⟨A116, n117, n118, A119, n120, n121, rfl⟩ := hcp.at_.form
          exact ⟨_, _, _, _, _, _, _, _, rfl, rfl, j7 wb w113 F n109 _ _ _ _ _ _ _ _ _ _ _ _ hEb (hF.ext hcp.below) hG (hat.ext hcp.below) hcp.at_⟩
        refine ⟨c19 (ha0.ext hE) la fun w75 v73 hcp => ?_, (Fam.empty w65).mkGP 0 fun n134 F w135 hE135 ho hF hG => c19 (ha0.ext (hE.trans' hE135)) la fun w138 v136 hcp => ?_⟩
        · obtain ⟨A78, n79, n80, A81, n82, n83, rfl⟩ := hcp.at_.form
          have hE75 : Ext w w75 := hE.trans' hcp.below
          refine ⟨_, _, _, _, _, _, _, _, rfl, rfl, c19 (hb0.ext hE75) lb fun w86 v84 hcp2 => ?_, (Fam.empty w75).mkGP 0 fun n109 F w110 hE110 ho hF hG => copyB w75 w110 F n109 _ _ _ _ _ _ hE75 hF hG (hcp.at_.ext hE110)⟩
          obtain ⟨A89, n90, n91, A92, n93, n94, rfl⟩ := hcp2.at_.form
          refine ⟨_, _, _, _, _, _, _, _, rfl, rfl, (Fam.empty w86).mkGP 0 fun n95 F w96 hE96 ho hF hG => ?_⟩
          exact j7 w86 w96 F n95 _ _ _ _ _ _ _ _ _ _ _ _ (hE75.trans' hcp2.below) hF hG (hcp.at_.ext (hcp2.below.trans' hE96)) (hcp2.at_.ext hE96)
        · obtain ⟨A141, n142, n143, A144, n145, n146, rfl⟩ := hcp.at_.form
          exact ⟨_, _, _, _, _, _, _, _, rfl, rfl, copyB w65 w138 F n134 _ _ _ _ _ _ hE (hF.ext hcp.below) hG hcp.at_⟩
    refine c27 (hca.at_.ext hcb.below) hcb.at_ la lb (fun hbad => ?_) (fun hfit hns w58 hE58 => ?_) (fun hfit hw w58 zs hE58 hnd hfo hgt => ?_) fun hfit hw w58 pv zs hE58 hpv hsort hmem hlen => ?_
    · obtain ⟨A59, n60, n61, e, hc⟩ := fin w47 _ (fitc a b) [] Ext.rfl' (nilP _) (.inl ⟨hbad, rfl, rfl⟩)
      injection e with e1 e2 e3; subst e1 e2 e3
      exact ⟨_, _, _, _, rfl, rfl, hc⟩
    · obtain ⟨A59, n60, n61, e, hc⟩ := fin w58 _ 8 [] hE58 (nilP _) (.inr (.inl ⟨hfit, hns, rfl, rfl⟩))
      injection e with e1 e2 e3; subst e1 e2 e3
      exact ⟨_, _, _, _, rfl, rfl, hc⟩
    · have hv := fitc_ok.1 hfit
      have := found_few hv.1.shaped hv.2.1.shaped (by omega) (by omega) hnd hfo; omega
    · obtain ⟨A59, n60, n61, rfl, hc⟩ := fin w58 pv 0 zs hE58 hpv (.inr (.inr ⟨hfit, hw, rfl, hsort, hmem⟩))
      exact ⟨_, _, _, _, rfl, rfl, hc⟩
  refine c32 ha0 hb0 la lb (by omega) (by omega) (fun hbad => ?_) (fun hfit hns w25 hE25 => ?_) fun hfit hw w25 qv qs hE25 hqv hsort hmem hlen => ?_
  · exact ⟨_, _, _, _, rfl, rfl, rest w _ _ _ _ [] Ext.rfl' (nilP _) (.inl ⟨hbad, rfl, rfl⟩) (by simp)⟩
  · exact ⟨_, _, _, _, rfl, rfl, rest w25 _ _ _ _ [] hE25 (nilP _) (.inr (.inl ⟨hfit, hns, rfl, rfl⟩)) (by simp)⟩
  · have hqv0 := hqv
    obtain ⟨Q, qc, rfl, _, _⟩ := hqv
    exact ⟨_, _, _, _, rfl, rfl, rest w25 _ _ _ _ qs hE25 hqv0 (.inr (.inr ⟨hfit, hw, rfl, hsort, hmem⟩)) hlen⟩
end Go.Proofs.Ytnkpjlhbojjneaa.VC
