/- The reference tells two machines apart. -/
import Derived.Test.YtnkpjlhbojjneaaGb
import Derived.Test.YtnkpjlhbojjneaaGj
import Derived.Test.YtnkpjlhbojjneaaGh
import Derived.Test.YtnkpjlhbojjneaaGk
/- The conditions of functions, printed by wip/tools/gen.py. -/
namespace Go.Proofs.Ytnkpjlhbojjneaa.VC
open Go Go.RowKit

set_option maxRecDepth 100000 in
theorem s62 (l s : Int) (A : Option Addr) (n c : Nat) (B : Option Addr) (m d : Nat) (lb sb : Int) (Ab : Option Addr) (nb cb : Nat) (Bb : Option Addr) (mb db : Nat) (w : World) (R : Value → List (List Value) → World → Prop) (h :
    ∀ (_n1 _n2 : Nat), CallsI Try.prog 16 [Value.agg (Array.mk [Value.int IntKind.i64 l, Value.int IntKind.i64 s, Value.slice A n c, Value.slice B m d])] w [] fun (v3 : Value) (l4 : List (List Value)) (w5
        : World) => ∃ (x6 : Int), v3 = Value.int IntKind.i64 x6 ∧ l4 = [] ∧ condK (x6 != 0) (R (Value.int IntKind.i64 1) [] w5) (CallsI Try.prog 16 [Value.agg (Array.mk [Value.int IntKind.i64 lb, Value.int
        IntKind.i64 sb, Value.slice Ab nb cb, Value.slice Bb mb db])] w5 [] fun (v7 : Value) (l8 : List (List Value)) (w9 : World) => ∃ (x10 : Int), v7 = Value.int IntKind.i64 x10 ∧ l8 = [] ∧ condK (x10 != 0)
        (R (Value.int IntKind.i64 1) [] w9) (condK (l != lb) (R (Value.int IntKind.i64 4) [] w9) (R (Value.int IntKind.i64 0) [] w9)))) :
    CallsI Try.prog 62 [(.agg #[.int .i64 l, .int .i64 s, .slice A n c, .slice B m d]), (.agg #[.int .i64 lb, .int .i64 sb, .slice Ab nb cb, .slice Bb mb db])] w [] R :=
  vcFun_sound (H := ⟨[], []⟩) (args := [.v (.agg #[.int .i64 l, .int .i64 s, .slice A n c, .slice B m d]), .v (.agg #[.int .i64 lb, .int .i64 sb, .slice Ab nb cb, .slice Bb mb db])]) (L := []) goodP Try.func62 (by simp [okp]) (by rw [Try.ntmps62]; simp) (by simp [okp]) (Eq.mp (by kernel_rfl) h)

set_option maxRecDepth 100000 in
theorem s95 (D : Option Addr) (k e : Nat) (p q : Int) (w : World) (R : Value → List (List Value) → World → Prop) (h :
    ∀ (_n1 : Nat), ∃ (I2 : Int → Lp), (I2 0).1 w ∧ ∀ (x3 : Int) (w4 : World), (I2 x3).1 w4 → ∀ (n5 : Nat), (I2 x3).m w4 = n5 → condK (decide (x3 < (↑k : Int))) (IxV D k 2 x3 fun (a6 : Addr) => ∃ (x7 :
        Int), ∃ (x8 : Int), w4.cell? a6 = some (Value.int IntKind.i64 x7) ∧ w4.cell? (a6.add 1) = some (Value.int IntKind.i64 x8) ∧ condK (x7 == p && x8 == q) (R (Value.int IntKind.i64 x3) [] w4) ((I2
        (IntKind.i64.wrap (x3 + 1))).1 w4 ∧ (I2 (IntKind.i64.wrap (x3 + 1))).m w4 < n5)) (R (Value.int IntKind.i64 (-1)) [] w4)) :
    CallsI Try.prog 95 [(.slice D k e), (.agg #[.int .i64 p, .int .i64 q])] w [] R :=
  vcFun_sound (H := ⟨[], [(0, [(5, .int .i64)], [])]⟩) (args := [.v (.slice D k e), .v (.agg #[.int .i64 p, .int .i64 q])]) (L := []) goodP Try.func95 (by simp [okp]) (by rw [Try.ntmps95]; simp) (by simp [okp]) (Eq.mp (by kernel_rfl) h)

def J94_1 (R : Value → List (List Value) → World → Prop) (A8 : Option Addr) (n9 : Nat) (n10 : Nat) (A14 : Option Addr) (n15 : Nat) (n16 : Nat) (A20 : Option Addr) (n21 : Nat) (n22 : Nat) (w23 : World)
    : Prop := R (Value.tuple (Array.mk [])) [[Value.slice A8 n9 n10, Value.slice A14 n15 n16, Value.slice A20 n21 n22]] w23

def J94_10 (P : Option Addr) (p0 : Nat) (p1 : Nat) (p : Int) (q : Int) (w : World) (x : Int) (F : Option Addr) (f0 : Nat) (f1 : Nat) (y : Int) (Z : Option Addr) (z0 : Nat) (z1 : Nat) (R : Value → List
    (List Value) → World → Prop) : Prop := CallsI Try.prog 95 [Value.slice P p0 p1, Value.agg (Array.mk [Value.int IntKind.i64 p, Value.int IntKind.i64 q])] w [] fun (v2 : Value) (l3 : List (List Value))
    (w4 : World) => ∃ (x5 : Int), v2 = Value.int IntKind.i64 x5 ∧ l3 = [] ∧ condK (decide (x5 < 0)) (NewK w4 (Obj.cells (Array.mk [Value.int IntKind.i64 p, Value.int IntKind.i64 q]) 50) fun (n6 : Nat) (w7
    : World) => AppK 16 2 [Value.int IntKind.i64 0, Value.int IntKind.i64 0] 50 P p0 p1 (some (Addr.mk n6 0 none)) 1 w7 fun (A8 : Option Addr) (n9 n10 : Nat) (w11 : World) => NewK w11 (Obj.cells (Array.mk
    [Value.int IntKind.i64 x]) 3) fun (n12 : Nat) (w13 : World) => AppK 8 1 [Value.int IntKind.i64 0] 3 F f0 f1 (some (Addr.mk n12 0 none)) 1 w13 fun (A14 : Option Addr) (n15 n16 : Nat) (w17 : World) =>
    NewK w17 (Obj.cells (Array.mk [Value.int IntKind.i64 y]) 3) fun (n18 : Nat) (w19 : World) => AppK 8 1 [Value.int IntKind.i64 0] 3 Z z0 z1 (some (Addr.mk n18 0 none)) 1 w19 fun (A20 : Option Addr) (n21
    n22 : Nat) (w23 : World) => J94_1 R A8 n9 n10 A14 n15 n16 A20 n21 n22 w23) (J94_1 R P p0 p1 F f0 f1 Z z0 z1 w4)

set_option maxRecDepth 100000 in
theorem s94 (b : Nat) (P : Option Addr) (p0 p1 : Nat) (F : Option Addr) (f0 f1 : Nat) (Z : Option Addr) (z0 z1 : Nat) (p q x y : Int) (w : World) (R : Value → List (List Value) → World → Prop) (h :
    ∀ (_n1 : Nat), condK (decide (p ≥ 0)) (J94_10 P p0 p1 p q w x F f0 f1 y Z z0 z1 R) (condK (decide (q ≥ 0)) (J94_10 P p0 p1 p q w x F f0 f1 y Z z0 z1 R) (J94_1 R P p0 p1 F f0 f1 Z z0 z1 w))) :
    CallsI Try.prog 94 [.pointer (some ⟨b, 0, none⟩), (.agg #[.int .i64 p, .int .i64 q]), (.int .i64 x), (.int .i64 y)] w [(b, 75, [.slice P p0 p1, .slice F f0 f1, .slice Z z0 z1])] R :=
  vcFun_sound (H := ⟨[], []⟩) (args := [.p 0 b 0, .v (.agg #[.int .i64 p, .int .i64 q]), .v (.int .i64 x), .v (.int .i64 y)]) (L := [⟨b, 75, [.v (.slice P p0 p1), .v (.slice F f0 f1), .v (.slice Z z0 z1)]⟩]) goodP Try.func94 (by simp [okp]) (by rw [Try.ntmps94]; simp) (by simp [okp]) (Eq.mp (by kernel_rfl) h)

def J63_1 (I34 : Int → Option Addr → Nat → Nat → Option Addr → Nat → Nat → Option Addr → Nat → Nat → Lp) (x35 : Int) (A59 : Option Addr) (n60 : Nat) (n61 : Nat) (A62 : Option Addr) (n63 : Nat) (n64 :
    Nat) (A65 : Option Addr) (n66 : Nat) (n67 : Nat) (w58 : World) (n46 : Nat) : Prop := (I34 (IntKind.i64.wrap (x35 + 1)) A59 n60 n61 A62 n63 n64 A65 n66 n67).1 w58 ∧ (I34 (IntKind.i64.wrap (x35 + 1))
    A59 n60 n61 A62 n63 n64 A65 n66 n67).m w58 < n46

def J63_5 (n4 : Nat) (x50 : Int) (x54 : Int) (x18 : Int) (x35 : Int) (w53 : World) (A36 : Option Addr) (n37 : Nat) (n38 : Nat) (A39 : Option Addr) (n40 : Nat) (n41 : Nat) (A42 : Option Addr) (n43 :
    Nat) (n44 : Nat) (I34 : Int → Option Addr → Nat → Nat → Option Addr → Nat → Nat → Option Addr → Nat → Nat → Lp) (n46 : Nat) : Prop := CallsI Try.prog 94 [Value.pointer (some (Addr.mk n4 0 none)),
    Value.agg (Array.mk [Value.int IntKind.i64 x50, Value.int IntKind.i64 x54]), Value.int IntKind.i64 x18, Value.int IntKind.i64 x35] w53 [(n4, 75, [Value.slice A36 n37 n38, Value.slice A39 n40 n41,
    Value.slice A42 n43 n44])] fun (v56 : Value) (l57 : List (List Value)) (w58 : World) => v56 = Value.tuple (Array.mk []) ∧ ∃ (A59 : Option Addr), ∃ (n60 : Nat), ∃ (n61 : Nat), ∃ (A62 : Option Addr), ∃
    (n63 : Nat), ∃ (n64 : Nat), ∃ (A65 : Option Addr), ∃ (n66 : Nat), ∃ (n67 : Nat), l57 = [[Value.slice A59 n60 n61, Value.slice A62 n63 n64, Value.slice A65 n66 n67]] ∧ J63_1 I34 x35 A59 n60 n61 A62 n63
    n64 A65 n66 n67 w58 n46

def J63_8 (st : Bool) (n4 : Nat) (x50 : Int) (x54 : Int) (x18 : Int) (x35 : Int) (w53 : World) (A36 : Option Addr) (n37 : Nat) (n38 : Nat) (A39 : Option Addr) (n40 : Nat) (n41 : Nat) (A42 : Option
    Addr) (n43 : Nat) (n44 : Nat) (I34 : Int → Option Addr → Nat → Nat → Option Addr → Nat → Nat → Option Addr → Nat → Nat → Lp) (n46 : Nat) : Prop := condK (!st) (J63_5 n4 x50 x54 x18 x35 w53 A36 n37 n38
    A39 n40 n41 A42 n43 n44 I34 n46) (condK (decide (x50 ≥ 0)) (condK (decide (x54 ≥ 0)) (J63_5 n4 x50 x54 x18 x35 w53 A36 n37 n38 A39 n40 n41 A42 n43 n44 I34 n46) (J63_1 I34 x35 A36 n37 n38 A39 n40 n41
    A42 n43 n44 w53 n46)) (J63_1 I34 x35 A36 n37 n38 A39 n40 n41 A42 n43 n44 w53 n46))

def J63_12 (lb : Int) (sb : Int) (Ab : Option Addr) (nb : Nat) (cb : Nat) (Bb : Option Addr) (mb : Nat) (db : Nat) (x32 : Int) (x35 : Int) (w49 : World) (st : Bool) (n4 : Nat) (x50 : Int) (x18 : Int)
    (A36 : Option Addr) (n37 : Nat) (n38 : Nat) (A39 : Option Addr) (n40 : Nat) (n41 : Nat) (A42 : Option Addr) (n43 : Nat) (n44 : Nat) (I34 : Int → Option Addr → Nat → Nat → Option Addr → Nat → Nat →
    Option Addr → Nat → Nat → Lp) (n46 : Nat) : Prop := CallsI Try.prog 49 [Value.agg (Array.mk [Value.int IntKind.i64 lb, Value.int IntKind.i64 sb, Value.slice Ab nb cb, Value.slice Bb mb db]), Value.int
    IntKind.i64 x32, Value.int IntKind.i64 x35] w49 [] fun (v81 : Value) (l82 : List (List Value)) (w83 : World) => ∃ (x84 : Int), v81 = Value.int IntKind.i64 x84 ∧ l82 = [] ∧ J63_8 st n4 x50 x84 x18 x35
    w83 A36 n37 n38 A39 n40 n41 A42 n43 n44 I34 n46

def J63_32 (n20 : Nat) (mx : Int) (A19 : Option Addr) (x18 : Int) (w28 : World) (n21 : Nat) (A22 : Option Addr) (n23 : Nat) (n24 : Nat) (A25 : Option Addr) (n26 : Nat) (n27 : Nat) (l : Int) (s : Int)
    (A : Option Addr) (n : Nat) (c : Nat) (B : Option Addr) (m : Nat) (d : Nat) (lb : Int) (sb : Int) (Ab : Option Addr) (nb : Nat) (cb : Nat) (Bb : Option Addr) (mb : Nat) (db : Nat) (st : Bool) (n4 :
    Nat) (I17 : Int → Option Addr → Nat → Nat → Option Addr → Nat → Nat → Option Addr → Nat → Nat → Lp) (n29 : Nat) (R : Value → List (List Value) → World → Prop) : Prop := condK (decide ((↑n20 : Int) ≤
    mx)) (IxV A19 n20 2 x18 fun (a30 : Addr) => ∃ (x31 : Int), ∃ (x32 : Int), w28.cell? a30 = some (Value.int IntKind.i64 x31) ∧ w28.cell? (a30.add 1) = some (Value.int IntKind.i64 x32) ∧ ∀ (_n33 : Nat),
    ∃ (I34 : Int → Option Addr → Nat → Nat → Option Addr → Nat → Nat → Option Addr → Nat → Nat → Lp), (I34 0 A19 n20 n21 A22 n23 n24 A25 n26 n27).1 w28 ∧ ∀ (x35 : Int) (A36 : Option Addr) (n37 n38 : Nat)
    (A39 : Option Addr) (n40 n41 : Nat) (A42 : Option Addr) (n43 n44 : Nat) (w45 : World), (I34 x35 A36 n37 n38 A39 n40 n41 A42 n43 n44).1 w45 → ∀ (n46 : Nat), (I34 x35 A36 n37 n38 A39 n40 n41 A42 n43
    n44).m w45 = n46 → condK (decide (x35 < l)) ((CallsI Try.prog 49 [Value.agg (Array.mk [Value.int IntKind.i64 l, Value.int IntKind.i64 s, Value.slice A n c, Value.slice B m d]), Value.int IntKind.i64
    x31, Value.int IntKind.i64 x35] w45 [] fun (v47 : Value) (l48 : List (List Value)) (w49 : World) => ∃ (x50 : Int), v47 = Value.int IntKind.i64 x50 ∧ l48 = [] ∧ (CallsI Try.prog 49 [Value.agg (Array.mk
    [Value.int IntKind.i64 lb, Value.int IntKind.i64 sb, Value.slice Ab nb cb, Value.slice Bb mb db]), Value.int IntKind.i64 x32, Value.int IntKind.i64 x35] w49 [] fun (v51 : Value) (l52 : List (List
    Value)) (w53 : World) => ∃ (x54 : Int), v51 = Value.int IntKind.i64 x54 ∧ l52 = [] ∧ (Nat → J63_8 st n4 x50 x54 x18 x35 w53 A36 n37 n38 A39 n40 n41 A42 n43 n44 I34 n46)) ∧ (Nat → J63_12 lb sb Ab nb cb
    Bb mb db x32 x35 w49 st n4 x50 x18 A36 n37 n38 A39 n40 n41 A42 n43 n44 I34 n46)) ∧ ∀ (_n85 : Nat), CallsI Try.prog 49 [Value.agg (Array.mk [Value.int IntKind.i64 l, Value.int IntKind.i64 s,
    Value.slice A n c, Value.slice B m d]), Value.int IntKind.i64 x31, Value.int IntKind.i64 x35] w45 [] fun (v86 : Value) (l87 : List (List Value)) (w88 : World) => ∃ (x89 : Int), v86 = Value.int
    IntKind.i64 x89 ∧ l87 = [] ∧ J63_12 lb sb Ab nb cb Bb mb db x32 x35 w88 st n4 x89 x18 A36 n37 n38 A39 n40 n41 A42 n43 n44 I34 n46) (J63_1 I17 x18 A36 n37 n38 A39 n40 n41 A42 n43 n44 w45 n29)) (R
    (Value.agg (Array.mk [Value.slice A19 n20 n21, Value.slice A22 n23 n24, Value.slice A25 n26 n27])) [] w28)

def J63_46 (n4 : Nat) (s : Int) (sb : Int) (w : World) (mx : Int) (l : Int) (A : Option Addr) (n : Nat) (c : Nat) (B : Option Addr) (m : Nat) (d : Nat) (lb : Int) (Ab : Option Addr) (nb : Nat) (cb :
    Nat) (Bb : Option Addr) (mb : Nat) (db : Nat) (st : Bool) (R : Value → List (List Value) → World → Prop) : Prop := CallsI Try.prog 94 [Value.pointer (some (Addr.mk n4 0 none)), Value.agg (Array.mk
    [Value.int IntKind.i64 s, Value.int IntKind.i64 sb]), Value.int IntKind.i64 (-1), Value.int IntKind.i64 (-1)] w [(n4, 75, [Value.slice none 0 0, Value.slice none 0 0, Value.slice none 0 0])] fun (v5 :
    Value) (l6 : List (List Value)) (w7 : World) => v5 = Value.tuple (Array.mk []) ∧ ∃ (A8 : Option Addr), ∃ (n9 : Nat), ∃ (n10 : Nat), ∃ (A11 : Option Addr), ∃ (n12 : Nat), ∃ (n13 : Nat), ∃ (A14 : Option
    Addr), ∃ (n15 : Nat), ∃ (n16 : Nat), l6 = [[Value.slice A8 n9 n10, Value.slice A11 n12 n13, Value.slice A14 n15 n16]] ∧ ∃ (I17 : Int → Option Addr → Nat → Nat → Option Addr → Nat → Nat → Option Addr →
    Nat → Nat → Lp), (I17 0 A8 n9 n10 A11 n12 n13 A14 n15 n16).1 w7 ∧ ∀ (x18 : Int) (A19 : Option Addr) (n20 n21 : Nat) (A22 : Option Addr) (n23 n24 : Nat) (A25 : Option Addr) (n26 n27 : Nat) (w28 :
    World), (I17 x18 A19 n20 n21 A22 n23 n24 A25 n26 n27).1 w28 → ∀ (n29 : Nat), (I17 x18 A19 n20 n21 A22 n23 n24 A25 n26 n27).m w28 = n29 → condK (decide (x18 < (↑n20 : Int))) (J63_32 n20 mx A19 x18 w28
    n21 A22 n23 n24 A25 n26 n27 l s A n c B m d lb sb Ab nb cb Bb mb db st n4 I17 n29 R) (R (Value.agg (Array.mk [Value.slice A19 n20 n21, Value.slice A22 n23 n24, Value.slice A25 n26 n27])) [] w28)

def J63_48 (w : World) (mx : Int) (l : Int) (s : Int) (A : Option Addr) (n : Nat) (c : Nat) (B : Option Addr) (m : Nat) (d : Nat) (lb : Int) (sb : Int) (Ab : Option Addr) (nb : Nat) (cb : Nat) (Bb :
    Option Addr) (mb : Nat) (db : Nat) (st : Bool) (n4 : Nat) (R : Value → List (List Value) → World → Prop) : Prop := ∃ (I106 : Int → Option Addr → Nat → Nat → Option Addr → Nat → Nat → Option Addr → Nat
    → Nat → Lp), (I106 0 none 0 0 none 0 0 none 0 0).1 w ∧ ∀ (x107 : Int) (A108 : Option Addr) (n109 n110 : Nat) (A111 : Option Addr) (n112 n113 : Nat) (A114 : Option Addr) (n115 n116 : Nat) (w117 :
    World), (I106 x107 A108 n109 n110 A111 n112 n113 A114 n115 n116).1 w117 → ∀ (n118 : Nat), (I106 x107 A108 n109 n110 A111 n112 n113 A114 n115 n116).m w117 = n118 → condK (decide (x107 < (↑n109 : Int)))
    (J63_32 n109 mx A108 x107 w117 n110 A111 n112 n113 A114 n115 n116 l s A n c B m d lb sb Ab nb cb Bb mb db st n4 I106 n118 R) (R (Value.agg (Array.mk [Value.slice A108 n109 n110, Value.slice A111 n112
    n113, Value.slice A114 n115 n116])) [] w117)

set_option maxRecDepth 100000 in
theorem s63 (l s : Int) (A : Option Addr) (n c : Nat) (B : Option Addr) (m d : Nat) (lb sb : Int) (Ab : Option Addr) (nb cb : Nat) (Bb : Option Addr) (mb db : Nat) (st : Bool) (mx : Int) (w : World) (R : Value → List (List Value) → World → Prop) (h :
    ∀ (_n1 _n2 _n3 n4 : Nat), condK (!st) (J63_46 n4 s sb w mx l A n c B m d lb Ab nb cb Bb mb db st R) (condK (decide (s ≥ 0)) (condK (decide (sb ≥ 0)) (J63_46 n4 s sb w mx l A n c B m d lb Ab nb cb Bb
        mb db st R) (J63_48 w mx l s A n c B m d lb sb Ab nb cb Bb mb db st n4 R)) (J63_48 w mx l s A n c B m d lb sb Ab nb cb Bb mb db st n4 R))) :
    CallsI Try.prog 63 [(.agg #[.int .i64 l, .int .i64 s, .slice A n c, .slice B m d]), (.agg #[.int .i64 lb, .int .i64 sb, .slice Ab nb cb, .slice Bb mb db]), (.bool st), (.int .i64 mx)] w [] R :=
  vcFun_sound (H := ⟨[((3, 6), [((75, 1), true)]), ((13, 4), [((75, 1), true)])], [(0, [(10, .int .i64)], [(75, 1)]), (2, [(12, .int .i64)], [(75, 1)])]⟩) (args := [.v (.agg #[.int .i64 l, .int .i64 s, .slice A n c, .slice B m d]), .v (.agg #[.int .i64 lb, .int .i64 sb, .slice Ab nb cb, .slice Bb mb db]), .v (.bool st), .v (.int .i64 mx)]) (L := []) goodP Try.func63 (by simp [okp]) (by rw [Try.ntmps63]; simp) (by simp [okp]) (Eq.mp (by kernel_rfl) h)

end Go.Proofs.Ytnkpjlhbojjneaa.VC

/- The conditions of functions, printed by wip/tools/gen.py. -/
namespace Go.Proofs.Ytnkpjlhbojjneaa.VC
open Go Go.RowKit

def J29_34 (x10 : Int) (x11 : Int) (A12 : Option Addr) (n13 : Nat) (n14 : Nat) (A15 : Option Addr) (n16 : Nat) (n17 : Nat) (x21 : Int) (x22 : Int) (A23 : Option Addr) (n24 : Nat) (n25 : Nat) (A26 :
    Option Addr) (n27 : Nat) (n28 : Nat) (w20 : World) (R : Value → List (List Value) → World → Prop) : Prop := CallsI Try.prog 63 [Value.agg (Array.mk [Value.int IntKind.i64 x10, Value.int IntKind.i64
    x11, Value.slice A12 n13 n14, Value.slice A15 n16 n17]), Value.agg (Array.mk [Value.int IntKind.i64 x21, Value.int IntKind.i64 x22, Value.slice A23 n24 n25, Value.slice A26 n27 n28]), Value.bool
    false, Value.int IntKind.i64 1073741824] w20 [] fun (v31 : Value) (l32 : List (List Value)) (w33 : World) => ∃ (A34 : Option Addr), ∃ (n35 : Nat), ∃ (n36 : Nat), ∃ (A37 : Option Addr), ∃ (n38 : Nat),
    ∃ (n39 : Nat), ∃ (A40 : Option Addr), ∃ (n41 : Nat), ∃ (n42 : Nat), v31 = Value.agg (Array.mk [Value.slice A34 n35 n36, Value.slice A37 n38 n39, Value.slice A40 n41 n42]) ∧ l32 = [] ∧ ∀ (_n43 : Nat),
    ∃ (I44 : Int → Lp), (I44 0).1 w33 ∧ ∀ (x45 : Int) (w46 : World), (I44 x45).1 w46 → ∀ (n47 : Nat), (I44 x45).m w46 = n47 → condK (decide (x45 < (↑n35 : Int))) (IxV A34 n35 2 x45 fun (a48 : Addr) => ∃
    (x49 : Int), ∃ (x50 : Int), w46.cell? a48 = some (Value.int IntKind.i64 x49) ∧ w46.cell? (a48.add 1) = some (Value.int IntKind.i64 x50) ∧ ∀ (_n51 : Nat), CallsI Try.prog 50 [Value.agg (Array.mk
    [Value.int IntKind.i64 x10, Value.int IntKind.i64 x11, Value.slice A12 n13 n14, Value.slice A15 n16 n17]), Value.int IntKind.i64 x49] w46 [] fun (v52 : Value) (l53 : List (List Value)) (w54 : World)
    => ∃ (t55 : Bool), v52 = Value.bool t55 ∧ l53 = [] ∧ CallsI Try.prog 50 [Value.agg (Array.mk [Value.int IntKind.i64 x21, Value.int IntKind.i64 x22, Value.slice A23 n24 n25, Value.slice A26 n27 n28]),
    Value.int IntKind.i64 x50] w54 [] fun (v56 : Value) (l57 : List (List Value)) (w58 : World) => ∃ (t59 : Bool), v56 = Value.bool t59 ∧ l57 = [] ∧ condK (!t55 == t59) (NewK w58 (Obj.cells (Array.mk [])
    3) fun (n60 : Nat) (w61 : World) => ∃ (I62 : Int → Option Addr → Nat → Nat → Lp), (I62 x45 (some (Addr.mk n60 0 none)) 0 0).1 w61 ∧ ∀ (x63 : Int) (A64 : Option Addr) (n65 n66 : Nat) (w67 : World),
    (I62 x63 A64 n65 n66).1 w67 → ∀ (n68 : Nat), (I62 x63 A64 n65 n66).m w67 = n68 → IxV A37 n38 1 x63 fun (a69 : Addr) => ∃ (x70 : Int), w67.cell? a69 = some (Value.int IntKind.i64 x70) ∧ condK (decide
    (x70 ≥ 0)) (IxV A40 n41 1 x63 fun (a71 : Addr) => ∃ (x72 : Int), w67.cell? a71 = some (Value.int IntKind.i64 x72) ∧ NewK w67 (Obj.cells (Array.mk [Value.int IntKind.i64 x72]) 3) fun (n73 : Nat) (w74 :
    World) => AppK 8 1 [Value.int IntKind.i64 0] 3 (some (Addr.mk n73 0 none)) 1 1 A64 n65 w74 fun (A75 : Option Addr) (n76 n77 : Nat) (w78 : World) => IxV A37 n38 1 x63 fun (a79 : Addr) => ∃ (x80 : Int),
    w78.cell? a79 = some (Value.int IntKind.i64 x80) ∧ (I62 x80 A75 n76 n77).1 w78 ∧ (I62 x80 A75 n76 n77).m w78 < n68) (CallsI Try.prog 50 [Value.agg (Array.mk [Value.int IntKind.i64 x10, Value.int
    IntKind.i64 x11, Value.slice A12 n13 n14, Value.slice A15 n16 n17]), Value.int IntKind.i64 x49] w67 [] fun (v81 : Value) (l82 : List (List Value)) (w83 : World) => ∃ (t84 : Bool), v81 = Value.bool t84
    ∧ l82 = [] ∧ R (Value.tuple (Array.mk [Value.slice A64 n65 n66, Value.bool t84, Value.int IntKind.i64 0])) [] w83)) ((I44 (IntKind.i64.wrap (x45 + 1))).1 w58 ∧ (I44 (IntKind.i64.wrap (x45 + 1))).m w58
    < n47)) (R (Value.tuple (Array.mk [Value.slice none 0 0, Value.bool false, Value.int IntKind.i64 7])) [] w46)

def J29_42 (lb : Int) (sb : Int) (Ab : Option Addr) (nb : Nat) (cb : Nat) (Bb : Option Addr) (mb : Nat) (db : Nat) (w9 : World) (x10 : Int) (x11 : Int) (A12 : Option Addr) (n13 : Nat) (n14 : Nat) (A15
    : Option Addr) (n16 : Nat) (n17 : Nat) (R : Value → List (List Value) → World → Prop) : Prop := CallsI Try.prog 53 [Value.agg (Array.mk [Value.int IntKind.i64 lb, Value.int IntKind.i64 sb, Value.slice
    Ab nb cb, Value.slice Bb mb db])] w9 [] fun (v142 : Value) (l143 : List (List Value)) (w144 : World) => ∃ (x145 : Int), ∃ (x146 : Int), ∃ (A147 : Option Addr), ∃ (n148 : Nat), ∃ (n149 : Nat), ∃ (A150
    : Option Addr), ∃ (n151 : Nat), ∃ (n152 : Nat), v142 = Value.agg (Array.mk [Value.int IntKind.i64 x145, Value.int IntKind.i64 x146, Value.slice A147 n148 n149, Value.slice A150 n151 n152]) ∧ l143 = []
    ∧ (Nat → J29_34 x10 x11 A12 n13 n14 A15 n16 n17 x145 x146 A147 n148 n149 A150 n151 n152 w144 R)

def J29_46 (lb : Int) (sb : Int) (Ab : Option Addr) (nb : Nat) (cb : Nat) (Bb : Option Addr) (mb : Nat) (db : Nat) (w9 : World) (x10 : Int) (x11 : Int) (A12 : Option Addr) (n13 : Nat) (n14 : Nat) (A15
    : Option Addr) (n16 : Nat) (n17 : Nat) (R : Value → List (List Value) → World → Prop) : Prop := CallsI Try.prog 53 [Value.agg (Array.mk [Value.int IntKind.i64 lb, Value.int IntKind.i64 sb, Value.slice
    Ab nb cb, Value.slice Bb mb db])] w9 [] fun (v155 : Value) (l156 : List (List Value)) (w157 : World) => ∃ (x158 : Int), ∃ (x159 : Int), ∃ (A160 : Option Addr), ∃ (n161 : Nat), ∃ (n162 : Nat), ∃ (A163
    : Option Addr), ∃ (n164 : Nat), ∃ (n165 : Nat), v155 = Value.agg (Array.mk [Value.int IntKind.i64 x158, Value.int IntKind.i64 x159, Value.slice A160 n161 n162, Value.slice A163 n164 n165]) ∧ l156 = []
    ∧ J29_34 x10 x11 A12 n13 n14 A15 n16 n17 x158 x159 A160 n161 n162 A163 n164 n165 w157 R

def J29_54 (l : Int) (s : Int) (A : Option Addr) (n : Nat) (c : Nat) (B : Option Addr) (m : Nat) (d : Nat) (w5 : World) (lb : Int) (sb : Int) (Ab : Option Addr) (nb : Nat) (cb : Nat) (Bb : Option
    Addr) (mb : Nat) (db : Nat) (R : Value → List (List Value) → World → Prop) : Prop := CallsI Try.prog 53 [Value.agg (Array.mk [Value.int IntKind.i64 l, Value.int IntKind.i64 s, Value.slice A n c,
    Value.slice B m d])] w5 [] fun (v192 : Value) (l193 : List (List Value)) (w194 : World) => ∃ (x195 : Int), ∃ (x196 : Int), ∃ (A197 : Option Addr), ∃ (n198 : Nat), ∃ (n199 : Nat), ∃ (A200 : Option
    Addr), ∃ (n201 : Nat), ∃ (n202 : Nat), v192 = Value.agg (Array.mk [Value.int IntKind.i64 x195, Value.int IntKind.i64 x196, Value.slice A197 n198 n199, Value.slice A200 n201 n202]) ∧ l193 = [] ∧ J29_42
    lb sb Ab nb cb Bb mb db w194 x195 x196 A197 n198 n199 A200 n201 n202 R ∧ (Nat → J29_46 lb sb Ab nb cb Bb mb db w194 x195 x196 A197 n198 n199 A200 n201 n202 R)

def J29_58 (l : Int) (s : Int) (A : Option Addr) (n : Nat) (c : Nat) (B : Option Addr) (m : Nat) (d : Nat) (w5 : World) (lb : Int) (sb : Int) (Ab : Option Addr) (nb : Nat) (cb : Nat) (Bb : Option
    Addr) (mb : Nat) (db : Nat) (R : Value → List (List Value) → World → Prop) : Prop := CallsI Try.prog 53 [Value.agg (Array.mk [Value.int IntKind.i64 l, Value.int IntKind.i64 s, Value.slice A n c,
    Value.slice B m d])] w5 [] fun (v228 : Value) (l229 : List (List Value)) (w230 : World) => ∃ (x231 : Int), ∃ (x232 : Int), ∃ (A233 : Option Addr), ∃ (n234 : Nat), ∃ (n235 : Nat), ∃ (A236 : Option
    Addr), ∃ (n237 : Nat), ∃ (n238 : Nat), v228 = Value.agg (Array.mk [Value.int IntKind.i64 x231, Value.int IntKind.i64 x232, Value.slice A233 n234 n235, Value.slice A236 n237 n238]) ∧ l229 = [] ∧ J29_46
    lb sb Ab nb cb Bb mb db w230 x231 x232 A233 n234 n235 A236 n237 n238 R

set_option maxRecDepth 100000 in
theorem s29 (l s : Int) (A : Option Addr) (n c : Nat) (B : Option Addr) (m d : Nat) (lb sb : Int) (Ab : Option Addr) (nb cb : Nat) (Bb : Option Addr) (mb db : Nat) (w : World) (R : Value → List (List Value) → World → Prop) (h :
    ∀ (_n1 _n2 : Nat), CallsI Try.prog 62 [Value.agg (Array.mk [Value.int IntKind.i64 l, Value.int IntKind.i64 s, Value.slice A n c, Value.slice B m d]), Value.agg (Array.mk [Value.int IntKind.i64 lb,
        Value.int IntKind.i64 sb, Value.slice Ab nb cb, Value.slice Bb mb db])] w [] fun (v3 : Value) (l4 : List (List Value)) (w5 : World) => ∃ (x6 : Int), v3 = Value.int IntKind.i64 x6 ∧ l4 = [] ∧ condK (x6
        != 0) (R (Value.tuple (Array.mk [Value.slice none 0 0, Value.bool false, Value.int IntKind.i64 x6])) [] w5) ((CallsI Try.prog 53 [Value.agg (Array.mk [Value.int IntKind.i64 l, Value.int IntKind.i64 s,
        Value.slice A n c, Value.slice B m d])] w5 [] fun (v7 : Value) (l8 : List (List Value)) (w9 : World) => ∃ (x10 : Int), ∃ (x11 : Int), ∃ (A12 : Option Addr), ∃ (n13 : Nat), ∃ (n14 : Nat), ∃ (A15 :
        Option Addr), ∃ (n16 : Nat), ∃ (n17 : Nat), v7 = Value.agg (Array.mk [Value.int IntKind.i64 x10, Value.int IntKind.i64 x11, Value.slice A12 n13 n14, Value.slice A15 n16 n17]) ∧ l8 = [] ∧ (CallsI
        Try.prog 53 [Value.agg (Array.mk [Value.int IntKind.i64 lb, Value.int IntKind.i64 sb, Value.slice Ab nb cb, Value.slice Bb mb db])] w9 [] fun (v18 : Value) (l19 : List (List Value)) (w20 : World) => ∃
        (x21 : Int), ∃ (x22 : Int), ∃ (A23 : Option Addr), ∃ (n24 : Nat), ∃ (n25 : Nat), ∃ (A26 : Option Addr), ∃ (n27 : Nat), ∃ (n28 : Nat), v18 = Value.agg (Array.mk [Value.int IntKind.i64 x21, Value.int
        IntKind.i64 x22, Value.slice A23 n24 n25, Value.slice A26 n27 n28]) ∧ l19 = [] ∧ (Nat → Nat → J29_34 x10 x11 A12 n13 n14 A15 n16 n17 x21 x22 A23 n24 n25 A26 n27 n28 w20 R) ∧ (Nat → Nat → J29_34 x10
        x11 A12 n13 n14 A15 n16 n17 x21 x22 A23 n24 n25 A26 n27 n28 w20 R)) ∧ (∀ (_n141 : Nat), J29_42 lb sb Ab nb cb Bb mb db w9 x10 x11 A12 n13 n14 A15 n16 n17 R ∧ (Nat → J29_46 lb sb Ab nb cb Bb mb db w9
        x10 x11 A12 n13 n14 A15 n16 n17 R)) ∧ ∀ (_n166 : Nat), J29_42 lb sb Ab nb cb Bb mb db w9 x10 x11 A12 n13 n14 A15 n16 n17 R ∧ (Nat → J29_46 lb sb Ab nb cb Bb mb db w9 x10 x11 A12 n13 n14 A15 n16 n17
        R)) ∧ (∀ (_n191 : Nat), J29_54 l s A n c B m d w5 lb sb Ab nb cb Bb mb db R ∧ (Nat → J29_58 l s A n c B m d w5 lb sb Ab nb cb Bb mb db R)) ∧ ∀ (_n250 : Nat), J29_54 l s A n c B m d w5 lb sb Ab nb cb
        Bb mb db R ∧ (Nat → J29_58 l s A n c B m d w5 lb sb Ab nb cb Bb mb db R))) :
    CallsI Try.prog 29 [(.agg #[.int .i64 l, .int .i64 s, .slice A n c, .slice B m d]), (.agg #[.int .i64 lb, .int .i64 sb, .slice Ab nb cb, .slice Bb mb db])] w [] R :=
  vcFun_sound (H := ⟨[], [(0, [(11, .int .i64)], []), (2, [(14, .int .i64), (13, .slice)], [])]⟩) (args := [.v (.agg #[.int .i64 l, .int .i64 s, .slice A n c, .slice B m d]), .v (.agg #[.int .i64 lb, .int .i64 sb, .slice Ab nb cb, .slice Bb mb db])]) (L := []) goodP Try.func29 (by simp [okp]) (by rw [Try.ntmps29]; simp) (by simp [okp]) (Eq.mp (by kernel_rfl) h)

def J6_1 (w5 : World) (R : Value → List (List Value) → World → Prop) : Prop := CallsI Try.prog 15 [] w5 [] fun (v7 : Value) (l8 : List (List Value)) (w9 : World) => ∃ (t10 : Bool), v7 = Value.bool t10
    ∧ l8 = [] ∧ R (Value.bool t10) [] w9

set_option maxRecDepth 100000 in
theorem s6 (l s : Int) (A : Option Addr) (n c : Nat) (B : Option Addr) (m d : Nat) (lb sb : Int) (Ab : Option Addr) (nb cb : Nat) (Bb : Option Addr) (mb db : Nat) (w : World) (R : Value → List (List Value) → World → Prop) (h :
    ∀ (_n1 _n2 : Nat), CallsI Try.prog 21 [Value.agg (Array.mk [Value.int IntKind.i64 l, Value.int IntKind.i64 s, Value.slice A n c, Value.slice B m d])] w [] fun (v3 : Value) (l4 : List (List Value)) (w5
        : World) => ∃ (t6 : Bool), v3 = Value.bool t6 ∧ l4 = [] ∧ condK (!t6) (J6_1 w5 R) (CallsI Try.prog 21 [Value.agg (Array.mk [Value.int IntKind.i64 lb, Value.int IntKind.i64 sb, Value.slice Ab nb cb,
        Value.slice Bb mb db])] w5 [] fun (v11 : Value) (l12 : List (List Value)) (w13 : World) => ∃ (t14 : Bool), v11 = Value.bool t14 ∧ l12 = [] ∧ condK (!t14) (J6_1 w13 R) (CallsI Try.prog 29 [Value.agg
        (Array.mk [Value.int IntKind.i64 l, Value.int IntKind.i64 s, Value.slice A n c, Value.slice B m d]), Value.agg (Array.mk [Value.int IntKind.i64 lb, Value.int IntKind.i64 sb, Value.slice Ab nb cb,
        Value.slice Bb mb db])] w13 [] fun (v19 : Value) (l20 : List (List Value)) (w21 : World) => ∃ (A22 : Option Addr), ∃ (n23 : Nat), ∃ (n24 : Nat), ∃ (t25 : Bool), ∃ (x26 : Int), v19 = Value.tuple
        (Array.mk [Value.slice A22 n23 n24, Value.bool t25, Value.int IntKind.i64 x26]) ∧ l20 = [] ∧ CallsI Try.prog 19 [Value.agg (Array.mk [Value.int IntKind.i64 l, Value.int IntKind.i64 s, Value.slice A n
        c, Value.slice B m d])] w21 [] fun (v27 : Value) (l28 : List (List Value)) (w29 : World) => ∃ (x30 : Int), ∃ (x31 : Int), ∃ (A32 : Option Addr), ∃ (n33 : Nat), ∃ (n34 : Nat), ∃ (A35 : Option Addr), ∃
        (n36 : Nat), ∃ (n37 : Nat), v27 = Value.agg (Array.mk [Value.int IntKind.i64 x30, Value.int IntKind.i64 x31, Value.slice A32 n33 n34, Value.slice A35 n36 n37]) ∧ l28 = [] ∧ CallsI Try.prog 19
        [Value.agg (Array.mk [Value.int IntKind.i64 lb, Value.int IntKind.i64 sb, Value.slice Ab nb cb, Value.slice Bb mb db])] w29 [] fun (v38 : Value) (l39 : List (List Value)) (w40 : World) => ∃ (x41 :
        Int), ∃ (x42 : Int), ∃ (A43 : Option Addr), ∃ (n44 : Nat), ∃ (n45 : Nat), ∃ (A46 : Option Addr), ∃ (n47 : Nat), ∃ (n48 : Nat), v38 = Value.agg (Array.mk [Value.int IntKind.i64 x41, Value.int
        IntKind.i64 x42, Value.slice A43 n44 n45, Value.slice A46 n47 n48]) ∧ l39 = [] ∧ CallsI Try.prog 26 [Value.agg (Array.mk [Value.int IntKind.i64 x30, Value.int IntKind.i64 x31, Value.slice A32 n33 n34,
        Value.slice A35 n36 n37]), Value.agg (Array.mk [Value.int IntKind.i64 x41, Value.int IntKind.i64 x42, Value.slice A43 n44 n45, Value.slice A46 n47 n48])] w40 [] fun (v49 : Value) (l50 : List (List
        Value)) (w51 : World) => ∃ (A52 : Option Addr), ∃ (n53 : Nat), ∃ (n54 : Nat), ∃ (t55 : Bool), ∃ (x56 : Int), v49 = Value.tuple (Array.mk [Value.slice A52 n53 n54, Value.bool t55, Value.int IntKind.i64
        x56]) ∧ l50 = [] ∧ condK (x26 == x56) (condK (t55 == t25) (CallsI Try.prog 30 [Value.slice A52 n53 n54, Value.slice A22 n23 n24] w51 [] fun (v57 : Value) (l58 : List (List Value)) (w59 : World) => ∃
        (t60 : Bool), v57 = Value.bool t60 ∧ l58 = [] ∧ condK t60 (J6_1 w59 R) (R (Value.bool false) [] w59)) (R (Value.bool false) [] w51)) (R (Value.bool false) [] w51)))) :
    CallsI Try.prog 6 [(.agg #[.int .i64 l, .int .i64 s, .slice A n c, .slice B m d]), (.agg #[.int .i64 lb, .int .i64 sb, .slice Ab nb cb, .slice Bb mb db])] w [] R :=
  vcFun_sound (H := ⟨[], []⟩) (args := [.v (.agg #[.int .i64 l, .int .i64 s, .slice A n c, .slice B m d]), .v (.agg #[.int .i64 lb, .int .i64 sb, .slice Ab nb cb, .slice Bb mb db])]) (L := []) goodP Try.func6 (by simp [okp]) (by rw [Try.ntmps6]; simp) (by simp [okp]) (Eq.mp (by kernel_rfl) h)

end Go.Proofs.Ytnkpjlhbojjneaa.VC

/- Pairs of states, found side by side. -/
namespace Go.Proofs.Ytnkpjlhbojjneaa.VC
open Go Go.RowKit

/-- pairs that are kept: with two states, or with one at the least -/
def okP (st : Bool) (p : IP) : Prop := if st = true then 0 ≤ p.1 ∧ 0 ≤ p.2 else 0 ≤ p.1 ∨ 0 ≤ p.2
theorem okP_or {st : Bool} {p : IP} (h : okP st p) : 0 ≤ p.1 ∨ 0 ≤ p.2 := by
  cases st with
  | true => exact .inl h.1
  | false => exact h
open Classical in
/-- pairs as things to be found -/
noncomputable def pairAuto (st : Bool) (a b : Mach) (fin : IP → Bool) : Auto IP := ⟨a.letters, fun p x => if okP st (pstep a b p x) then some (pstep a b p x) else none, fin⟩
theorem pairAuto_some {st : Bool} {a b : Mach} {fin : IP → Bool} {p : IP} {x : Int} (h : okP st (pstep a b p x)) : (pairAuto st a b fin).next p x = some (pstep a b p x) := if_pos h
theorem pairAuto_none {st : Bool} {a b : Mach} {fin : IP → Bool} {p : IP} {x : Int} (h : ¬ okP st (pstep a b p x)) : (pairAuto st a b fin).next p x = none := if_neg h
theorem not_okP {p : IP} (h : ¬ okP false p) (h1 : -1 ≤ p.1) (h2 : -1 ≤ p.2) : p = nowhere := by
  have : ¬ (0 ≤ p.1 ∨ 0 ≤ p.2) := h
  exact Prod.ext (show p.1 = -1 by omega) (show p.2 = -1 by omega)

structure WS (st : Bool) (a b : Mach) (ps : List IP) (cm bl : List Int) (rs : List (List Int)) (i j : Int) : Prop where
  part : ∀ fin, Part (pairAuto st a b fin) (a.start, b.start) ps rs
  lens : cm.length = ps.length ∧ bl.length = ps.length
  rng : ∀ p ∈ ps, ((-1 ≤ p.1 ∧ p.1 < a.next.length) ∧ (-1 ≤ p.2 ∧ p.2 < b.next.length)) ∧ okP st p
  walk : st = false → ∃ ws, Walk2 a b ps ws cm bl i j
section
variable {st : Bool} {a b : Mach} {ps : List IP} {cm bl : List Int} {rs : List (List Int)} {cur : List Int} {i j : Int}
theorem WS.init (ha : a.Shaped) (hb : b.Shaped) (h : okP st (a.start, b.start)) : WS st a b [(a.start, b.start)] [-1] [-1] [] 0 0 :=
  ⟨fun fin => Part.init _ _, ⟨rfl, rfl⟩, fun p hp => by rw [List.mem_singleton] at hp; subst hp; exact ⟨⟨ha.start_range, hb.start_range⟩, h⟩, fun _ => ⟨_, Walk2.init ha hb⟩⟩
theorem WS.open_ (h : WS st a b ps cm bl rs i j) : WS st a b ps cm bl (rs ++ [[]]) i j := ⟨fun fin => Part.empty.2 (h.part fin), h.lens, h.rng, h.walk⟩
theorem WS.count (h : WS st a b ps cm bl rs i j) : (ps.length : Int) ≤ (a.next.length + 1) * (b.next.length + 1) :=
  pairs_bound (h.part fun _ => false).nodup fun p hp => (h.rng p hp).1
theorem WS.skip (h : WS st a b ps cm bl (rs ++ [cur]) i j) (ha : a.Shaped) (hb : b.Shaped) (hi : (rs.length : Int) = i) (hj : (cur.length : Int) = j) {p : IP} (hp : ps[rs.length]? = some p) (hn : ¬ okP st (pstep a b p j)) :
    WS st a b ps cm bl (rs ++ [cur ++ [-1]]) i (j + 1) := by
  subst hi hj
  refine ⟨fun fin => (h.part fin).none hp (pairAuto_none hn), h.lens, h.rng, fun e => ?_⟩
  obtain ⟨ws, hw⟩ := h.walk e
  subst e
  exact ⟨ws, hw.skip (by omega) (by simpa using hp) (not_okP hn (ha.step_range _ _).1 (hb.step_range _ _).1)⟩
theorem WS.old (h : WS st a b ps cm bl (rs ++ [cur]) i j) (hi : (rs.length : Int) = i) (hj : (cur.length : Int) = j) {p : IP} (hp : ps[rs.length]? = some p) (hok : okP st (pstep a b p j)) (hm : pstep a b p j ∈ ps) :
    ∃ t : Int, WS st a b ps cm bl (rs ++ [cur ++ [t]]) i (j + 1) := by
  subst hi hj
  obtain ⟨k, hk⟩ := List.mem_iff_getElem?.1 hm
  refine ⟨k, fun fin => (h.part fin).old hp (pairAuto_some hok) hk, h.lens, h.rng, fun e => ?_⟩
  obtain ⟨ws, hw⟩ := h.walk e
  exact ⟨ws, hw.old (by omega) (by simpa using hp) hk⟩
theorem WS.fresh (h : WS st a b ps cm bl (rs ++ [cur]) i j) (ha : a.Shaped) (hb : b.Shaped) (hi : (rs.length : Int) = i) (hj : (cur.length : Int) = j) {p : IP} (hp : ps[rs.length]? = some p) (hlet : j < a.letters) (hok : okP st (pstep a b p j)) (hm : pstep a b p j ∉ ps) :
    WS st a b (ps ++ [pstep a b p j]) (cm ++ [i]) (bl ++ [j]) (rs ++ [cur ++ [(ps.length : Int)]]) i (j + 1) := by
  subst hi hj
  refine ⟨fun fin => (h.part fin).fresh hp (pairAuto_some hok) hlet hm, by simp [h.lens.1, h.lens.2], fun q hq => ?_, fun e => ?_⟩
  · rcases List.mem_append.1 hq with hq | hq
    · exact h.rng q hq
    · rw [List.mem_singleton] at hq; subst hq; exact ⟨⟨ha.step_range _ _, hb.step_range _ _⟩, hok⟩
  · obtain ⟨ws, hw⟩ := h.walk e
    have hlt := (List.getElem?_eq_some_iff.1 hp).1
    have hwg := List.getElem?_eq_getElem (l := ws) (i := rs.length) (by rw [hw.len]; exact hlt)
    exact ⟨_, hw.fresh ha hb (by omega) (by rw [Int.toNat_natCast]; exact hp) (by rw [Int.toNat_natCast]; exact hwg) hm⟩
theorem WS.row (h : WS st a b ps cm bl rs i j) (hj : a.letters ≤ j) : WS st a b ps cm bl rs (i + 1) 0 := ⟨h.part, h.lens, h.rng, fun e => by
  obtain ⟨ws, hw⟩ := h.walk e
  exact ⟨ws, hw.row hj⟩⟩
end
/-- all pairs are found -/
def WD (st : Bool) (a b : Mach) (ps : List IP) (cm bl : List Int) : Prop :=
  (okP st (a.start, b.start) ∧ ∃ rs, WS st a b ps cm bl rs ps.length 0 ∧ rs.length = ps.length ∧ ∀ row ∈ rs, (row.length : Int) = a.letters) ∨ (¬ okP st (a.start, b.start) ∧ ps = [] ∧ cm = [] ∧ bl = [])
end Go.Proofs.Ytnkpjlhbojjneaa.VC

/- The reference tells two machines apart. -/
namespace Go.Proofs.Ytnkpjlhbojjneaa.VC
open Go Go.RowKit

theorem c62 {w : World} {a b : Mach} {v u : Value} {R : Res} (ha : MachAt w a v) (hb : MachAt w b u) (la : a.Lim) (lb : b.Lim) (hR : R (.int .i64 (fitc a b)) [] w) : CallsI Try.prog 62 [v, u] w [] R := by
  have ha0 := ha; have hb0 := hb
  obtain ⟨A, n, c, B, k, d, rfl⟩ := ha.form
  obtain ⟨A', n', c', B', k', d', rfl⟩ := hb.form
  unfold fitc at hR
  refine s62 _ _ _ _ _ _ _ _ _ _ _ _ _ _ _ _ _ _ fun _ _ => c16 ha0 la ⟨_, rfl, rfl, ?_⟩
  refine condK_bne (fun h => ?_) fun h => ?_
  · rw [if_neg fun k => h (Mach.code_ok.2 k.1)] at hR; exact hR
  refine c16 hb0 lb ⟨_, rfl, rfl, ?_⟩
  refine condK_bne (fun h2 => ?_) fun h2 => ?_
  · rw [if_neg fun k => h2 (Mach.code_ok.2 k.2)] at hR; exact hR
  rw [if_pos ⟨Mach.code_ok.1 h, Mach.code_ok.1 h2⟩] at hR
  refine condK_bne (fun h3 => ?_) fun h3 => ?_
  · rw [if_neg h3] at hR; exact hR
  · rw [if_pos h3] at hR; exact hR

theorem c95 {w : World} {D : Option Addr} {e : Nat} {ps : List IP} {p : IP} {R : Res} (hD : Row w D (pcells ps)) (hl : ps.length ≤ 1099511627776) (yes : ∀ k : Nat, ps[k]? = some p → R (.int .i64 k) [] w) (no : p ∉ ps → R (.int .i64 (-1)) [] w) :
    CallsI Try.prog 95 [.slice D ps.length e, .agg (Array.mk [.int .i64 p.1, .int .i64 p.2])] w [] R := by
  refine s95 _ _ _ _ _ _ _ fun _ => ?_
  refine ⟨fun x3 => ⟨fun w4 => w4 = w ∧ 0 ≤ x3 ∧ x3 ≤ ps.length ∧ ∀ k : Nat, (k : Int) < x3 → ps[k]? ≠ some p, fun _ => (ps.length - x3).toNat⟩, ⟨rfl, by omega, by omega, fun k h => by omega⟩, ?_⟩
  rintro x3 w4 ⟨rfl, h30, h31, hno⟩ n5 rfl
  refine condK_dec (fun hlt => ?_) fun hge => no fun hm => ?_
  · have hg := get_gp (l := ps) h30 hlt
    refine rowP_get hD h30 hlt fun a c1 c2 => ⟨_, _, c1, c2, ?_⟩
    refine condK_of (fun h => ?_) fun h => ?_
    · have e2 : gp ps x3 = p := by
        simp only [Bool.and_eq_true, beq_iff_eq] at h
        exact Prod.ext h.1 h.2
      rw [e2] at hg
      have := yes x3.toNat hg
      rwa [show ((x3.toNat : Nat) : Int) = x3 by omega] at this
    · rw [wrap_id (by omega) (by omega)]
      refine ⟨⟨rfl, by omega, by omega, fun k hk hk2 => ?_⟩, by simp only []; omega⟩
      by_cases e : (k : Int) = x3
      · have : x3.toNat = k := by omega
        rw [this, hk2] at hg; injection hg with hg
        rw [← hg] at h; simp at h
      · exact hno k (by omega) hk2
  · obtain ⟨k, hk⟩ := List.mem_iff_getElem?.1 hm
    exact hno k (by have := (List.getElem?_eq_some_iff.1 hk).1; omega) hk

theorem c94 {w0 w : World} {F : FamF} {b : Nat} {P Fa Z : Option Addr} {p0 p1 f0 f1 z0 z1 : Nat} {ps : List IP} {cm bl : List Int} {p : IP} {x y : Int} {R : Res} (hF : Fam w0 w F) (hP : GP F 1 P p0 p1 ps) (hC : GSl F 2 Fa f0 f1 (ints cm)) (hB : GSl F 3 Z z0 z1 (ints bl))
    (hl : ps.length ≤ 1099511627776) (hlens : cm.length = ps.length ∧ bl.length = ps.length)
    (skip : ¬ ((0 ≤ p.1 ∨ 0 ≤ p.2) ∧ p ∉ ps) → R (.tuple (Array.mk [])) [[.slice P p0 p1, .slice Fa f0 f1, .slice Z z0 z1]] w)
    (add : (0 ≤ p.1 ∨ 0 ≤ p.2) → p ∉ ps → ∀ F' w' P' p' Fa' f' Z' z', (∀ j, j ≠ 1 → j ≠ 2 → j ≠ 3 → F' j = F j) → Fam w0 w' F' → GP F' 1 P' (p0 + 1) p' (ps ++ [p]) → GSl F' 2 Fa' (f0 + 1) f' (ints (cm ++ [x])) → GSl F' 3 Z' (z0 + 1) z' (ints (bl ++ [y])) → R (.tuple (Array.mk [])) [[.slice P' (p0 + 1) p', .slice Fa' (f0 + 1) f', .slice Z' (z0 + 1) z']] w') :
    CallsI Try.prog 94 [.pointer (some ⟨b, 0, none⟩), .agg (Array.mk [.int .i64 p.1, .int .i64 p.2]), .int .i64 x, .int .i64 y] w [(b, 75, [.slice P p0 p1, .slice Fa f0 f1, .slice Z z0 z1])] R := by
  have e1 := hP.len; have e2 := hC.len; have e3 := hB.len
  rw [ints_len] at e2 e3
  have body : (0 ≤ p.1 ∨ 0 ≤ p.2) → J94_10 P p0 p1 p.1 p.2 w x Fa f0 f1 y Z z0 z1 R := fun hok => by
    rw [J94_10, e1]
    refine c95 (hP.row hF) hl (fun k hk => ⟨_, rfl, rfl, ?_⟩) fun hno => ⟨_, rfl, rfl, ?_⟩
    · exact condK_dec (fun h => by omega) fun _ => by rw [← e1]; exact skip fun h => h.2 (List.mem_of_getElem? hk)
    · refine condK_dec (fun _ => ?_) fun h => absurd (by decide) h
      rw [← e1]
      refine hP.push (p := p) hF (by omega) fun F1 A8 c8 w11 ho1 hF1 hP1 => ?_
      refine GSl.push_int (hC.keep ho1 (by decide)) hF1 (by omega) fun F2 A14 c14 w17 ho2 hF2 hC2 => ?_
      refine GSl.push_int ((hB.keep ho1 (by decide)).keep ho2 (by decide)) hF2 (by omega) fun F3 A20 c20 w23 ho3 hF3 hB3 => ?_
      exact add hok hno F3 w23 A8 c8 A14 c14 A20 c20 (fun j a b c => by rw [ho3 j c, ho2 j b, ho1 j a]) hF3 ((hP1.same (ho2 1 (by decide))).same (ho3 1 (by decide))) (hC2.keep ho3 (by decide)) hB3
  refine s94 _ _ _ _ _ _ _ _ _ _ _ _ _ _ _ _ fun _ => ?_
  refine condK_dec (fun h => body (.inl h)) fun h1 => condK_dec (fun h => body (.inr h)) fun h2 => skip fun h => by omega

/-- a walk in memory -/
def WalkV (w : World) (v : Value) (ps : List IP) (cm bl : List Int) : Prop :=
  ∃ P pc Fa fc Z zc, v = .agg (Array.mk [.slice P ps.length pc, .slice Fa cm.length fc, .slice Z bl.length zc]) ∧ ps.length ≤ pc ∧ Row w P (pcells ps) ∧ Row w Fa (ints cm) ∧ Row w Z (ints bl)

set_option maxHeartbeats 4000000 in
theorem c63 {w : World} {a b : Mach} {v u : Value} {st : Bool} {mx : Int} {R : Res} (ha : MachAt w a v) (hb : MachAt w b u) (hsa : a.Shaped) (hsb : b.Shaped) (hl : a.letters = b.letters) (hL : a.letters ≤ 1048576) (hmx : ((a.next.length : Int) + 1) * (b.next.length + 1) ≤ mx) (hmx2 : mx ≤ 1099511627776)
    (hR : ∀ w' v' ps cm bl, Ext w w' → WalkV w' v' ps cm bl → WD st a b ps cm bl → R v' [] w') : CallsI Try.prog 63 [v, u, .bool st, .int .i64 mx] w [] R := by
  have ha0 := ha; have hb0 := hb
  obtain ⟨A, n, c, B, k, d, rfl⟩ := ha.form
  obtain ⟨A', n', c', B', k', d', rfl⟩ := hb.form
  have hL0 := hsa.letters
  have h1mx : (0 : Int) ≤ ((a.next.length : Int) + 1) * (b.next.length + 1) := Int.mul_nonneg (by omega) (by omega)
  obtain ⟨Iw, hIw⟩ : ∃ Iw : Int → Option Addr → Nat → Nat → Option Addr → Nat → Nat → Option Addr → Nat → Nat → Lp, Iw = fun x18 A19 n20 n21 A22 n23 n24 A25 n26 n27 => ⟨fun w28 => ∃ F ps cm bl, Fam w w28 F ∧ GP F 1 A19 n20 n21 ps ∧ GSl F 2 A22 n23 n24 (ints cm) ∧ GSl F 3 A25 n26 n27 (ints bl) ∧
      ((¬ okP st (a.start, b.start) ∧ ps = [] ∧ cm = [] ∧ bl = []) ∨ (okP st (a.start, b.start) ∧ ∃ rs, WS st a b ps cm bl rs x18 0 ∧ (rs.length : Int) = x18 ∧ x18 ≤ ps.length ∧ ∀ row ∈ rs, (row.length : Int) = a.letters)) ∧ 0 ≤ x18, fun _ => (mx - x18).toNat⟩ := ⟨_, rfl⟩
  have body : ∀ (n4 : Nat) (x18 : Int) (A19 : Option Addr) (n20 n21 : Nat) (A22 : Option Addr) (n23 n24 : Nat) (A25 : Option Addr) (n26 n27 : Nat) (w28 : World), (Iw x18 A19 n20 n21 A22 n23 n24 A25 n26 n27).1 w28 → ∀ n29, (Iw x18 A19 n20 n21 A22 n23 n24 A25 n26 n27).m w28 = n29 →
      condK (decide (x18 < (n20 : Int))) (J63_32 n20 mx A19 x18 w28 n21 A22 n23 n24 A25 n26 n27 a.letters a.start A n c B k d b.letters b.start A' n' c' B' k' d' st n4 Iw n29 R) (R (.agg (Array.mk [.slice A19 n20 n21, .slice A22 n23 n24, .slice A25 n26 n27])) [] w28) := by
    rw [hIw]
    rintro n4 x18 A19 n20 n21 A22 n23 n24 A25 n26 n27 w28 ⟨F, ps, cm, bl, hF, hP, hC, hB, hcase, h180⟩ n29 rfl
    have e1 := hP.len; have e2 := hC.len; have e3 := hB.len
    rw [ints_len] at e2 e3
    subst e1 e2 e3
    refine condK_dec (fun hlt => ?_) fun hge => ?_
    · rcases hcase with ⟨_, rfl, rfl, rfl⟩ | ⟨hst, rs, hws, hrl, h181, hrows⟩
      · simp at hlt; omega
      have hcnt := hws.count
      rw [J63_32]
      refine condK_dec (fun _ => ?_) fun h => by omega
      have hg := get_gp (l := ps) h180 hlt
      obtain ⟨p, hp⟩ : ∃ p, p = gp ps x18 := ⟨_, rfl⟩
      rw [← hp] at hg
      have hpr : ps[rs.length]? = some p := by rw [show rs.length = x18.toNat by omega]; exact hg
      refine hP.get hF h180 hlt fun a30 c1 c2 => ⟨_, _, c1, c2, fun _ => ?_⟩
      rw [← hp]
      have hprng := (hws.rng p (List.mem_of_getElem? hg)).1
      refine ⟨fun x35 A36 n37 n38 A39 n40 n41 A42 n43 n44 => ⟨fun w45 => ∃ F ps' cm' bl' cur, Fam w w45 F ∧ GP F 1 A36 n37 n38 ps' ∧ GSl F 2 A39 n40 n41 (ints cm') ∧ GSl F 3 A42 n43 n44 (ints bl') ∧ WS st a b ps' cm' bl' (rs ++ [cur]) x18 x35 ∧ (cur.length : Int) = x35 ∧ x35 ≤ a.letters ∧ ps'[rs.length]? = some p, fun _ => (a.letters - x35).toNat⟩,
        ⟨F, ps, cm, bl, [], hF, hP, hC, hB, hws.open_, rfl, hL0, hpr⟩, ?_⟩
      clear hF hP hC hB hws hg hpr hp c1 c2 hlt hcnt h181 F
      rintro x35 A36 n37 n38 A39 n40 n41 A42 n43 n44 w45 ⟨F, ps', cm', bl', cur, hF, hP, hC, hB, hws, hcl, h351, hpr⟩ n46 rfl
      have hcnt := hws.count
      have hpl := (List.getElem?_eq_some_iff.1 hpr).1
      have hE45 : Ext w w45 := hF.base
      refine condK_dec (fun hlt2 => ?_) fun hge2 => ?_
      · have hlet : a.Let x35 := ⟨by omega, hlt2⟩
        have hletb : b.Let x35 := ⟨by omega, by omega⟩
        -- the pair that is reached
        have step : J63_8 st n4 (a.step p.1 x35) (b.step p.2 x35) x18 x35 w45 A36 n37 n38 A39 n40 n41 A42 n43 n44 (fun x35 A36 n37 n38 A39 n40 n41 A42 n43 n44 => ⟨fun w45 => ∃ F ps' cm' bl' cur, Fam w w45 F ∧ GP F 1 A36 n37 n38 ps' ∧ GSl F 2 A39 n40 n41 (ints cm') ∧ GSl F 3 A42 n43 n44 (ints bl') ∧ WS st a b ps' cm' bl' (rs ++ [cur]) x18 x35 ∧ (cur.length : Int) = x35 ∧ x35 ≤ a.letters ∧ ps'[rs.length]? = some p, fun _ => (a.letters - x35).toNat⟩) (a.letters - x35).toNat := by
          have skip : ¬ okP st (pstep a b p x35) → J63_1 (fun x35 A36 n37 n38 A39 n40 n41 A42 n43 n44 => ⟨fun w45 => ∃ F ps' cm' bl' cur, Fam w w45 F ∧ GP F 1 A36 n37 n38 ps' ∧ GSl F 2 A39 n40 n41 (ints cm') ∧ GSl F 3 A42 n43 n44 (ints bl') ∧ WS st a b ps' cm' bl' (rs ++ [cur]) x18 x35 ∧ (cur.length : Int) = x35 ∧ x35 ≤ a.letters ∧ ps'[rs.length]? = some p, fun _ => (a.letters - x35).toNat⟩) x35 A36 n37 n38 A39 n40 n41 A42 n43 n44 w45 (a.letters - x35).toNat := fun hn => by
            rw [J63_1, wrap_id (by omega) (by omega)]
            exact ⟨⟨F, ps', cm', bl', _, hF, hP, hC, hB, hws.skip hsa hsb hrl hcl hpr hn, by simp; omega, by omega, hpr⟩, by simp only []; omega⟩
          have put : ((0 ≤ (pstep a b p x35).1 ∨ 0 ≤ (pstep a b p x35).2) → okP st (pstep a b p x35)) → J63_5 n4 (a.step p.1 x35) (b.step p.2 x35) x18 x35 w45 A36 n37 n38 A39 n40 n41 A42 n43 n44 (fun x35 A36 n37 n38 A39 n40 n41 A42 n43 n44 => ⟨fun w45 => ∃ F ps' cm' bl' cur, Fam w w45 F ∧ GP F 1 A36 n37 n38 ps' ∧ GSl F 2 A39 n40 n41 (ints cm') ∧ GSl F 3 A42 n43 n44 (ints bl') ∧ WS st a b ps' cm' bl' (rs ++ [cur]) x18 x35 ∧ (cur.length : Int) = x35 ∧ x35 ≤ a.letters ∧ ps'[rs.length]? = some p, fun _ => (a.letters - x35).toNat⟩) (a.letters - x35).toNat := fun hok => by
            rw [J63_5]
            refine c94 (p := pstep a b p x35) hF hP hC hB (by omega) hws.lens (fun hn => ?_) fun h1 h2 F' w' P' p' Fa' f' Z' z' ho hF' hP' hC' hB' => ?_
            · refine ⟨rfl, _, _, _, _, _, _, _, _, _, rfl, ?_⟩
              by_cases h1 : 0 ≤ (pstep a b p x35).1 ∨ 0 ≤ (pstep a b p x35).2
              · by_cases h2 : pstep a b p x35 ∈ ps'
                · obtain ⟨t, ht⟩ := hws.old hrl hcl hpr (hok h1) h2
                  rw [J63_1, wrap_id (by omega) (by omega)]
                  exact ⟨⟨F, ps', cm', bl', _, hF, hP, hC, hB, ht, by simp; omega, by omega, hpr⟩, by simp only []; omega⟩
                · exact absurd ⟨h1, h2⟩ hn
              · exact skip fun h => h1 (okP_or h)
            · refine ⟨rfl, _, _, _, _, _, _, _, _, _, rfl, ?_⟩
              rw [J63_1, wrap_id (by omega) (by omega)]
              exact ⟨⟨F', _, _, _, _, hF', hP', hC', hB', hws.fresh hsa hsb hrl hcl hpr hlt2 (hok h1) h2, by simp; omega, by omega, by rw [List.getElem?_append_left hpl]; exact hpr⟩, by simp only []; omega⟩
          rw [J63_8]
          cases st with
          | false => exact put fun h => h
          | true =>
            refine condK_of (fun h => by cases h) fun _ => ?_
            refine condK_dec (fun h1 => condK_dec (fun h2 => put fun _ => ⟨h1, h2⟩) fun h2 => skip fun h => h2 h.2) fun h1 => skip fun h => h1 h.1
        have two : J63_12 b.letters b.start A' n' c' B' k' d' p.2 x35 w45 st n4 (a.step p.1 x35) x18 A36 n37 n38 A39 n40 n41 A42 n43 n44 (fun x35 A36 n37 n38 A39 n40 n41 A42 n43 n44 => ⟨fun w45 => ∃ F ps' cm' bl' cur, Fam w w45 F ∧ GP F 1 A36 n37 n38 ps' ∧ GSl F 2 A39 n40 n41 (ints cm') ∧ GSl F 3 A42 n43 n44 (ints bl') ∧ WS st a b ps' cm' bl' (rs ++ [cur]) x18 x35 ∧ (cur.length : Int) = x35 ∧ x35 ≤ a.letters ∧ ps'[rs.length]? = some p, fun _ => (a.letters - x35).toNat⟩) (a.letters - x35).toNat :=
          c49 (hb0.ext hE45) hsb hprng.2.2 hletb ⟨_, rfl, rfl, step⟩
        refine ⟨c49 (ha0.ext hE45) hsa hprng.1.2 hlet ⟨_, rfl, rfl, c49 (hb0.ext hE45) hsb hprng.2.2 hletb ⟨_, rfl, rfl, fun _ => step⟩, fun _ => two⟩, fun _ => c49 (ha0.ext hE45) hsa hprng.1.2 hlet ⟨_, rfl, rfl, two⟩⟩
      · rw [J63_1, wrap_id (by omega) (by omega)]
        refine ⟨⟨F, ps', cm', bl', hF, hP, hC, hB, .inr ⟨hst, rs ++ [cur], hws.row (by omega), by simp; omega, by omega, fun row hr => ?_⟩, by omega⟩, by simp only []; omega⟩
        rcases List.mem_append.1 hr with hr | hr
        · exact hrows row hr
        · rw [List.mem_singleton] at hr; subst hr; omega
    · refine hR w28 _ ps cm bl hF.base ⟨_, _, _, _, _, _, rfl, hP.cap, hP.row hF, hC.row hF, hB.row hF⟩ ?_
      rcases hcase with h | ⟨hst, rs, hws, hrl, h181, hrows⟩
      · exact .inr h
      · have : x18 = ps.length := by omega
        subst this
        exact .inl ⟨hst, rs, hws, by omega, hrows⟩
  have called : ∀ n4, (okP st (a.start, b.start) ∨ st = false) → J63_46 n4 a.start b.start w mx a.letters A n c B k d b.letters A' n' c' B' k' d' st R := fun n4 hc => by
    rw [J63_46]
    refine c94 (p := (a.start, b.start)) (ps := []) (cm := []) (bl := []) (Fam.empty w) (.nil rfl) (.nil rfl) (.nil rfl) (by simp) ⟨rfl, rfl⟩ (fun hn => ⟨rfl, _, _, _, _, _, _, _, _, _, rfl, Iw, ?_, body n4⟩) fun h1 h2 F' w' P' p' Fa' f' Z' z' ho hF' hP' hC' hB' => ⟨rfl, _, _, _, _, _, _, _, _, _, rfl, Iw, ?_, body n4⟩
    · rw [hIw]
      refine ⟨fun _ => none, [], [], [], Fam.empty w, .nil rfl, .nil rfl, .nil rfl, .inl ⟨fun h => hn ⟨okP_or h, by simp⟩, rfl, rfl, rfl⟩, by omega⟩
    · have hok : okP st (a.start, b.start) := by
        rcases hc with h | rfl
        · exact h
        · exact h1
      rw [hIw]
      have hi := WS.init hsa hsb hok
      exact ⟨F', _, _, _, hF', hP', hC', hB', .inr ⟨hok, [], hi, rfl, by simp, by simp⟩, by omega⟩
  have idle : ∀ n4, ¬ okP st (a.start, b.start) → J63_48 w mx a.letters a.start A n c B k d b.letters b.start A' n' c' B' k' d' st n4 R := fun n4 hn => by
    refine ⟨Iw, ?_, body n4⟩
    rw [hIw]
    exact ⟨fun _ => none, [], [], [], Fam.empty w, .nil rfl, .nil rfl, .nil rfl, .inl ⟨hn, rfl, rfl, rfl⟩, by omega⟩
  refine s63 _ _ _ _ _ _ _ _ _ _ _ _ _ _ _ _ _ _ _ _ fun _ _ _ n4 => ?_
  cases st with
  | false => exact called n4 (.inr rfl)
  | true =>
    refine condK_of (fun h => by cases h) fun _ => ?_
    exact condK_dec (fun h1 => condK_dec (fun h2 => called n4 (.inl ⟨h1, h2⟩)) fun h2 => idle n4 fun h => h2 h.2) fun h1 => idle n4 fun h => h1 h.1
end Go.Proofs.Ytnkpjlhbojjneaa.VC

/- The first word that parts two machines: the reference, and the law. -/
namespace Go.Proofs.Ytnkpjlhbojjneaa.VC
open Go Go.RowKit

theorem First.congr {a b x y : Mach} {u : List Int} (h : First x y u) (ha : ∀ u, x.acc x.start u = a.acc a.start u) (hb : ∀ u, y.acc y.start u = b.acc b.start u) : First a b u :=
  ⟨by rw [← ha, ← hb]; exact h.parts, fun v hv => h.first v (by rw [ha, hb]; exact hv)⟩

set_option maxHeartbeats 4000000 in
theorem c29 {w : World} {a b : Mach} {v u : Value} {R : Res} (ha : MachAt w a v) (hb : MachAt w b u) (la : a.Lim) (lb : b.Lim) (hsma : a.next.length ≤ 60) (hsmb : b.next.length ≤ 60)
    (bad : fitc a b ≠ 0 → R (.tuple (Array.mk [.slice none 0 0, .bool false, .int .i64 (fitc a b)])) [] w)
    (same : fitc a b = 0 → (∀ u, a.acc a.start u = b.acc b.start u) → ∀ w', Ext w w' → R (.tuple (Array.mk [.slice none 0 0, .bool false, .int .i64 7])) [] w')
    (diff : fitc a b = 0 → ∀ w' wv u, Ext w w' → SlI w' wv u → u.length ≤ 1099511627776 → First a b u → R (.tuple (Array.mk [wv, .bool (a.acc a.start u), .int .i64 0])) [] w') :
    CallsI Try.prog 29 [v, u] w [] R := by
  have ha0 := ha; have hb0 := hb
  obtain ⟨A, n, c, B, k, d, rfl⟩ := ha.form
  obtain ⟨A', n', c', B', k', d', rfl⟩ := hb.form
  -- behind the two least machines
  have main : ∀ (w20 : World) (x y : Mach) (A12 : Option Addr) (n13 n14 : Nat) (A15 : Option Addr) (n16 n17 : Nat) (A23 : Option Addr) (n24 n25 : Nat) (A26 : Option Addr) (n27 n28 : Nat), fitc a b = 0 → Ext w w20 → IsLeast a x → IsLeast b y → x.next.length ≤ 60 → y.next.length ≤ 60 →
      MachAt w20 x (.agg (Array.mk [.int .i64 x.letters, .int .i64 x.start, .slice A12 n13 n14, .slice A15 n16 n17])) → MachAt w20 y (.agg (Array.mk [.int .i64 y.letters, .int .i64 y.start, .slice A23 n24 n25, .slice A26 n27 n28])) →
      J29_34 x.letters x.start A12 n13 n14 A15 n16 n17 y.letters y.start A23 n24 n25 A26 n27 n28 w20 R := by
    intro w20 x y A12 n13 n14 A15 n16 n17 A23 n24 n25 A26 n27 n28 hfit hE20 hlx hly hnx hny hx hy
    obtain ⟨hva, hvb, hlet⟩ := fitc_ok.1 hfit
    have hsx := hlx.canon.shaped; have hsy := hly.canon.shaped
    have hl : x.letters = y.letters := by rw [hlx.letters, hly.letters, hlet]
    have hal := hva.letters
    have hxl := hlx.letters
    have h3 : ((x.next.length : Int) + 1) * (y.next.length + 1) ≤ 61 * 61 := Int.mul_le_mul (by omega) (by omega) (by omega) (by omega)
    rw [J29_34]
    refine c63 hx hy hsx hsy hl (by omega) (by omega) (by decide) fun w33 v31 ps cm bl hE33 hwv hwd => ?_
    obtain ⟨P, pc, Fa, fc, Z, zc, rfl, hcap, hP, hC, hB⟩ := hwv
    refine ⟨_, _, _, _, _, _, _, _, _, rfl, rfl, fun _ => ?_⟩
    have hE : Ext w w33 := hE20.trans' hE33
    have hx33 := hx.ext hE33; have hy33 := hy.ext hE33
    have words : ∀ (hs : ∀ u, x.acc x.start u = y.acc y.start u), ∀ u, a.acc a.start u = b.acc b.start u := fun hs u => by rw [← hlx.words, ← hly.words, hs]
    have hpn : ps.length ≤ 3721 := by
      rcases hwd with ⟨_, rs, hws, _⟩ | ⟨_, rfl, _⟩
      · have := hws.count; omega
      · simp
    refine ⟨fun x45 => ⟨fun w46 => w46 = w33 ∧ 0 ≤ x45 ∧ x45 ≤ ps.length ∧ ∀ (k : Nat) p, (k : Int) < x45 → ps[k]? = some p → x.ends p.1 = y.ends p.2, fun _ => (ps.length - x45).toNat⟩, ⟨rfl, by omega, by omega, fun k p h => by omega⟩, ?_⟩
    rintro x45 w46 ⟨rfl, h450, h451, hsm⟩ n47 rfl
    refine condK_dec (fun hlt => ?_) fun hge => ?_
    · have hg := get_gp (l := ps) h450 hlt
      obtain ⟨hst, rs, hws, hrl, _⟩ := hwd.resolve_right fun h => by have h9 := h.2.1; rw [h9] at hlt; simp at hlt; omega
      obtain ⟨ws, hW⟩ := hws.walk rfl
      have hrng := (hws.rng _ (List.mem_of_getElem? hg)).1
      have hfx := hsx.fin; have hfy := hsy.fin
      refine rowP_get hP h450 hlt fun a48 c1 c2 => ⟨_, _, c1, c2, fun _ => ?_⟩
      refine c50 hx33 (by omega) ⟨_, rfl, rfl, ?_⟩
      refine c50 hy33 (by omega) ⟨_, rfl, rfl, ?_⟩
      refine condK_of (fun hne => ?_) fun heq => ?_
      · have hd : x.ends (gp ps x45).1 ≠ y.ends (gp ps x45).2 := by simpa using hne
        obtain ⟨wd, hwd⟩ : ∃ wd, ws[x45.toNat]? = some wd := ⟨_, List.getElem?_eq_getElem (by have := hW.len; omega)⟩
        -- a walk that is done as far as it is asked for
        have hlens := hW.lens
        have hfirst : First x y wd := by
          refine ⟨?_, fun v hv => ?_⟩
          · rw [(acc_prun (a := x) (b := y) wd).1, (acc_prun (a := x) (b := y) wd).2, hW.runs _ _ wd hg hwd]; exact hd
          · rw [(acc_prun (a := x) (b := y) v).1, (acc_prun (a := x) (b := y) v).2] at hv
            rcases hW.reach (by omega) hsx hsy hl v.length v rfl with h1 | ⟨k, v', h1, h2, h3⟩ | ⟨w', h1, h2⟩
            · rw [h1, (nowhere_ends (a := x) (b := y)).1, (nowhere_ends (a := x) (b := y)).2] at hv; exact absurd rfl hv
            · rcases ilt (k : Int) x45 with hk | hk
              · exact absurd (hsm k _ hk h1) hv
              · refine sle_trans ?_ h3
                by_cases e : k = x45.toNat
                · subst e; rw [hwd] at h2; injection h2 with h2; rw [h2]; exact sle_refl _
                · exact .inl (hW.mono _ k wd v' (by omega) hwd h2)
            · have := (List.getElem?_eq_some_iff.1 h1).1
              have := hW.len; omega
        refine (Fam.empty w46).mkRow 0 (xs := []) fun n60 F1 w61 ho1 hF1 hs1 => ?_
        replace hs1 : GSl F1 0 (some ⟨n60, 0, none⟩) 0 0 (ints []) := hs1
        refine ⟨fun x63 A64 n65 n66 => ⟨fun w67 => ∃ F word, Fam w46 w67 F ∧ GSl F 0 A64 n65 n66 (ints word) ∧ 0 ≤ x63 ∧ x63 < ps.length ∧ ∃ v, ws[x63.toNat]? = some v ∧ v ++ word = wd, fun _ => x63.toNat⟩,
          ⟨F1, [], hF1, hs1, h450, hlt, wd, hwd, by simp⟩, ?_⟩
        clear hF1 hs1 ho1 F1
        rintro x63 A64 n65 n66 w67 ⟨F, word, hF, hG, h630, h631, v, hv, hvw⟩ n68 rfl
        have hwl := hG.len; rw [ints_len] at hwl; subst hwl
        have hwdl : wd.length ≤ 3721 := by
          have := hfirst.len hsx hsy; omega
        have hwl2 : word.length ≤ 3721 := by
          have := congrArg List.length hvw; rw [List.length_append] at this; omega
        refine rd_int hF.base hC h630 (by omega) (K := fun x70 => condK (decide (x70 ≥ 0)) _ _) ?_
        refine condK_dec (fun hp => ?_) fun hn => ?_
        · rcases hW.tree _ v hv with ⟨h0, rfl⟩ | ⟨c2, v2, hc2, rfl, e1, e2, _⟩
          · have : x63 = 0 := by omega
            subst this
            rw [hW.head.2.2] at hp; omega
          have ec : ((x63.toNat : Nat) : Int) = x63 := by omega
          rw [ec] at e1
          refine rd_int hF.base hB h630 (by omega) (K := fun x72 => NewK _ _ _) ?_
          refine hF.mkRow 1 (xs := [.int .i64 (gi bl x63)]) fun n73 F2 w74 ho2 hF2 hs2 => ?_
          replace hs2 : GSl F2 1 (some ⟨n73, 0, none⟩) 1 1 (ints [gi bl x63]) := hs2
          have hG2 := hG.keep ho2 (by decide)
          refine hs2.append_ints hF2 (hG2.row hF2) rfl (by omega) fun F3 A75 c77 w78 ho3 hF3 hs3 => ?_
          refine rd_int hF3.base hC h630 (by omega) (K := fun x80 => Lp.inv _ _ ∧ Lp.m _ _ < _) ?_
          refine ⟨⟨_, gi bl x63 :: word, hF3.moves (i := 0) (k := 1) (by decide), hs3.at rfl, hp, by omega, v2, ?_, ?_⟩, ?_⟩
          · rw [e1, Int.toNat_natCast]; exact hc2
          · rw [← hvw, ec, List.append_assoc]; rfl
          · simp only []; omega
        · have hv0 : v = [] := by
            rcases hW.tree _ v hv with ⟨h0, rfl⟩ | ⟨c2, v2, hc2, rfl, e1, e2, _⟩
            · rfl
            · exfalso
              rw [show ((x63.toNat : Nat) : Int) = x63 by omega] at e1; omega
          rw [hv0, List.nil_append] at hvw
          subst hvw
          refine c50 (hx33.ext hF.base) (by omega) ⟨_, rfl, rfl, ?_⟩
          have hacc : x.ends (gp ps x45).1 = a.acc a.start word := by
            rw [← hlx.words, (acc_prun (a := x) (b := y) word).1, hW.runs _ _ word hg hwd]
          rw [hacc]
          exact diff hfit w67 _ word (hE.trans' hF.base) (hG.sli hF) (by omega) (hfirst.congr hlx.words hly.words)
      · have he : x.ends (gp ps x45).1 = y.ends (gp ps x45).2 := by simpa using heq
        rw [wrap_id (by omega) (by omega)]
        refine ⟨⟨rfl, by omega, by omega, fun k p hk hp => ?_⟩, by simp only []; omega⟩
        by_cases e : (k : Int) = x45
        · have : x45.toNat = k := by omega
          rw [this, hp] at hg; injection hg with hg; rw [hg]; exact he
        · exact hsm k p (by omega) hp
    · refine same hfit (words fun u => ?_) w46 hE
      rcases hwd with ⟨hst, rs, hws, hrl, _⟩ | ⟨hno, _⟩
      · obtain ⟨ws, hW⟩ := hws.walk rfl
        exact hW.same (Int.le_refl _) hsx hsy hl (fun k p hk hp => hsm k p (by omega) hp) u
      · have h1 := not_okP hno hsx.start_range.1 hsy.start_range.1
        rw [show x.start = -1 from congrArg Prod.fst h1, show y.start = -1 from congrArg Prod.snd h1, Mach.acc_neg (by decide), Mach.acc_neg (by decide)]
  -- the orders
  have second : ∀ (w9 : World) (x : Mach) (A12 : Option Addr) (n13 n14 : Nat) (A15 : Option Addr) (n16 n17 : Nat) (R' : Res), fitc a b = 0 → MachNew w w9 x (.agg (Array.mk [.int .i64 x.letters, .int .i64 x.start, .slice A12 n13 n14, .slice A15 n16 n17])) → IsLeast a x → x.next.length ≤ a.next.length →
      (∀ w20 (y : Mach) (A23 : Option Addr) (n24 n25 : Nat) (A26 : Option Addr) (n27 n28 : Nat), J29_34 x.letters x.start A12 n13 n14 A15 n16 n17 y.letters y.start A23 n24 n25 A26 n27 n28 w20 R → R' (.agg (Array.mk [.int .i64 y.letters, .int .i64 y.start, .slice A23 n24 n25, .slice A26 n27 n28])) [] w20) →
      CallsI Try.prog 53 [.agg (Array.mk [.int .i64 b.letters, .int .i64 b.start, .slice A' n' c', .slice B' k' d'])] w9 [] R' := by
    intro w9 x A12 n13 n14 A15 n16 n17 R' hfit hnew hlx hxn hR'
    obtain ⟨hva, hvb, hlet⟩ := fitc_ok.1 hfit
    have := hvb.letters
    refine c53 (hb0.ext hnew.below) hvb.shaped (by omega) (by omega) fun w20 y yv hny hly hyn => ?_
    obtain ⟨A23, n24, n25, A26, n27, n28, rfl⟩ := hny.at_.form
    exact hR' w20 y A23 n24 n25 A26 n27 n28 (main w20 x y _ _ _ _ _ _ _ _ _ _ _ _ hfit (hnew.below.trans' hny.below) hlx hly (by omega) (by omega) (hnew.at_.ext hny.below) hny.at_)
  have first : ∀ (R' : Res), fitc a b = 0 → (∀ w9 (x : Mach) (A12 : Option Addr) (n13 n14 : Nat) (A15 : Option Addr) (n16 n17 : Nat), MachNew w w9 x (.agg (Array.mk [.int .i64 x.letters, .int .i64 x.start, .slice A12 n13 n14, .slice A15 n16 n17])) → IsLeast a x → x.next.length ≤ a.next.length → R' (.agg (Array.mk [.int .i64 x.letters, .int .i64 x.start, .slice A12 n13 n14, .slice A15 n16 n17])) [] w9) →
      CallsI Try.prog 53 [.agg (Array.mk [.int .i64 a.letters, .int .i64 a.start, .slice A n c, .slice B k d])] w [] R' := by
    intro R' hfit hR'
    obtain ⟨hva, hvb, hlet⟩ := fitc_ok.1 hfit
    have := hva.letters
    refine c53 ha0 hva.shaped (by omega) (by omega) fun w9 x xv hnx hlx hxn => ?_
    obtain ⟨A12, n13, n14, A15, n16, n17, rfl⟩ := hnx.at_.form
    exact hR' w9 x A12 n13 n14 A15 n16 n17 hnx hlx hxn
  refine s29 _ _ _ _ _ _ _ _ _ _ _ _ _ _ _ _ _ _ fun _ _ => ?_
  refine c62 ha0 hb0 la lb ⟨_, rfl, rfl, ?_⟩
  refine condK_bne (fun h => bad h) fun hfit => ?_
  have j46 : ∀ w9 (x : Mach) (A12 : Option Addr) (n13 n14 : Nat) (A15 : Option Addr) (n16 n17 : Nat), MachNew w w9 x (.agg (Array.mk [.int .i64 x.letters, .int .i64 x.start, .slice A12 n13 n14, .slice A15 n16 n17])) → IsLeast a x → x.next.length ≤ a.next.length → J29_46 b.letters b.start A' n' c' B' k' d' w9 x.letters x.start A12 n13 n14 A15 n16 n17 R :=
    fun w9 x A12 n13 n14 A15 n16 n17 hn hlx hxn => second w9 x _ _ _ _ _ _ _ hfit hn hlx hxn fun w20 y A23 n24 n25 A26 n27 n28 hj => ⟨_, _, _, _, _, _, _, _, rfl, rfl, hj⟩
  have j42 : ∀ w9 (x : Mach) (A12 : Option Addr) (n13 n14 : Nat) (A15 : Option Addr) (n16 n17 : Nat), MachNew w w9 x (.agg (Array.mk [.int .i64 x.letters, .int .i64 x.start, .slice A12 n13 n14, .slice A15 n16 n17])) → IsLeast a x → x.next.length ≤ a.next.length → J29_42 b.letters b.start A' n' c' B' k' d' w9 x.letters x.start A12 n13 n14 A15 n16 n17 R :=
    fun w9 x A12 n13 n14 A15 n16 n17 hn hlx hxn => second w9 x _ _ _ _ _ _ _ hfit hn hlx hxn fun w20 y A23 n24 n25 A26 n27 n28 hj => ⟨_, _, _, _, _, _, _, _, rfl, rfl, fun _ => hj⟩
  have j54 : J29_54 a.letters a.start A n c B k d w b.letters b.start A' n' c' B' k' d' R := first _ hfit fun w9 x A12 n13 n14 A15 n16 n17 hn hlx hxn => ⟨_, _, _, _, _, _, _, _, rfl, rfl, j42 _ _ _ _ _ _ _ _ hn hlx hxn, fun _ => j46 _ _ _ _ _ _ _ _ hn hlx hxn⟩
  have j58 : J29_58 a.letters a.start A n c B k d w b.letters b.start A' n' c' B' k' d' R := first _ hfit fun w9 x A12 n13 n14 A15 n16 n17 hn hlx hxn => ⟨_, _, _, _, _, _, _, _, rfl, rfl, j46 _ _ _ _ _ _ _ _ hn hlx hxn⟩
  refine ⟨first _ hfit fun w9 x A12 n13 n14 A15 n16 n17 hn hlx hxn => ⟨_, _, _, _, _, _, _, _, rfl, rfl, ?_, ?_⟩, ⟨fun _ => ⟨j54, fun _ => j58⟩, fun _ => ⟨j54, fun _ => j58⟩⟩⟩
  · exact second w9 x _ _ _ _ _ _ _ hfit hn hlx hxn fun w20 y A23 n24 n25 A26 n27 n28 hj => ⟨_, _, _, _, _, _, _, _, rfl, rfl, fun _ _ => hj, fun _ _ => hj⟩
  · exact ⟨fun _ => ⟨j42 _ _ _ _ _ _ _ _ hn hlx hxn, fun _ => j46 _ _ _ _ _ _ _ _ hn hlx hxn⟩, fun _ => ⟨j42 _ _ _ _ _ _ _ _ hn hlx hxn, fun _ => j46 _ _ _ _ _ _ _ _ hn hlx hxn⟩⟩

theorem c6 {w : World} {a b : Mach} {v u : Value} {R : Res} (ha : MachAt w a v) (la : a.Lim) (hb : MachAt w b u) (lb : b.Lim) (hR : ∀ w', Ext w w' → R (.bool true) [] w') : CallsI Try.prog 6 [v, u] w [] R := by
  have ha0 := ha; have hb0 := hb
  obtain ⟨A, n, c, B, k, d, rfl⟩ := ha.form
  obtain ⟨A', n', c', B', k', d', rfl⟩ := hb.form
  have awake : ∀ w', Ext w w' → J6_1 w' R := fun w' hE => c15 fun w2 hE2 => ⟨_, rfl, rfl, hR w2 (hE.trans' hE2)⟩
  refine s6 _ _ _ _ _ _ _ _ _ _ _ _ _ _ _ _ _ _ fun _ _ => c21 ha0 (fun hsa => ⟨_, rfl, rfl, ?_⟩) fun _ => ⟨_, rfl, rfl, awake w Ext.rfl'⟩
  refine condK_of (fun h => by cases h) fun _ => ?_
  refine c21 hb0 (fun hsb => ⟨_, rfl, rfl, ?_⟩) fun _ => ⟨_, rfl, rfl, awake w Ext.rfl'⟩
  refine condK_of (fun h => by cases h) fun _ => ?_
  have h1 := hsa.1; have h2 := hsb.1
  -- the program's answer is that of the reference
  have rest : ∀ (w21 : World) (A22 : Option Addr) (n23 n24 : Nat) (t25 : Bool) (x26 : Int), Ext w w21 →
      ((fitc a b ≠ 0 ∧ x26 = fitc a b ∧ t25 = false ∧ SlI w21 (.slice A22 n23 n24) []) ∨ (fitc a b = 0 ∧ (∀ u, a.acc a.start u = b.acc b.start u) ∧ x26 = 7 ∧ t25 = false ∧ SlI w21 (.slice A22 n23 n24) []) ∨ (fitc a b = 0 ∧ ∃ u, First a b u ∧ x26 = 0 ∧ t25 = a.acc a.start u ∧ SlI w21 (.slice A22 n23 n24) u)) →
      CallsI Try.prog 19 [.agg (Array.mk [.int .i64 a.letters, .int .i64 a.start, .slice A n c, .slice B k d])] w21 [] fun v27 l28 w29 => ∃ x30 x31 A32 n33 n34 A35 n36 n37, v27 = .agg (Array.mk [.int .i64 x30, .int .i64 x31, .slice A32 n33 n34, .slice A35 n36 n37]) ∧ l28 = [] ∧
        CallsI Try.prog 19 [.agg (Array.mk [.int .i64 b.letters, .int .i64 b.start, .slice A' n' c', .slice B' k' d'])] w29 [] fun v38 l39 w40 => ∃ x41 x42 A43 n44 n45 A46 n47 n48, v38 = .agg (Array.mk [.int .i64 x41, .int .i64 x42, .slice A43 n44 n45, .slice A46 n47 n48]) ∧ l39 = [] ∧
          CallsI Try.prog 26 [.agg (Array.mk [.int .i64 x30, .int .i64 x31, .slice A32 n33 n34, .slice A35 n36 n37]), .agg (Array.mk [.int .i64 x41, .int .i64 x42, .slice A43 n44 n45, .slice A46 n47 n48])] w40 [] fun v49 l50 w51 => ∃ A52 n53 n54 t55 x56, v49 = .tuple (Array.mk [.slice A52 n53 n54, .bool t55, .int .i64 x56]) ∧ l50 = [] ∧
            condK (x26 == x56) (condK (t55 == t25) (CallsI Try.prog 30 [.slice A52 n53 n54, .slice A22 n23 n24] w51 [] fun v57 l58 w59 => ∃ t60, v57 = .bool t60 ∧ l58 = [] ∧ condK t60 (J6_1 w59 R) (R (.bool false) [] w59)) (R (.bool false) [] w51)) (R (.bool false) [] w51) := by
    intro w21 A22 n23 n24 t25 x26 hE21 hcase
    refine c19 (ha0.ext hE21) la fun w29 av hca => ?_
    obtain ⟨A32, n33, n34, A35, n36, n37, rfl⟩ := hca.at_.form
    refine ⟨_, _, _, _, _, _, _, _, rfl, rfl, ?_⟩
    refine c19 (hb0.ext (hE21.trans' hca.below)) lb fun w40 bv hcb => ?_
    obtain ⟨A43, n44, n45, A46, n47, n48, rfl⟩ := hcb.at_.form
    refine ⟨_, _, _, _, _, _, _, _, rfl, rfl, ?_⟩
    have hE40 : Ext w21 w40 := hca.below.trans' hcb.below
    have nilI : ∀ w : World, SlI w (.slice none 0 0) [] := fun w => ⟨none, 0, rfl, fun h => by simp [ints] at h⟩
    have fin : ∀ (w51 : World) (wv : Value) (x y : List Int), Ext w40 w51 → SlI w51 wv x → x.length ≤ 1099511627776 → SlI w21 (.slice A22 n23 n24) y → x = y → ∃ A52 n53 n54, wv = .slice A52 n53 n54 ∧
        CallsI Try.prog 30 [.slice A52 n53 n54, .slice A22 n23 n24] w51 [] fun v57 l58 w59 => ∃ t60, v57 = .bool t60 ∧ l58 = [] ∧ condK t60 (J6_1 w59 R) (R (.bool false) [] w59) := by
      intro w51 wv x y hE51 hx hxl hy e
      have hx0 := hx
      obtain ⟨X, xc, rfl, hX⟩ := hx
      refine ⟨_, _, _, rfl, c30 hx0 (hy.ext (hE40.trans' hE51)) hxl ⟨_, rfl, rfl, ?_⟩⟩
      rw [decide_eq_true e]
      exact condK_of (fun _ => awake w51 (hE21.trans' (hE40.trans' hE51))) fun h => by cases h
    refine c26 (hca.at_.ext hcb.below) hcb.at_ la lb (fun hbad => ?_) (fun hfit hw w51 hE51 => ?_) fun hfit w51 wv x hE51 hx hxl hf => ?_
    · rcases hcase with ⟨_, rfl, rfl, hy⟩ | ⟨h, _⟩ | ⟨h, _⟩
      · obtain ⟨A52, n53, n54, e, hc⟩ := fin w40 _ [] [] Ext.rfl' (nilI _) (by simp) hy rfl
        injection e with e1 e2 e3; subst e1 e2 e3
        exact ⟨_, _, _, _, _, rfl, rfl, condK_beq (fun _ => condK_beq (fun _ => hc) fun h => absurd rfl h) fun h => absurd rfl h⟩
      · exact absurd h hbad
      · exact absurd h hbad
    · rcases hcase with ⟨h, _⟩ | ⟨_, _, rfl, rfl, hy⟩ | ⟨_, u, hf, _⟩
      · exact absurd hfit h
      · obtain ⟨A52, n53, n54, e, hc⟩ := fin w51 _ [] [] hE51 (nilI _) (by simp) hy rfl
        injection e with e1 e2 e3; subst e1 e2 e3
        exact ⟨_, _, _, _, _, rfl, rfl, condK_beq (fun _ => condK_beq (fun _ => hc) fun h => absurd rfl h) fun h => absurd rfl h⟩
      · exact absurd (hw u) hf.parts
    · rcases hcase with ⟨h, _⟩ | ⟨_, hw, _⟩ | ⟨_, u, hf2, rfl, rfl, hy⟩
      · exact absurd hfit h
      · exact absurd (hw x) hf.parts
      · have e0 := hf.unique hf2
        obtain ⟨A52, n53, n54, rfl, hc⟩ := fin w51 _ x u hE51 hx hxl hy e0
        subst e0
        exact ⟨_, _, _, _, _, rfl, rfl, condK_beq (fun _ => condK_beq (fun _ => hc) fun h => absurd rfl h) fun h => absurd rfl h⟩
  have nilI : ∀ w : World, SlI w (.slice none 0 0) [] := fun w => ⟨none, 0, rfl, fun h => by simp [ints] at h⟩
  refine c29 ha0 hb0 la lb (by omega) (by omega) (fun hbad => ?_) (fun hfit hw w21 hE21 => ?_) fun hfit w21 wv x hE21 hx hxl hf => ?_
  · exact ⟨_, _, _, _, _, rfl, rfl, rest w _ _ _ _ _ Ext.rfl' (.inl ⟨hbad, rfl, rfl, nilI w⟩)⟩
  · exact ⟨_, _, _, _, _, rfl, rfl, rest w21 _ _ _ _ _ hE21 (.inr (.inl ⟨hfit, hw, rfl, rfl, nilI w21⟩))⟩
  · have hx0 := hx
    obtain ⟨X, xc, rfl, hX⟩ := hx
    exact ⟨_, _, _, _, _, rfl, rfl, rest w21 _ _ _ _ _ hE21 (.inr (.inr ⟨hfit, x, hf, rfl, rfl, hx0⟩))⟩
end Go.Proofs.Ytnkpjlhbojjneaa.VC
