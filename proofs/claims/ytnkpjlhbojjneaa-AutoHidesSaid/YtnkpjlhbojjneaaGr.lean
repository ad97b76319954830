/- Hidden letters, by the reference; the law. -/
import Derived.Test.YtnkpjlhbojjneaaGb
import Derived.Test.YtnkpjlhbojjneaaGq
/- The conditions of functions, printed by wip/tools/gen.py. -/
namespace Go.Proofs.Ytnkpjlhbojjneaa.VC
open Go Go.RowKit

def J70_2 (I17 : Int → Bool → Lp) (x18 : Int) (t19 : Bool) (w20 : World) (n21 : Nat) : Prop := (I17 (IntKind.i64.wrap (x18 + 1)) t19).1 w20 ∧ (I17 (IntKind.i64.wrap (x18 + 1)) t19).m w20 < n21

set_option maxRecDepth 100000 in
theorem s70 (l s : Int) (A : Option Addr) (n c : Nat) (B : Option Addr) (m d : Nat) (K : Option Addr) (k0 k1 : Nat) (G : Option Addr) (g0 g1 : Nat) (w : World) (R : Value → List (List Value) → World → Prop) (h :
    ∀ (_n1 : Nat), NewK w (Obj.cells (Array.mk []) 4) fun (n2 : Nat) (w3 : World) => AppK 1 1 [Value.bool false] 4 (some (Addr.mk n2 0 none)) 0 0 K k0 w3 fun (A4 : Option Addr) (n5 n6 : Nat) (w7 : World)
        => ∃ (I8 : Bool → Lp), (I8 true).1 w7 ∧ ∀ (t9 : Bool) (w10 : World), (I8 t9).1 w10 → ∀ (n11 : Nat), (I8 t9).m w10 = n11 → condK t9 (∃ (I12 : Int → Bool → Lp), (I12 0 false).1 w10 ∧ ∀ (x13 : Int) (t14
        : Bool) (w15 : World), (I12 x13 t14).1 w15 → ∀ (n16 : Nat), (I12 x13 t14).m w15 = n16 → condK (decide (x13 < (↑n5 : Int))) (∃ (I17 : Int → Bool → Lp), (I17 0 t14).1 w15 ∧ ∀ (x18 : Int) (t19 : Bool)
        (w20 : World), (I17 x18 t19).1 w20 → ∀ (n21 : Nat), (I17 x18 t19).m w20 = n21 → condK (decide (x18 < l)) (IxV A4 n5 1 x13 fun (a22 : Addr) => ∃ (t23 : Bool), w20.cell? a22 = some (Value.bool t23) ∧
        condK t23 (IxV A n 1 x13 fun (a24 : Addr) => ∃ (A25 : Option Addr), ∃ (n26 : Nat), ∃ (n27 : Nat), w20.cell? a24 = some (Value.slice A25 n26 n27) ∧ IxV A25 n26 1 x18 fun (a28 : Addr) => ∃ (x29 : Int),
        w20.cell? a28 = some (Value.int IntKind.i64 x29) ∧ IxV G g0 1 x18 fun (a30 : Addr) => ∃ (t31 : Bool), w20.cell? a30 = some (Value.bool t31) ∧ condK t31 (condK (decide (x29 ≥ 0)) (IxV A4 n5 1 x29 fun
        (a32 : Addr) => ∃ (t33 : Bool), w20.cell? a32 = some (Value.bool t33) ∧ condK (!t33) (IxV A4 n5 1 x29 fun (a34 : Addr) => SetK w20 a34 (Value.bool true) fun (w35 : World) => (I17 (IntKind.i64.wrap
        (x18 + 1)) true).1 w35 ∧ (I17 (IntKind.i64.wrap (x18 + 1)) true).m w35 < n21) (J70_2 I17 x18 t19 w20 n21)) (J70_2 I17 x18 t19 w20 n21)) (J70_2 I17 x18 t19 w20 n21)) (J70_2 I12 x13 t19 w20 n16)) (J70_2
        I12 x13 t19 w20 n16)) ((I8 t14).1 w15 ∧ (I8 t14).m w15 < n11)) (R (Value.slice A4 n5 n6) [] w10)) :
    CallsI Try.prog 70 [(.agg #[.int .i64 l, .int .i64 s, .slice A n c, .slice B m d]), (.slice K k0 k1), (.slice G g0 g1)] w [] R :=
  vcFun_sound (H := ⟨[], [(0, [(8, .bool)], []), (2, [(9, .int .i64), (8, .bool)], []), (4, [(10, .int .i64), (8, .bool)], [])]⟩) (args := [.v (.agg #[.int .i64 l, .int .i64 s, .slice A n c, .slice B m d]), .v (.slice K k0 k1), .v (.slice G g0 g1)]) (L := []) goodP Try.func70 (by simp [okp]) (by rw [Try.ntmps70]; simp) (by simp [okp]) (Eq.mp (by kernel_rfl) h)

set_option maxRecDepth 100000 in
theorem s71 (D : Option Addr) (k e : Nat) (K : Option Addr) (k0 k1 : Nat) (w : World) (R : Value → List (List Value) → World → Prop) (h :
    ∃ (I1 : Int → Lp), (I1 0).1 w ∧ ∀ (x2 : Int) (w3 : World), (I1 x2).1 w3 → ∀ (n4 : Nat), (I1 x2).m w3 = n4 → condK (decide (x2 < (↑k : Int))) (∃ (I5 : Int → Bool → Lp), (I5 0 true).1 w3 ∧ ∀ (x6 : Int)
        (t7 : Bool) (w8 : World), (I5 x6 t7).1 w8 → ∀ (n9 : Nat), (I5 x6 t7).m w8 = n9 → condK (decide (x6 < (↑k0 : Int))) (condK t7 (IxV D k 1 x2 fun (a10 : Addr) => ∃ (A11 : Option Addr), ∃ (n12 : Nat), ∃
        (n13 : Nat), w8.cell? a10 = some (Value.slice A11 n12 n13) ∧ IxV A11 n12 1 x6 fun (a14 : Addr) => ∃ (t15 : Bool), w8.cell? a14 = some (Value.bool t15) ∧ IxV K k0 1 x6 fun (a16 : Addr) => ∃ (t17 :
        Bool), w8.cell? a16 = some (Value.bool t17) ∧ (I5 (IntKind.i64.wrap (x6 + 1)) (t15 == t17)).1 w8 ∧ (I5 (IntKind.i64.wrap (x6 + 1)) (t15 == t17)).m w8 < n9) ((I5 (IntKind.i64.wrap (x6 + 1)) false).1 w8
        ∧ (I5 (IntKind.i64.wrap (x6 + 1)) false).m w8 < n9)) (condK t7 (R (Value.int IntKind.i64 x2) [] w8) ((I1 (IntKind.i64.wrap (x2 + 1))).1 w8 ∧ (I1 (IntKind.i64.wrap (x2 + 1))).m w8 < n4))) (R (Value.int
        IntKind.i64 (-1)) [] w3)) :
    CallsI Try.prog 71 [(.slice D k e), (.slice K k0 k1)] w [] R :=
  vcFun_sound (H := ⟨[], [(0, [(5, .int .i64)], []), (2, [(7, .int .i64), (6, .bool)], [])]⟩) (args := [.v (.slice D k e), .v (.slice K k0 k1)]) (L := []) goodP Try.func71 (by simp [okp]) (by rw [Try.ntmps71]; simp) (by simp [okp]) (Eq.mp (by kernel_rfl) h)

end Go.Proofs.Ytnkpjlhbojjneaa.VC

/- The conditions of functions, printed by wip/tools/gen.py. -/
namespace Go.Proofs.Ytnkpjlhbojjneaa.VC
open Go Go.RowKit

def J39_1 (R : Value → List (List Value) → World → Prop) (w5 : World) : Prop := R (Value.tuple (Array.mk [Value.agg (Array.mk [Value.int IntKind.i64 0, Value.int IntKind.i64 0, Value.slice none 0 0,
    Value.slice none 0 0]), Value.int IntKind.i64 1])) [] w5

def J39_2 (R : Value → List (List Value) → World → Prop) (x10 : Int) (x11 : Int) (A12 : Option Addr) (n13 : Nat) (n14 : Nat) (A15 : Option Addr) (n16 : Nat) (n17 : Nat) (w9 : World) : Prop := R
    (Value.tuple (Array.mk [Value.agg (Array.mk [Value.int IntKind.i64 x10, Value.int IntKind.i64 x11, Value.slice A12 n13 n14, Value.slice A15 n16 n17]), Value.int IntKind.i64 0])) [] w9

def J39_3 (I57 : Int → Bool → Lp) (x58 : Int) (w60 : World) (n61 : Nat) : Prop := (I57 (IntKind.i64.wrap (x58 + 1)) true).1 w60 ∧ (I57 (IntKind.i64.wrap (x58 + 1)) true).m w60 < n61

def J39_4 (I57 : Int → Bool → Lp) (x58 : Int) (t69 : Bool) (w60 : World) (n61 : Nat) : Prop := (I57 (IntKind.i64.wrap (x58 + 1)) t69).1 w60 ∧ (I57 (IntKind.i64.wrap (x58 + 1)) t69).m w60 < n61

def J39_18 (I70 : Int → Option Addr → Nat → Nat → Lp) (x71 : Int) (A126 : Option Addr) (n127 : Nat) (n128 : Nat) (w129 : World) (n76 : Nat) : Prop := (I70 (IntKind.i64.wrap (x71 + 1)) A126 n127
    n128).1 w129 ∧ (I70 (IntKind.i64.wrap (x71 + 1)) A126 n127 n128).m w129 < n76

def J39_28 (t83 : Bool) (x10 : Int) (x11 : Int) (A12 : Option Addr) (n13 : Nat) (n14 : Nat) (A15 : Option Addr) (n16 : Nat) (n17 : Nat) (n79 : Nat) (K : Option Addr) (k0 : Nat) (k1 : Nat) (w84 :
    World) (A72 : Option Addr) (n73 : Nat) (n74 : Nat) (n55 : Nat) (l : Int) (x71 : Int) (I70 : Int → Option Addr → Nat → Nat → Lp) (n76 : Nat) : Prop := condK t83 (CallsI Try.prog 70 [Value.agg (Array.mk
    [Value.int IntKind.i64 x10, Value.int IntKind.i64 x11, Value.slice A12 n13 n14, Value.slice A15 n16 n17]), Value.slice (some (Addr.mk n79 0 none)) n13 n13, Value.slice K k0 k1] w84 [] fun (v108 :
    Value) (l109 : List (List Value)) (w110 : World) => ∃ (A111 : Option Addr), ∃ (n112 : Nat), ∃ (n113 : Nat), v108 = Value.slice A111 n112 n113 ∧ l109 = [] ∧ CallsI Try.prog 71 [Value.slice A72 n73 n74,
    Value.slice A111 n112 n113] w110 [] fun (v114 : Value) (l115 : List (List Value)) (w116 : World) => ∃ (x117 : Int), v114 = Value.int IntKind.i64 x117 ∧ l115 = [] ∧ IxV (some (Addr.mk n55 0 none))
    l.toNat 1 x71 fun (a118 : Addr) => SetK w116 a118 (Value.int IntKind.i64 x117) fun (w119 : World) => IxV (some (Addr.mk n55 0 none)) l.toNat 1 x71 fun (a120 : Addr) => ∃ (x121 : Int), w119.cell? a120
    = some (Value.int IntKind.i64 x121) ∧ condK (decide (x121 < 0)) (IxV (some (Addr.mk n55 0 none)) l.toNat 1 x71 fun (a122 : Addr) => SetK w119 a122 (Value.int IntKind.i64 (↑n73 : Int)) fun (w123 :
    World) => NewK w123 (Obj.cells (Array.mk [Value.slice A111 n112 n113]) 23) fun (n124 : Nat) (w125 : World) => AppK 24 1 [Value.slice none 0 0] 23 A72 n73 n74 (some (Addr.mk n124 0 none)) 1 w125 fun
    (A126 : Option Addr) (n127 n128 : Nat) (w129 : World) => J39_18 I70 x71 A126 n127 n128 w129 n76) (J39_18 I70 x71 A72 n73 n74 w119 n76)) (J39_18 I70 x71 A72 n73 n74 w84 n76)

set_option maxRecDepth 100000 in
theorem s39 (l s : Int) (A : Option Addr) (n c : Nat) (B : Option Addr) (m d : Nat) (K : Option Addr) (k0 k1 : Nat) (w : World) (R : Value → List (List Value) → World → Prop) (h :
    ∀ (_n1 _n2 : Nat), CallsI Try.prog 16 [Value.agg (Array.mk [Value.int IntKind.i64 l, Value.int IntKind.i64 s, Value.slice A n c, Value.slice B m d])] w [] fun (v3 : Value) (l4 : List (List Value)) (w5
        : World) => ∃ (x6 : Int), v3 = Value.int IntKind.i64 x6 ∧ l4 = [] ∧ condK (x6 != 0) (J39_1 R w5) (condK ((↑k0 : Int) != l) (J39_1 R w5) (CallsI Try.prog 53 [Value.agg (Array.mk [Value.int IntKind.i64
        l, Value.int IntKind.i64 s, Value.slice A n c, Value.slice B m d])] w5 [] fun (v7 : Value) (l8 : List (List Value)) (w9 : World) => ∃ (x10 : Int), ∃ (x11 : Int), ∃ (A12 : Option Addr), ∃ (n13 : Nat),
        ∃ (n14 : Nat), ∃ (A15 : Option Addr), ∃ (n16 : Nat), ∃ (n17 : Nat), v7 = Value.agg (Array.mk [Value.int IntKind.i64 x10, Value.int IntKind.i64 x11, Value.slice A12 n13 n14, Value.slice A15 n16 n17]) ∧
        l8 = [] ∧ ∀ (_n18 : Nat), condK ((↑n13 : Int) == 0) (J39_2 R x10 x11 A12 n13 n14 A15 n16 n17 w9) ((↑n13 : Int) = (↑n13 : Int) ∧ 0 ≤ (↑n13 : Int) ∧ (↑n13 : Int) * (↑1 : Int) ≤ 281474976710656 ∧ (↑n13 :
        Int) ≤ 9223372036854775807 ∧ NewK w9 (Obj.cells (Array.mk (List.replicate n13 (Value.bool false))) 4) fun (n19 : Nat) (w20 : World) => IxV (some (Addr.mk n19 0 none)) n13 1 0 fun (a21 : Addr) => SetK
        w20 a21 (Value.bool true) fun (w22 : World) => CallsI Try.prog 70 [Value.agg (Array.mk [Value.int IntKind.i64 x10, Value.int IntKind.i64 x11, Value.slice A12 n13 n14, Value.slice A15 n16 n17]),
        Value.slice (some (Addr.mk n19 0 none)) n13 n13, Value.slice K k0 k1] w22 [] fun (v23 : Value) (l24 : List (List Value)) (w25 : World) => ∃ (A26 : Option Addr), ∃ (n27 : Nat), ∃ (n28 : Nat), v23 =
        Value.slice A26 n27 n28 ∧ l24 = [] ∧ NewK w25 (Obj.cells (Array.mk [Value.slice A26 n27 n28]) 23) fun (n29 : Nat) (w30 : World) => ∀ (_n31 : Nat), ∃ (I32 : Int → Option Addr → Nat → Nat → Int → Int →
        Option Addr → Nat → Nat → Option Addr → Nat → Nat → Int → Int → Option Addr → Nat → Nat → Option Addr → Nat → Nat → Lp), (I32 0 (some (Addr.mk n29 0 none)) 1 1 0 0 none 0 0 none 0 0 l 0 none 0 0 none
        0 0).1 w30 ∧ ∀ (x33 : Int) (A34 : Option Addr) (n35 n36 : Nat) (x37 x38 : Int) (A39 : Option Addr) (n40 n41 : Nat) (A42 : Option Addr) (n43 n44 : Nat) (x45 x46 : Int) (A47 : Option Addr) (n48 n49 :
        Nat) (A50 : Option Addr) (n51 n52 : Nat) (w53 : World), (I32 x33 A34 n35 n36 x37 x38 A39 n40 n41 A42 n43 n44 x45 x46 A47 n48 n49 A50 n51 n52).1 w53 → ∀ (n54 : Nat), (I32 x33 A34 n35 n36 x37 x38 A39
        n40 n41 A42 n43 n44 x45 x46 A47 n48 n49 A50 n51 n52).m w53 = n54 → condK (decide (x33 < (↑n35 : Int))) (l = l ∧ 0 ≤ l ∧ l * (↑8 : Int) ≤ 281474976710656 ∧ l ≤ 9223372036854775807 ∧ NewK w53 (Obj.cells
        (Array.mk (List.replicate l.toNat (Value.int IntKind.i64 0))) 3) fun (n55 : Nat) (w56 : World) => ∃ (I57 : Int → Bool → Lp), (I57 0 false).1 w56 ∧ ∀ (x58 : Int) (t59 : Bool) (w60 : World), (I57 x58
        t59).1 w60 → ∀ (n61 : Nat), (I57 x58 t59).m w60 = n61 → condK (decide (x58 < (↑n13 : Int))) (condK t59 (J39_3 I57 x58 w60 n61) (IxV A34 n35 1 x33 fun (a62 : Addr) => ∃ (A63 : Option Addr), ∃ (n64 :
        Nat), ∃ (n65 : Nat), w60.cell? a62 = some (Value.slice A63 n64 n65) ∧ IxV A63 n64 1 x58 fun (a66 : Addr) => ∃ (t67 : Bool), w60.cell? a66 = some (Value.bool t67) ∧ condK t67 (IxV A15 n16 1 x58 fun
        (a68 : Addr) => ∃ (t69 : Bool), w60.cell? a68 = some (Value.bool t69) ∧ J39_4 I57 x58 t69 w60 n61) ((I57 (IntKind.i64.wrap (x58 + 1)) false).1 w60 ∧ (I57 (IntKind.i64.wrap (x58 + 1)) false).m w60 <
        n61))) (∃ (I70 : Int → Option Addr → Nat → Nat → Lp), (I70 0 A34 n35 n36).1 w60 ∧ ∀ (x71 : Int) (A72 : Option Addr) (n73 n74 : Nat) (w75 : World), (I70 x71 A72 n73 n74).1 w75 → ∀ (n76 : Nat), (I70 x71
        A72 n73 n74).m w75 = n76 → condK (decide (x71 < l)) (IxV (some (Addr.mk n55 0 none)) l.toNat 1 x71 fun (a77 : Addr) => SetK w75 a77 (Value.int IntKind.i64 (-1)) fun (w78 : World) => (↑n13 : Int) =
        (↑n13 : Int) ∧ 0 ≤ (↑n13 : Int) ∧ (↑n13 : Int) * (↑1 : Int) ≤ 281474976710656 ∧ (↑n13 : Int) ≤ 9223372036854775807 ∧ NewK w78 (Obj.cells (Array.mk (List.replicate n13 (Value.bool false))) 4) fun (n79
        : Nat) (w80 : World) => ∃ (I81 : Int → Bool → Lp), (I81 0 false).1 w80 ∧ ∀ (x82 : Int) (t83 : Bool) (w84 : World), (I81 x82 t83).1 w84 → ∀ (n85 : Nat), (I81 x82 t83).m w84 = n85 → condK (decide (x82 <
        (↑n13 : Int))) (IxV K k0 1 x71 fun (a86 : Addr) => ∃ (t87 : Bool), w84.cell? a86 = some (Value.bool t87) ∧ condK (!t87) (IxV A72 n73 1 x33 fun (a88 : Addr) => ∃ (A89 : Option Addr), ∃ (n90 : Nat), ∃
        (n91 : Nat), w84.cell? a88 = some (Value.slice A89 n90 n91) ∧ IxV A89 n90 1 x82 fun (a92 : Addr) => ∃ (t93 : Bool), w84.cell? a92 = some (Value.bool t93) ∧ condK t93 (IxV A12 n13 1 x82 fun (a94 :
        Addr) => ∃ (A95 : Option Addr), ∃ (n96 : Nat), ∃ (n97 : Nat), w84.cell? a94 = some (Value.slice A95 n96 n97) ∧ IxV A95 n96 1 x71 fun (a98 : Addr) => ∃ (x99 : Int), w84.cell? a98 = some (Value.int
        IntKind.i64 x99) ∧ condK (decide (x99 ≥ 0)) (IxV A12 n13 1 x82 fun (a100 : Addr) => ∃ (A101 : Option Addr), ∃ (n102 : Nat), ∃ (n103 : Nat), w84.cell? a100 = some (Value.slice A101 n102 n103) ∧ IxV
        A101 n102 1 x71 fun (a104 : Addr) => ∃ (x105 : Int), w84.cell? a104 = some (Value.int IntKind.i64 x105) ∧ IxV (some (Addr.mk n79 0 none)) n13 1 x105 fun (a106 : Addr) => SetK w84 a106 (Value.bool
        true) fun (w107 : World) => J39_3 I81 x82 w107 n85) (J39_4 I81 x82 t83 w84 n85)) (J39_4 I81 x82 t83 w84 n85)) (J39_28 t83 x10 x11 A12 n13 n14 A15 n16 n17 n79 K k0 k1 w84 A72 n73 n74 n55 l x71 I70
        n76)) (J39_28 t83 x10 x11 A12 n13 n14 A15 n16 n17 n79 K k0 k1 w84 A72 n73 n74 n55 l x71 I70 n76)) (condK (decide ((↑n73 : Int) > 4000)) (R (Value.tuple (Array.mk [Value.agg (Array.mk [Value.int
        IntKind.i64 0, Value.int IntKind.i64 0, Value.slice none 0 0, Value.slice none 0 0]), Value.int IntKind.i64 5])) [] w75) (NewK w75 (Obj.cells (Array.mk [Value.slice (some (Addr.mk n55 0 none)) l.toNat
        l.toNat]) 26) fun (n152 : Nat) (w153 : World) => AppK 24 1 [Value.slice none 0 0] 26 A47 n48 n49 (some (Addr.mk n152 0 none)) 1 w153 fun (A154 : Option Addr) (n155 n156 : Nat) (w157 : World) => NewK
        w157 (Obj.cells (Array.mk [Value.bool t59]) 4) fun (n158 : Nat) (w159 : World) => AppK 1 1 [Value.bool false] 4 A50 n51 n52 (some (Addr.mk n158 0 none)) 1 w159 fun (A160 : Option Addr) (n161 n162 :
        Nat) (w163 : World) => (I32 (IntKind.i64.wrap (x33 + 1)) A72 n73 n74 x37 x38 A39 n40 n41 A42 n43 n44 x45 x46 A154 n155 n156 A160 n161 n162).1 w163 ∧ (I32 (IntKind.i64.wrap (x33 + 1)) A72 n73 n74 x37
        x38 A39 n40 n41 A42 n43 n44 x45 x46 A154 n155 n156 A160 n161 n162).m w163 < n54)))) (CallsI Try.prog 53 [Value.agg (Array.mk [Value.int IntKind.i64 x45, Value.int IntKind.i64 x46, Value.slice A47 n48
        n49, Value.slice A50 n51 n52])] w53 [] fun (v164 : Value) (l165 : List (List Value)) (w166 : World) => ∃ (x167 : Int), ∃ (x168 : Int), ∃ (A169 : Option Addr), ∃ (n170 : Nat), ∃ (n171 : Nat), ∃ (A172 :
        Option Addr), ∃ (n173 : Nat), ∃ (n174 : Nat), v164 = Value.agg (Array.mk [Value.int IntKind.i64 x167, Value.int IntKind.i64 x168, Value.slice A169 n170 n171, Value.slice A172 n173 n174]) ∧ l165 = [] ∧
        J39_2 R x167 x168 A169 n170 n171 A172 n173 n174 w166))))) :
    CallsI Try.prog 39 [(.agg #[.int .i64 l, .int .i64 s, .slice A n c, .slice B m d]), (.slice K k0 k1)] w [] R :=
  vcFun_sound (H := ⟨[], [(0, [(11, .int .i64), (9, .slice)], [(25, 1), (25, 3)]), (2, [(14, .int .i64), (13, .bool)], []), (4, [(15, .int .i64), (9, .slice)], []), (6, [(18, .int .i64), (17, .bool)], [])]⟩) (args := [.v (.agg #[.int .i64 l, .int .i64 s, .slice A n c, .slice B m d]), .v (.slice K k0 k1)]) (L := []) goodP Try.func39 (by simp [okp]) (by rw [Try.ntmps39]; simp) (by simp [okp]) (Eq.mp (by kernel_rfl) h)

end Go.Proofs.Ytnkpjlhbojjneaa.VC

/- The conditions of functions, printed by wip/tools/gen.py. -/
namespace Go.Proofs.Ytnkpjlhbojjneaa.VC
open Go Go.RowKit

def J13_1 (w4 : World) (R : Value → List (List Value) → World → Prop) : Prop := CallsI Try.prog 15 [] w4 [] fun (v6 : Value) (l7 : List (List Value)) (w8 : World) => ∃ (t9 : Bool), v6 = Value.bool t9
    ∧ l7 = [] ∧ R (Value.bool t9) [] w8

def J13_2 (I65 : Int → Lp) (x66 : Int) (w75 : World) (n68 : Nat) : Prop := (I65 (IntKind.i64.wrap (x66 + 1))).1 w75 ∧ (I65 (IntKind.i64.wrap (x66 + 1))).m w75 < n68

def J13_3 (I79 : Int → Option Addr → Nat → Nat → Lp) (x80 : Int) (A106 : Option Addr) (n107 : Nat) (n108 : Nat) (w109 : World) (n85 : Nat) : Prop := (I79 (IntKind.i64.wrap (x80 + 1)) A106 n107 n108).1
    w109 ∧ (I79 (IntKind.i64.wrap (x80 + 1)) A106 n107 n108).m w109 < n85

def J13_29 (I65 : Int → Lp) (w63 : World) (k : Nat) (x25 : Int) (D : Option Addr) (l : Int) (s : Int) (A : Option Addr) (n : Nat) (c : Nat) (B : Option Addr) (m : Nat) (d : Nat) (K : Option Addr) (k0
    : Nat) (x47 : Int) (x48 : Int) (A49 : Option Addr) (n50 : Nat) (n51 : Nat) (A52 : Option Addr) (n53 : Nat) (n54 : Nat) (R : Value → List (List Value) → World → Prop) : Prop := (I65 0).1 w63 ∧ ∀ (x66 :
    Int) (w67 : World), (I65 x66).1 w67 → ∀ (n68 : Nat), (I65 x66).m w67 = n68 → condK (decide (x66 < (↑k : Int))) (condK (x25 == 0) (IxV D k 1 x66 fun (a69 : Addr) => ∃ (A70 : Option Addr), ∃ (n71 :
    Nat), ∃ (n72 : Nat), w67.cell? a69 = some (Value.slice A70 n71 n72) ∧ CallsI Try.prog 20 [Value.agg (Array.mk [Value.int IntKind.i64 l, Value.int IntKind.i64 s, Value.slice A n c, Value.slice B m d]),
    Value.slice A70 n71 n72] w67 [] fun (v73 : Value) (l74 : List (List Value)) (w75 : World) => ∃ (t76 : Bool), v73 = Value.bool t76 ∧ l74 = [] ∧ condK (!t76) (J13_2 I65 x66 w75 n68) (NewK w75 (Obj.cells
    (Array.mk []) 3) fun (n77 : Nat) (w78 : World) => ∃ (I79 : Int → Option Addr → Nat → Nat → Lp), (I79 0 (some (Addr.mk n77 0 none)) 0 0).1 w78 ∧ ∀ (x80 : Int) (A81 : Option Addr) (n82 n83 : Nat) (w84 :
    World), (I79 x80 A81 n82 n83).1 w84 → ∀ (n85 : Nat), (I79 x80 A81 n82 n83).m w84 = n85 → IxV D k 1 x66 fun (a86 : Addr) => ∃ (A87 : Option Addr), ∃ (n88 : Nat), ∃ (n89 : Nat), w84.cell? a86 = some
    (Value.slice A87 n88 n89) ∧ condK (decide (x80 < (↑n88 : Int))) (IxV D k 1 x66 fun (a90 : Addr) => ∃ (A91 : Option Addr), ∃ (n92 : Nat), ∃ (n93 : Nat), w84.cell? a90 = some (Value.slice A91 n92 n93) ∧
    IxV A91 n92 1 x80 fun (a94 : Addr) => ∃ (x95 : Int), w84.cell? a94 = some (Value.int IntKind.i64 x95) ∧ IxV K k0 1 x95 fun (a96 : Addr) => ∃ (t97 : Bool), w84.cell? a96 = some (Value.bool t97) ∧ condK
    (!t97) (IxV D k 1 x66 fun (a98 : Addr) => ∃ (A99 : Option Addr), ∃ (n100 : Nat), ∃ (n101 : Nat), w84.cell? a98 = some (Value.slice A99 n100 n101) ∧ IxV A99 n100 1 x80 fun (a102 : Addr) => ∃ (x103 :
    Int), w84.cell? a102 = some (Value.int IntKind.i64 x103) ∧ NewK w84 (Obj.cells (Array.mk [Value.int IntKind.i64 x103]) 3) fun (n104 : Nat) (w105 : World) => AppK 8 1 [Value.int IntKind.i64 0] 3 A81
    n82 n83 (some (Addr.mk n104 0 none)) 1 w105 fun (A106 : Option Addr) (n107 n108 : Nat) (w109 : World) => J13_3 I79 x80 A106 n107 n108 w109 n85) (J13_3 I79 x80 A81 n82 n83 w84 n85)) (CallsI Try.prog 20
    [Value.agg (Array.mk [Value.int IntKind.i64 x47, Value.int IntKind.i64 x48, Value.slice A49 n50 n51, Value.slice A52 n53 n54]), Value.slice A81 n82 n83] w84 [] fun (v110 : Value) (l111 : List (List
    Value)) (w112 : World) => ∃ (t113 : Bool), v110 = Value.bool t113 ∧ l111 = [] ∧ condK (!t113) (R (Value.bool false) [] w112) (J13_2 I65 x66 w112 n68)))) (J13_1 w67 R)) (J13_1 w67 R)

def J13_34 (x25 : Int) (x47 : Int) (x48 : Int) (A49 : Option Addr) (n50 : Nat) (n51 : Nat) (A52 : Option Addr) (n53 : Nat) (n54 : Nat) (x17 : Int) (x18 : Int) (A19 : Option Addr) (n20 : Nat) (n21 :
    Nat) (A22 : Option Addr) (n23 : Nat) (n24 : Nat) (w59 : World) (R : Value → List (List Value) → World → Prop) (k : Nat) (D : Option Addr) (l : Int) (s : Int) (A : Option Addr) (n : Nat) (c : Nat) (B :
    Option Addr) (m : Nat) (d : Nat) (K : Option Addr) (k0 : Nat) : Prop := condK (x25 == 0) (CallsI Try.prog 24 [Value.agg (Array.mk [Value.int IntKind.i64 x47, Value.int IntKind.i64 x48, Value.slice A49
    n50 n51, Value.slice A52 n53 n54]), Value.agg (Array.mk [Value.int IntKind.i64 x17, Value.int IntKind.i64 x18, Value.slice A19 n20 n21, Value.slice A22 n23 n24])] w59 [] fun (v61 : Value) (l62 : List
    (List Value)) (w63 : World) => ∃ (t64 : Bool), v61 = Value.bool t64 ∧ l62 = [] ∧ condK (!t64) (R (Value.bool false) [] w63) (∃ (I65 : Int → Lp), J13_29 I65 w63 k x25 D l s A n c B m d K k0 x47 x48 A49
    n50 n51 A52 n53 n54 R)) (∃ (I65 : Int → Lp), J13_29 I65 w59 k x25 D l s A n c B m d K k0 x47 x48 A49 n50 n51 A52 n53 n54 R)

set_option maxRecDepth 100000 in
theorem s13 (l s : Int) (A : Option Addr) (n c : Nat) (B : Option Addr) (m d : Nat) (K : Option Addr) (k0 k1 : Nat) (D : Option Addr) (k e : Nat) (w : World) (R : Value → List (List Value) → World → Prop) (h :
    ∀ (_n1 : Nat), CallsI Try.prog 21 [Value.agg (Array.mk [Value.int IntKind.i64 l, Value.int IntKind.i64 s, Value.slice A n c, Value.slice B m d])] w [] fun (v2 : Value) (l3 : List (List Value)) (w4 :
        World) => ∃ (t5 : Bool), v2 = Value.bool t5 ∧ l3 = [] ∧ condK (!t5) (J13_1 w4 R) (condK (decide ((↑n : Int) > 14)) (J13_1 w4 R) (CallsI Try.prog 39 [Value.agg (Array.mk [Value.int IntKind.i64 l,
        Value.int IntKind.i64 s, Value.slice A n c, Value.slice B m d]), Value.slice K k0 k1] w4 [] fun (v14 : Value) (l15 : List (List Value)) (w16 : World) => ∃ (x17 : Int), ∃ (x18 : Int), ∃ (A19 : Option
        Addr), ∃ (n20 : Nat), ∃ (n21 : Nat), ∃ (A22 : Option Addr), ∃ (n23 : Nat), ∃ (n24 : Nat), ∃ (x25 : Int), v14 = Value.tuple (Array.mk [Value.agg (Array.mk [Value.int IntKind.i64 x17, Value.int
        IntKind.i64 x18, Value.slice A19 n20 n21, Value.slice A22 n23 n24]), Value.int IntKind.i64 x25]) ∧ l15 = [] ∧ ∀ (_n26 : Nat), CallsI Try.prog 19 [Value.agg (Array.mk [Value.int IntKind.i64 l,
        Value.int IntKind.i64 s, Value.slice A n c, Value.slice B m d])] w16 [] fun (v27 : Value) (l28 : List (List Value)) (w29 : World) => ∃ (x30 : Int), ∃ (x31 : Int), ∃ (A32 : Option Addr), ∃ (n33 : Nat),
        ∃ (n34 : Nat), ∃ (A35 : Option Addr), ∃ (n36 : Nat), ∃ (n37 : Nat), v27 = Value.agg (Array.mk [Value.int IntKind.i64 x30, Value.int IntKind.i64 x31, Value.slice A32 n33 n34, Value.slice A35 n36 n37])
        ∧ l28 = [] ∧ NewK w29 (Obj.cells (Array.mk []) 4) fun (n38 : Nat) (w39 : World) => AppK 1 1 [Value.bool false] 4 (some (Addr.mk n38 0 none)) 0 0 K k0 w39 fun (A40 : Option Addr) (n41 n42 : Nat) (w43 :
        World) => CallsI Try.prog 40 [Value.agg (Array.mk [Value.int IntKind.i64 x30, Value.int IntKind.i64 x31, Value.slice A32 n33 n34, Value.slice A35 n36 n37]), Value.slice A40 n41 n42] w43 [] fun (v44 :
        Value) (l45 : List (List Value)) (w46 : World) => ∃ (x47 : Int), ∃ (x48 : Int), ∃ (A49 : Option Addr), ∃ (n50 : Nat), ∃ (n51 : Nat), ∃ (A52 : Option Addr), ∃ (n53 : Nat), ∃ (n54 : Nat), ∃ (x55 : Int),
        v44 = Value.tuple (Array.mk [Value.agg (Array.mk [Value.int IntKind.i64 x47, Value.int IntKind.i64 x48, Value.slice A49 n50 n51, Value.slice A52 n53 n54]), Value.int IntKind.i64 x55]) ∧ l45 = [] ∧ ∀
        (_n56 : Nat), condK (x25 != x55) (R (Value.bool false) [] w46) (condK (x25 != 0) (CallsI Try.prog 24 [Value.agg (Array.mk [Value.int IntKind.i64 x47, Value.int IntKind.i64 x48, Value.slice A49 n50
        n51, Value.slice A52 n53 n54]), Value.agg (Array.mk [Value.int IntKind.i64 0, Value.int IntKind.i64 0, Value.slice none 0 0, Value.slice none 0 0])] w46 [] fun (v57 : Value) (l58 : List (List Value))
        (w59 : World) => ∃ (t60 : Bool), v57 = Value.bool t60 ∧ l58 = [] ∧ condK (!t60) (R (Value.bool false) [] w59) (J13_34 x25 x47 x48 A49 n50 n51 A52 n53 n54 x17 x18 A19 n20 n21 A22 n23 n24 w59 R k D l s
        A n c B m d K k0)) (J13_34 x25 x47 x48 A49 n50 n51 A52 n53 n54 x17 x18 A19 n20 n21 A22 n23 n24 w46 R k D l s A n c B m d K k0))))) :
    CallsI Try.prog 13 [(.agg #[.int .i64 l, .int .i64 s, .slice A n c, .slice B m d]), (.slice K k0 k1), (.slice D k e)] w [] R :=
  vcFun_sound (H := ⟨[], [(0, [(11, .int .i64)], []), (2, [(13, .int .i64), (12, .slice)], [])]⟩) (args := [.v (.agg #[.int .i64 l, .int .i64 s, .slice A n c, .slice B m d]), .v (.slice K k0 k1), .v (.slice D k e)]) (L := []) goodP Try.func13 (by simp [okp]) (by rw [Try.ntmps13]; simp) (by simp [okp]) (Eq.mp (by kernel_rfl) h)

end Go.Proofs.Ytnkpjlhbojjneaa.VC

/- Hide of the reference. -/
namespace Go.Proofs.Ytnkpjlhbojjneaa.VC
open Go Go.RowKit

/-- a slice of slices of truths -/
def GBB (F : FamF) (i : Nat) (g : Nat → Nat) (A : Option Addr) (n c : Nat) (xss : List (List Bool)) : Prop :=
  ∃ hs, GSl F i A n c hs ∧ hs.length = xss.length ∧ ∀ (t : Nat) h xs, hs[t]? = some h → xss[t]? = some xs → ∃ A' n' c', h = .slice A' n' c' ∧ GSl F (g t) A' n' c' (bools xs)
section
variable {w0 w : World} {F F' : FamF} {i : Nat} {A : Option Addr} {n c : Nat} {g : Nat → Nat} {xss : List (List Bool)}
theorem GBB.len (h : GBB F i g A n c xss) : n = xss.length := by obtain ⟨hs, h1, h2, _⟩ := h; rw [h1.len, h2]
theorem GBB.same (h : GBB F i g A n c xss) (e : F' i = F i) (hg : ∀ t, t < xss.length → F' (g t) = F (g t)) : GBB F' i g A n c xss := by
  obtain ⟨hs', h1, h2, h3⟩ := h
  refine ⟨hs', h1.same e, h2, fun t h xs ht hx => ?_⟩
  obtain ⟨A', n', c', e, h4⟩ := h3 t h xs ht hx
  exact ⟨A', n', c', e, h4.same (hg t (List.getElem?_eq_some_iff.1 hx).1)⟩
theorem GBB.get (h : GBB F i g A n c xss) (hF : Fam w0 w F) {x : Int} (h0 : 0 ≤ x) {xs : List Bool} (hx : xss[x.toNat]? = some xs) {K : Option Addr → Nat → Nat → Prop}
    (hk : ∀ A' c', GSl F (g x.toNat) A' xs.length c' (bools xs) → K A' xs.length c') : IxV A n 1 x fun a => ∃ A' n' c', w.cell? a = some (.slice A' n' c') ∧ K A' n' c' := by
  obtain ⟨hs, h3, h4, h5⟩ := h
  have hlt := (List.getElem?_eq_some_iff.1 hx).1
  refine h3.ix hF h0 (by omega) fun b rest v _ _ hv hc => ?_
  obtain ⟨A', n', c', rfl, h6⟩ := h5 _ _ _ hv hx
  have e := h6.len
  rw [bools_len] at e; subst e
  exact ⟨A', _, c', hc, hk _ _ h6⟩
theorem GBB.pushRow {A' : Option Addr} {n' c' : Nat} {ys : List Bool} {z : Value} {e e2 : TypeId} (h : GBB F i g A n c xss) (hr : GSl F (g xss.length) A' n' c' (bools ys)) (hF : Fam w0 w F) (hg : ∀ t, g t ≠ i) (hlim : n ≤ 5864062014804)
    {K : Option Addr → Nat → Nat → World → Prop} (k : ∀ F' A2 c2 w', Only i F F' → Fam w0 w' F' → GBB F' i g A2 (n + 1) c2 (xss ++ [ys]) → K A2 (n + 1) c2 w') :
    NewK w (.cells (Array.mk [.slice A' n' c']) e (0, 0)) fun bx w1 => AppK 24 1 [z] e2 A n c (some ⟨bx, 0, none⟩) 1 w1 K := by
  obtain ⟨hs, h1, h2, h3⟩ := h
  refine h1.push (bytes := 24) hF rfl (by omega) fun F' A2 c2 w' ho hF' hs' => k F' A2 c2 w' ho hF' ⟨_, hs', by simp [h2], fun t hd xs ht hx => ?_⟩
  rcases Nat.lt_or_ge t xss.length with hlt | hge
  · rw [List.getElem?_append_left (by omega)] at ht
    rw [List.getElem?_append_left hlt] at hx
    obtain ⟨A3, n3, c3, e3, h4⟩ := h3 t hd xs ht hx
    exact ⟨A3, n3, c3, e3, h4.keep ho (hg t)⟩
  · have hlt := (List.getElem?_eq_some_iff.1 hx).1
    rw [List.length_append, List.length_singleton] at hlt
    have : t = xss.length := by omega
    subst this
    rw [List.getElem?_append_right (by omega), h2, Nat.sub_self] at ht
    rw [List.getElem?_append_right (Nat.le_refl _), Nat.sub_self] at hx
    simp only [List.getElem?_cons_zero, Option.some.injEq] at ht hx
    subst ht hx
    exact ⟨A', n', c', rfl, hr.keep ho (hg _)⟩
end
def go (t : Nat) : Nat := 11 + 2 * t
theorem go_ne {t j : Nat} (h : j < 10) : go t ≠ j := by unfold go; omega
theorem go_ge (s t : Nat) : go s ≠ ge t := by unfold go ge; omega

/-- a set that grows to what is found by hidden letters -/
structure Cl (m : Mach) (hid P0 S : List Bool) : Prop where
  len : S.length = m.next.length
  base : ∀ s : Int, 0 ≤ s → gb P0 s = true → gb S s = true
  sub : ∀ s : Int, 0 ≤ s → s < m.next.length → gb S s = true → Clo m hid (fun s => 0 ≤ s ∧ gb P0 s = true) s
def ClTo (m : Mach) (hid S : List Bool) (i j : Int) : Prop := ∀ s y : Int, 0 ≤ s → (s < i ∨ s = i ∧ y < j) → gb S s = true → gb hid y = true → 0 ≤ m.step s y → gb S (m.step s y) = true
theorem Cl.done {m : Mach} {hid P0 S : List Bool} (h : Cl m hid P0 S) (_hm : m.Shaped) (hc : ClTo m hid S m.next.length 0) : S = cloL m hid fun s => 0 ≤ s ∧ gb P0 s = true :=
  cloL_eq h.len (fun s hP _ => h.base s hP.1 hP.2) h.sub fun s y h0 hg hy hs => hc s y h0 (.inl (by have := gb_true hg h0; have := h.len; omega)) hg hy hs

set_option maxHeartbeats 4000000 in
theorem c70 {w0 w : World} {F0 : FamF} {i : Nat} {m : Mach} {v : Value} {hid P0 : List Bool} {Kq : Option Addr} {q1 : Nat} {Gh : Option Addr} {g1 : Nat} {R : Res} (hF0 : Fam w0 w F0) (hm : MachAt w0 m v) (hsh : m.Shaped) (hN : m.next.length ≤ 1048576) (hL : m.letters ≤ 1048576)
    (hP : Row w Kq (bools P0)) (hPl : P0.length = m.next.length) (hG : Row w0 Gh (bools hid)) (hhid : (hid.length : Int) = m.letters)
    (hR : ∀ F' w' A' c', Only i F0 F' → Fam w0 w' F' → GSl F' i A' m.next.length c' (bools (cloL m hid fun s => 0 ≤ s ∧ gb P0 s = true)) → R (.slice A' m.next.length c') [] w') :
    CallsI Try.prog 70 [v, .slice Kq m.next.length q1, .slice Gh hid.length g1] w [] R := by
  obtain ⟨_, _, rfl, ⟨A, c, hs, rfl, hA, hl, hx⟩, ⟨B, d, rfl, hB⟩⟩ := hm
  have h0L := hsh.letters
  refine s70 _ _ _ _ _ _ _ _ _ _ _ _ _ _ _ _ fun _ => ?_
  refine hF0.mkRowE i (xs := []) fun n2 F1 w3 hE3 ho1 hF1 hs1 => ?_
  have hs1 : GSl F1 i (some ⟨n2, 0, none⟩) 0 0 (bools []) := hs1
  refine hs1.append_bools hF1 (hE3.row hP) hPl.symm (by omega) fun F2 A4 n6 w7 ho2 hF2 hs2 => ?_
  simp only [List.nil_append, Nat.zero_add] at hs2 ⊢
  refine ⟨fun t9 => ⟨fun w10 => ∃ F out, Fam w0 w10 F ∧ Only i F0 F ∧ GSl F i A4 m.next.length n6 (bools out) ∧ Cl m hid P0 out ∧ (t9 = false → ClTo m hid out m.next.length 0), fun w10 => if t9 then cntF w10 A4 m.next.length + 1 else 0⟩,
    ⟨F2, P0, hF2, fun j hj => by rw [ho2 j hj, ho1 j hj], hs2, ⟨hPl, fun s _ h => h, fun s h0 _ h => Clo.base ⟨h0, h⟩ h0⟩, fun h => by cases h⟩, ?_⟩
  clear hs1 hs2 ho1 ho2 hF1 hF2
  rintro t9 w10 ⟨F, out, hF, hon, hGo, hCl, hcl⟩ n11 rfl
  cases t9 with
  | false =>
    have := hCl.done hsh (hcl rfl)
    subst this
    exact hR F w10 A4 n6 hon hF hGo
  | true =>
  have hfc : cntF w10 A4 m.next.length = fcount out := cntF_row (hGo.row hF) (by rw [hCl.len])
  show condK true _ _
  refine condK_of (fun _ => ?_) fun h => by cases h
  refine ⟨fun x13 t14 => ⟨fun w15 => ∃ F o1, Fam w0 w15 F ∧ Only i F0 F ∧ GSl F i A4 m.next.length n6 (bools o1) ∧ Cl m hid P0 o1 ∧ (t14 = false → ClTo m hid o1 x13 0 ∧ o1 = out) ∧ (t14 = true → fcount o1 < fcount out) ∧ 0 ≤ x13 ∧ x13 ≤ m.next.length, fun _ => (m.next.length - x13).toNat⟩,
    ⟨F, out, hF, hon, hGo, hCl, fun _ => ⟨fun s y h0 h1 _ _ h2 => by have := (hsh.step_let h2).2.1; omega, rfl⟩, (fun h => by cases h), by omega, by omega⟩, ?_⟩
  clear hF hGo hon F
  rintro x13 t14 w15 ⟨F, o1, hF, hon, hGo, hCl1, hcl1, hfc1, h130, h131⟩ n16 rfl
  refine condK_dec (fun hlt => ?_) fun hge => ?_
  · refine ⟨fun x18 t19 => ⟨fun w20 => ∃ F o2, Fam w0 w20 F ∧ Only i F0 F ∧ GSl F i A4 m.next.length n6 (bools o2) ∧ Cl m hid P0 o2 ∧ (t19 = false → ClTo m hid o2 x13 x18 ∧ o2 = out) ∧ (t19 = true → fcount o2 < fcount out) ∧ 0 ≤ x18 ∧ x18 ≤ m.letters, fun _ => (m.letters - x18).toNat⟩,
      ⟨F, o1, hF, hon, hGo, hCl1, hcl1, hfc1, by omega, h0L⟩, ?_⟩
    clear hF hGo hon F hcl1 hfc1 hCl1 o1
    rintro x18 t19 w20 ⟨F, o2, hF, hon, hGo, hCl2, hcl2, hfc2, h180, h181⟩ n21 rfl
    have hE20 : Ext w0 w20 := hF.base
    have hol := hCl2.len
    have hnext : (gb o2 x13 = false ∨ m.letters ≤ x18) → J70_2 (fun x13 t14 => ⟨fun w15 => ∃ F o1, Fam w0 w15 F ∧ Only i F0 F ∧ GSl F i A4 m.next.length n6 (bools o1) ∧ Cl m hid P0 o1 ∧ (t14 = false → ClTo m hid o1 x13 0 ∧ o1 = out) ∧ (t14 = true → fcount o1 < fcount out) ∧ 0 ≤ x13 ∧ x13 ≤ m.next.length, fun _ => (m.next.length - x13).toNat⟩) x13 t19 w20 (m.next.length - x13).toNat := fun hrest => by
      rw [J70_2, wrap_id (by omega) (by omega)]
      refine ⟨⟨F, o2, hF, hon, hGo, hCl2, fun h => ⟨fun s y h0 hp hg hy hs => ?_, (hcl2 h).2⟩, hfc2, by omega, by omega⟩, by simp only []; omega⟩
      have hlet := (hsh.step_let hs).2
      by_cases e : s = x13
      · subst e
        rcases hrest with h1 | h1
        · rw [hg] at h1; cases h1
        · exact (hcl2 h).1 s y h0 (.inr ⟨rfl, by have := hlet.2; omega⟩) hg hy hs
      · exact (hcl2 h).1 s y h0 (.inl (by have := hlet.1; omega)) hg hy hs
    refine condK_dec (fun hlt2 => ?_) fun hge2 => hnext (.inr (by omega))
    have hlet : m.Let x18 := ⟨h180, hlt2⟩
    have hsr := hsh.step_range x13 x18
    refine hGo.get_bool hF h130 (by omega) (K := fun t23 => condK t23 _ _) ?_
    cases hgb : gb o2 x13 with
    | false => exact hnext (.inl hgb)
    | true =>
    refine condK_of (fun _ => ?_) fun h => by cases h
    have hskip : (gb hid x18 = true → 0 ≤ m.step x13 x18 → gb o2 (m.step x13 x18) = true) → J70_2 (fun x18 t19 => ⟨fun w20 => ∃ F o2, Fam w0 w20 F ∧ Only i F0 F ∧ GSl F i A4 m.next.length n6 (bools o2) ∧ Cl m hid P0 o2 ∧ (t19 = false → ClTo m hid o2 x13 x18 ∧ o2 = out) ∧ (t19 = true → fcount o2 < fcount out) ∧ 0 ≤ x18 ∧ x18 ≤ m.letters, fun _ => (m.letters - x18).toNat⟩) x18 t19 w20 (m.letters - x18).toNat := fun hno => by
      rw [J70_2, wrap_id (by omega) (by omega)]
      refine ⟨⟨F, o2, hF, hon, hGo, hCl2, fun h => ⟨fun s y h0 hp hg hy hs => ?_, (hcl2 h).2⟩, hfc2, by omega, by omega⟩, by simp only []; omega⟩
      by_cases e : s = x13 ∧ y = x18
      · obtain ⟨rfl, rfl⟩ := e; exact hno hy hs
      · exact (hcl2 h).1 s y h0 (by omega) hg hy hs
    refine rd_step hE20 hA hl hx hsh h130 (by omega) hlet (K := fun x29 => IxV Gh _ 1 x18 _) ?_
    refine rd_bool hE20 hG h180 (by omega) (K := fun t31 => condK t31 _ _) ?_
    refine condK_of (fun hy => ?_) fun hy => hskip fun h => by rw [hy] at h; cases h
    refine condK_dec (fun hp => ?_) fun hn => hskip fun _ h => by omega
    refine hGo.get_bool hF hp (by omega) (K := fun t33 => condK (!t33) _ _) ?_
    cases hgt : gb o2 (m.step x13 x18) with
    | true => exact hskip fun _ _ => hgt
    | false =>
    refine condK_of (fun _ => ?_) fun h => by cases h
    refine hGo.set_bool hF hp (by omega) fun F' w35 ho' hF' hG' => ?_
    rw [wrap_id (by omega) (by omega)]
    refine ⟨⟨F', _, hF', fun j hj => by rw [ho' j hj, hon j hj], hG', ⟨by simp [hol], fun s h0 h => ?_, fun s h0 h1 h => ?_⟩, (fun h => by cases h), fun _ => ?_, by omega, by omega⟩, by simp only []; omega⟩
    · rw [gb_set hp (by omega) h0]; split
      · rfl
      · exact hCl2.base s h0 h
    · rw [gb_set hp (by omega) h0] at h
      by_cases e : s = m.step x13 x18
      · subst e; exact (hCl2.sub x13 h130 (by omega) hgb).step hy hp
      · rw [if_neg e] at h; exact hCl2.sub s h0 h1 h
    · have h1 := fcount_set o2 (m.step x13 x18).toNat (by rw [get_gb hp (by omega), hgt])
      cases t19 with
      | true => have := hfc2 rfl; omega
      | false => have := (hcl2 rfl).2; subst this; omega
  · have e : x13 = m.next.length := by omega
    subst e
    refine ⟨⟨F, o1, hF, hon, hGo, hCl1, fun h => (hcl1 h).1⟩, ?_⟩
    simp only []
    have hf1 : cntF w15 A4 m.next.length = fcount o1 := cntF_row (hGo.row hF) (by rw [hCl1.len])
    rw [hfc, hf1]
    cases t14 with
    | true => have := hfc1 rfl; simp; omega
    | false => simp

theorem c71 {w0 w : World} {F : FamF} {i j : Nat} {g : Nat → Nat} {D : Option Addr} {k e : Nat} {K : Option Addr} {k1 N : Nat} {xss : List (List Bool)} {T : List Bool} {R : Res} (hF : Fam w0 w F) (hD : GBB F i g D k e xss) (hK : GSl F j K N k1 (bools T)) (hlens : ∀ S ∈ xss, S.length = N) (hl : xss.length ≤ 1048576) (hN : N ≤ 1048576)
    (yes : ∀ q : Nat, xss[q]? = some T → R (.int .i64 q) [] w) (no : T ∉ xss → R (.int .i64 (-1)) [] w) : CallsI Try.prog 71 [.slice D k e, .slice K N k1] w [] R := by
  have hk := hD.len
  subst hk
  have hNl : N = T.length := by rw [hK.len, bools_len]
  refine s71 _ _ _ _ _ _ _ _ ?_
  refine ⟨fun x2 => ⟨fun w3 => w3 = w ∧ (∀ q : Nat, (q : Int) < x2 → xss[q]? ≠ some T) ∧ 0 ≤ x2 ∧ x2 ≤ xss.length, fun _ => (xss.length - x2).toNat⟩, ⟨rfl, fun q h => by omega, by omega, by omega⟩, ?_⟩
  rintro x2 w3 ⟨rfl, hno, h20, h21⟩ n4 rfl
  refine condK_dec (fun hlt => ?_) fun hge => ?_
  · have hS := List.getElem?_eq_getElem (l := xss) (i := x2.toNat) (by omega)
    obtain ⟨S, hSe⟩ : ∃ S, S = xss[x2.toNat]'(by omega) := ⟨_, rfl⟩
    rw [← hSe] at hS
    have hSl := hlens S (List.mem_of_getElem? hS)
    refine ⟨fun x6 t7 => ⟨fun w8 => w8 = w3 ∧ (t7 = true ↔ ∀ q : Int, 0 ≤ q → q < x6 → gb S q = gb T q) ∧ 0 ≤ x6 ∧ x6 ≤ N, fun _ => (N - x6).toNat⟩, ⟨rfl, ⟨fun _ q h0 h1 => by omega, fun _ => rfl⟩, by omega, by omega⟩, ?_⟩
    rintro x6 t7 w8 ⟨rfl, hsame, h60, h61⟩ n9 rfl
    refine condK_dec (fun hlt2 => ?_) fun hge2 => ?_
    · refine condK_of (fun ht => ?_) fun ht => ?_
      · refine hD.get hF h20 hS (K := fun A11 n12 n13 => IxV A11 n12 1 x6 _) fun A11 c13 hr => ?_
        refine hr.get_bool hF h60 (by omega) (K := fun t15 => IxV K N 1 x6 _) ?_
        refine hK.get_bool hF h60 (by omega) (K := fun t17 => _ ∧ _) ?_
        rw [wrap_id (by omega) (by omega)]
        refine ⟨⟨rfl, ?_, by omega, by omega⟩, by simp only []; omega⟩
        rw [beq_iff_eq]
        constructor
        · intro h q h0 h1
          by_cases e : q = x6
          · subst e; exact h
          · exact hsame.1 ht q h0 (by omega)
        · exact fun h => h x6 h60 (by omega)
      · rw [wrap_id (by omega) (by omega)]
        refine ⟨⟨rfl, ⟨(fun h => by cases h), fun h => ?_⟩, by omega, by omega⟩, by simp only []; omega⟩
        have := hsame.2 fun q h0 h1 => h q h0 (by omega)
        rw [this] at ht; cases ht
    · refine condK_of (fun ht => ?_) fun ht => ?_
      · have : S = T := gb_ext (by omega) fun q h0 h1 => hsame.1 ht q h0 (by omega)
        rw [this] at hS
        have := yes x2.toNat hS
        rw [show ((x2.toNat : Nat) : Int) = x2 by omega] at this
        exact this
      · rw [wrap_id (by omega) (by omega)]
        refine ⟨⟨rfl, fun q hq hc => ?_, by omega, by omega⟩, by simp only []; omega⟩
        by_cases e : (q : Int) = x2
        · have : q = x2.toNat := by omega
          subst this
          rw [hS] at hc; injection hc with hc; subst hc
          have := hsame.2 fun q _ _ => rfl
          rw [this] at ht; cases ht
        · exact hno q (by omega) hc
  · refine no fun hc => ?_
    obtain ⟨q, hq⟩ := List.mem_iff_getElem?.1 hc
    exact hno q (by have := (List.getElem?_eq_some_iff.1 hq).1; omega) hq
end Go.Proofs.Ytnkpjlhbojjneaa.VC

/- Hide of the reference: the machine of all sets. -/
namespace Go.Proofs.Ytnkpjlhbojjneaa.VC
open Go Go.RowKit

theorem any_memL {S : List Bool} {f : Int → Bool} : (memL S).any f = true ↔ ∃ s : Int, (0 ≤ s ∧ s < S.length) ∧ gb S s = true ∧ f s = true := by
  rw [List.any_eq_true]
  constructor
  · rintro ⟨s, hs, hf⟩; have := mem_memL.1 hs; exact ⟨s, this.1, this.2, hf⟩
  · rintro ⟨s, h1, h2, hf⟩; exact ⟨s, mem_memL.2 ⟨h1, h2⟩, hf⟩
theorem bool_iff {a b : Bool} (h : a = true ↔ b = true) : a = b := by
  cases a <;> cases b
  · rfl
  · exact absurd (h.2 rfl) (by decide)
  · exact absurd (h.1 rfl) (by decide)
  · rfl

def I32H (w0 : World) (X : Auto (List Bool)) (first : List Bool) (N : Nat) : Int → Option Addr → Nat → Nat → Int → Int → Option Addr → Nat → Nat → Option Addr → Nat → Nat → Int → Int → Option Addr → Nat → Nat → Option Addr → Nat → Nat → Lp :=
  fun x33 A34 n35 n36 _ _ _ _ _ _ _ _ x45 x46 A47 n48 n49 A50 n51 n52 => ⟨fun w53 => ∃ F xs rows fins, Fam w0 w53 F ∧ GBB F 0 go A34 n35 n36 xs ∧ GII F 2 ge A47 n48 n49 rows ∧ GSl F 3 A50 n51 n52 (bools fins) ∧ x45 = X.letters ∧ x46 = 0 ∧ Part X first xs rows ∧
    (∀ row ∈ rows, (row.length : Int) = X.letters) ∧ fins = (xs.take rows.length).map X.fin ∧ x33 = rows.length ∧ rows.length ≤ xs.length ∧ xs.length ≤ 4000 ∧ ∀ S ∈ xs, S.length = N, fun _ => (4000 - x33).toNat⟩
def I70H (w0 : World) (X : Auto (List Bool)) (first : List Bool) (N : Nat) (S0 : List Bool) (rows : List (List Int)) (fins : List Bool) (n55 : Nat) (A47 : Option Addr) (n48 n49 : Nat) (A50 : Option Addr) (n51 n52 : Nat) : Int → Option Addr → Nat → Nat → Lp :=
  fun x71 A72 n73 n74 => ⟨fun w75 => ∃ F xs cur, Fam w0 w75 F ∧ GBB F 0 go A72 n73 n74 xs ∧ GII F 2 ge A47 n48 n49 rows ∧ GSl F 3 A50 n51 n52 (bools fins) ∧
    GSl F (ge rows.length) (some ⟨n55, 0, none⟩) X.letters.toNat X.letters.toNat (ints (cur ++ List.replicate (X.letters - x71).toNat 0)) ∧ (cur.length : Int) = x71 ∧ Part X first xs (rows ++ [cur]) ∧ fins = (xs.take rows.length).map X.fin ∧ xs[rows.length]? = some S0 ∧ (∀ S ∈ xs, S.length = N) ∧ (xs.length : Int) ≤ 4000 + x71 ∧ 0 ≤ x71 ∧ x71 ≤ X.letters, fun _ => (X.letters - x71).toNat⟩

/-- what is known of a machine that the reference's Hide gives -/
def HideOkR (m : Mach) (hid : List Bool) (mm : Mach) : Prop := ∃ x, IsLeast m x ∧ x.next.length ≤ 4000 ∧ IsHide x hid mm ∧ (x.start < 0 ∨ ∃ m0 xs, Made (hideAuto x hid) (hfirst x hid) m0 xs ∧ xs.length ≤ 4000)

set_option maxHeartbeats 8000000 in
theorem c39 {w : World} {m : Mach} {v kv : Value} {hid : List Bool} {R : Res} (hm : MachAt w m v) (hlim : m.Lim) (hk : SlB w kv hid)
    (bad : ¬ (m.Valid ∧ (hid.length : Int) = m.letters) → R (.tuple (Array.mk [zeroV, .int .i64 1])) [] w)
    (full : m.Valid → (hid.length : Int) = m.letters → ∀ (w' : World) (x : Mach) (xs : List (List Bool)), Ext w w' → IsLeast m x → x.next.length ≤ 4000 → xs.Nodup → (∀ S ∈ xs, (hideAuto x hid).From (hfirst x hid) S) → 4000 < xs.length → 0 ≤ x.start → R (.tuple (Array.mk [zeroV, .int .i64 5])) [] w')
    (ok : m.Valid → (hid.length : Int) = m.letters → ∀ w' mm v', MachNew w w' mm v' → HideOkR m hid mm → R (.tuple (Array.mk [v', .int .i64 0])) [] w') : CallsI Try.prog 39 [v, kv] w [] R := by
  have hm0 := hm
  obtain ⟨A, n, c, B, k, d, rfl⟩ := hm.form
  obtain ⟨Kp, k1, rfl, hK⟩ := hk
  refine s39 _ _ _ _ _ _ _ _ _ _ _ _ _ fun _ _ => c16 hm0 hlim ⟨_, rfl, rfl, ?_⟩
  refine condK_bne (fun h => bad fun e => h (Mach.code_ok.2 e.1)) fun h => ?_
  have hv := Mach.code_ok.1 h
  refine condK_bne (fun h => bad fun e => h e.2) fun hhid => ?_
  have full := full hv hhid
  have ok := ok hv hhid
  have hmL := hv.letters; have hmn := hv.next
  refine c53 hm0 hv.shaped (by have := hv.next; omega) (by omega) fun w9 x vx hnx hlx hxn => ?_
  have hatx := hnx.at_
  have hE9 := hnx.below
  have sx := hlx.shaped
  have hxl : x.letters = m.letters := hlx.letters
  have h0L := sx.letters
  have hatx0 := hatx
  obtain ⟨_, _, rfl, ⟨A12, n14, hs, rfl, hA, hl, hx⟩, ⟨A15, n17, rfl, hB⟩⟩ := hatx
  refine ⟨_, _, _, _, _, _, _, _, rfl, rfl, fun _ => ?_⟩
  refine condK_beq (fun h0 => ?_) fun hne => ?_
  · have hneg : x.start < 0 := by
      have := sx.start_range; omega
    exact ok w9 x _ hnx ⟨x, hlx, by omega, IsHide.none hlx.canon hneg, .inl hneg⟩
  have hst : x.start = 0 := hlx.canon.start0 (by omega)
  have hxf := sx.fin
  rw [← hxl] at hhid
  have hK9 := hE9.row hK
  obtain ⟨X, hX⟩ : ∃ X, X = hideAuto x hid := ⟨_, rfl⟩
  have hXl : X.letters = x.letters := by rw [hX]; rfl
  have hXf : ∀ S, X.fin S = (memL S).any x.ends := fun S => by rw [hX]; rfl
  have hXn : ∀ S y, X.next S y = hideNext x hid S y := fun S y => by rw [hX]; rfl
  obtain ⟨first, hfirst⟩ : ∃ f, f = hfirst x hid := ⟨_, rfl⟩
  have hfl : first.length = x.next.length := by rw [hfirst]; exact cloL_len _ _ _
  rw [← hxl, ← hXl]
  have hatX : MachAt w9 x (.agg (Array.mk [.int .i64 X.letters, .int .i64 x.start, .slice A12 x.next.length n14, .slice A15 x.fin.length n17])) := by rw [hXl]; exact hatx0
  have full : ∀ (w' : World) (xs : List (List Bool)), Ext w9 w' → xs.Nodup → (∀ S ∈ xs, X.From first S) → 4000 < xs.length → R (.tuple (Array.mk [zeroV, .int .i64 5])) [] w' := fun w' xs hE h1 h2 h3 => by
    rw [hX, hfirst] at h2
    exact full w' x xs (hE9.trans' hE) hlx (by omega) h1 h2 h3 (by omega)
  refine ⟨rfl, by omega, by omega, by omega, ?_⟩
  refine (Fam.empty w9).mkRow 4 fun n19 F w20 ho hF hs4 => ?_
  rw [List.length_replicate] at hs4
  have hs4 : GSl F 4 (some ⟨n19, 0, none⟩) x.next.length x.next.length (bools (List.replicate x.next.length false)) := by rw [bools_rep]; exact hs4
  refine hs4.set_bool hF (by omega) (by simp; omega) fun F1 w22 ho1 hF1 hs41 => ?_
  refine c70 (i := go 0) hF1 hatX sx (by omega) (by omega) (hs41.row hF1) (by simp) hK9 hhid fun F2 w25 A26 c28 ho2 hF2 hs2 => ⟨_, _, _, rfl, rfl, ?_⟩
  have hfe : (cloL x hid fun s => 0 ≤ s ∧ gb ((List.replicate x.next.length false).set (0 : Int).toNat true) s = true) = first := by
    rw [hfirst]
    refine cloL_congr fun t ht => ?_
    rw [gb_set (by omega) (by simp; omega) ht, hst]
    constructor
    · rintro ⟨_, h⟩
      by_cases e : t = 0
      · exact e
      · rw [if_neg e, gb_rep] at h; cases h
    · rintro rfl; exact ⟨by omega, rfl⟩
  rw [hfe] at hs2
  refine hF2.mkRow 0 fun n29 F3 w30 ho3 hF3 hl3 => ?_
  intro _
  have hD3 : GBB F3 0 go (some ⟨n29, 0, none⟩) 1 1 [first] := ⟨_, hl3, rfl, fun t h xs ht hx => by
    cases t with
    | zero =>
      simp only [List.getElem?_cons_zero, Option.some.injEq] at ht hx
      subst ht hx
      exact ⟨_, _, _, rfl, hs2.keep ho3 (by decide)⟩
    | succ t => simp at ht⟩
  have n2 : F3 2 = none := by rw [ho3 2 (by decide), ho2 2 (by decide), ho1 2 (by decide), ho 2 (by decide)]
  have n3 : F3 3 = none := by rw [ho3 3 (by decide), ho2 3 (by decide), ho1 3 (by decide), ho 3 (by decide)]
  refine ⟨I32H w9 X first x.next.length, ⟨F3, [first], [], [], hF3, hD3, GII.nil n2, .nil n3, rfl, rfl, .init X first, by simp, rfl, rfl, by simp, by simp, fun S hS => by rw [List.mem_singleton] at hS; subst hS; exact hfl⟩, ?_⟩
  clear hD3 n2 n3 hl3 ho3 hF3 hs2 ho2 hF2 hs41 ho1 hF1 hs4 ho hF hfe
  intro x33 A34 n35 n36 x37 x38 A39 n40 n41 A42 n43 n44 x45 x46 A47 n48 n49 A50 n51 n52 w53 hI n54 hkk
  obtain ⟨F, xs, rows, fins, hF, hD, hrows, hfins, rfl, rfl, hpart, hrlen, hfe, rfl, hle, hmost, hlens⟩ := hI
  subst hkk
  have hn35 := hD.len
  refine condK_dec (fun hlt => ?_) fun hge => ?_
  · refine ⟨rfl, by omega, by omega, by omega, ?_⟩
    have hlt' : rows.length < xs.length := by omega
    have hS0 := List.getElem?_eq_getElem (l := xs) (i := rows.length) hlt'
    obtain ⟨S0, hS0e⟩ : ∃ S0, S0 = xs[rows.length] := ⟨_, rfl⟩
    rw [← hS0e] at hS0
    have hS0l := hlens S0 (List.mem_of_getElem? hS0)
    refine hF.mkRow (ge rows.length) fun n55 F1 w56 ho1 hF1 hr1 => ?_
    rw [List.length_replicate] at hr1
    have hD1 : GBB F1 0 go A34 n35 n36 xs := hD.same (ho1 0 (Ne.symm (ge_ne (by decide)))) fun t _ => ho1 _ (go_ge t _)
    have hrows1 := hrows.keep ho1 (Ne.symm (ge_ne (by decide))) (fun t ht => by unfold ge; omega)
    have hfins1 := hfins.keep ho1 (Ne.symm (ge_ne (by decide)))
    clear hF hD hrows hfins ho1
    -- does the set accept
    refine ⟨fun x58 t59 => ⟨fun w60 => w60 = w56 ∧ (t59 = true ↔ ∃ s : Int, (0 ≤ s ∧ s < x58) ∧ gb S0 s = true ∧ x.ends s = true) ∧ 0 ≤ x58 ∧ x58 ≤ x.next.length, fun _ => (x.next.length - x58).toNat⟩,
      ⟨rfl, ⟨(fun h => by cases h), fun ⟨s, h1, _⟩ => by omega⟩, by omega, by omega⟩, ?_⟩
    rintro x58 t59 w60 ⟨rfl, hend, h580, h581⟩ n61 rfl
    refine condK_dec (fun hlt2 => ?_) fun hge2 => ?_
    · refine condK_of (fun ht => ?_) fun ht => ?_
      · rw [J39_3, wrap_id (by omega) (by omega)]
        refine ⟨⟨rfl, ⟨fun _ => ?_, fun _ => rfl⟩, by omega, by omega⟩, by simp only []; omega⟩
        obtain ⟨s, h1, h2⟩ := hend.1 ht
        exact ⟨s, by omega, h2⟩
      · have hno : ∀ s : Int, 0 ≤ s → s < x58 → gb S0 s = true → x.ends s = true → False := fun s h0 h1 h2 h3 => by
          have := hend.2 ⟨s, ⟨h0, h1⟩, h2, h3⟩; rw [this] at ht; cases ht
        refine hD1.get hF1 (by omega) (xs := S0) (by rw [Int.toNat_natCast]; exact hS0) (K := fun A63 n64 n65 => IxV A63 n64 1 x58 _) fun A63 c65 hr => ?_
        refine hr.get_bool hF1 h580 (by omega) (K := fun t67 => condK t67 _ _) ?_
        refine condK_of (fun h67 => ?_) fun h67 => ?_
        · refine rd_end hF1.base hB h580 (by omega) (K := fun t69 => J39_4 _ x58 t69 w60 _) ?_
          rw [J39_4, wrap_id (by omega) (by omega)]
          refine ⟨⟨rfl, ⟨fun h => ⟨x58, by omega, h67, h⟩, fun ⟨s, h1, h2, h3⟩ => ?_⟩, by omega, by omega⟩, by simp only []; omega⟩
          by_cases e : s = x58
          · subst e; exact h3
          · exact absurd h3 fun h3 => hno s h1.1 (by omega) h2 h3
        · rw [wrap_id (by omega) (by omega)]
          refine ⟨⟨rfl, ⟨(fun h => by cases h), fun ⟨s, h1, h2, h3⟩ => ?_⟩, by omega, by omega⟩, by simp only []; omega⟩
          by_cases e : s = x58
          · subst e; rw [h67] at h2; cases h2
          · exact absurd h3 fun h3 => hno s h1.1 (by omega) h2 h3
    have ht59 : t59 = X.fin S0 := bool_iff (by
      rw [hend, hXf, any_memL, hS0l]
      exact ⟨fun ⟨s, h1, h2⟩ => ⟨s, by omega, h2⟩, fun ⟨s, h1, h2⟩ => ⟨s, by omega, h2⟩⟩)
    -- the row
    refine ⟨I70H w9 X first x.next.length S0 rows fins n55 A47 n48 n49 A50 n51 n52, ⟨F1, xs, [], hF1, hD1, hrows1, hfins1, by rw [List.nil_append, ints_rep, Int.sub_zero]; exact hr1, rfl, Part.empty.2 hpart, hfe, hS0, hlens, by omega, by omega, by omega⟩, ?_⟩
    clear hD1 hrows1 hfins1 hr1 hF1 hpart hfe hS0e hS0 hlens hmost hle hn35 hlt
    intro x71 A72 n73 n74 w75 hI n76 hkk
    obtain ⟨F, xs, cur, hF, hD, hrows, hfins, hrow, hcur, hpart, hfe, hS0, hlens, hmost, h710, h711⟩ := hI
    subst hkk
    have hn73 := hD.len
    have hxlt := (List.getElem?_eq_some_iff.1 hS0).1
    have hn48 := hrows.len
    have g0' : (0 : Nat) ≠ ge rows.length := Ne.symm (ge_ne (by decide))
    have g2' : (2 : Nat) ≠ ge rows.length := Ne.symm (ge_ne (by decide))
    have g3' : (3 : Nat) ≠ ge rows.length := Ne.symm (ge_ne (by decide))
    have gt' : ∀ t, t < rows.length → ge t ≠ ge rows.length := fun t ht => by unfold ge; omega
    refine condK_dec (fun hlt2 => ?_) fun hge3 => ?_
    · have hlet : x.Let x71 := ⟨h710, by omega⟩
      refine hrow.set_int hF h710 (by simp; omega) fun F1 w78 ho1 hF1 hrow1 => ?_
      rw [show x71.toNat = cur.length by omega, set_row (by omega)] at hrow1
      have hD1 : GBB F1 0 go A72 n73 n74 xs := hD.same (ho1 0 g0') fun t _ => ho1 _ (go_ge t _)
      have hrows1 := hrows.keep ho1 g2' gt'
      have hfins1 := hfins.keep ho1 g3'
      refine ⟨rfl, by omega, by omega, by omega, ?_⟩
      refine hF1.mkRow 4 fun n79 F2 w80 ho2 hF2 hs4 => ?_
      rw [List.length_replicate] at hs4
      have hs4 : GSl F2 4 (some ⟨n79, 0, none⟩) x.next.length x.next.length (bools (List.replicate x.next.length false)) := by rw [bools_rep]; exact hs4
      have hD2 : GBB F2 0 go A72 n73 n74 xs := hD1.same (ho2 0 (by decide)) fun t _ => ho2 _ (go_ne (by decide))
      have hrows2 := hrows1.keep ho2 (by decide) (fun t _ => ge_ne (by decide))
      have hfins2 := hfins1.keep ho2 (by decide)
      have hrow2 := hrow1.keep ho2 (ge_ne (by decide))
      refine ⟨fun x82 t83 => ⟨fun w84 => ∃ F Q, Fam w9 w84 F ∧ Only 4 F2 F ∧ GSl F 4 (some ⟨n79, 0, none⟩) x.next.length x.next.length (bools Q) ∧ Q.length = x.next.length ∧ (∀ t : Int, 0 ≤ t → (gb Q t = true ↔ gb hid x71 = false ∧ ∃ s : Int, (0 ≤ s ∧ s < x82) ∧ gb S0 s = true ∧ x.step s x71 = t)) ∧
          (t83 = true ↔ gb hid x71 = false ∧ ∃ s : Int, (0 ≤ s ∧ s < x82) ∧ gb S0 s = true ∧ 0 ≤ x.step s x71) ∧ 0 ≤ x82 ∧ x82 ≤ x.next.length, fun _ => (x.next.length - x82).toNat⟩,
        ⟨F2, _, hF2, fun _ _ => rfl, hs4, by simp, fun t h0 => by
          rw [gb_rep]
          exact ⟨(fun h => by cases h), fun ⟨_, s, h1, _⟩ => by omega⟩, ⟨(fun h => by cases h), fun ⟨_, s, h1, _⟩ => by omega⟩, by omega, by omega⟩, ?_⟩
      clear hs4 hF2 hF1 hD1 hrows1 hfins1 hrow1 hF hD hrows hfins hrow ho1 ho2
      rintro x82 t83 w84 ⟨F, Q, hF, hon, hQ, hQl, hQm, ht83, h820, h821⟩ n85 rfl
      have hD3 : GBB F 0 go A72 n73 n74 xs := hD2.same (hon 0 (by decide)) fun t _ => hon _ (go_ne (by decide))
      have hrows3 := hrows2.keep hon (by decide) (fun t _ => ge_ne (by decide))
      have hfins3 := hfins2.keep hon (by decide)
      have hrow3 := hrow2.keep hon (ge_ne (by decide))
      -- one more entry
      have step : ∀ (A72 : Option Addr) (n73 n74 : Nat) (w129 : World) (F : FamF) (xs' : List (List Bool)) (v : Int), Fam w9 w129 F → GBB F 0 go A72 n73 n74 xs' → GII F 2 ge A47 n48 n49 rows → GSl F 3 A50 n51 n52 (bools fins) →
          GSl F (ge rows.length) (some ⟨n55, 0, none⟩) X.letters.toNat X.letters.toNat (ints (cur ++ [v] ++ List.replicate ((X.letters - x71).toNat - 1) 0)) → Part X first xs' (rows ++ [cur ++ [v]]) → fins = (xs'.take rows.length).map X.fin → xs'[rows.length]? = some S0 → (∀ S ∈ xs', S.length = x.next.length) → (xs'.length : Int) ≤ 4000 + (x71 + 1) →
          J39_18 (I70H w9 X first x.next.length S0 rows fins n55 A47 n48 n49 A50 n51 n52) x71 A72 n73 n74 w129 (X.letters - x71).toNat := by
        intro A72 n73 n74 w129 F xs' v hF hD hrows hfins hrow hpart hfe hS0 hlens hmost
        rw [J39_18, wrap_id (by omega) (by omega)]
        refine ⟨⟨F, xs', cur ++ [v], hF, hD, hrows, hfins, ?_, by simp; omega, hpart, hfe, hS0, hlens, hmost, by omega, by omega⟩, by simp only [I70H]; omega⟩
        rw [show (X.letters - (x71 + 1)).toNat = (X.letters - x71).toNat - 1 by omega]; exact hrow
      have fin28 : (gb hid x71 = true ∨ (x.next.length : Int) ≤ x82) → J39_28 t83 X.letters x.start A12 x.next.length n14 A15 x.fin.length n17 n79 Kp hid.length k1 w84 A72 n73 n74 n55 X.letters x71 (I70H w9 X first x.next.length S0 rows fins n55 A47 n48 n49 A50 n51 n52) (X.letters - x71).toNat := by
        intro hend
        rw [J39_28]
        refine condK_of (fun ht => ?_) fun ht => ?_
        · obtain ⟨hh, s0, hs0, hg0, hst0⟩ := ht83.1 ht
          have h82 : (x.next.length : Int) ≤ x82 := by
            rcases hend with h | h
            · rw [hh] at h; cases h
            · exact h
          have hex : ∃ s, (0 ≤ s ∧ gb S0 s = true) ∧ 0 ≤ x.step s x71 := ⟨s0, ⟨hs0.1, hg0⟩, hst0⟩
          have hclo : (cloL x hid fun s => 0 ≤ s ∧ gb Q s = true) = cloL x hid (stepP x S0 x71) := cloL_congr fun t ht => by
            constructor
            · rintro ⟨_, hg⟩
              obtain ⟨_, s, h1, h2, h3⟩ := (hQm t ht).1 hg
              exact ⟨s, ⟨h1.1, h2⟩, h3⟩
            · rintro ⟨s, ⟨h0, h2⟩, h3⟩
              have := gb_true h2 h0
              exact ⟨ht, (hQm t ht).2 ⟨hh, s, ⟨h0, by omega⟩, h2, h3⟩⟩
          have hnext : X.next S0 x71 = some (cloL x hid fun s => 0 ≤ s ∧ gb Q s = true) := by rw [hXn, hideNext_some hh hex, hclo]
          refine c70 (i := go xs.length) hF hatX sx (by omega) (by omega) (hQ.row hF) hQl hK9 hhid fun F3 w110 A111 c113 ho3 hF3 hT => ⟨_, _, _, rfl, rfl, ?_⟩
          obtain ⟨T, hTe⟩ : ∃ T, T = cloL x hid fun s => 0 ≤ s ∧ gb Q s = true := ⟨_, rfl⟩
          rw [← hTe] at hT hnext
          have hTl : T.length = x.next.length := by rw [hTe]; exact cloL_len _ _ _
          have hD4 : GBB F3 0 go A72 n73 n74 xs := hD3.same (ho3 0 (Ne.symm (go_ne (by decide)))) fun t ht => ho3 _ (by unfold go; omega)
          have hrows4 := hrows3.keep ho3 (Ne.symm (go_ne (by decide))) (fun t _ => Ne.symm (go_ge _ t))
          have hfins4 := hfins3.keep ho3 (Ne.symm (go_ne (by decide)))
          have hrow4 := hrow3.keep ho3 (Ne.symm (go_ge _ _))
          refine c71 hF3 hD4 hT hlens (by omega) (by omega) (fun q hq => ⟨_, rfl, rfl, ?_⟩) fun hno => ⟨_, rfl, rfl, ?_⟩
          · refine hrow4.set_int hF3 h710 (by simp; omega) fun F4 w119 ho4 hF4 hrow5 => ?_
            rw [show x71.toNat = cur.length by omega, set_row2] at hrow5
            refine hrow5.get_int hF4 h710 (by simp; omega) (K := fun x121 => condK (decide (x121 < 0)) _ _) ?_
            have hgi : gi (cur ++ [(q : Int)] ++ List.replicate ((X.letters - x71).toNat - 1) 0) x71 = q := by
              rw [gi_left h710 (by simp; omega), ← hcur, gi_last]
            rw [hgi]
            refine condK_dec (fun h => by omega) fun _ => ?_
            exact step _ _ _ w119 F4 xs q hF4 (hD4.same (ho4 0 g0') fun t _ => ho4 _ (go_ge t _)) (hrows4.keep ho4 g2' gt') (hfins4.keep ho4 g3') hrow5 (hpart.old hS0 (by rw [hcur]; exact hnext) hq) hfe hS0 hlens (by omega)
          · refine hrow4.set_int hF3 h710 (by simp; omega) fun F4 w119 ho4 hF4 hrow5 => ?_
            rw [show x71.toNat = cur.length by omega, set_row2] at hrow5
            refine hrow5.get_int hF4 h710 (by simp; omega) (K := fun x121 => condK (decide (x121 < 0)) _ _) ?_
            have hgi : gi (cur ++ [(-1 : Int)] ++ List.replicate ((X.letters - x71).toNat - 1) 0) x71 = -1 := by
              rw [gi_left h710 (by simp; omega), ← hcur, gi_last]
            rw [hgi]
            refine condK_dec (fun _ => ?_) fun h => absurd (by decide) h
            refine hrow5.set_int hF4 h710 (by simp; omega) fun F5 w123 ho5 hF5 hrow6 => ?_
            rw [show x71.toNat = cur.length by omega, set_row2] at hrow6
            have hD5 : GBB F5 0 go A72 n73 n74 xs := (hD4.same (ho4 0 g0') fun t _ => ho4 _ (go_ge t _)).same (ho5 0 g0') fun t _ => ho5 _ (go_ge t _)
            refine hD5.pushRow ((hT.keep ho4 (go_ge _ _)).keep ho5 (go_ge _ _)) hF5 (fun t => go_ne (by decide)) (by omega) fun F6 A126 c128 w129 ho6 hF6 hD6 => ?_
            have hrow7 := hrow6.keep ho6 (ge_ne (by decide))
            have hn73' : (n73 : Int) = xs.length := by omega
            rw [hn73'] at hrow7
            exact step _ _ _ w129 F6 (xs ++ [T]) xs.length hF6 hD6 (((hrows4.keep ho4 g2' gt').keep ho5 g2' gt').keep ho6 (by decide) fun t _ => ge_ne (by decide)) (((hfins4.keep ho4 g3').keep ho5 g3').keep ho6 (by decide)) hrow7
              (hpart.fresh hS0 (by rw [hcur]; exact hnext) (by omega) hno) (by rw [List.take_append_of_le_length (by omega)]; exact hfe) (by rw [List.getElem?_append_left hxlt]; exact hS0)
              (fun S hS => by
                rcases List.mem_append.1 hS with hS | hS
                · exact hlens S hS
                · rw [List.mem_singleton] at hS; subst hS; exact hTl) (by simp; omega)
        · have hnext : X.next S0 x71 = none := by
            rw [hXn]
            rcases hend with h | h
            · exact hideNext_hid h
            · cases hh : gb hid x71 with
              | true => exact hideNext_hid hh
              | false =>
                refine hideNext_none ?_
                rintro ⟨s, ⟨h0, hg⟩, hs⟩
                have := gb_true hg h0
                have := ht83.2 ⟨hh, s, ⟨h0, by omega⟩, hg, hs⟩
                rw [this] at ht; cases ht
          exact step _ _ _ w84 F xs (-1) hF hD3 hrows3 hfins3 hrow3 (hpart.none hS0 (by rw [hcur]; exact hnext)) hfe hS0 hlens (by omega)
      refine condK_dec (fun hlt3 => ?_) fun hge4 => fin28 (.inr (by omega))
      refine rd_bool hF.base hK9 h710 (by omega) (K := fun t87 => condK (!t87) _ _) ?_
      refine condK_of (fun hh' => ?_) fun hh' => fin28 (.inl (by simpa using hh'))
      have hh : gb hid x71 = false := by simpa using hh'
      have hsr := sx.step_range x82 x71
      refine hD3.get hF (by omega) (xs := S0) (by rw [Int.toNat_natCast]; exact hS0) (K := fun A89 n90 n91 => IxV A89 n90 1 x82 _) fun A89 c91 hr => ?_
      refine hr.get_bool hF h820 (by omega) (K := fun t93 => condK t93 _ _) ?_
      have skip : (gb S0 x82 = true → x.step x82 x71 < 0) → J39_4 (fun x82 t83 => ⟨fun w84 => ∃ F Q, Fam w9 w84 F ∧ Only 4 F2 F ∧ GSl F 4 (some ⟨n79, 0, none⟩) x.next.length x.next.length (bools Q) ∧ Q.length = x.next.length ∧ (∀ t : Int, 0 ≤ t → (gb Q t = true ↔ gb hid x71 = false ∧ ∃ s : Int, (0 ≤ s ∧ s < x82) ∧ gb S0 s = true ∧ x.step s x71 = t)) ∧
          (t83 = true ↔ gb hid x71 = false ∧ ∃ s : Int, (0 ≤ s ∧ s < x82) ∧ gb S0 s = true ∧ 0 ≤ x.step s x71) ∧ 0 ≤ x82 ∧ x82 ≤ x.next.length, fun _ => (x.next.length - x82).toNat⟩) x82 t83 w84 (x.next.length - x82).toNat := fun hno => by
        rw [J39_4, wrap_id (by omega) (by omega)]
        refine ⟨⟨F, Q, hF, hon, hQ, hQl, fun t h0 => ?_, ?_, by omega, by omega⟩, by simp only []; omega⟩
        · rw [hQm t h0]
          constructor
          · rintro ⟨a, s, b, c⟩; exact ⟨a, s, by omega, c⟩
          · rintro ⟨a, s, b, c, e⟩
            by_cases e2 : s = x82
            · subst e2; have := hno c; omega
            · exact ⟨a, s, by omega, c, e⟩
        · rw [ht83]
          constructor
          · rintro ⟨a, s, b, c⟩; exact ⟨a, s, by omega, c⟩
          · rintro ⟨a, s, b, c, e⟩
            by_cases e2 : s = x82
            · subst e2; have := hno c; omega
            · exact ⟨a, s, by omega, c, e⟩
      refine condK_of (fun hg => ?_) fun hg => skip fun h => by rw [hg] at h; cases h
      refine rd_step hF.base hA hl hx sx h820 (by omega) hlet (K := fun x99 => condK _ _ _) ?_
      refine condK_dec (fun hp => ?_) fun hn => skip fun _ => by omega
      refine rd_step hF.base hA hl hx sx h820 (by omega) hlet (K := fun x105 => IxV _ _ 1 x105 _) ?_
      refine hQ.set_bool hF hp (by omega) fun F3 w107 ho3 hF3 hQ3 => ?_
      rw [J39_3, wrap_id (by omega) (by omega)]
      refine ⟨⟨F3, _, hF3, fun j hj => by rw [ho3 j hj, hon j hj], hQ3, by simp [hQl], fun t h0 => ?_, ⟨fun _ => ⟨hh, x82, by omega, hg, hp⟩, fun _ => rfl⟩, by omega, by omega⟩, by simp only []; omega⟩
      rw [gb_set hp (by omega) h0]
      by_cases e : t = x.step x82 x71
      · rw [if_pos e]; exact ⟨fun _ => ⟨hh, x82, by omega, hg, e.symm⟩, fun _ => rfl⟩
      · rw [if_neg e, hQm t h0]
        constructor
        · rintro ⟨a, s, b, c⟩; exact ⟨a, s, by omega, c⟩
        · rintro ⟨a, s, b, c, e3⟩
          by_cases e2 : s = x82
          · subst e2; exact absurd e3.symm e
          · exact ⟨a, s, by omega, c, e3⟩
    · -- the row is whole
      refine condK_dec (fun hgt => full w75 xs hF.base hpart.nodup hpart.from_ (by omega)) fun hng => ?_
      have hcl : (X.letters - x71).toNat = 0 := by omega
      rw [hcl, List.replicate_zero, List.append_nil] at hrow
      refine hrows.pushRow hrow hF (fun t => ge_ne (by decide)) (by omega) fun F1 A154 c156 w157 ho1 hF1 hrows1 => ?_
      have hn51 : n51 = fins.length := by rw [hfins.len, bools_len]
      have hfl2 : fins.length = rows.length := by rw [hfe, List.length_map, List.length_take]; omega
      refine (hfins.keep ho1 (by decide)).push_bool hF1 (by omega) fun F2 A160 c162 w163 ho2 hF2 hfins2 => ?_
      rw [wrap_id (by omega) (by omega)]
      refine ⟨⟨F2, xs, rows ++ [cur], _, hF2, (hD.same (ho1 0 (by decide)) fun t _ => ho1 _ (go_ne (by decide))).same (ho2 0 (by decide)) fun t _ => ho2 _ (go_ne (by decide)), hrows1.keep ho2 (by decide) (fun t _ => ge_ne (by decide)), hfins2, rfl, rfl, hpart, fun row hr => ?_, ?_, by simp, by simp; omega, by omega, hlens⟩, by simp only [I32H]; omega⟩
      · rcases List.mem_append.1 hr with hr | hr
        · exact hrlen row hr
        · rw [List.mem_singleton] at hr; subst hr; omega
      · rw [List.length_append, List.length_singleton, List.take_add_one, hS0, hfe, ht59]; simp
  · have hl2 : rows.length = xs.length := by omega
    have hmade : Made X first ⟨X.letters, 0, rows, fins⟩ xs := ⟨hpart, rfl, by omega, rfl, hl2, hrlen, by rw [hfe, hl2, List.take_length]⟩
    have hnew := MachNew.of_ge hF (m := ⟨X.letters, 0, rows, fins⟩) hrows hfins
    refine c53 hnew.at_ hmade.shaped (by simp only []; omega) (by simp only []; omega) fun w166 mz vz hmz hlz hnz => ?_
    have hatz := hmz.at_
    have hz0 := hmz
    obtain ⟨A169, n170, n171, A172, n173, n174, rfl⟩ := hatz.form
    refine ⟨_, _, _, _, _, _, _, _, rfl, rfl, ?_⟩
    have hmade2 : Made (hideAuto x hid) (VC.hfirst x hid) ⟨X.letters, 0, rows, fins⟩ xs := by rw [← hX, ← hfirst]; exact hmade
    exact ok w166 mz _ (hz0.after (hE9.trans' hnew.below)) ⟨x, hlx, by omega, hmade2.hide sx hlz, .inr ⟨_, xs, hmade2, hmost⟩⟩
end Go.Proofs.Ytnkpjlhbojjneaa.VC

/- The law of hidden letters. -/
namespace Go.Proofs.Ytnkpjlhbojjneaa.VC
open Go Go.RowKit

/-- what the reference's Hide tells -/
def HR (m : Mach) (hid : List Bool) (mm : Mach) (x : Int) : Prop :=
  (¬ (m.Valid ∧ (hid.length : Int) = m.letters) ∧ x = 1 ∧ mm = zeroM) ∨ ((m.Valid ∧ (hid.length : Int) = m.letters) ∧ x = 5 ∧ mm = zeroM ∧ ∃ (y : Mach) (xs : List (List Bool)), IsLeast m y ∧ y.next.length ≤ 4000 ∧ xs.Nodup ∧ (∀ S ∈ xs, (hideAuto y hid).From (hfirst y hid) S) ∧ 4000 < xs.length ∧ 0 ≤ y.start) ∨
    ((m.Valid ∧ (hid.length : Int) = m.letters) ∧ x = 0 ∧ HideOkR m hid mm)
/-- what Hide tells -/
def HP (m : Mach) (hid : List Bool) (mm : Mach) (x : Int) : Prop :=
  (¬ (m.Valid ∧ (hid.length : Int) = m.letters) ∧ x = 1 ∧ mm = zeroM) ∨ ((m.Valid ∧ (hid.length : Int) = m.letters) ∧ x = 5 ∧ mm = zeroM ∧ ∃ (y : Mach) (xs : List ByteArray), IsLeast m y ∧ y.next.length ≤ 4000 ∧ xs.Nodup ∧ (∀ S ∈ xs, (hideAutoB y hid).From (name (hfirst y hid)) S) ∧ 4000 < xs.length ∧ 0 ≤ y.start) ∨
    ((m.Valid ∧ (hid.length : Int) = m.letters) ∧ x = 0 ∧ HideOk m hid mm)
theorem HR.eq {m mm nn : Mach} {hid : List Bool} {x y : Int} (h : HR m hid mm x) (k : HP m hid nn y) : x = y ∧ mm = nn := by
  rcases h with ⟨h1, rfl, rfl⟩ | ⟨h1, rfl, rfl, z, xs, h2, h3, h4, h5, h6, h7⟩ | ⟨h1, rfl, z, h2, h3, h4, h5⟩
  · rcases k with ⟨_, rfl, rfl⟩ | ⟨k1, _⟩ | ⟨k1, _⟩
    · exact ⟨rfl, rfl⟩
    · exact absurd k1 h1
    · exact absurd k1 h1
  · rcases k with ⟨k1, _⟩ | ⟨_, rfl, rfl, _⟩ | ⟨_, rfl, z', k2, k3, k4, k5⟩
    · exact absurd h1 k1
    · exact ⟨rfl, rfl⟩
    · obtain rfl := h2.unique k2
      rcases k5 with k5 | ⟨m0, ys, k5, k6⟩
      · omega
      · have := hide_many (by omega) h4 h5 k5; omega
  · rcases k with ⟨k1, _⟩ | ⟨_, rfl, rfl, z', ys, k2, k3, k4, k5, k6, k7⟩ | ⟨_, rfl, z', k2, k3, k4, k5⟩
    · exact absurd h1 k1
    · obtain rfl := h2.unique k2
      rcases h5 with h5 | ⟨m0, xs, h5, h6⟩
      · omega
      · have := hide_many' (by omega) k4 k5 h5; omega
    · obtain rfl := h2.unique k2
      exact ⟨rfl, h4.unique k4⟩
theorem HP.zero {m mm : Mach} {hid : List Bool} {x : Int} (h : HP m hid mm x) (hx : x ≠ 0) : mm = zeroM := by
  rcases h with ⟨_, _, h⟩ | ⟨_, _, h, _⟩ | ⟨_, h, _⟩
  · exact h
  · exact h
  · exact absurd h hx
theorem HP.ok {m mm : Mach} {hid : List Bool} {x : Int} (h : HP m hid mm x) (hx : x = 0) : (m.Valid ∧ (hid.length : Int) = m.letters) ∧ IsHide m hid mm := by
  rcases h with ⟨_, h, _⟩ | ⟨_, h, _⟩ | ⟨h1, _, z, h2, _, h3, _⟩
  · omega
  · omega
  · exact ⟨h1, h3.of h2⟩
theorem hideW_snoc {hid : List Bool} {r : List Int} {i : Int} (h0 : 0 ≤ i) (h1 : i < r.length) : hideW hid (r.take (i + 1).toNat) = hideW hid (r.take i.toNat) ++ if gb hid (gi r i) = true then [] else [gi r i] := by
  rw [show (i + 1).toNat = i.toNat + 1 by omega, List.take_add_one, get_gi h0 h1]
  unfold hideW
  rw [List.filter_append]
  congr 1
  simp only [Option.toList_some, List.filter_cons, List.filter_nil]
  cases gb hid (gi r i) <;> simp

set_option maxHeartbeats 4000000 in
theorem c13 {w : World} {m : Mach} {v kv ws : Value} {hid : List Bool} {us : List (List Int)} {R : Res} (ha : MachAt w m v) (la : m.Lim) (hk : SlB w kv hid) (hkl : hid.length ≤ 140737488351232)
    (hu : SlII w ws us) (hul : us.length ≤ 5864062014634) (hur : ∀ x ∈ us, x.length ≤ 17592186043904) (hR : ∀ w', Ext w w' → R (.bool true) [] w') : CallsI Try.prog 13 [v, kv, ws] w [] R := by
  have ha0 := ha; have hk0 := hk
  obtain ⟨A, n, c, B, k, d, rfl⟩ := ha.form
  obtain ⟨Kp, k1, rfl, hK⟩ := hk
  obtain ⟨D, dc, hs, rfl, hD, hDl, hDx⟩ := hu
  have awake : ∀ w', Ext w w' → J13_1 w' R := fun w' hE => c15 fun w2 hE2 => ⟨_, rfl, rfl, hR w2 (hE.trans' hE2)⟩
  refine s13 _ _ _ _ _ _ _ _ _ _ _ _ _ _ _ _ fun _ => c21 ha0 (fun hsa => ⟨_, rfl, rfl, ?_⟩) fun _ => ⟨_, rfl, rfl, awake w Ext.rfl'⟩
  refine condK_of (fun h => by cases h) fun _ => ?_
  refine condK_dec (fun _ => awake w Ext.rfl') fun _ => ?_
  have ref : ∀ R' : Res, (∀ w16 mm x (A' : Option Addr) (n' c' : Nat) (B' : Option Addr) (k' d' : Nat), Ext w w16 → MachAt w16 mm (.agg (Array.mk [.int .i64 mm.letters, .int .i64 mm.start, .slice A' n' c', .slice B' k' d'])) → HR m hid mm x →
      R' (.tuple (Array.mk [.agg (Array.mk [.int .i64 mm.letters, .int .i64 mm.start, .slice A' n' c', .slice B' k' d']), .int .i64 x])) [] w16) →
      CallsI Try.prog 39 [.agg (Array.mk [.int .i64 m.letters, .int .i64 m.start, .slice A n c, .slice B k d]), .slice Kp hid.length k1] w [] R' := by
    intro R' hR'
    refine c39 ha0 la hk0 (fun h => hR' w zeroM _ _ _ _ _ _ _ Ext.rfl' (zeroM_at w) (.inl ⟨h, rfl, rfl⟩)) (fun h1 h2 w' y xs hE h3 h4 h5 h6 h7 h8 => hR' w' zeroM _ _ _ _ _ _ _ hE (zeroM_at w') (.inr (.inl ⟨⟨h1, h2⟩, rfl, rfl, y, xs, h3, h4, h5, h6, h7, h8⟩))) fun h1 h2 w' mm v' hnew hok => ?_
    have hat := hnew.at_
    obtain ⟨A', n', c', B', k', d', rfl⟩ := hat.form
    exact hR' w' mm 0 _ _ _ _ _ _ hnew.below hat (.inr (.inr ⟨⟨h1, h2⟩, rfl, hok⟩))
  refine ref _ fun w16 rm x25 A19 n20 n21 A22 n23 n24 hE16 hrm hhr => ⟨_, _, _, _, _, _, _, _, _, rfl, rfl, fun _ => ?_⟩
  refine c19 (ha0.ext hE16) la fun w29 v27 hcp => ?_
  have hat := hcp.at_
  have hE29 : Ext w w29 := hE16.trans' hcp.below
  obtain ⟨A32, n33, n34, A35, n36, n37, rfl⟩ := hat.form
  refine ⟨_, _, _, _, _, _, _, _, rfl, rfl, ?_⟩
  refine (Fam.empty w29).mkRowE 0 (xs := []) fun n38 F1 w39 hE39 ho1 hF1 hs1 => ?_
  have hs1 : GSl F1 0 (some ⟨n38, 0, none⟩) 0 0 (bools []) := hs1
  refine hs1.append_bools hF1 ((hE29.trans' hE39).row hK) rfl (by omega) fun F2 A40 n42 w43 ho2 hF2 hs2 => ?_
  simp only [List.nil_append] at hs2
  have hE43 : Ext w29 w43 := hF2.base
  have prg : ∀ R' : Res, (∀ w46 mm x (A' : Option Addr) (n' c' : Nat) (B' : Option Addr) (k' d' : Nat), Ext w43 w46 → MachAt w46 mm (.agg (Array.mk [.int .i64 mm.letters, .int .i64 mm.start, .slice A' n' c', .slice B' k' d'])) → HP m hid mm x → mm.Lim → mm.next.length ≤ 4000 →
      R' (.tuple (Array.mk [.agg (Array.mk [.int .i64 mm.letters, .int .i64 mm.start, .slice A' n' c', .slice B' k' d']), .int .i64 x])) [] w46) →
      CallsI Try.prog 40 [.agg (Array.mk [.int .i64 m.letters, .int .i64 m.start, .slice A32 n33 n34, .slice A35 n36 n37]), .slice A40 (0 + hid.length) n42] w43 [] R' := by
    intro R' hR'
    refine c40 (hat.ext hE43) la (hs2.slb hF2) (fun h => hR' w43 zeroM _ _ _ _ _ _ _ Ext.rfl' (zeroM_at _) (.inl ⟨h, rfl, rfl⟩) zeroM_lim (by simp [zeroM])) (fun h1 h2 w' y xs hE h3 h4 h5 h6 h7 h8 => hR' w' zeroM _ _ _ _ _ _ _ hE (zeroM_at w') (.inr (.inl ⟨⟨h1, h2⟩, rfl, rfl, y, xs, h3, h4, h5, h6, h7, h8⟩)) zeroM_lim (by simp [zeroM])) fun h1 h2 w' mm v' hnew hok hsz => ?_
    have hat := hnew.at_
    obtain ⟨A', n', c', B', k', d', rfl⟩ := hat.form
    have hml : mm.letters = m.letters := by
      obtain ⟨z, h3, _, h4, _⟩ := hok
      exact (h4.of h3).letters
    have hsh : mm.Shaped := by
      obtain ⟨z, h3, _, h4, _⟩ := hok
      exact h4.canon.shaped
    have := h1.letters
    exact hR' w' mm 0 _ _ _ _ _ _ hnew.below hat (.inr (.inr ⟨⟨h1, h2⟩, rfl, hok⟩)) (hsh.lim (by omega) (by omega)) hsz
  refine prg _ fun w46 mm x55 A49 n50 n51 A52 n53 n54 hE46 hmm hhp lm sm => ⟨_, _, _, _, _, _, _, _, _, rfl, rfl, fun _ => ?_⟩
  obtain ⟨rfl, rfl⟩ := hhr.eq hhp
  have hE1646 : Ext w16 w46 := (hcp.below.trans' hE43).trans' hE46
  have hrm := hrm.ext hE1646
  have hEw : Ext w w46 := hE16.trans' hE1646
  refine condK_bne (fun h => absurd rfl h) fun _ => ?_
  have words : ∃ I65, J13_29 I65 w46 us.length x25 D m.letters m.start A n c B k d Kp hid.length rm.letters rm.start A49 n50 n51 A52 n53 n54 R := by
    refine ⟨fun x66 => ⟨fun w67 => Ext w46 w67 ∧ 0 ≤ x66 ∧ x66 ≤ us.length, fun _ => (us.length - x66).toNat⟩, ⟨Ext.rfl', by omega, by omega⟩, ?_⟩
    rintro x66 w67 ⟨hE67, h660, h661⟩ n68 rfl
    have hE := hEw.trans' hE67
    refine condK_dec (fun hlt => ?_) fun _ => awake w67 hE
    refine condK_beq (fun h0 => ?_) fun _ => awake w67 hE
    obtain ⟨⟨hvm, hhl⟩, hhide⟩ := hhp.ok h0
    have hvr : rm.Valid := ⟨hhide.canon.shaped, by rw [hhide.letters]; exact hvm.letters, sm⟩
    have next : ∀ w75, Ext w46 w75 → J13_2 (fun x66 => ⟨fun w67 => Ext w46 w67 ∧ 0 ≤ x66 ∧ x66 ≤ us.length, fun _ => (us.length - x66).toNat⟩) x66 w75 (us.length - x66).toNat := fun w75 hE75 => by
      rw [J13_2, wrap_id (by omega) (by omega)]
      exact ⟨⟨hE75, by omega, by omega⟩, by simp only []; omega⟩
    refine rd_row hE hD hDl hDx h660 hlt (K := fun A70 n71 n72 => CallsI Try.prog 20 _ w67 _ _) fun A70 c72 r hr hrow => ?_
    have hrl := hur r (List.mem_of_getElem? hr)
    refine c20 (ha0.ext hE) la ⟨_, _, rfl, hE.row hrow⟩ (by omega) ⟨_, rfl, rfl, ?_⟩
    refine condK_of (fun _ => next w67 hE67) fun hacc => ?_
    have hacc : m.acc m.start r = true := by rw [← Mach.accepts_valid hvm]; simpa using hacc
    have hlet := hvm.shaped.acc_let hacc
    refine (Fam.empty w67).mkRow 0 (xs := []) fun n77 F w78 ho hF hs0 => ?_
    have hs0 : GSl F 0 (some ⟨n77, 0, none⟩) 0 0 (ints []) := hs0
    refine ⟨fun x80 A81 n82 n83 => ⟨fun w84 => ∃ F, Fam w67 w84 F ∧ GSl F 0 A81 n82 n83 (ints (hideW hid (r.take x80.toNat))) ∧ 0 ≤ x80 ∧ x80 ≤ r.length, fun _ => (r.length - x80).toNat⟩, ⟨F, hF, hs0, by omega, by omega⟩, ?_⟩
    clear hs0 hF ho
    rintro x80 A81 n82 n83 w84 ⟨F, hF, hl, h800, h801⟩ n85 rfl
    have hE84 : Ext w w84 := hE.trans' hF.base
    have hrd : ∀ K : Option Addr → Nat → Nat → Prop, (∀ A' c', Row w A' (ints r) → K A' r.length c') → IxV D us.length 1 x66 fun a => ∃ A' n c, w84.cell? a = some (.slice A' n c) ∧ K A' n c := fun K hK' => by
      refine rd_row hE84 hD hDl hDx h660 hlt (K := K) fun A' c' r' hr' hrow' => ?_
      rw [hr] at hr'; injection hr' with hr'; subst hr'
      exact hK' A' c' hrow'
    refine hrd (fun A87 n88 n89 => condK _ _ _) fun A87 c89 hrow87 => ?_
    have hn82 : n82 = (hideW hid (r.take x80.toNat)).length := by rw [hl.len, ints_len]
    have hwl : (hideW hid (r.take x80.toNat)).length ≤ r.length := Nat.le_trans (List.length_filter_le _ _) (by rw [List.length_take]; omega)
    refine condK_dec (fun hlt2 => ?_) fun hge => ?_
    · refine hrd (fun A91 n92 n93 => IxV A91 n92 1 x80 _) fun A91 c93 hrow91 => ?_
      have hm := hlet _ (gi_mem (l := r) h800 hlt2)
      unfold Mach.Let at hm
      refine rd_int hE84 hrow91 h800 hlt2 (K := fun x95 => IxV Kp hid.length 1 x95 _) ?_
      refine rd_bool hE84 hK hm.1 (by omega) (K := fun t97 => condK (!t97) _ _) ?_
      have hsn := hideW_snoc (hid := hid) h800 hlt2
      refine condK_of (fun hh => ?_) fun hh => ?_
      · have hh : gb hid (gi r x80) = false := by simpa using hh
        rw [hh] at hsn
        refine hrd (fun A99 n100 n101 => IxV A99 n100 1 x80 _) fun A99 c101 hrow99 => ?_
        refine rd_int hE84 hrow99 h800 hlt2 (K := fun x103 => NewK w84 (Obj.cells (Array.mk [Value.int IntKind.i64 x103]) 3) _) ?_
        refine hl.push_int hF (by omega) fun F2 A106 c108 w109 ho2 hF2 hl2 => ?_
        rw [J13_3, wrap_id (by omega) (by omega)]
        exact ⟨⟨F2, hF2, by rw [hsn]; exact hl2, by omega, by omega⟩, by simp only []; omega⟩
      · have hh : gb hid (gi r x80) = true := by simpa using hh
        rw [hh] at hsn
        rw [J13_3, wrap_id (by omega) (by omega)]
        exact ⟨⟨F, hF, by rw [hsn]; simpa using hl, by omega, by omega⟩, by simp only []; omega⟩
    · have htk : r.take x80.toNat = r := List.take_of_length_le (by omega)
      rw [htk] at hl hwl
      refine c20 (hmm.ext (hE67.trans' hF.base)) lm (hl.sli hF) (by omega) ⟨_, rfl, rfl, ?_⟩
      rw [Mach.accepts_valid hvr, hhide.word hacc]
      exact condK_of (fun h => by cases h) fun _ => next w84 (hE67.trans' hF.base)
  have j34 : J13_34 x25 rm.letters rm.start A49 n50 n51 A52 n53 n54 rm.letters rm.start A19 n20 n21 A22 n23 n24 w46 R us.length D m.letters m.start A n c B k d Kp hid.length := by
    rw [J13_34]
    refine condK_beq (fun _ => ?_) fun _ => words
    exact c24 hmm hrm lm (fun _ => ⟨_, rfl, rfl, condK_of (fun h => by cases h) fun _ => words⟩) fun h => absurd rfl h
  refine condK_bne (fun h => ?_) fun _ => j34
  exact c24 hmm (zeroM_at _) lm (fun _ => ⟨_, rfl, rfl, condK_of (fun h => by cases h) fun _ => j34⟩) fun hne => absurd (hhp.zero h) hne
end Go.Proofs.Ytnkpjlhbojjneaa.VC
