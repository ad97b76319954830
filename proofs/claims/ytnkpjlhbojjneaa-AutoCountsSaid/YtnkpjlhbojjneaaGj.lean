/- A machine written otherwise. -/
import Derived.Test.YtnkpjlhbojjneaaGb
import Derived.Test.YtnkpjlhbojjneaaGi
/- The conditions of functions, printed by wip/tools/gen.py. -/
namespace Go.Proofs.Ytnkpjlhbojjneaa.VC
open Go Go.RowKit

def J25_2 (I21 : Int → Int → Lp) (x22 : Int) (x23 : Int) (w39 : World) (n25 : Nat) : Prop := (I21 (IntKind.i64.wrap (x22 + 1)) (IntKind.i64.wrap (x23 + 1))).1 w39 ∧ (I21 (IntKind.i64.wrap (x22 + 1))
    (IntKind.i64.wrap (x23 + 1))).m w39 < n25

def J25_16 (x31 : Int) (n : Nat) (n3 : Nat) (x9 : Int) (by_ : Int) (w24 : World) (x22 : Int) (I21 : Int → Int → Lp) (x23 : Int) (n25 : Nat) : Prop := condK (decide (x31 ≥ 0)) (IntKind.i64.wrap (2 *
    (↑n : Int)) ≠ 0 ∧ IxV (some (Addr.mk n3 0 none)) (IntKind.i64.wrap (2 * (↑n : Int))).toNat 1 ((IntKind.i64.wrap (x9 + IntKind.i64.wrap by_)).tmod (IntKind.i64.wrap (2 * (↑n : Int)))) fun (a46 : Addr)
    => ∃ (A47 : Option Addr), ∃ (n48 : Nat), ∃ (n49 : Nat), w24.cell? a46 = some (Value.slice A47 n48 n49) ∧ IxV A47 n48 1 x22 fun (a50 : Addr) => SetK w24 a50 (Value.int IntKind.i64 ((IntKind.i64.wrap
    (x31 + IntKind.i64.wrap by_)).tmod (IntKind.i64.wrap (2 * (↑n : Int))))) fun (w51 : World) => J25_2 I21 x22 x23 w51 n25) (IxV (some (Addr.mk n3 0 none)) (IntKind.i64.wrap (2 * (↑n : Int))).toNat 1
    ((IntKind.i64.wrap (x9 + IntKind.i64.wrap by_)).tmod (IntKind.i64.wrap (2 * (↑n : Int)))) fun (a52 : Addr) => ∃ (A53 : Option Addr), ∃ (n54 : Nat), ∃ (n55 : Nat), w24.cell? a52 = some (Value.slice A53
    n54 n55) ∧ IxV A53 n54 1 x22 fun (a56 : Addr) => SetK w24 a56 (Value.int IntKind.i64 x31) fun (w57 : World) => J25_2 I21 x22 x23 w57 n25)

def J25_34 (n : Nat) (R : Value → List (List Value) → World → Prop) (l : Int) (w6 : World) (n3 : Nat) (by_ : Int) (B : Option Addr) (m : Nat) (n5 : Nat) (A : Option Addr) (k0 : Nat) (K : Option Addr)
    (s : Int) : Prop := condK ((↑n : Int) == 0) (R (Value.agg (Array.mk [Value.int IntKind.i64 l, Value.int IntKind.i64 (-1), Value.slice none 0 0, Value.slice none 0 0])) [] w6) (∃ (I8 : Int → Int → Lp),
    (I8 0 0).1 w6 ∧ ∀ (x9 x10 : Int) (w11 : World), (I8 x9 x10).1 w11 → ∀ (n12 : Nat), (I8 x9 x10).m w11 = n12 → condK (decide (x9 < IntKind.i64.wrap (2 * (↑n : Int)))) (IntKind.i64.wrap (2 * (↑n : Int))
    ≠ 0 ∧ l = l ∧ 0 ≤ l ∧ l * (↑8 : Int) ≤ 281474976710656 ∧ l ≤ 9223372036854775807 ∧ NewK w11 (Obj.cells (Array.mk (List.replicate l.toNat (Value.int IntKind.i64 0))) 3) fun (n13 : Nat) (w14 : World) =>
    IxV (some (Addr.mk n3 0 none)) (IntKind.i64.wrap (2 * (↑n : Int))).toNat 1 ((IntKind.i64.wrap (x9 + IntKind.i64.wrap by_)).tmod (IntKind.i64.wrap (2 * (↑n : Int)))) fun (a15 : Addr) => SetK w14 a15
    (Value.slice (some (Addr.mk n13 0 none)) l.toNat l.toNat) fun (w16 : World) => (↑n : Int) ≠ 0 ∧ IxV B m 1 (x9.tmod (↑n : Int)) fun (a17 : Addr) => ∃ (t18 : Bool), w16.cell? a17 = some (Value.bool t18)
    ∧ IxV (some (Addr.mk n5 0 none)) (IntKind.i64.wrap (2 * (↑n : Int))).toNat 1 ((IntKind.i64.wrap (x9 + IntKind.i64.wrap by_)).tmod (IntKind.i64.wrap (2 * (↑n : Int)))) fun (a19 : Addr) => SetK w16 a19
    (Value.bool t18) fun (w20 : World) => ∃ (I21 : Int → Int → Lp), (I21 0 x10).1 w20 ∧ ∀ (x22 x23 : Int) (w24 : World), (I21 x22 x23).1 w24 → ∀ (n25 : Nat), (I21 x22 x23).m w24 = n25 → condK (decide (x22
    < l)) ((↑n : Int) ≠ 0 ∧ IxV A n 1 (x9.tmod (↑n : Int)) fun (a26 : Addr) => ∃ (A27 : Option Addr), ∃ (n28 : Nat), ∃ (n29 : Nat), w24.cell? a26 = some (Value.slice A27 n28 n29) ∧ IxV A27 n28 1 x22 fun
    (a30 : Addr) => ∃ (x31 : Int), w24.cell? a30 = some (Value.int IntKind.i64 x31) ∧ condK (decide (x31 ≥ 0)) (condK (decide (x23 < (↑k0 : Int))) (IxV K k0 1 x23 fun (a32 : Addr) => ∃ (t33 : Bool),
    w24.cell? a32 = some (Value.bool t33) ∧ condK t33 (condK (decide (IntKind.i64.wrap (x31 + (↑n : Int)) ≥ 0)) (IntKind.i64.wrap (2 * (↑n : Int)) ≠ 0 ∧ IxV (some (Addr.mk n3 0 none)) (IntKind.i64.wrap (2
    * (↑n : Int))).toNat 1 ((IntKind.i64.wrap (x9 + IntKind.i64.wrap by_)).tmod (IntKind.i64.wrap (2 * (↑n : Int)))) fun (a34 : Addr) => ∃ (A35 : Option Addr), ∃ (n36 : Nat), ∃ (n37 : Nat), w24.cell? a34
    = some (Value.slice A35 n36 n37) ∧ IxV A35 n36 1 x22 fun (a38 : Addr) => SetK w24 a38 (Value.int IntKind.i64 ((IntKind.i64.wrap (IntKind.i64.wrap (x31 + (↑n : Int)) + IntKind.i64.wrap by_)).tmod
    (IntKind.i64.wrap (2 * (↑n : Int))))) fun (w39 : World) => J25_2 I21 x22 x23 w39 n25) (IxV (some (Addr.mk n3 0 none)) (IntKind.i64.wrap (2 * (↑n : Int))).toNat 1 ((IntKind.i64.wrap (x9 +
    IntKind.i64.wrap by_)).tmod (IntKind.i64.wrap (2 * (↑n : Int)))) fun (a40 : Addr) => ∃ (A41 : Option Addr), ∃ (n42 : Nat), ∃ (n43 : Nat), w24.cell? a40 = some (Value.slice A41 n42 n43) ∧ IxV A41 n42 1
    x22 fun (a44 : Addr) => SetK w24 a44 (Value.int IntKind.i64 (IntKind.i64.wrap (x31 + (↑n : Int)))) fun (w45 : World) => J25_2 I21 x22 x23 w45 n25)) (J25_16 x31 n n3 x9 by_ w24 x22 I21 x23 n25))
    (J25_16 x31 n n3 x9 by_ w24 x22 I21 x23 n25)) (J25_16 x31 n n3 x9 by_ w24 x22 I21 x23 n25)) ((I8 (IntKind.i64.wrap (x9 + 1)) x23).1 w24 ∧ (I8 (IntKind.i64.wrap (x9 + 1)) x23).m w24 < n12))
    (IntKind.i64.wrap (2 * (↑n : Int)) ≠ 0 ∧ R (Value.agg (Array.mk [Value.int IntKind.i64 l, Value.int IntKind.i64 ((IntKind.i64.wrap (s + IntKind.i64.wrap by_)).tmod (IntKind.i64.wrap (2 * (↑n :
    Int)))), Value.slice (some (Addr.mk n3 0 none)) (IntKind.i64.wrap (2 * (↑n : Int))).toNat (IntKind.i64.wrap (2 * (↑n : Int))).toNat, Value.slice (some (Addr.mk n5 0 none)) (IntKind.i64.wrap (2 * (↑n :
    Int))).toNat (IntKind.i64.wrap (2 * (↑n : Int))).toNat])) [] w11))

set_option maxRecDepth 100000 in
theorem s25 (l s : Int) (A : Option Addr) (n c : Nat) (B : Option Addr) (m d : Nat) (by_ : Int) (K : Option Addr) (k0 k1 : Nat) (w : World) (R : Value → List (List Value) → World → Prop) (h :
    ∀ (_n1 _n2 : Nat), (IntKind.i64.wrap (2 * (↑n : Int)) = IntKind.i64.wrap (2 * (↑n : Int)) ∧ 0 ≤ IntKind.i64.wrap (2 * (↑n : Int)) ∧ IntKind.i64.wrap (2 * (↑n : Int)) * (↑24 : Int) ≤ 281474976710656 ∧
        IntKind.i64.wrap (2 * (↑n : Int)) ≤ 9223372036854775807 ∧ NewK w (Obj.cells (Array.mk (List.replicate (IntKind.i64.wrap (2 * (↑n : Int))).toNat (Value.slice none 0 0))) 26) fun (n3 : Nat) (w4 : World)
        => (IntKind.i64.wrap (2 * (↑n : Int)) = IntKind.i64.wrap (2 * (↑n : Int)) ∧ 0 ≤ IntKind.i64.wrap (2 * (↑n : Int)) ∧ IntKind.i64.wrap (2 * (↑n : Int)) * (↑1 : Int) ≤ 281474976710656 ∧ IntKind.i64.wrap
        (2 * (↑n : Int)) ≤ 9223372036854775807 ∧ NewK w4 (Obj.cells (Array.mk (List.replicate (IntKind.i64.wrap (2 * (↑n : Int))).toNat (Value.bool false))) 4) fun (n5 : Nat) (w6 : World) => Nat → J25_34 n R
        l w6 n3 by_ B m n5 A k0 K s) ∧ ∀ (_n82 : Nat), IntKind.i64.wrap (2 * (↑n : Int)) = IntKind.i64.wrap (2 * (↑n : Int)) ∧ 0 ≤ IntKind.i64.wrap (2 * (↑n : Int)) ∧ IntKind.i64.wrap (2 * (↑n : Int)) * (↑1 :
        Int) ≤ 281474976710656 ∧ IntKind.i64.wrap (2 * (↑n : Int)) ≤ 9223372036854775807 ∧ NewK w4 (Obj.cells (Array.mk (List.replicate (IntKind.i64.wrap (2 * (↑n : Int))).toNat (Value.bool false))) 4) fun
        (n83 : Nat) (w84 : World) => J25_34 n R l w84 n3 by_ B m n83 A k0 K s) ∧ (IntKind.i64.wrap (2 * (↑n : Int)) = IntKind.i64.wrap (2 * (↑n : Int)) ∧ 0 ≤ IntKind.i64.wrap (2 * (↑n : Int)) ∧
        IntKind.i64.wrap (2 * (↑n : Int)) * (↑1 : Int) ≤ 281474976710656 ∧ IntKind.i64.wrap (2 * (↑n : Int)) ≤ 9223372036854775807 ∧ NewK w (Obj.cells (Array.mk (List.replicate (IntKind.i64.wrap (2 * (↑n :
        Int))).toNat (Value.bool false))) 4) fun (n85 : Nat) (w86 : World) => (IntKind.i64.wrap (2 * (↑n : Int)) = IntKind.i64.wrap (2 * (↑n : Int)) ∧ 0 ≤ IntKind.i64.wrap (2 * (↑n : Int)) ∧ IntKind.i64.wrap
        (2 * (↑n : Int)) * (↑24 : Int) ≤ 281474976710656 ∧ IntKind.i64.wrap (2 * (↑n : Int)) ≤ 9223372036854775807 ∧ NewK w86 (Obj.cells (Array.mk (List.replicate (IntKind.i64.wrap (2 * (↑n : Int))).toNat
        (Value.slice none 0 0))) 26) fun (n87 : Nat) (w88 : World) => Nat → J25_34 n R l w88 n87 by_ B m n85 A k0 K s) ∧ ∀ (_n90 : Nat), IntKind.i64.wrap (2 * (↑n : Int)) = IntKind.i64.wrap (2 * (↑n : Int)) ∧
        0 ≤ IntKind.i64.wrap (2 * (↑n : Int)) ∧ IntKind.i64.wrap (2 * (↑n : Int)) * (↑24 : Int) ≤ 281474976710656 ∧ IntKind.i64.wrap (2 * (↑n : Int)) ≤ 9223372036854775807 ∧ NewK w86 (Obj.cells (Array.mk
        (List.replicate (IntKind.i64.wrap (2 * (↑n : Int))).toNat (Value.slice none 0 0))) 26) fun (n91 : Nat) (w92 : World) => J25_34 n R l w92 n91 by_ B m n85 A k0 K s) ∧ ∀ (_n93 : Nat), (IntKind.i64.wrap
        (2 * (↑n : Int)) = IntKind.i64.wrap (2 * (↑n : Int)) ∧ 0 ≤ IntKind.i64.wrap (2 * (↑n : Int)) ∧ IntKind.i64.wrap (2 * (↑n : Int)) * (↑24 : Int) ≤ 281474976710656 ∧ IntKind.i64.wrap (2 * (↑n : Int)) ≤
        9223372036854775807 ∧ NewK w (Obj.cells (Array.mk (List.replicate (IntKind.i64.wrap (2 * (↑n : Int))).toNat (Value.slice none 0 0))) 26) fun (n94 : Nat) (w95 : World) => IntKind.i64.wrap (2 * (↑n :
        Int)) = IntKind.i64.wrap (2 * (↑n : Int)) ∧ 0 ≤ IntKind.i64.wrap (2 * (↑n : Int)) ∧ IntKind.i64.wrap (2 * (↑n : Int)) * (↑1 : Int) ≤ 281474976710656 ∧ IntKind.i64.wrap (2 * (↑n : Int)) ≤
        9223372036854775807 ∧ NewK w95 (Obj.cells (Array.mk (List.replicate (IntKind.i64.wrap (2 * (↑n : Int))).toNat (Value.bool false))) 4) fun (n96 : Nat) (w97 : World) => J25_34 n R l w97 n94 by_ B m n96
        A k0 K s) ∧ IntKind.i64.wrap (2 * (↑n : Int)) = IntKind.i64.wrap (2 * (↑n : Int)) ∧ 0 ≤ IntKind.i64.wrap (2 * (↑n : Int)) ∧ IntKind.i64.wrap (2 * (↑n : Int)) * (↑1 : Int) ≤ 281474976710656 ∧
        IntKind.i64.wrap (2 * (↑n : Int)) ≤ 9223372036854775807 ∧ NewK w (Obj.cells (Array.mk (List.replicate (IntKind.i64.wrap (2 * (↑n : Int))).toNat (Value.bool false))) 4) fun (n98 : Nat) (w99 : World) =>
        IntKind.i64.wrap (2 * (↑n : Int)) = IntKind.i64.wrap (2 * (↑n : Int)) ∧ 0 ≤ IntKind.i64.wrap (2 * (↑n : Int)) ∧ IntKind.i64.wrap (2 * (↑n : Int)) * (↑24 : Int) ≤ 281474976710656 ∧ IntKind.i64.wrap (2
        * (↑n : Int)) ≤ 9223372036854775807 ∧ NewK w99 (Obj.cells (Array.mk (List.replicate (IntKind.i64.wrap (2 * (↑n : Int))).toNat (Value.slice none 0 0))) 26) fun (n100 : Nat) (w101 : World) => J25_34 n R
        l w101 n100 by_ B m n98 A k0 K s) :
    CallsI Try.prog 25 [(.agg #[.int .i64 l, .int .i64 s, .slice A n c, .slice B m d]), (.int .u8 by_), (.slice K k0 k1)] w [] R :=
  vcFun_sound (H := ⟨[], [(0, [(10, .int .i64), (9, .int .i64)], []), (2, [(12, .int .i64), (9, .int .i64)], [])]⟩) (args := [.v (.agg #[.int .i64 l, .int .i64 s, .slice A n c, .slice B m d]), .v (.int .u8 by_), .v (.slice K k0 k1)]) (L := []) goodP Try.func25 (by simp [okp]) (by rw [Try.ntmps25]; simp) (by simp [okp]) (Eq.mp (by kernel_rfl) h)

def J5_1 (w4 : World) (R : Value → List (List Value) → World → Prop) : Prop := CallsI Try.prog 15 [] w4 [] fun (v6 : Value) (l7 : List (List Value)) (w8 : World) => ∃ (t9 : Bool), v6 = Value.bool t9 ∧
    l7 = [] ∧ R (Value.bool t9) [] w8

set_option maxRecDepth 100000 in
theorem s5 (l s : Int) (A : Option Addr) (n c : Nat) (B : Option Addr) (m d : Nat) (by_ : Int) (K : Option Addr) (k0 k1 : Nat) (w : World) (R : Value → List (List Value) → World → Prop) (h :
    ∀ (_n1 : Nat), CallsI Try.prog 21 [Value.agg (Array.mk [Value.int IntKind.i64 l, Value.int IntKind.i64 s, Value.slice A n c, Value.slice B m d])] w [] fun (v2 : Value) (l3 : List (List Value)) (w4 :
        World) => ∃ (t5 : Bool), v2 = Value.bool t5 ∧ l3 = [] ∧ condK (!t5) (J5_1 w4 R) (CallsI Try.prog 16 [Value.agg (Array.mk [Value.int IntKind.i64 l, Value.int IntKind.i64 s, Value.slice A n c,
        Value.slice B m d])] w4 [] fun (v10 : Value) (l11 : List (List Value)) (w12 : World) => ∃ (x13 : Int), v10 = Value.int IntKind.i64 x13 ∧ l11 = [] ∧ condK (x13 != 0) (J5_1 w12 R) (CallsI Try.prog 25
        [Value.agg (Array.mk [Value.int IntKind.i64 l, Value.int IntKind.i64 s, Value.slice A n c, Value.slice B m d]), Value.int IntKind.u8 by_, Value.slice K k0 k1] w12 [] fun (v18 : Value) (l19 : List
        (List Value)) (w20 : World) => ∃ (x21 : Int), ∃ (x22 : Int), ∃ (A23 : Option Addr), ∃ (n24 : Nat), ∃ (n25 : Nat), ∃ (A26 : Option Addr), ∃ (n27 : Nat), ∃ (n28 : Nat), v18 = Value.agg (Array.mk
        [Value.int IntKind.i64 x21, Value.int IntKind.i64 x22, Value.slice A23 n24 n25, Value.slice A26 n27 n28]) ∧ l19 = [] ∧ ∀ (_n29 : Nat), CallsI Try.prog 19 [Value.agg (Array.mk [Value.int IntKind.i64 l,
        Value.int IntKind.i64 s, Value.slice A n c, Value.slice B m d])] w20 [] fun (v30 : Value) (l31 : List (List Value)) (w32 : World) => ∃ (x33 : Int), ∃ (x34 : Int), ∃ (A35 : Option Addr), ∃ (n36 : Nat),
        ∃ (n37 : Nat), ∃ (A38 : Option Addr), ∃ (n39 : Nat), ∃ (n40 : Nat), v30 = Value.agg (Array.mk [Value.int IntKind.i64 x33, Value.int IntKind.i64 x34, Value.slice A35 n36 n37, Value.slice A38 n39 n40])
        ∧ l31 = [] ∧ CallsI Try.prog 23 [Value.agg (Array.mk [Value.int IntKind.i64 x33, Value.int IntKind.i64 x34, Value.slice A35 n36 n37, Value.slice A38 n39 n40])] w32 [] fun (v41 : Value) (l42 : List
        (List Value)) (w43 : World) => ∃ (x44 : Int), ∃ (x45 : Int), ∃ (A46 : Option Addr), ∃ (n47 : Nat), ∃ (n48 : Nat), ∃ (A49 : Option Addr), ∃ (n50 : Nat), ∃ (n51 : Nat), ∃ (x52 : Int), v41 = Value.tuple
        (Array.mk [Value.agg (Array.mk [Value.int IntKind.i64 x44, Value.int IntKind.i64 x45, Value.slice A46 n47 n48, Value.slice A49 n50 n51]), Value.int IntKind.i64 x52]) ∧ l42 = [] ∧ ∀ (_n53 : Nat),
        CallsI Try.prog 23 [Value.agg (Array.mk [Value.int IntKind.i64 x21, Value.int IntKind.i64 x22, Value.slice A23 n24 n25, Value.slice A26 n27 n28])] w43 [] fun (v54 : Value) (l55 : List (List Value))
        (w56 : World) => ∃ (x57 : Int), ∃ (x58 : Int), ∃ (A59 : Option Addr), ∃ (n60 : Nat), ∃ (n61 : Nat), ∃ (A62 : Option Addr), ∃ (n63 : Nat), ∃ (n64 : Nat), ∃ (x65 : Int), v54 = Value.tuple (Array.mk
        [Value.agg (Array.mk [Value.int IntKind.i64 x57, Value.int IntKind.i64 x58, Value.slice A59 n60 n61, Value.slice A62 n63 n64]), Value.int IntKind.i64 x65]) ∧ l55 = [] ∧ ∀ (_n66 : Nat), CallsI Try.prog
        19 [Value.agg (Array.mk [Value.int IntKind.i64 x44, Value.int IntKind.i64 x45, Value.slice A46 n47 n48, Value.slice A49 n50 n51])] w56 [] fun (v67 : Value) (l68 : List (List Value)) (w69 : World) => ∃
        (x70 : Int), ∃ (x71 : Int), ∃ (A72 : Option Addr), ∃ (n73 : Nat), ∃ (n74 : Nat), ∃ (A75 : Option Addr), ∃ (n76 : Nat), ∃ (n77 : Nat), v67 = Value.agg (Array.mk [Value.int IntKind.i64 x70, Value.int
        IntKind.i64 x71, Value.slice A72 n73 n74, Value.slice A75 n76 n77]) ∧ l68 = [] ∧ CallsI Try.prog 23 [Value.agg (Array.mk [Value.int IntKind.i64 x70, Value.int IntKind.i64 x71, Value.slice A72 n73 n74,
        Value.slice A75 n76 n77])] w69 [] fun (v78 : Value) (l79 : List (List Value)) (w80 : World) => ∃ (x81 : Int), ∃ (x82 : Int), ∃ (A83 : Option Addr), ∃ (n84 : Nat), ∃ (n85 : Nat), ∃ (A86 : Option Addr),
        ∃ (n87 : Nat), ∃ (n88 : Nat), ∃ (x89 : Int), v78 = Value.tuple (Array.mk [Value.agg (Array.mk [Value.int IntKind.i64 x81, Value.int IntKind.i64 x82, Value.slice A83 n84 n85, Value.slice A86 n87 n88]),
        Value.int IntKind.i64 x89]) ∧ l79 = [] ∧ ∀ (_n90 : Nat), CallsI Try.prog 26 [Value.agg (Array.mk [Value.int IntKind.i64 l, Value.int IntKind.i64 s, Value.slice A n c, Value.slice B m d]), Value.agg
        (Array.mk [Value.int IntKind.i64 x21, Value.int IntKind.i64 x22, Value.slice A23 n24 n25, Value.slice A26 n27 n28])] w80 [] fun (v91 : Value) (l92 : List (List Value)) (w93 : World) => ∃ (A94 : Option
        Addr), ∃ (n95 : Nat), ∃ (n96 : Nat), ∃ (t97 : Bool), ∃ (x98 : Int), v91 = Value.tuple (Array.mk [Value.slice A94 n95 n96, Value.bool t97, Value.int IntKind.i64 x98]) ∧ l92 = [] ∧ CallsI Try.prog 27
        [Value.agg (Array.mk [Value.int IntKind.i64 l, Value.int IntKind.i64 s, Value.slice A n c, Value.slice B m d]), Value.agg (Array.mk [Value.int IntKind.i64 x21, Value.int IntKind.i64 x22, Value.slice
        A23 n24 n25, Value.slice A26 n27 n28])] w93 [] fun (v99 : Value) (l100 : List (List Value)) (w101 : World) => ∃ (A102 : Option Addr), ∃ (n103 : Nat), ∃ (n104 : Nat), ∃ (x105 : Int), v99 = Value.tuple
        (Array.mk [Value.slice A102 n103 n104, Value.int IntKind.i64 x105]) ∧ l100 = [] ∧ condK (x52 != 0) (R (Value.bool false) [] w101) (condK (x65 != 0) (R (Value.bool false) [] w101) (condK (x89 != 0) (R
        (Value.bool false) [] w101) (condK (x98 != 7) (R (Value.bool false) [] w101) (condK (x105 != 0) (R (Value.bool false) [] w101) (CallsI Try.prog 24 [Value.agg (Array.mk [Value.int IntKind.i64 x44,
        Value.int IntKind.i64 x45, Value.slice A46 n47 n48, Value.slice A49 n50 n51]), Value.agg (Array.mk [Value.int IntKind.i64 x57, Value.int IntKind.i64 x58, Value.slice A59 n60 n61, Value.slice A62 n63
        n64])] w101 [] fun (v106 : Value) (l107 : List (List Value)) (w108 : World) => ∃ (t109 : Bool), v106 = Value.bool t109 ∧ l107 = [] ∧ condK t109 (CallsI Try.prog 24 [Value.agg (Array.mk [Value.int
        IntKind.i64 x44, Value.int IntKind.i64 x45, Value.slice A46 n47 n48, Value.slice A49 n50 n51]), Value.agg (Array.mk [Value.int IntKind.i64 x81, Value.int IntKind.i64 x82, Value.slice A83 n84 n85,
        Value.slice A86 n87 n88])] w108 [] fun (v110 : Value) (l111 : List (List Value)) (w112 : World) => ∃ (t113 : Bool), v110 = Value.bool t113 ∧ l111 = [] ∧ condK t113 (condK (decide ((↑n47 : Int) ≤ (↑n :
        Int))) (CallsI Try.prog 28 [Value.agg (Array.mk [Value.int IntKind.i64 l, Value.int IntKind.i64 s, Value.slice A n c, Value.slice B m d]), Value.agg (Array.mk [Value.int IntKind.i64 x21, Value.int
        IntKind.i64 x22, Value.slice A23 n24 n25, Value.slice A26 n27 n28]), Value.slice A102 n103 n104] w112 [] fun (v114 : Value) (l115 : List (List Value)) (w116 : World) => ∃ (x117 : Int), v114 =
        Value.int IntKind.i64 x117 ∧ l115 = [] ∧ condK (x117 == 0) (J5_1 w116 R) (R (Value.bool false) [] w116)) (R (Value.bool false) [] w112)) (R (Value.bool false) [] w112)) (R (Value.bool false) []
        w108))))))))) :
    CallsI Try.prog 5 [(.agg #[.int .i64 l, .int .i64 s, .slice A n c, .slice B m d]), (.int .u8 by_), (.slice K k0 k1)] w [] R :=
  vcFun_sound (H := ⟨[], []⟩) (args := [.v (.agg #[.int .i64 l, .int .i64 s, .slice A n c, .slice B m d]), .v (.int .u8 by_), .v (.slice K k0 k1)]) (L := []) goodP Try.func5 (by simp [okp]) (by rw [Try.ntmps5]; simp) (by simp [okp]) (Eq.mp (by kernel_rfl) h)

end Go.Proofs.Ytnkpjlhbojjneaa.VC

/- A machine whose states stand in another order, each of them twice: it has the same words. -/
namespace Go.Proofs.Ytnkpjlhbojjneaa.VC
open Go Go.RowKit

def tau (N b i : Int) : Int := (i + b) % N
theorem tau_rng {N b i : Int} (h : 0 < N) : 0 ≤ tau N b i ∧ tau N b i < N := ⟨Int.emod_nonneg _ (by omega), Int.emod_lt_of_pos _ h⟩
theorem tau_inj {N b i j : Int} (hi0 : 0 ≤ i) (hi : i < N) (hj0 : 0 ≤ j) (hj : j < N) (e : tau N b i = tau N b j) : i = j := by
  unfold tau at e
  have h := Int.emod_emod_of_dvd (i + b) (Int.dvd_refl N)
  have e2 : (i - j) % N = 0 := by
    have := Int.emod_eq_emod_iff_emod_sub_eq_zero.1 e
    rwa [show i + b - (j + b) = i - j by omega] at this
  have e3 : (j - i) % N = 0 := by
    have := Int.emod_eq_emod_iff_emod_sub_eq_zero.1 e.symm
    rwa [show j + b - (i + b) = j - i by omega] at this
  rcases ilt i j with h | h
  · rw [Int.emod_eq_of_lt (by omega) (by omega)] at e3; omega
  · rw [Int.emod_eq_of_lt (by omega) (by omega)] at e2; omega
theorem tau_sur {N b t : Int} (h0 : 0 ≤ t) (h1 : t < N) : ∃ i, 0 ≤ i ∧ i < N ∧ tau N b i = t := by
  refine ⟨(t - b) % N, Int.emod_nonneg _ (by omega), Int.emod_lt_of_pos _ (by omega), ?_⟩
  unfold tau
  rw [Int.emod_add_emod, show t - b + b = t by omega]
  exact Int.emod_eq_of_lt h0 h1
/-- an entry of the other machine -/
def EntR (m : Mach) (b i k e : Int) : Prop := (m.step (i % m.next.length) k < 0 ∧ e = -1) ∨ (0 ≤ m.step (i % m.next.length) k ∧ (e = tau (2 * m.next.length) b (m.step (i % m.next.length) k) ∨ e = tau (2 * m.next.length) b (m.step (i % m.next.length) k + m.next.length)))
structure Ren (m r : Mach) (b : Int) : Prop where
  letters : r.letters = m.letters
  n : (r.next.length : Int) = 2 * m.next.length
  fin : r.fin.length = r.next.length
  start : r.start = tau (2 * m.next.length) b m.start
  len : ∀ i : Int, 0 ≤ i → i < 2 * m.next.length → ((gl r.next (tau (2 * m.next.length) b i)).length : Int) = m.letters
  ent : ∀ i k : Int, 0 ≤ i → i < 2 * m.next.length → m.Let k → EntR m b i k (gi (gl r.next (tau (2 * m.next.length) b i)) k)
  ends : ∀ i : Int, 0 ≤ i → i < 2 * m.next.length → gb r.fin (tau (2 * m.next.length) b i) = m.ends (i % m.next.length)
section
variable {m r : Mach} {b : Int}
theorem Ren.shaped (h : Ren m r b) (hm : m.Shaped) (hn : 0 < m.next.length) : r.Shaped := by
  have hN : (0 : Int) < 2 * m.next.length := by omega
  have e1 := h.n
  refine ⟨by rw [h.letters]; exact hm.letters, h.fin.symm, fun row hr => ?_, fun e => by omega, fun _ => ?_⟩
  · obtain ⟨k, hk⟩ := List.mem_iff_getElem?.1 hr
    have hk1 := (List.getElem?_eq_some_iff.1 hk).1
    obtain ⟨i, i0, i1, e⟩ := tau_sur (N := 2 * m.next.length) (b := b) (t := k) (by omega) (by omega)
    have hg : gl r.next k = row := gl_get (by simpa using hk)
    have hl := h.len i i0 i1
    rw [e, hg] at hl
    refine ⟨by rw [h.letters]; exact hl, fun t ht => ?_⟩
    obtain ⟨j, hj⟩ := List.mem_iff_getElem?.1 ht
    have hj1 := (List.getElem?_eq_some_iff.1 hj).1
    have := h.ent i j i0 i1 ⟨by omega, by omega⟩
    rw [e, hg, gi_get (by simpa using hj)] at this
    have t1 := tau_rng (N := 2 * m.next.length) (b := b) (i := m.step (i % m.next.length) j) hN
    have t2 := tau_rng (N := 2 * m.next.length) (b := b) (i := m.step (i % m.next.length) j + m.next.length) hN
    rcases this with ⟨_, rfl⟩ | ⟨_, rfl | rfl⟩ <;> omega
  · have := tau_rng (N := 2 * m.next.length) (b := b) (i := m.start) hN
    rw [h.start]; omega
theorem Ren.acc (h : Ren m r b) (hm : m.Shaped) (hn : 0 < m.next.length) (u : List Int) : ∀ i : Int, 0 ≤ i → i < 2 * m.next.length → r.acc (tau (2 * m.next.length) b i) u = m.acc (i % m.next.length) u := by
  have hN : (0 : Int) < 2 * m.next.length := by omega
  have hs := h.shaped hm hn
  have e1 := h.n
  induction u with
  | nil =>
    intro i i0 i1
    have t := tau_rng (N := 2 * m.next.length) (b := b) (i := i) hN
    rw [Mach.acc_nil, Mach.acc_nil, ← h.ends i i0 i1]
    unfold Mach.ends; rw [decide_eq_true t.1, Bool.true_and]; rfl
  | cons k u ih =>
    intro i i0 i1
    have t := tau_rng (N := 2 * m.next.length) (b := b) (i := i) hN
    rw [Mach.acc_cons, Mach.acc_cons]
    by_cases hk : m.Let k
    · have hl := h.len i i0 i1
      have hst : r.step (tau (2 * m.next.length) b i) k = gi (gl r.next (tau (2 * m.next.length) b i)) k := by
        unfold Mach.Let at hk
        exact Mach.step_in (row := gl r.next (tau (2 * m.next.length) b i)) (get_gl (l := r.next) t.1 (by omega)) t.1 hk.1 (get_gi (l := gl r.next (tau (2 * m.next.length) b i)) hk.1 (by omega))
      have hr := hm.step_range (i % m.next.length) k
      rw [hst]
      rcases h.ent i k i0 i1 hk with ⟨a, e⟩ | ⟨a, e | e⟩
      · rw [e, Mach.acc_neg (by decide), Mach.acc_neg a]
      · rw [e, ih _ a (by omega), Int.emod_eq_of_lt a hr.2]
      · rw [e, ih _ (by omega) (by omega), Int.add_emod_right, Int.emod_eq_of_lt a hr.2]
    · have n1 : m.step (i % m.next.length) k < 0 := Classical.byContradiction fun hh => hk (hm.step_let (s := i % m.next.length) (x := k) (by omega)).2
      have n2 : r.step (tau (2 * m.next.length) b i) k < 0 := Classical.byContradiction fun hh => hk (by
        have := (hs.step_let (s := tau (2 * m.next.length) b i) (x := k) (by omega)).2
        unfold Mach.Let at *; rw [h.letters] at this; exact this)
      rw [Mach.acc_neg n1, Mach.acc_neg n2]
theorem Ren.words (h : Ren m r b) (hm : m.Shaped) (hn : 0 < m.next.length) (u : List Int) : r.acc r.start u = m.acc m.start u := by
  have := hm.start.2 (by omega)
  rw [h.start, h.acc hm hn u m.start (by omega) (by omega), Int.emod_eq_of_lt (by omega) (by omega)]
end
section
variable {w0 w : World} {F : FamF} {i : Nat} {A : Option Addr} {n c : Nat}
/-- an entry of a row is set -/
theorem GII.setEl {g : Nat → Nat} {xss : List (List Int)} (h : GII F i g A n c xss) (hF : Fam w0 w F) {x y v : Int} (h0 : 0 ≤ x) (h1 : x < xss.length) (y0 : 0 ≤ y) (y1 : y < (gl xss x).length) (hg : ∀ t, t < xss.length → g t ≠ i ∧ (g t = g x.toNat → t = x.toNat)) {K : World → Prop}
    (hk : ∀ F' w', Only (g x.toNat) F F' → Fam w0 w' F' → GII F' i g A n c (xss.set x.toNat ((gl xss x).set y.toNat v)) → K w') :
    IxV A n 1 x fun a => ∃ A' n' c', w.cell? a = some (.slice A' n' c') ∧ IxV A' n' 1 y fun a => SetK w a (.int .i64 v) K := by
  have hlt : x.toNat < xss.length := by omega
  refine h.get hF h0 h1 (K := fun A' n' c' => IxV A' n' 1 y fun a => SetK w a (.int .i64 v) K) fun A' n' c' hr => ?_
  have hgx := hg x.toNat hlt
  refine hr.set_int hF y0 y1 fun F1 w1 ho hF1 hr1 => ?_
  obtain ⟨hs, h3, h4, h5⟩ := h
  refine hk F1 w1 ho hF1 ⟨hs, h3.keep ho (Ne.symm hgx.1), by rw [List.length_set]; exact h4, fun t hd zs ht hz => ?_⟩
  by_cases e : t = x.toNat
  · subst e
    rw [List.getElem?_set_self (by omega)] at hz
    injection hz with hz; subst hz
    obtain ⟨A3, n3, c3, e3, h6⟩ := h5 _ _ _ ht (get_gl h0 h1)
    refine ⟨A3, n3, c3, e3, ?_⟩
    have e4 : A3 = A' ∧ n3 = n' ∧ c3 = c' := by
      rcases h6 with ⟨f1, f2, f3, f4, f5⟩ | ⟨b, rest, f1, f2, f3, f4⟩
      · have h9 : (ints (gl xss x)).length = 0 := by rw [f5]; rfl
        rw [ints_len] at h9; omega
      · rcases hr with ⟨g1, _⟩ | ⟨b', rest', g1, g2, g3, g4⟩
        · rw [f1] at g1; cases g1
        · rw [f1] at g1; injection g1 with g1; injection g1 with ga gb; injection gb with gb
          have := List.append_cancel_left gb
          subst ga this; exact ⟨by rw [f2, g2], by rw [f3, g3], by rw [f4, g4]⟩
    obtain ⟨rfl, rfl, rfl⟩ := e4
    exact hr1
  · rw [List.getElem?_set_ne (Ne.symm e)] at hz
    obtain ⟨A3, n3, c3, e3, h6⟩ := h5 t hd zs ht hz
    have hgt := hg t (List.getElem?_eq_some_iff.1 hz).1
    exact ⟨A3, n3, c3, e3, h6.keep ho fun h => e (hgt.2 h)⟩
end
end Go.Proofs.Ytnkpjlhbojjneaa.VC

/- A machine written otherwise. -/
namespace Go.Proofs.Ytnkpjlhbojjneaa.VC
open Go Go.RowKit

/-- the other machine, as far as the state x (rows till z, entries of x till y) -/
structure RB (m : Mach) (b x z y : Int) (nx : List (List Int)) (fn : List Bool) : Prop where
  nxl : nx.length = 2 * m.next.length
  fnl : fn.length = 2 * m.next.length
  len : ∀ i : Int, 0 ≤ i → i < z → ((gl nx (tau (2 * m.next.length) b i)).length : Int) = m.letters
  ent : ∀ i k : Int, 0 ≤ i → i < 2 * m.next.length → m.Let k → (i < x ∨ i = x ∧ k < y) → EntR m b i k (gi (gl nx (tau (2 * m.next.length) b i)) k)
  ends : ∀ i : Int, 0 ≤ i → i < z → gb fn (tau (2 * m.next.length) b i) = m.ends (i % m.next.length)
section
variable {m : Mach} {b x y : Int} {nx : List (List Int)} {fn : List Bool}
theorem RB.init {n : Nat} (h : n = 2 * m.next.length) : RB m b 0 0 0 (List.replicate n []) (List.replicate n false) :=
  ⟨by simp [h], by simp [h], fun i h0 h1 => by omega, fun i k h0 _ hk h => by have := hk.1; omega, fun i h0 h1 => by omega⟩
theorem RB.row (h : RB m b x x 0 nx fn) (h0 : 0 ≤ x) (h1 : x < 2 * m.next.length) {row : List Int} (hr : (row.length : Int) = m.letters) :
    RB m b x (x + 1) 0 (nx.set (tau (2 * m.next.length) b x).toNat row) (fn.set (tau (2 * m.next.length) b x).toNat (m.ends (x % m.next.length))) := by
  have hN : (0 : Int) < 2 * m.next.length := by omega
  have t := tau_rng (N := 2 * m.next.length) (b := b) (i := x) hN
  have e1 := h.nxl; have e2 := h.fnl
  refine ⟨by rw [List.length_set]; exact e1, by rw [List.length_set]; exact e2, fun i i0 i1 => ?_, fun i k i0 i1 hk hp => ?_, fun i i0 i1 => ?_⟩
  · rw [gl_set t.1 (by omega) (tau_rng hN).1]
    split
    · exact hr
    · rename_i hne
      exact h.len i i0 (by by_cases e : i = x; (subst e; exact absurd rfl hne); omega)
  · have : i < x := by rcases hp with hp | ⟨_, hp⟩; exact hp; have := hk.1; omega
    rw [gl_set t.1 (by omega) (tau_rng hN).1, if_neg fun e => by have := tau_inj i0 i1 h0 h1 e; omega]
    exact h.ent i k i0 i1 hk (.inl this)
  · rw [gb_set t.1 (by omega) (tau_rng hN).1]
    split
    · rename_i e
      have : i = x := tau_inj i0 (by omega) h0 h1 e
      rw [this]
    · rename_i hne
      exact h.ends i i0 (by by_cases e : i = x; (subst e; exact absurd rfl hne); omega)
theorem RB.set (h : RB m b x (x + 1) y nx fn) (h0 : 0 ≤ x) (h1 : x < 2 * m.next.length) (hy : m.Let y) {v : Int} (hv : EntR m b x y v) :
    RB m b x (x + 1) (y + 1) (nx.set (tau (2 * m.next.length) b x).toNat ((gl nx (tau (2 * m.next.length) b x)).set y.toNat v)) fn := by
  have hN : (0 : Int) < 2 * m.next.length := by omega
  have t := tau_rng (N := 2 * m.next.length) (b := b) (i := x) hN
  have e1 := h.nxl
  have hl := h.len x h0 (by omega)
  unfold Mach.Let at hy
  refine ⟨by rw [List.length_set]; exact e1, h.fnl, fun i i0 i1 => ?_, fun i k i0 i1 hk hp => ?_, h.ends⟩
  · rw [gl_set t.1 (by omega) (tau_rng hN).1]
    split
    · rw [List.length_set]; exact hl
    · exact h.len i i0 i1
  · rw [gl_set t.1 (by omega) (tau_rng hN).1]
    split
    · rename_i e
      have : i = x := tau_inj i0 i1 h0 h1 e
      subst this
      rw [gi_set hy.1 (by omega) hk.1]
      split
      · rename_i e; subst e; exact hv
      · exact h.ent i k i0 i1 hk (by omega)
    · rename_i hne
      have : i ≠ x := fun e => hne (by rw [e])
      exact h.ent i k i0 i1 hk (by omega)
theorem RB.next (h : RB m b x (x + 1) y nx fn) (hy : m.letters ≤ y) : RB m b (x + 1) (x + 1) 0 nx fn :=
  ⟨h.nxl, h.fnl, h.len, fun i k i0 i1 hk hp => h.ent i k i0 i1 hk (by have := hk.1; have := hk.2; omega), h.ends⟩
theorem RB.done (h : RB m b (2 * m.next.length) (2 * m.next.length) 0 nx fn) : Ren m ⟨m.letters, tau (2 * m.next.length) b m.start, nx, fn⟩ b :=
  ⟨rfl, by simp only []; rw [h.nxl]; omega, by simp only []; rw [h.nxl, h.fnl], rfl, h.len, fun i k i0 i1 hk => h.ent i k i0 i1 hk (.inl i1), h.ends⟩
end
theorem Mach.small_len {m : Mach} (h : m.Small) : m.next.length ≤ 30 := h.1

set_option maxHeartbeats 4000000 in
theorem c25 {w : World} {m : Mach} {v cv : Value} {b : Int} {cs : List Bool} {R : Res} (hm : MachAt w m v) (hsh : m.Shaped) (hsm : m.Small) (hb0 : 0 ≤ b) (hb1 : b ≤ 255) (hc : SlB w cv cs)
    (hR : ∀ w' r v', MachNew w w' r v' → r.Shaped → r.letters = m.letters → (r.next.length : Int) = 2 * m.next.length → (∀ u, r.acc r.start u = m.acc m.start u) → R v' [] w') : CallsI Try.prog 25 [v, .int .u8 b, cv] w [] R := by
  obtain ⟨_, _, rfl, ⟨A, c, hs, rfl, hA, hl, hx⟩, ⟨B, d, rfl, hB⟩⟩ := hm
  obtain ⟨C, e, rfl, hC⟩ := hc
  have hL0 := hsh.letters; have hfin := hsh.fin
  obtain ⟨hn30, _, hl8⟩ := hsm
  have hstr := hsh.start_range
  have e2 : IntKind.i64.wrap (2 * (m.next.length : Int)) = 2 * (m.next.length : Int) := wrap_id (by omega) (by omega)
  have ew : IntKind.i64.wrap b = b := wrap_id (by omega) (by omega)
  have eN : (2 * (m.next.length : Int)).toNat = 2 * m.next.length := by omega
  refine s25 _ _ _ _ _ _ _ _ _ _ _ _ _ _ fun _ _ => ?_
  rw [e2]
  have main : ∀ (w6 : World) (F : FamF) (n3 n5 : Nat), Fam w w6 F → GII F 2 g10 (some ⟨n3, 0, none⟩) (2 * (m.next.length : Int)).toNat (2 * (m.next.length : Int)).toNat (List.replicate (2 * (m.next.length : Int)).toNat []) → GSl F 3 (some ⟨n5, 0, none⟩) (2 * (m.next.length : Int)).toNat (2 * (m.next.length : Int)).toNat (bools (List.replicate (2 * (m.next.length : Int)).toNat false)) →
      J25_34 m.next.length R m.letters w6 n3 b B m.fin.length n5 A cs.length C m.start := by
    intro w6 F n3 n5 hF hG2 hG3
    rw [J25_34, e2]
    refine condK_beq (fun h0 => ?_) fun hne => ?_
    · refine hR w6 (noneM m.letters) _ (noneM_new hF.base _) (noneM_canon hL0).shaped rfl (by simp [noneM]; omega) fun u => ?_
      have := hsh.start.1 (by omega)
      rw [noneM_acc, this, Mach.acc_neg (by decide)]
    have hN : (0 : Int) < 2 * m.next.length := by omega
    refine ⟨fun x9 x10 => ⟨fun w11 => ∃ F nx fn, Fam w w11 F ∧ GII F 2 g10 (some ⟨n3, 0, none⟩) (2 * (m.next.length : Int)).toNat (2 * (m.next.length : Int)).toNat nx ∧ GSl F 3 (some ⟨n5, 0, none⟩) (2 * (m.next.length : Int)).toNat (2 * (m.next.length : Int)).toNat (bools fn) ∧ RB m b x9 x9 0 nx fn ∧ 0 ≤ x9 ∧ x9 ≤ 2 * m.next.length ∧ 0 ≤ x10 ∧ x10 ≤ 8 * x9, fun _ => (2 * m.next.length - x9).toNat⟩,
      ⟨F, _, _, hF, hG2, hG3, RB.init eN, by omega, by omega, by omega, by omega⟩, ?_⟩
    clear hF hG2 hG3 F w6
    rintro x9 x10 w11 ⟨F, nx, fn, hF, hG2, hG3, hrb, h90, h91, h100, h101⟩ n12 rfl
    refine condK_dec (fun hlt => ?_) fun hge => ?_
    · have hnx := hrb.nxl; have hfn := hrb.fnl
      have et : (IntKind.i64.wrap (x9 + IntKind.i64.wrap b)).tmod (2 * (m.next.length : Int)) = tau (2 * m.next.length) b x9 := by
        rw [ew, wrap_id (by omega) (by omega), Int.tmod_eq_emod_of_nonneg (by omega)]; rfl
      have em : x9.tmod (m.next.length : Int) = x9 % m.next.length := Int.tmod_eq_emod_of_nonneg h90
      have hq0 := Int.emod_nonneg x9 (b := (m.next.length : Int)) (by omega)
      have hq1 := Int.emod_lt_of_pos x9 (b := (m.next.length : Int)) (by omega)
      have ht := tau_rng (N := 2 * m.next.length) (b := b) (i := x9) hN
      rw [et, em]
      refine ⟨by omega, rfl, hL0, by omega, by omega, ?_⟩
      refine hF.mkInts 6 (x := 0) fun n13 F1 w14 hE14 ho1 hF1 hs1 => ?_
      refine GII.putRow (hG2.keep ho1 (by decide) fun t _ => g10_ne (by decide)) hs1 hF1 ht.1 (by omega) (by decide) (fun t _ => ⟨g10_ne (by decide), g10_ne (by decide), fun h => by unfold g10 at h; omega⟩) fun F2 w16 ho2 hg2 hF2 hG2' => ?_
      refine ⟨by omega, ?_⟩
      refine rd_end hF2.base hB hq0 (by omega) (K := fun t18 => IxV _ _ _ _ _) ?_
      have hG3' : GSl F2 3 (some ⟨n5, 0, none⟩) (2 * (m.next.length : Int)).toNat (2 * (m.next.length : Int)).toNat (bools fn) := (hG3.keep ho1 (by decide)).same (ho2 3 (by decide) (Ne.symm (g10_ne (by decide))) (by decide))
      refine GSl.set_bool hG3' hF2 ht.1 (by omega) fun F3 w20 ho3 hF3 hG3'' => ?_
      have hrb1 := hrb.row h90 hlt (row := List.replicate m.letters.toNat 0) (by simp; omega)
      refine ⟨fun x22 x23 => ⟨fun w24 => ∃ F nx, Fam w w24 F ∧ GII F 2 g10 (some ⟨n3, 0, none⟩) (2 * (m.next.length : Int)).toNat (2 * (m.next.length : Int)).toNat nx ∧ GSl F 3 (some ⟨n5, 0, none⟩) (2 * (m.next.length : Int)).toNat (2 * (m.next.length : Int)).toNat (bools (fn.set (tau (2 * m.next.length) b x9).toNat (m.ends (x9 % m.next.length)))) ∧ RB m b x9 (x9 + 1) x22 nx (fn.set (tau (2 * m.next.length) b x9).toNat (m.ends (x9 % m.next.length))) ∧
          0 ≤ x22 ∧ x22 ≤ m.letters ∧ 0 ≤ x23 ∧ x23 ≤ 8 * x9 + x22, fun _ => (m.letters - x22).toNat⟩,
        ⟨F3, _, hF3, hG2'.keep ho3 (by decide) (fun t _ => g10_ne (by decide)), hG3'', hrb1, by omega, hL0, h100, by omega⟩, ?_⟩
      clear hF hG2 hG3 hF1 ho1 hs1 hF2 ho2 hg2 hG2' hG3' hF3 ho3 hG3'' hrb1 hE14 hnx hrb F F1 F2 F3 nx
      rintro x22 x23 w24 ⟨F, nx, hF, hG2, hG3, hrb, h220, h221, h230, h231⟩ n25 rfl
      have hnx := hrb.nxl
      refine condK_dec (fun hlt2 => ?_) fun hge2 => ?_
      · have hlet : m.Let x22 := ⟨h220, hlt2⟩
        have hsr := hsh.step_range (x9 % m.next.length) x22
        have hrl := hrb.len x9 h90 (by omega)
        have next : ∀ (F5 : FamF) (w5 : World) (z : Int), Fam w w5 F5 → GII F5 2 g10 (some ⟨n3, 0, none⟩) (2 * (m.next.length : Int)).toNat (2 * (m.next.length : Int)).toNat (nx.set (tau (2 * m.next.length) b x9).toNat ((gl nx (tau (2 * m.next.length) b x9)).set x22.toNat z)) → GSl F5 3 (some ⟨n5, 0, none⟩) (2 * (m.next.length : Int)).toNat (2 * (m.next.length : Int)).toNat (bools (fn.set (tau (2 * m.next.length) b x9).toNat (m.ends (x9 % m.next.length)))) → EntR m b x9 x22 z →
            J25_2 (fun x22 x23 => ⟨fun w24 => ∃ F nx, Fam w w24 F ∧ GII F 2 g10 (some ⟨n3, 0, none⟩) (2 * (m.next.length : Int)).toNat (2 * (m.next.length : Int)).toNat nx ∧ GSl F 3 (some ⟨n5, 0, none⟩) (2 * (m.next.length : Int)).toNat (2 * (m.next.length : Int)).toNat (bools (fn.set (tau (2 * m.next.length) b x9).toNat (m.ends (x9 % m.next.length)))) ∧ RB m b x9 (x9 + 1) x22 nx (fn.set (tau (2 * m.next.length) b x9).toNat (m.ends (x9 % m.next.length))) ∧
          0 ≤ x22 ∧ x22 ≤ m.letters ∧ 0 ≤ x23 ∧ x23 ≤ 8 * x9 + x22, fun _ => (m.letters - x22).toNat⟩) x22 x23 w5 (m.letters - x22).toNat := by
          intro F5 w5 z hF5 h1 h2 hz
          rw [J25_2, wrap_id (x := x22 + 1) (by omega) (by omega), wrap_id (x := x23 + 1) (by omega) (by omega)]
          exact ⟨⟨F5, _, hF5, h1, h2, hrb.set h90 hlt hlet hz, by omega, by omega, by omega, by omega⟩, by simp only []; omega⟩
        -- the store
        have put : ∀ (z : Int), EntR m b x9 x22 z → IxV (some ⟨n3, 0, none⟩) (2 * (m.next.length : Int)).toNat 1 (tau (2 * m.next.length) b x9) fun a => ∃ A' n' c', w24.cell? a = some (.slice A' n' c') ∧ IxV A' n' 1 x22 fun a => SetK w24 a (.int .i64 z) fun w5 =>
            J25_2 (fun x22 x23 => ⟨fun w24 => ∃ F nx, Fam w w24 F ∧ GII F 2 g10 (some ⟨n3, 0, none⟩) (2 * (m.next.length : Int)).toNat (2 * (m.next.length : Int)).toNat nx ∧ GSl F 3 (some ⟨n5, 0, none⟩) (2 * (m.next.length : Int)).toNat (2 * (m.next.length : Int)).toNat (bools (fn.set (tau (2 * m.next.length) b x9).toNat (m.ends (x9 % m.next.length)))) ∧ RB m b x9 (x9 + 1) x22 nx (fn.set (tau (2 * m.next.length) b x9).toNat (m.ends (x9 % m.next.length))) ∧
          0 ≤ x22 ∧ x22 ≤ m.letters ∧ 0 ≤ x23 ∧ x23 ≤ 8 * x9 + x22, fun _ => (m.letters - x22).toNat⟩) x22 x23 w5 (m.letters - x22).toNat := fun z hz =>
          hG2.setEl hF ht.1 (by omega) h220 (by omega) (fun t _ => ⟨g10_ne (by decide), fun h => by unfold g10 at h; omega⟩) fun F5 w5 ho5 hF5 hG5 => next F5 w5 z hF5 hG5 (hG3.keep ho5 (Ne.symm (g10_ne (by decide)))) hz
        have etm : ∀ z : Int, 0 ≤ z → z ≤ 1000 → (IntKind.i64.wrap (z + IntKind.i64.wrap b)).tmod (2 * (m.next.length : Int)) = tau (2 * m.next.length) b z := fun z z0 z1 => by
          rw [ew, wrap_id (by omega) (by omega), Int.tmod_eq_emod_of_nonneg (by omega)]; rfl
        have plain : J25_16 (m.step (x9 % m.next.length) x22) m.next.length n3 x9 b w24 x22 (fun x22 x23 => ⟨fun w24 => ∃ F nx, Fam w w24 F ∧ GII F 2 g10 (some ⟨n3, 0, none⟩) (2 * (m.next.length : Int)).toNat (2 * (m.next.length : Int)).toNat nx ∧ GSl F 3 (some ⟨n5, 0, none⟩) (2 * (m.next.length : Int)).toNat (2 * (m.next.length : Int)).toNat (bools (fn.set (tau (2 * m.next.length) b x9).toNat (m.ends (x9 % m.next.length)))) ∧ RB m b x9 (x9 + 1) x22 nx (fn.set (tau (2 * m.next.length) b x9).toNat (m.ends (x9 % m.next.length))) ∧
          0 ≤ x22 ∧ x22 ≤ m.letters ∧ 0 ≤ x23 ∧ x23 ≤ 8 * x9 + x22, fun _ => (m.letters - x22).toNat⟩) x23 (m.letters - x22).toNat := by
          rw [J25_16, e2, et]
          refine condK_dec (fun hp => ⟨by omega, ?_⟩) fun hn => ?_
          · rw [etm _ hp (by omega)]
            exact put _ (.inr ⟨hp, .inl rfl⟩)
          · exact put _ (.inl ⟨by omega, by omega⟩)
        refine ⟨by omega, ?_⟩
        refine rd_step hF.base hA hl hx hsh hq0 hq1 hlet (K := fun x31 => condK _ _ _) ?_
        refine condK_dec (fun hp => ?_) fun _ => plain
        refine condK_dec (fun hk => ?_) fun _ => plain
        refine rd_bool hF.base hC h230 hk (K := fun t33 => condK t33 _ _) ?_
        refine condK_of (fun _ => ?_) fun _ => plain
        rw [wrap_id (x := m.step (x9 % m.next.length) x22 + m.next.length) (by omega) (by omega)]
        refine condK_dec (fun _ => ⟨by omega, ?_⟩) fun h => by omega
        rw [etm _ (by omega) (by omega)]
        exact put _ (.inr ⟨hp, .inr rfl⟩)
      · rw [wrap_id (by omega) (by omega)]
        exact ⟨⟨F, nx, _, hF, hG2, hG3, hrb.next (by omega), by omega, by omega, by omega, by omega⟩, by simp only []; omega⟩
    · have ex : x9 = 2 * m.next.length := by omega
      subst ex
      have hst := hsh.start.2 (by omega)
      have es : (IntKind.i64.wrap (m.start + IntKind.i64.wrap b)).tmod (2 * (m.next.length : Int)) = tau (2 * m.next.length) b m.start := by
        rw [ew, wrap_id (by omega) (by omega), Int.tmod_eq_emod_of_nonneg (by omega)]; rfl
      rw [es]
      have hren := hrb.done
      exact ⟨by omega, hR w11 _ _ ⟨F, _, _, _, _, _, _, rfl, hF, hG2, hG3⟩ (hren.shaped hsh (by omega)) rfl hren.n (hren.words hsh (by omega))⟩
  -- the six orders
  have nil1 : ∀ (K1 : Nat → World → Prop), (∀ F n3 w4, Fam w w4 F → GII F 2 g10 (some ⟨n3, 0, none⟩) (2 * (m.next.length : Int)).toNat (2 * (m.next.length : Int)).toNat (List.replicate (2 * (m.next.length : Int)).toNat []) → K1 n3 w4) →
      NewK w (.cells (Array.mk (List.replicate (2 * (m.next.length : Int)).toNat (.slice none 0 0))) 26 (0, 0)) K1 := fun K1 hK1 =>
    GII.make (Fam.empty w) 2 g10 _ (fun t ht => ⟨g10_ne (by decide), rfl⟩) fun n3 F1 w4 ho1 hF1 hG1 => hK1 F1 n3 w4 hF1 hG1
  have fal1 : ∀ (K1 : Nat → World → Prop), (∀ F n5 w4, Fam w w4 F → GSl F 3 (some ⟨n5, 0, none⟩) (2 * (m.next.length : Int)).toNat (2 * (m.next.length : Int)).toNat (bools (List.replicate (2 * (m.next.length : Int)).toNat false)) → (∀ t, F (g10 t) = none) → K1 n5 w4) →
      NewK w (.cells (Array.mk (List.replicate (2 * (m.next.length : Int)).toNat (.bool false))) 4 (0, 0)) K1 := fun K1 hK1 =>
    (Fam.empty w).mkRow 3 fun n5 F1 w4 ho1 hF1 hG1 => hK1 F1 n5 w4 hF1 (by rw [bools_rep]; simpa using hG1) fun t => by rw [ho1 _ (g10_ne (by decide))]
  have fal2 : ∀ F n3 w4, Fam w w4 F → GII F 2 g10 (some ⟨n3, 0, none⟩) (2 * (m.next.length : Int)).toNat (2 * (m.next.length : Int)).toNat (List.replicate (2 * (m.next.length : Int)).toNat []) → ∀ (K1 : Nat → World → Prop), (∀ n5 w6, J25_34 m.next.length R m.letters w6 n3 b B m.fin.length n5 A cs.length C m.start → K1 n5 w6) →
      NewK w4 (.cells (Array.mk (List.replicate (2 * (m.next.length : Int)).toNat (.bool false))) 4 (0, 0)) K1 := fun F n3 w4 hF hG K1 hK1 =>
    hF.mkRow 3 fun n5 F2 w6 ho2 hF2 hG2 => hK1 n5 w6 (main w6 F2 n3 n5 hF2 (hG.keep ho2 (by decide) fun t _ => g10_ne (by decide)) (by rw [bools_rep]; simpa using hG2))
  have nil2 : ∀ F n5 w4, Fam w w4 F → GSl F 3 (some ⟨n5, 0, none⟩) (2 * (m.next.length : Int)).toNat (2 * (m.next.length : Int)).toNat (bools (List.replicate (2 * (m.next.length : Int)).toNat false)) → (∀ t, F (g10 t) = none) → ∀ (K1 : Nat → World → Prop), (∀ n3 w6, J25_34 m.next.length R m.letters w6 n3 b B m.fin.length n5 A cs.length C m.start → K1 n3 w6) →
      NewK w4 (.cells (Array.mk (List.replicate (2 * (m.next.length : Int)).toNat (.slice none 0 0))) 26 (0, 0)) K1 := fun F n5 w4 hF hG hn K1 hK1 =>
    GII.make hF 2 g10 _ (fun t ht => ⟨g10_ne (by decide), hn t⟩) fun n3 F2 w6 ho2 hF2 hG2 => hK1 n3 w6 (main w6 F2 n3 n5 hF2 hG2 (hG.keep ho2 (by decide)))
  have b0 : (0 : Int) ≤ 2 * m.next.length := by omega
  have b1 : 2 * (m.next.length : Int) * 24 ≤ 281474976710656 := by omega
  have b2 : 2 * (m.next.length : Int) * 1 ≤ 281474976710656 := by omega
  have b3 : 2 * (m.next.length : Int) ≤ 9223372036854775807 := by omega
  refine ⟨⟨rfl, b0, b1, b3, nil1 _ fun F n3 w4 hF hG => ⟨⟨rfl, b0, b2, b3, fal2 F n3 w4 hF hG _ fun n5 w6 hk _ => hk⟩, fun _ => ⟨rfl, b0, b2, b3, fal2 F n3 w4 hF hG _ fun n5 w6 hk => hk⟩⟩⟩,
    ⟨rfl, b0, b2, b3, fal1 _ fun F n5 w4 hF hG hn => ⟨⟨rfl, b0, b1, b3, nil2 F n5 w4 hF hG hn _ fun n3 w6 hk _ => hk⟩, fun _ => ⟨rfl, b0, b1, b3, nil2 F n5 w4 hF hG hn _ fun n3 w6 hk => hk⟩⟩⟩,
    fun _ => ⟨⟨rfl, b0, b1, b3, nil1 _ fun F n3 w4 hF hG => ⟨rfl, b0, b2, b3, fal2 F n3 w4 hF hG _ fun n5 w6 hk => hk⟩⟩,
      rfl, b0, b2, b3, fal1 _ fun F n5 w4 hF hG hn => ⟨rfl, b0, b1, b3, nil2 F n5 w4 hF hG hn _ fun n3 w6 hk => hk⟩⟩⟩

/-- the pairs of small machines are few -/
theorem found_few {a b : Mach} {ps : List IP} (ha : a.Shaped) (hb : b.Shaped) (na : a.next.length ≤ 60) (nb : b.next.length ≤ 60) (hn : ps.Nodup) (hp : ∀ p ∈ ps, FoundP a b p) : ps.length ≤ 3721 := by
  have h1 := pairs_bound (A := a.next.length) (B := b.next.length) hn fun p h => by
    have := found_rng ha hb (hp p h); exact ⟨this.1, this.2.1⟩
  have h2 : ((a.next.length : Int) + 1) * (b.next.length + 1) ≤ 61 * 61 := Int.mul_le_mul (by omega) (by omega) (by omega) (by omega)
  omega
/-- what is related is taken by the checker -/
theorem related_check {a b : Mach} {qs : List IP} (hf : fitc a b = 0) (hw : ∀ u, a.acc a.start u = b.acc b.start u) (hs : qs.Pairwise plt) (hq : ∀ p, p ∈ qs ↔ FoundP a b p) : checkc a b qs = 0 := by
  have hv := fitc_ok.1 hf
  exact checkc_ok.2 ⟨hf, ⟨fun p hp => found_rng hv.1.shaped hv.2.1.shaped ((hq p).1 hp), hs⟩, found_shows hq hw⟩
theorem IsLeast.of_words {m r x : Mach} (h : IsLeast r x) (hl : r.letters = m.letters) (hw : ∀ u, r.acc r.start u = m.acc m.start u) : IsLeast m x := ⟨h.canon, by rw [h.letters, hl], fun u => by rw [h.words, hw]⟩

theorem c5 {w : World} {m : Mach} {v cv : Value} {b : Int} {cs : List Bool} {R : Res} (hm : MachAt w m v) (hlim : m.Lim) (hb : (Lit.int .u8 b).wf = true) (hc : SlB w cv cs)
    (hR : ∀ w', Ext w w' → R (.bool true) [] w') : CallsI Try.prog 5 [v, .int .u8 b, cv] w [] R := by
  have hbb : 0 ≤ b ∧ b ≤ 255 := by simpa [Lit.wf, IntKind.min, IntKind.max, IntKind.signed, IntKind.bits] using hb
  have hm0 := hm; have hc0 := hc
  obtain ⟨_, _, rfl, ⟨A, c, hs, rfl, hA, hl, hx⟩, ⟨B, d, rfl, hB⟩⟩ := hm
  obtain ⟨C, e, rfl, hC⟩ := hc
  have awake : ∀ w', Ext w w' → J5_1 w' R := fun w' hE => c15 fun w2 hE2 => ⟨_, rfl, rfl, hR w2 (hE.trans' hE2)⟩
  refine s5 _ _ _ _ _ _ _ _ _ _ _ _ _ _ fun _ => c21 hm0 (fun hsm => ⟨_, rfl, rfl, ?_⟩) fun _ => ⟨_, rfl, rfl, awake w Ext.rfl'⟩
  refine condK_of (fun h => by cases h) fun _ => ?_
  refine c16 hm0 hlim ⟨_, rfl, rfl, ?_⟩
  refine condK_bne (fun _ => awake w Ext.rfl') fun hcode => ?_
  have hval := Mach.code_ok.1 hcode
  have hl8 := hsm.2.2; have hn30 := hsm.1
  refine c25 hm0 hval.shaped hsm hbb.1 hbb.2 hc0 fun w20 r rv hnr hrs hrl hrn hrw => ?_
  have hE20 := hnr.below
  have hrv : r.Valid := ⟨hrs, by omega, by omega⟩
  have hrlim := hrs.lim (by omega) (by omega)
  have hrat := hnr.at_
  obtain ⟨A23, n24, n25, A26, n27, n28, rfl⟩ := hrat.form
  refine ⟨_, _, _, _, _, _, _, _, rfl, rfl, fun _ => ?_⟩
  refine c19 (hm0.ext hE20) hlim fun w32 v30 hcp => ?_
  obtain ⟨A35, n36, n37, A38, n39, n40, rfl⟩ := hcp.at_.form
  refine ⟨_, _, _, _, _, _, _, _, rfl, rfl, ?_⟩
  refine c23 hcp.at_ hlim (fun h => absurd hval h) fun _ w43 a av hna hla hlena => ?_
  obtain ⟨A46, n47, n48, A49, n50, n51, rfl⟩ := hna.at_.form
  refine ⟨_, _, _, _, _, _, _, _, _, rfl, rfl, fun _ => ?_⟩
  have hE43 : Ext w20 w43 := hcp.below.trans' hna.below
  refine c23 (hrat.ext hE43) hrlim (fun h => absurd hrv h) fun _ w56 bm bv hnb hlb hlenb => ?_
  obtain ⟨A59, n60, n61, A62, n63, n64, rfl⟩ := hnb.at_.form
  refine ⟨_, _, _, _, _, _, _, _, _, rfl, rfl, fun _ => ?_⟩
  have halim : a.Lim := hla.lim (by omega) (by omega)
  refine c19 (hna.at_.ext hnb.below) halim fun w69 v67 hcp2 => ?_
  obtain ⟨A72, n73, n74, A75, n76, n77, rfl⟩ := hcp2.at_.form
  refine ⟨_, _, _, _, _, _, _, _, rfl, rfl, ?_⟩
  have haval : a.Valid := ⟨hla.canon.shaped, by rw [hla.letters]; omega, by omega⟩
  refine c23 hcp2.at_ halim (fun h => absurd haval h) fun _ w80 cm cv hnc hlc hlenc => ?_
  obtain ⟨A83, n84, n85, A86, n87, n88, rfl⟩ := hnc.at_.form
  refine ⟨_, _, _, _, _, _, _, _, _, rfl, rfl, fun _ => ?_⟩
  have hE80 : Ext w43 w80 := hnb.below.trans' (hcp2.below.trans' hnc.below)
  have hEr : Ext w20 w80 := hE43.trans' hE80
  have hfit : fitc m r = 0 := fitc_ok.2 ⟨hval, hrv, hrl.symm⟩
  have hw : ∀ u, m.acc m.start u = r.acc r.start u := fun u => (hrw u).symm
  refine c26 (hm0.ext (hE20.trans' hEr)) (hrat.ext hEr) hlim hrlim (fun h => absurd hfit h) (fun _ _ w93 hE93 => ?_) fun _ w93 wv u hE93 hu hul hf => absurd (hw u) hf.parts
  refine ⟨_, _, _, _, _, rfl, rfl, ?_⟩
  refine c27 (hm0.ext (hE20.trans' (hEr.trans' hE93))) (hrat.ext (hEr.trans' hE93)) hlim hrlim (fun h => absurd hfit h) (fun _ h => absurd hw h) (fun _ _ _ ps _ hnd hfo hgt => ?_) fun _ _ w101 pv qs hE101 hpv hsort hmem hlen => ?_
  · have := found_few hval.shaped hrs (by omega) (by omega) hnd hfo; omega
  have hpv0 := hpv
  obtain ⟨A102, c104, rfl, hcap, hrow⟩ := hpv
  refine ⟨_, _, _, _, rfl, rfl, ?_⟩
  refine condK_bne (fun h => absurd rfl h) fun _ => ?_
  refine condK_bne (fun h => absurd rfl h) fun _ => ?_
  refine condK_bne (fun h => absurd rfl h) fun _ => ?_
  refine condK_bne (fun h => absurd rfl h) fun _ => ?_
  refine condK_bne (fun h => absurd rfl h) fun _ => ?_
  have hE101' : Ext w43 w101 := hE80.trans' (hE93.trans' hE101)
  have eab : a = bm := hla.unique (hlb.of_words hrl hrw)
  have eac : a = cm := hla.unique (hlc.of_words hla.letters hla.words)
  refine c24 (hna.at_.ext hE101') (hnb.at_.ext ((hcp2.below.trans' hnc.below).trans' (hE93.trans' hE101))) halim (fun _ => ⟨_, rfl, rfl, ?_⟩) fun h => absurd eab h
  refine condK_of (fun _ => ?_) fun h => by cases h
  refine c24 (hna.at_.ext hE101') (hnc.at_.ext (hE93.trans' hE101)) halim (fun _ => ⟨_, rfl, rfl, ?_⟩) fun h => absurd eac h
  refine condK_of (fun _ => ?_) fun h => by cases h
  have hEw : Ext w w101 := hE20.trans' (hEr.trans' (hE93.trans' hE101))
  have hn47 : n47 = a.next.length := by
    obtain ⟨_, _, he, ⟨A', c', hs', rfl, _⟩, _⟩ := hna.at_
    injection he with he; injection he with he; injection he with _ he; injection he with _ he; injection he with he1 he
    injection he1
  refine condK_dec (fun _ => ?_) fun h => by omega
  refine c28 (hm0.ext hEw) (hrat.ext (hEr.trans' (hE93.trans' hE101))) hpv0 hlim hrlim hlen fun w116 hE116 => ⟨_, rfl, rfl, ?_⟩
  rw [related_check hfit hw hsort hmem]
  exact condK_of (fun _ => awake w116 (hEw.trans' hE116)) fun h => by cases h
end Go.Proofs.Ytnkpjlhbojjneaa.VC
