/- What the functions ask, printed by program, part three. -/
import Derived.Test.YtnkpjlhbojjneaaGb
/- The conditions of functions, printed by wip/tools/gen.py. -/
namespace Go.Proofs.Ytnkpjlhbojjneaa.VC
open Go Go.RowKit

theorem s110 (b : Nat) (A : Option Addr) (n c : Nat) (r : Option Nat) (x : Int) (w : World) (R : Value → List (List Value) → World → Prop) (h :
    ∃ (l1 : List (Value × Value)), MapOpt w KT.int r l1 ∧ ∃ (x2 : Int), (assoc KT.int l1 (Value.int IntKind.i64 x)).getD (Value.int IntKind.i64 0) = Value.int IntKind.i64 x2 ∧ condK (!(assoc KT.int l1
        (Value.int IntKind.i64 x)).isSome) (condK r.isNone (NewK w (Obj.map (Array.mk []) 0) fun (n3 : Nat) (w4 : World) => ∃ (n5 : Nat), ∃ (l6 : List (Value × Value)), some n3 = some n5 ∧ MapAt w4 KT.int n5
        l6 ∧ ∀ (w7 : World), MapUpd w4 KT.int n5 (assocSet KT.int (Value.int IntKind.i64 x) (Value.int IntKind.i64 (↑n : Int)) l6) w7 → NewK w7 (Obj.cells (Array.mk [Value.int IntKind.i64 x]) 3) fun (n8 :
        Nat) (w9 : World) => AppK 8 1 [Value.int IntKind.i64 0] 3 A n c (some (Addr.mk n8 0 none)) 1 w9 fun (A10 : Option Addr) (n11 n12 : Nat) (w13 : World) => R (Value.int IntKind.i64 (↑n : Int))
        [[Value.slice A10 n11 n12, Value.map (some n3)]] w13) (∃ (n14 : Nat), ∃ (l15 : List (Value × Value)), r = some n14 ∧ MapAt w KT.int n14 l15 ∧ ∀ (w16 : World), MapUpd w KT.int n14 (assocSet KT.int
        (Value.int IntKind.i64 x) (Value.int IntKind.i64 (↑n : Int)) l15) w16 → NewK w16 (Obj.cells (Array.mk [Value.int IntKind.i64 x]) 3) fun (n17 : Nat) (w18 : World) => AppK 8 1 [Value.int IntKind.i64 0]
        3 A n c (some (Addr.mk n17 0 none)) 1 w18 fun (A19 : Option Addr) (n20 n21 : Nat) (w22 : World) => R (Value.int IntKind.i64 (↑n : Int)) [[Value.slice A19 n20 n21, Value.map r]] w22)) (R (Value.int
        IntKind.i64 x2) [[Value.slice A n c, Value.map r]] w)) :
    CallsI Try.prog 110 [.pointer (some ⟨b, 0, none⟩), (.int .i64 x)] w [(b, 138, [.slice A n c, .map r])] R :=
  vcFun_sound (H := ⟨[], []⟩) (args := [.p 0 b 0, .v (.int .i64 x)]) (L := [⟨b, 138, [.v (.slice A n c), .v (.map r)]⟩]) goodP Try.func110 (by simp [okp]) (by rw [Try.ntmps110]; simp) (by simp [okp]) (Eq.mp (by kernel_rfl) h)

def J87_1 (R : Value → List (List Value) → World → Prop) (l : Int) (s : Int) (A : Option Addr) (n : Nat) (c : Nat) (B : Option Addr) (m : Nat) (d : Nat) (r : Option Nat) (K : Option Addr) (k0 : Nat)
    (k1 : Nat) (G : Option Addr) (g0 : Nat) (g1 : Nat) (w : World) : Prop := R (Value.tuple (Array.mk [Value.int IntKind.i64 0, Value.bool false])) [[Value.int IntKind.i64 l, Value.int IntKind.i64 s,
    Value.slice A n c, Value.slice B m d], [Value.map r], [Value.slice K k0 k1], [Value.slice G g0 g1]] w

theorem s87 (bm bo bk bb : Nat) (l s : Int) (A : Option Addr) (n c : Nat) (B : Option Addr) (m d : Nat) (r : Option Nat) (K : Option Addr) (k0 k1 : Nat) (G : Option Addr) (g0 g1 : Nat) (q x : Int) (w : World) (R : Value → List (List Value) → World → Prop) (h :
    ∃ (l1 : List (Value × Value)), MapOpt w KT.int r l1 ∧ ∃ (x2 : Int), (assoc KT.int l1 (Value.int IntKind.i64 q)).getD (Value.int IntKind.i64 0) = Value.int IntKind.i64 x2 ∧ IxV A n 1 x2 fun (a3 : Addr)
        => ∃ (A4 : Option Addr), ∃ (n5 : Nat), ∃ (n6 : Nat), w.cell? a3 = some (Value.slice A4 n5 n6) ∧ IxV A4 n5 1 x fun (a7 : Addr) => ∃ (x8 : Int), w.cell? a7 = some (Value.int IntKind.i64 x8) ∧ condK
        (decide (x8 < 0)) (J87_1 R l s A n c B m d r K k0 k1 G g0 g1 w) (IxV K k0 1 x8 fun (a9 : Addr) => ∃ (t10 : Bool), w.cell? a9 = some (Value.bool t10) ∧ condK (!t10) (J87_1 R l s A n c B m d r K k0 k1 G
        g0 g1 w) (IxV G g0 1 x8 fun (a11 : Addr) => ∃ (x12 : Int), w.cell? a11 = some (Value.int IntKind.i64 x12) ∧ R (Value.tuple (Array.mk [Value.int IntKind.i64 x12, Value.bool true])) [[Value.int
        IntKind.i64 l, Value.int IntKind.i64 s, Value.slice A n c, Value.slice B m d], [Value.map r], [Value.slice K k0 k1], [Value.slice G g0 g1]] w))) :
    CallsI Try.prog 87 [(.int .i64 q), (.int .i64 x), .pointer (some ⟨bm, 0, none⟩), .pointer (some ⟨bo, 0, none⟩), .pointer (some ⟨bk, 0, none⟩), .pointer (some ⟨bb, 0, none⟩)] w [(bm, 25, [.int .i64 l, .int .i64 s, .slice A n c, .slice B m d]), (bo, 105, [.map r]), (bk, 23, [.slice K k0 k1]), (bb, 26, [.slice G g0 g1])] R :=
  vcFun_sound (H := ⟨[], []⟩) (args := [.v (.int .i64 q), .v (.int .i64 x), .p 0 bm 0, .p 1 bo 0, .p 2 bk 0, .p 3 bb 0]) (L := [⟨bm, 25, [.v (.int .i64 l), .v (.int .i64 s), .v (.slice A n c), .v (.slice B m d)]⟩, ⟨bo, 105, [.v (.map r)]⟩, ⟨bk, 23, [.v (.slice K k0 k1)]⟩, ⟨bb, 26, [.v (.slice G g0 g1)]⟩]) goodP Try.func87 (by simp [okp]) (by rw [Try.ntmps87]; simp) (by simp [okp]) (Eq.mp (by kernel_rfl) h)

theorem s88 (bm bo : Nat) (l s : Int) (A : Option Addr) (n c : Nat) (B : Option Addr) (m d : Nat) (r : Option Nat) (q : Int) (w : World) (R : Value → List (List Value) → World → Prop) (h :
    ∃ (l1 : List (Value × Value)), MapOpt w KT.int r l1 ∧ ∃ (x2 : Int), (assoc KT.int l1 (Value.int IntKind.i64 q)).getD (Value.int IntKind.i64 0) = Value.int IntKind.i64 x2 ∧ IxV B m 1 x2 fun (a3 : Addr)
        => ∃ (t4 : Bool), w.cell? a3 = some (Value.bool t4) ∧ R (Value.bool t4) [[Value.int IntKind.i64 l, Value.int IntKind.i64 s, Value.slice A n c, Value.slice B m d], [Value.map r]] w) :
    CallsI Try.prog 88 [(.int .i64 q), .pointer (some ⟨bm, 0, none⟩), .pointer (some ⟨bo, 0, none⟩)] w [(bm, 25, [.int .i64 l, .int .i64 s, .slice A n c, .slice B m d]), (bo, 105, [.map r])] R :=
  vcFun_sound (H := ⟨[], []⟩) (args := [.v (.int .i64 q), .p 0 bm 0, .p 1 bo 0]) (L := [⟨bm, 25, [.v (.int .i64 l), .v (.int .i64 s), .v (.slice A n c), .v (.slice B m d)]⟩, ⟨bo, 105, [.v (.map r)]⟩]) goodP Try.func88 (by simp [okp]) (by rw [Try.ntmps88]; simp) (by simp [okp]) (Eq.mp (by kernel_rfl) h)

def J86_5 (n68 : Nat) (most : Int) (R : Value → List (List Value) → World → Prop) (l : Int) (s : Int) (A : Option Addr) (n : Nat) (c : Nat) (B : Option Addr) (m : Nat) (d : Nat) (r : Option Nat) (K :
    Option Addr) (k0 : Nat) (k1 : Nat) (G : Option Addr) (g0 : Nat) (g1 : Nat) (w72 : World) (I38 : Int → Int → Int → Option Addr → Nat → Nat → Option Addr → Nat → Nat → Option Addr → Nat → Nat → Option
    Nat → Lp) (x39 : Int) (x40 : Int) (x41 : Int) (A42 : Option Addr) (n43 : Nat) (n44 : Nat) (A45 : Option Addr) (n46 : Nat) (n47 : Nat) (A67 : Option Addr) (n69 : Nat) (A70 : Option Nat) (n53 : Nat) :
    Prop := condK (decide ((↑n68 : Int) > most)) (R (Value.tuple (Array.mk [Value.agg (Array.mk [Value.int IntKind.i64 0, Value.int IntKind.i64 0, Value.slice none 0 0, Value.slice none 0 0]), Value.bool
    false])) [[Value.int IntKind.i64 l, Value.int IntKind.i64 s, Value.slice A n c, Value.slice B m d], [Value.map r], [Value.slice K k0 k1], [Value.slice G g0 g1]] w72) ((I38 (IntKind.i64.wrap (x39 + 1))
    x40 x41 A42 n43 n44 A45 n46 n47 A67 n68 n69 A70).1 w72 ∧ (I38 (IntKind.i64.wrap (x39 + 1)) x40 x41 A42 n43 n44 A45 n46 n47 A67 n68 n69 A70).m w72 < n53)

theorem s86 (bm bo bk bb : Nat) (l s : Int) (A : Option Addr) (n c : Nat) (B : Option Addr) (m d : Nat) (r : Option Nat) (K : Option Addr) (k0 k1 : Nat) (G : Option Addr) (g0 g1 : Nat) (letters most first : Int) (w : World) (R : Value → List (List Value) → World → Prop) (h :
    ∀ (_n1 n2 : Nat), CallsI Try.prog 110 [Value.pointer (some (Addr.mk n2 0 none)), Value.int IntKind.i64 first] w [(n2, 138, [Value.slice none 0 0, Value.map none])] fun (v3 : Value) (l4 : List (List
        Value)) (w5 : World) => ∃ (x6 : Int), v3 = Value.int IntKind.i64 x6 ∧ ∃ (A7 : Option Addr), ∃ (n8 : Nat), ∃ (n9 : Nat), ∃ (A10 : Option Nat), l4 = [[Value.slice A7 n8 n9, Value.map A10]] ∧ ∀ (_n11 :
        Nat), ∃ (I12 : Int → Int → Int → Option Addr → Nat → Nat → Option Addr → Nat → Nat → Option Addr → Nat → Nat → Option Nat → Int → Int → Option Addr → Nat → Nat → Option Addr → Nat → Nat → Lp), (I12 0
        0 0 none 0 0 none 0 0 A7 n8 n9 A10 letters 0 none 0 0 none 0 0).1 w5 ∧ ∀ (x13 x14 x15 : Int) (A16 : Option Addr) (n17 n18 : Nat) (A19 : Option Addr) (n20 n21 : Nat) (A22 : Option Addr) (n23 n24 : Nat)
        (A25 : Option Nat) (x26 x27 : Int) (A28 : Option Addr) (n29 n30 : Nat) (A31 : Option Addr) (n32 n33 : Nat) (w34 : World), (I12 x13 x14 x15 A16 n17 n18 A19 n20 n21 A22 n23 n24 A25 x26 x27 A28 n29 n30
        A31 n32 n33).1 w34 → ∀ (n35 : Nat), (I12 x13 x14 x15 A16 n17 n18 A19 n20 n21 A22 n23 n24 A25 x26 x27 A28 n29 n30 A31 n32 n33).m w34 = n35 → condK (decide (x13 < (↑n23 : Int))) (letters = letters ∧ 0 ≤
        letters ∧ letters * (↑8 : Int) ≤ 281474976710656 ∧ letters ≤ 9223372036854775807 ∧ NewK w34 (Obj.cells (Array.mk (List.replicate letters.toNat (Value.int IntKind.i64 0))) 3) fun (n36 : Nat) (w37 :
        World) => ∃ (I38 : Int → Int → Int → Option Addr → Nat → Nat → Option Addr → Nat → Nat → Option Addr → Nat → Nat → Option Nat → Lp), (I38 0 x14 x15 A16 n17 n18 A19 n20 n21 A22 n23 n24 A25).1 w37 ∧ ∀
        (x39 x40 x41 : Int) (A42 : Option Addr) (n43 n44 : Nat) (A45 : Option Addr) (n46 n47 : Nat) (A48 : Option Addr) (n49 n50 : Nat) (A51 : Option Nat) (w52 : World), (I38 x39 x40 x41 A42 n43 n44 A45 n46
        n47 A48 n49 n50 A51).1 w52 → ∀ (n53 : Nat), (I38 x39 x40 x41 A42 n43 n44 A45 n46 n47 A48 n49 n50 A51).m w52 = n53 → condK (decide (x39 < letters)) (IxV (some (Addr.mk n36 0 none)) letters.toNat 1 x39
        fun (a54 : Addr) => SetK w52 a54 (Value.int IntKind.i64 (-1)) fun (w55 : World) => IxV A48 n49 1 x13 fun (a56 : Addr) => ∃ (x57 : Int), w55.cell? a56 = some (Value.int IntKind.i64 x57) ∧ CallsI
        Try.prog 87 [Value.int IntKind.i64 x57, Value.int IntKind.i64 x39, Value.pointer (some (Addr.mk bm 0 none)), Value.pointer (some (Addr.mk bo 0 none)), Value.pointer (some (Addr.mk bk 0 none)),
        Value.pointer (some (Addr.mk bb 0 none))] w55 [(bm, 25, [Value.int IntKind.i64 l, Value.int IntKind.i64 s, Value.slice A n c, Value.slice B m d]), (bo, 105, [Value.map r]), (bk, 23, [Value.slice K k0
        k1]), (bb, 26, [Value.slice G g0 g1])] fun (v58 : Value) (l59 : List (List Value)) (w60 : World) => ∃ (x61 : Int), ∃ (t62 : Bool), v58 = Value.tuple (Array.mk [Value.int IntKind.i64 x61, Value.bool
        t62]) ∧ l59 = [[Value.int IntKind.i64 l, Value.int IntKind.i64 s, Value.slice A n c, Value.slice B m d], [Value.map r], [Value.slice K k0 k1], [Value.slice G g0 g1]] ∧ condK t62 (CallsI Try.prog 110
        [Value.pointer (some (Addr.mk n2 0 none)), Value.int IntKind.i64 x61] w60 [(n2, 138, [Value.slice A48 n49 n50, Value.map A51])] fun (v63 : Value) (l64 : List (List Value)) (w65 : World) => ∃ (x66 :
        Int), v63 = Value.int IntKind.i64 x66 ∧ ∃ (A67 : Option Addr), ∃ (n68 : Nat), ∃ (n69 : Nat), ∃ (A70 : Option Nat), l64 = [[Value.slice A67 n68 n69, Value.map A70]] ∧ IxV (some (Addr.mk n36 0 none))
        letters.toNat 1 x39 fun (a71 : Addr) => SetK w65 a71 (Value.int IntKind.i64 x66) fun (w72 : World) => J86_5 n68 most R l s A n c B m d r K k0 k1 G g0 g1 w72 I38 x39 x40 x41 A42 n43 n44 A45 n46 n47 A67
        n69 A70 n53) (J86_5 n49 most R l s A n c B m d r K k0 k1 G g0 g1 w60 I38 x39 x40 x41 A42 n43 n44 A45 n46 n47 A48 n50 A51 n53)) (NewK w52 (Obj.cells (Array.mk [Value.slice (some (Addr.mk n36 0 none))
        letters.toNat letters.toNat]) 26) fun (n73 : Nat) (w74 : World) => AppK 24 1 [Value.slice none 0 0] 26 A28 n29 n30 (some (Addr.mk n73 0 none)) 1 w74 fun (A75 : Option Addr) (n76 n77 : Nat) (w78 :
        World) => IxV A48 n49 1 x13 fun (a79 : Addr) => ∃ (x80 : Int), w78.cell? a79 = some (Value.int IntKind.i64 x80) ∧ CallsI Try.prog 88 [Value.int IntKind.i64 x80, Value.pointer (some (Addr.mk bm 0
        none)), Value.pointer (some (Addr.mk bo 0 none))] w78 [(bm, 25, [Value.int IntKind.i64 l, Value.int IntKind.i64 s, Value.slice A n c, Value.slice B m d]), (bo, 105, [Value.map r])] fun (v81 : Value)
        (l82 : List (List Value)) (w83 : World) => ∃ (t84 : Bool), v81 = Value.bool t84 ∧ l82 = [[Value.int IntKind.i64 l, Value.int IntKind.i64 s, Value.slice A n c, Value.slice B m d], [Value.map r]] ∧ NewK
        w83 (Obj.cells (Array.mk [Value.bool t84]) 4) fun (n85 : Nat) (w86 : World) => AppK 1 1 [Value.bool false] 4 A31 n32 n33 (some (Addr.mk n85 0 none)) 1 w86 fun (A87 : Option Addr) (n88 n89 : Nat) (w90
        : World) => (I12 (IntKind.i64.wrap (x13 + 1)) x40 x41 A42 n43 n44 A45 n46 n47 A48 n49 n50 A51 x26 x27 A75 n76 n77 A87 n88 n89).1 w90 ∧ (I12 (IntKind.i64.wrap (x13 + 1)) x40 x41 A42 n43 n44 A45 n46 n47
        A48 n49 n50 A51 x26 x27 A75 n76 n77 A87 n88 n89).m w90 < n35)) (R (Value.tuple (Array.mk [Value.agg (Array.mk [Value.int IntKind.i64 x26, Value.int IntKind.i64 x27, Value.slice A28 n29 n30,
        Value.slice A31 n32 n33]), Value.bool true])) [[Value.int IntKind.i64 l, Value.int IntKind.i64 s, Value.slice A n c, Value.slice B m d], [Value.map r], [Value.slice K k0 k1], [Value.slice G g0 g1]]
        w34)) :
    CallsI Try.prog 86 [(.int .i64 letters), (.int .i64 most), (.int .i64 first), (.func (.func 87) #[] #[.pointer (some ⟨bm, 0, none⟩), .pointer (some ⟨bo, 0, none⟩), .pointer (some ⟨bk, 0, none⟩), .pointer (some ⟨bb, 0, none⟩)]), (.func (.func 88) #[] #[.pointer (some ⟨bm, 0, none⟩), .pointer (some ⟨bo, 0, none⟩)])] w [(bm, 25, [.int .i64 l, .int .i64 s, .slice A n c, .slice B m d]), (bo, 105, [.map r]), (bk, 23, [.slice K k0 k1]), (bb, 26, [.slice G g0 g1])] R :=
  vcFun_sound (H := ⟨[((2, 1), [((138, 0), true)]), ((14, 3), [((138, 0), true)]), ((12, 7), [((25, 0), false), ((105, 0), false), ((23, 0), false), ((26, 0), false)]), ((19, 8), [((25, 0), false), ((105, 0), false)])], [(0, [(14, .int .i64)], [(25, 1), (138, 0), (25, 2)]), (2, [(33, .int .i64)], [(25, 1), (138, 0)])]⟩) (args := [.v (.int .i64 letters), .v (.int .i64 most), .v (.int .i64 first), .v (.func (.func 87) #[] #[.pointer (some ⟨bm, 0, none⟩), .pointer (some ⟨bo, 0, none⟩), .pointer (some ⟨bk, 0, none⟩), .pointer (some ⟨bb, 0, none⟩)]), .v (.func (.func 88) #[] #[.pointer (some ⟨bm, 0, none⟩), .pointer (some ⟨bo, 0, none⟩)])]) (L := [⟨bm, 25, [.v (.int .i64 l), .v (.int .i64 s), .v (.slice A n c), .v (.slice B m d)]⟩, ⟨bo, 105, [.v (.map r)]⟩, ⟨bk, 23, [.v (.slice K k0 k1)]⟩, ⟨bb, 26, [.v (.slice G g0 g1)]⟩]) goodP Try.func86 (by simp [okp]) (by rw [Try.ntmps86]; simp) (by simp [okp]) (Eq.mp (by kernel_rfl) h)

def J54_1 (R : Value → List (List Value) → World → Prop) (x13 : Int) (x14 : Int) (A15 : Option Addr) (n16 : Nat) (n17 : Nat) (A18 : Option Addr) (n19 : Nat) (n20 : Nat) (w12 : World) : Prop := R
    (Value.agg (Array.mk [Value.int IntKind.i64 x13, Value.int IntKind.i64 x14, Value.slice A15 n16 n17, Value.slice A18 n19 n20])) [] w12

def J54_4 (l : Int) (w5 : World) (R : Value → List (List Value) → World → Prop) : Prop := CallsI Try.prog 84 [Value.int IntKind.i64 l] w5 [] fun (v10 : Value) (l11 : List (List Value)) (w12 : World)
    => ∃ (x13 : Int), ∃ (x14 : Int), ∃ (A15 : Option Addr), ∃ (n16 : Nat), ∃ (n17 : Nat), ∃ (A18 : Option Addr), ∃ (n19 : Nat), ∃ (n20 : Nat), v10 = Value.agg (Array.mk [Value.int IntKind.i64 x13,
    Value.int IntKind.i64 x14, Value.slice A15 n16 n17, Value.slice A18 n19 n20]) ∧ l11 = [] ∧ J54_1 R x13 x14 A15 n16 n17 A18 n19 n20 w12

def J54_5 (I44 : Int → Lp) (x45 : Int) (w54 : World) (n47 : Nat) : Prop := (I44 (IntKind.i64.wrap (x45 + 1))).1 w54 ∧ (I44 (IntKind.i64.wrap (x45 + 1))).m w54 < n47

theorem s54 (l s : Int) (A : Option Addr) (n c : Nat) (B : Option Addr) (m d : Nat) (w : World) (R : Value → List (List Value) → World → Prop) (h :
    ∀ (n1 _n2 : Nat), CallsI Try.prog 83 [Value.agg (Array.mk [Value.int IntKind.i64 l, Value.int IntKind.i64 s, Value.slice A n c, Value.slice B m d])] w [] fun (v3 : Value) (l4 : List (List Value)) (w5
        : World) => ∃ (A6 : Option Addr), ∃ (n7 : Nat), ∃ (n8 : Nat), v3 = Value.slice A6 n7 n8 ∧ l4 = [] ∧ ∀ (n9 : Nat), condK (decide (s < 0)) (J54_4 l w5 R) (IxV A6 n7 1 s fun (a21 : Addr) => ∃ (t22 :
        Bool), w5.cell? a21 = some (Value.bool t22) ∧ condK (!t22) (J54_4 l w5 R) (CallsI Try.prog 85 [Value.agg (Array.mk [Value.int IntKind.i64 l, Value.int IntKind.i64 s, Value.slice A n c, Value.slice B m
        d]), Value.slice A6 n7 n8] w5 [] fun (v34 : Value) (l35 : List (List Value)) (w36 : World) => ∃ (A37 : Option Addr), ∃ (n38 : Nat), ∃ (n39 : Nat), v34 = Value.slice A37 n38 n39 ∧ l35 = [] ∧ ∀ (n40 :
        Nat), NewK w36 (Obj.map (Array.mk []) 0) fun (n41 : Nat) (w42 : World) => ∀ (n43 : Nat), ∃ (I44 : Int → Lp), (I44 0).1 w42 ∧ ∀ (x45 : Int) (w46 : World), (I44 x45).1 w46 → ∀ (n47 : Nat), (I44 x45).m
        w46 = n47 → condK (decide (x45 < (↑n7 : Int))) (IxV A6 n7 1 x45 fun (a48 : Addr) => ∃ (t49 : Bool), w46.cell? a48 = some (Value.bool t49) ∧ condK t49 (IxV A37 n38 1 x45 fun (a50 : Addr) => ∃ (x51 :
        Int), w46.cell? a50 = some (Value.int IntKind.i64 x51) ∧ ∃ (n52 : Nat), ∃ (l53 : List (Value × Value)), some n41 = some n52 ∧ MapAt w46 KT.int n52 l53 ∧ ((w54 : World) → MapUpd w46 KT.int n52
        (assocSet KT.int (Value.int IntKind.i64 x51) (Value.int IntKind.i64 x45) l53) w54 → J54_5 I44 x45 w54 n47)) (J54_5 I44 x45 w46 n47)) (IxV A37 n38 1 s fun (a55 : Addr) => ∃ (x56 : Int), w46.cell? a55 =
        some (Value.int IntKind.i64 x56) ∧ (CallsI Try.prog 86 [Value.int IntKind.i64 l, Value.int IntKind.i64 (↑n : Int), Value.int IntKind.i64 x56, Value.func (Fn.func 87) (Array.mk []) (Array.mk
        [Value.pointer (some (Addr.mk n1 0 none)), Value.pointer (some (Addr.mk n43 0 none)), Value.pointer (some (Addr.mk n9 0 none)), Value.pointer (some (Addr.mk n40 0 none))]), Value.func (Fn.func 88)
        (Array.mk []) (Array.mk [Value.pointer (some (Addr.mk n1 0 none)), Value.pointer (some (Addr.mk n43 0 none))])] w46 [(n1, 25, [Value.int IntKind.i64 l, Value.int IntKind.i64 s, Value.slice A n c,
        Value.slice B m d]), (n43, 105, [Value.map (some n41)]), (n9, 23, [Value.slice A6 n7 n8]), (n40, 26, [Value.slice A37 n38 n39])] fun (v57 : Value) (l58 : List (List Value)) (w59 : World) => ∃ (x60 :
        Int), ∃ (x61 : Int), ∃ (A62 : Option Addr), ∃ (n63 : Nat), ∃ (n64 : Nat), ∃ (A65 : Option Addr), ∃ (n66 : Nat), ∃ (n67 : Nat), ∃ (t68 : Bool), v57 = Value.tuple (Array.mk [Value.agg (Array.mk
        [Value.int IntKind.i64 x60, Value.int IntKind.i64 x61, Value.slice A62 n63 n64, Value.slice A65 n66 n67]), Value.bool t68]) ∧ l58 = [[Value.int IntKind.i64 l, Value.int IntKind.i64 s, Value.slice A n
        c, Value.slice B m d], [Value.map (some n41)], [Value.slice A6 n7 n8], [Value.slice A37 n38 n39]] ∧ (Nat → J54_1 R x60 x61 A62 n63 n64 A65 n66 n67 w59)) ∧ ∀ (_n70 : Nat), w46.cell? a55 = some
        (Value.int IntKind.i64 x56) ∧ CallsI Try.prog 86 [Value.int IntKind.i64 l, Value.int IntKind.i64 (↑n : Int), Value.int IntKind.i64 x56, Value.func (Fn.func 87) (Array.mk []) (Array.mk [Value.pointer
        (some (Addr.mk n1 0 none)), Value.pointer (some (Addr.mk n43 0 none)), Value.pointer (some (Addr.mk n9 0 none)), Value.pointer (some (Addr.mk n40 0 none))]), Value.func (Fn.func 88) (Array.mk [])
        (Array.mk [Value.pointer (some (Addr.mk n1 0 none)), Value.pointer (some (Addr.mk n43 0 none))])] w46 [(n1, 25, [Value.int IntKind.i64 l, Value.int IntKind.i64 s, Value.slice A n c, Value.slice B m
        d]), (n43, 105, [Value.map (some n41)]), (n9, 23, [Value.slice A6 n7 n8]), (n40, 26, [Value.slice A37 n38 n39])] fun (v71 : Value) (l72 : List (List Value)) (w73 : World) => ∃ (x74 : Int), ∃ (x75 :
        Int), ∃ (A76 : Option Addr), ∃ (n77 : Nat), ∃ (n78 : Nat), ∃ (A79 : Option Addr), ∃ (n80 : Nat), ∃ (n81 : Nat), ∃ (t82 : Bool), v71 = Value.tuple (Array.mk [Value.agg (Array.mk [Value.int IntKind.i64
        x74, Value.int IntKind.i64 x75, Value.slice A76 n77 n78, Value.slice A79 n80 n81]), Value.bool t82]) ∧ l72 = [[Value.int IntKind.i64 l, Value.int IntKind.i64 s, Value.slice A n c, Value.slice B m d],
        [Value.map (some n41)], [Value.slice A6 n7 n8], [Value.slice A37 n38 n39]] ∧ J54_1 R x74 x75 A76 n77 n78 A79 n80 n81 w73)))) :
    CallsI Try.prog 54 [(.agg #[.int .i64 l, .int .i64 s, .slice A n c, .slice B m d])] w [] R :=
  vcFun_sound (H := ⟨[((12, 12), [((25, 0), false), ((105, 0), false), ((23, 0), false), ((26, 0), false)])], [(0, [(32, .int .i64)], [])]⟩) (args := [.v (.agg #[.int .i64 l, .int .i64 s, .slice A n c, .slice B m d])]) (L := []) goodP Try.func54 (by simp [okp]) (by rw [Try.ntmps54]; simp) (by simp [okp]) (Eq.mp (by kernel_rfl) h)

end Go.Proofs.Ytnkpjlhbojjneaa.VC

/- The conditions of functions, printed by wip/tools/gen.py. -/
namespace Go.Proofs.Ytnkpjlhbojjneaa.VC
open Go Go.RowKit

set_option maxRecDepth 100000 in
theorem s56 (l s : Int) (A : Option Addr) (n c : Nat) (B : Option Addr) (m d : Nat) (lb sb : Int) (Ab : Option Addr) (nb cb : Nat) (Bb : Option Addr) (mb db : Nat) (w : World) (R : Value → List (List Value) → World → Prop) (h :
    ∀ (_n1 _n2 : Nat), condK (s == sb) (CallsI Try.prog 89 [Value.slice B m d, Value.slice Bb mb db] w [] fun (v3 : Value) (l4 : List (List Value)) (w5 : World) => ∃ (t6 : Bool), v3 = Value.bool t6 ∧ l4 =
        [] ∧ condK t6 (CallsI Try.prog 90 [Value.slice A n c, Value.slice Ab nb cb, Value.func (Fn.func 91) (Array.mk []) (Array.mk [])] w5 [] fun (v7 : Value) (l8 : List (List Value)) (w9 : World) => ∃ (t10
        : Bool), v7 = Value.bool t10 ∧ l8 = [] ∧ R (Value.bool t10) [] w9) (R (Value.bool false) [] w5)) (R (Value.bool false) [] w)) :
    CallsI Try.prog 56 [(.agg #[.int .i64 l, .int .i64 s, .slice A n c, .slice B m d]), (.agg #[.int .i64 lb, .int .i64 sb, .slice Ab nb cb, .slice Bb mb db])] w [] R :=
  vcFun_sound (H := ⟨[], []⟩) (args := [.v (.agg #[.int .i64 l, .int .i64 s, .slice A n c, .slice B m d]), .v (.agg #[.int .i64 lb, .int .i64 sb, .slice Ab nb cb, .slice Bb mb db])]) (L := []) goodP Try.func56 (by simp [okp]) (by rw [Try.ntmps56]; simp) (by simp [okp]) (Eq.mp (by kernel_rfl) h)

set_option maxRecDepth 100000 in
theorem s57 (b : Nat) (A : Option Addr) (n c : Nat) (r : Option Nat) (p q : Int) (w : World) (R : Value → List (List Value) → World → Prop) (h :
    ∀ (_n1 : Nat), ∃ (l2 : List (Value × Value)), MapOpt w KT.pair r l2 ∧ ∃ (x3 : Int), (assoc KT.pair l2 (Value.agg (Array.mk [Value.int IntKind.i64 p, Value.int IntKind.i64 q]))).getD (Value.int
        IntKind.i64 0) = Value.int IntKind.i64 x3 ∧ condK (!(assoc KT.pair l2 (Value.agg (Array.mk [Value.int IntKind.i64 p, Value.int IntKind.i64 q]))).isSome) (condK r.isNone (NewK w (Obj.map (Array.mk [])
        0) fun (n4 : Nat) (w5 : World) => ∃ (n6 : Nat), ∃ (l7 : List (Value × Value)), some n4 = some n6 ∧ MapAt w5 KT.pair n6 l7 ∧ ∀ (w8 : World), MapUpd w5 KT.pair n6 (assocSet KT.pair (Value.agg (Array.mk
        [Value.int IntKind.i64 p, Value.int IntKind.i64 q])) (Value.int IntKind.i64 (↑n : Int)) l7) w8 → NewK w8 (Obj.cells (Array.mk [Value.int IntKind.i64 p, Value.int IntKind.i64 q]) 50) fun (n9 : Nat)
        (w10 : World) => AppK 16 2 [Value.int IntKind.i64 0, Value.int IntKind.i64 0] 50 A n c (some (Addr.mk n9 0 none)) 1 w10 fun (A11 : Option Addr) (n12 n13 : Nat) (w14 : World) => R (Value.int
        IntKind.i64 (↑n : Int)) [[Value.slice A11 n12 n13, Value.map (some n4)]] w14) (∃ (n15 : Nat), ∃ (l16 : List (Value × Value)), r = some n15 ∧ MapAt w KT.pair n15 l16 ∧ ∀ (w17 : World), MapUpd w KT.pair
        n15 (assocSet KT.pair (Value.agg (Array.mk [Value.int IntKind.i64 p, Value.int IntKind.i64 q])) (Value.int IntKind.i64 (↑n : Int)) l16) w17 → NewK w17 (Obj.cells (Array.mk [Value.int IntKind.i64 p,
        Value.int IntKind.i64 q]) 50) fun (n18 : Nat) (w19 : World) => AppK 16 2 [Value.int IntKind.i64 0, Value.int IntKind.i64 0] 50 A n c (some (Addr.mk n18 0 none)) 1 w19 fun (A20 : Option Addr) (n21 n22
        : Nat) (w23 : World) => R (Value.int IntKind.i64 (↑n : Int)) [[Value.slice A20 n21 n22, Value.map r]] w23)) (R (Value.int IntKind.i64 x3) [[Value.slice A n c, Value.map r]] w)) :
    CallsI Try.prog 57 [.pointer (some ⟨b, 0, none⟩), (.agg #[.int .i64 p, .int .i64 q])] w [(b, 68, [.slice A n c, .map r])] R :=
  vcFun_sound (H := ⟨[], []⟩) (args := [.p 0 b 0, .v (.agg #[.int .i64 p, .int .i64 q])]) (L := [⟨b, 68, [.v (.slice A n c), .v (.map r)]⟩]) goodP Try.func57 (by simp [okp]) (by rw [Try.ntmps57]; simp) (by simp [okp]) (Eq.mp (by kernel_rfl) h)

set_option maxRecDepth 100000 in
theorem s59 (D : Option Addr) (k e : Nat) (w : World) (R : Value → List (List Value) → World → Prop) (h :
    ∃ (I1 : Int → Int → Lp), (I1 0 (IntKind.i64.wrap ((↑k : Int) - 1))).1 w ∧ ∀ (x2 x3 : Int) (w4 : World), (I1 x2 x3).1 w4 → ∀ (n5 : Nat), (I1 x2 x3).m w4 = n5 → condK (decide (x2 < x3)) (IxV D k 1 x3
        fun (a6 : Addr) => ∃ (x7 : Int), w4.cell? a6 = some (Value.int IntKind.i64 x7) ∧ IxV D k 1 x2 fun (a8 : Addr) => ∃ (x9 : Int), w4.cell? a8 = some (Value.int IntKind.i64 x9) ∧ IxV D k 1 x2 fun (a10 :
        Addr) => SetK w4 a10 (Value.int IntKind.i64 x7) fun (w11 : World) => IxV D k 1 x3 fun (a12 : Addr) => SetK w11 a12 (Value.int IntKind.i64 x9) fun (w13 : World) => (I1 (IntKind.i64.wrap (x2 + 1))
        (IntKind.i64.wrap (x3 - 1))).1 w13 ∧ (I1 (IntKind.i64.wrap (x2 + 1)) (IntKind.i64.wrap (x3 - 1))).m w13 < n5) (R (Value.tuple (Array.mk [])) [] w4)) :
    CallsI Try.prog 59 [(.slice D k e)] w [] R :=
  vcFun_sound (H := ⟨[], [(0, [(2, .int .i64), (3, .int .i64)], [])]⟩) (args := [.v (.slice D k e)]) (L := []) goodP Try.func59 (by simp [okp]) (by rw [Try.ntmps59]; simp) (by simp [okp]) (Eq.mp (by kernel_rfl) h)

set_option maxRecDepth 100000 in
theorem s61 (p q pb qb : Int) (w : World) (R : Value → List (List Value) → World → Prop) (h :
    ∀ (_n1 _n2 : Nat), condK (p != pb) (R (Value.int IntKind.i64 (IntKind.i64.wrap (p - pb))) [] w) (R (Value.int IntKind.i64 (IntKind.i64.wrap (q - qb))) [] w)) :
    CallsI Try.prog 61 [(.agg #[.int .i64 p, .int .i64 q]), (.agg #[.int .i64 pb, .int .i64 qb])] w [] R :=
  vcFun_sound (H := ⟨[], []⟩) (args := [.v (.agg #[.int .i64 p, .int .i64 q]), .v (.agg #[.int .i64 pb, .int .i64 qb])]) (L := []) goodP Try.func61 (by simp [okp]) (by rw [Try.ntmps61]; simp) (by simp [okp]) (Eq.mp (by kernel_rfl) h)

set_option maxRecDepth 100000 in
theorem s89 (D : Option Addr) (k e : Nat) (Db : Option Addr) (kb eb : Nat) (w : World) (R : Value → List (List Value) → World → Prop) (h :
    condK ((↑k : Int) != (↑kb : Int)) (R (Value.bool false) [] w) (∃ (I1 : Int → Lp), (I1 0).1 w ∧ ∀ (x2 : Int) (w3 : World), (I1 x2).1 w3 → ∀ (n4 : Nat), (I1 x2).m w3 = n4 → condK (decide (x2 < (↑k :
        Int))) (IxV D k 1 x2 fun (a5 : Addr) => ∃ (t6 : Bool), w3.cell? a5 = some (Value.bool t6) ∧ IxV Db kb 1 x2 fun (a7 : Addr) => ∃ (t8 : Bool), w3.cell? a7 = some (Value.bool t8) ∧ condK (!t6 == t8) (R
        (Value.bool false) [] w3) ((I1 (IntKind.i64.wrap (x2 + 1))).1 w3 ∧ (I1 (IntKind.i64.wrap (x2 + 1))).m w3 < n4)) (R (Value.bool true) [] w3))) :
    CallsI Try.prog 89 [(.slice D k e), (.slice Db kb eb)] w [] R :=
  vcFun_sound (H := ⟨[], [(0, [(13, .int .i64)], [])]⟩) (args := [.v (.slice D k e), .v (.slice Db kb eb)]) (L := []) goodP Try.func89 (by simp [okp]) (by rw [Try.ntmps89]; simp) (by simp [okp]) (Eq.mp (by kernel_rfl) h)

set_option maxRecDepth 100000 in
theorem s90 (D : Option Addr) (k e : Nat) (Db : Option Addr) (kb eb : Nat) (w : World) (R : Value → List (List Value) → World → Prop) (h :
    condK ((↑k : Int) != (↑kb : Int)) (R (Value.bool false) [] w) (∃ (I1 : Int → Lp), (I1 0).1 w ∧ ∀ (x2 : Int) (w3 : World), (I1 x2).1 w3 → ∀ (n4 : Nat), (I1 x2).m w3 = n4 → condK (decide (x2 < (↑k :
        Int))) (IxV D k 1 x2 fun (a5 : Addr) => ∃ (A6 : Option Addr), ∃ (n7 : Nat), ∃ (n8 : Nat), w3.cell? a5 = some (Value.slice A6 n7 n8) ∧ IxV Db kb 1 x2 fun (a9 : Addr) => ∃ (A10 : Option Addr), ∃ (n11 :
        Nat), ∃ (n12 : Nat), w3.cell? a9 = some (Value.slice A10 n11 n12) ∧ CallsI Try.prog 91 [Value.slice A6 n7 n8, Value.slice A10 n11 n12] w3 [] fun (v13 : Value) (l14 : List (List Value)) (w15 : World)
        => ∃ (t16 : Bool), v13 = Value.bool t16 ∧ l14 = [] ∧ condK (!t16) (R (Value.bool false) [] w15) ((I1 (IntKind.i64.wrap (x2 + 1))).1 w15 ∧ (I1 (IntKind.i64.wrap (x2 + 1))).m w15 < n4)) (R (Value.bool
        true) [] w3))) :
    CallsI Try.prog 90 [(.slice D k e), (.slice Db kb eb), (.func (.func 91) #[] #[])] w [] R :=
  vcFun_sound (H := ⟨[], [(0, [(17, .int .i64)], [])]⟩) (args := [.v (.slice D k e), .v (.slice Db kb eb), .v (.func (.func 91) #[] #[])]) (L := []) goodP Try.func90 (by simp [okp]) (by rw [Try.ntmps90]; simp) (by simp [okp]) (Eq.mp (by kernel_rfl) h)

set_option maxRecDepth 100000 in
theorem s91 (D : Option Addr) (k e : Nat) (Db : Option Addr) (kb eb : Nat) (w : World) (R : Value → List (List Value) → World → Prop) (h :
    condK ((↑k : Int) != (↑kb : Int)) (R (Value.bool false) [] w) (∃ (I1 : Int → Lp), (I1 0).1 w ∧ ∀ (x2 : Int) (w3 : World), (I1 x2).1 w3 → ∀ (n4 : Nat), (I1 x2).m w3 = n4 → condK (decide (x2 < (↑k :
        Int))) (IxV D k 1 x2 fun (a5 : Addr) => ∃ (x6 : Int), w3.cell? a5 = some (Value.int IntKind.i64 x6) ∧ IxV Db kb 1 x2 fun (a7 : Addr) => ∃ (x8 : Int), w3.cell? a7 = some (Value.int IntKind.i64 x8) ∧
        condK (x6 != x8) (R (Value.bool false) [] w3) ((I1 (IntKind.i64.wrap (x2 + 1))).1 w3 ∧ (I1 (IntKind.i64.wrap (x2 + 1))).m w3 < n4)) (R (Value.bool true) [] w3))) :
    CallsI Try.prog 91 [(.slice D k e), (.slice Db kb eb)] w [] R :=
  vcFun_sound (H := ⟨[], [(0, [(13, .int .i64)], [])]⟩) (args := [.v (.slice D k e), .v (.slice Db kb eb)]) (L := []) goodP Try.func91 (by simp [okp]) (by rw [Try.ntmps91]; simp) (by simp [okp]) (Eq.mp (by kernel_rfl) h)

set_option maxRecDepth 100000 in
theorem s47  (w : World) (R : Value → List (List Value) → World → Prop) (h :
    ∀ (_n1 : Nat), NewK w (Obj.cells (Array.mk [Value.int IntKind.i64 1]) 3) fun (n2 : Nat) (w3 : World) => NewK w3 (Obj.cells (Array.mk [Value.int IntKind.i64 2]) 3) fun (n4 : Nat) (w5 : World) => NewK
        w5 (Obj.cells (Array.mk [Value.int IntKind.i64 1]) 3) fun (n6 : Nat) (w7 : World) => NewK w7 (Obj.cells (Array.mk [Value.slice (some (Addr.mk n2 0 none)) 1 1, Value.slice (some (Addr.mk n4 0 none)) 1
        1, Value.slice (some (Addr.mk n6 0 none)) 1 1]) 26) fun (n8 : Nat) (w9 : World) => NewK w9 (Obj.cells (Array.mk [Value.bool true, Value.bool false, Value.bool true]) 4) fun (n10 : Nat) (w11 : World)
        => R (Value.agg (Array.mk [Value.int IntKind.i64 1, Value.int IntKind.i64 0, Value.slice (some (Addr.mk n8 0 none)) 3 3, Value.slice (some (Addr.mk n10 0 none)) 3 3])) [] w11) :
    CallsI Try.prog 47 [] w [] R :=
  vcFun_sound (H := ⟨[], []⟩) (args := []) (L := []) goodP Try.func47 (by simp [okp]) (by rw [Try.ntmps47]; simp) (by simp [okp]) (Eq.mp (by kernel_rfl) h)

end Go.Proofs.Ytnkpjlhbojjneaa.VC

/- The conditions of functions, printed by wip/tools/gen.py. -/
namespace Go.Proofs.Ytnkpjlhbojjneaa.VC
open Go Go.RowKit

def J26_12 (w70 : World) (a72 : Addr) (x10 : Int) (x11 : Int) (A12 : Option Addr) (n13 : Nat) (n14 : Nat) (A15 : Option Addr) (n16 : Nat) (n17 : Nat) (x47 : Int) (A48 : Option Addr) (n49 : Nat) (A51 :
    Option Addr) (n52 : Nat) (R : Value → List (List Value) → World → Prop) : Prop := ∃ (x73 : Int), w70.cell? a72 = some (Value.int IntKind.i64 x73) ∧ CallsI Try.prog 52 [Value.agg (Array.mk [Value.int
    IntKind.i64 x10, Value.int IntKind.i64 x11, Value.slice A12 n13 n14, Value.slice A15 n16 n17]), Value.int IntKind.i64 x73] w70 [] fun (v74 : Value) (l75 : List (List Value)) (w76 : World) => ∃ (t77 :
    Bool), v74 = Value.bool t77 ∧ l75 = [] ∧ ∃ (I78 : Int → Option Addr → Nat → Nat → Lp), (I78 x47 none 0 0).1 w76 ∧ ∀ (x79 : Int) (A80 : Option Addr) (n81 n82 : Nat) (w83 : World), (I78 x79 A80 n81
    n82).1 w83 → ∀ (n84 : Nat), (I78 x79 A80 n81 n82).m w83 = n84 → IxV A48 n49 1 x79 fun (a85 : Addr) => ∃ (x86 : Int), w83.cell? a85 = some (Value.int IntKind.i64 x86) ∧ condK (decide (x86 ≥ 0)) (IxV
    A51 n52 1 x79 fun (a87 : Addr) => ∃ (x88 : Int), w83.cell? a87 = some (Value.int IntKind.i64 x88) ∧ NewK w83 (Obj.cells (Array.mk [Value.int IntKind.i64 x88]) 3) fun (n89 : Nat) (w90 : World) => AppK
    8 1 [Value.int IntKind.i64 0] 3 A80 n81 n82 (some (Addr.mk n89 0 none)) 1 w90 fun (A91 : Option Addr) (n92 n93 : Nat) (w94 : World) => IxV A48 n49 1 x79 fun (a95 : Addr) => ∃ (x96 : Int), w94.cell?
    a95 = some (Value.int IntKind.i64 x96) ∧ (I78 x96 A91 n92 n93).1 w94 ∧ (I78 x96 A91 n92 n93).m w94 < n84) (CallsI Try.prog 59 [Value.slice A80 n81 n82] w83 [] fun (v97 : Value) (l98 : List (List
    Value)) (w99 : World) => v97 = Value.tuple (Array.mk []) ∧ l98 = [] ∧ R (Value.tuple (Array.mk [Value.slice A80 n81 n82, Value.bool t77, Value.int IntKind.i64 0])) [] w99)

def J26_13 (I100 : Int → Option Addr → Nat → Nat → Option Addr → Nat → Nat → Option Addr → Nat → Nat → Option Nat → Lp) (x101 : Int) (A102 : Option Addr) (n103 : Nat) (n104 : Nat) (A105 : Option Addr)
    (n106 : Nat) (n107 : Nat) (A108 : Option Addr) (n109 : Nat) (n110 : Nat) (A111 : Option Nat) (w120 : World) (n113 : Nat) : Prop := (I100 (IntKind.i64.wrap (x101 + 1)) A102 n103 n104 A105 n106 n107
    A108 n109 n110 A111).1 w120 ∧ (I100 (IntKind.i64.wrap (x101 + 1)) A102 n103 n104 A105 n106 n107 A108 n109 n110 A111).m w120 < n113

def J26_22 (x117 : Int) (x121 : Int) (I100 : Int → Option Addr → Nat → Nat → Option Addr → Nat → Nat → Option Addr → Nat → Nat → Option Nat → Lp) (x101 : Int) (A102 : Option Addr) (n103 : Nat) (n104 :
    Nat) (A105 : Option Addr) (n106 : Nat) (n107 : Nat) (A108 : Option Addr) (n109 : Nat) (n110 : Nat) (A111 : Option Nat) (w120 : World) (n113 : Nat) (n33 : Nat) (x47 : Int) : Prop := condK (x117 == -1
    && x121 == -1) (J26_13 I100 x101 A102 n103 n104 A105 n106 n107 A108 n109 n110 A111 w120 n113) (CallsI Try.prog 57 [Value.pointer (some (Addr.mk n33 0 none)), Value.agg (Array.mk [Value.int IntKind.i64
    x117, Value.int IntKind.i64 x121])] w120 [(n33, 68, [Value.slice A108 n109 n110, Value.map A111])] fun (v123 : Value) (l124 : List (List Value)) (w125 : World) => ∃ (x126 : Int), v123 = Value.int
    IntKind.i64 x126 ∧ ∃ (A127 : Option Addr), ∃ (n128 : Nat), ∃ (n129 : Nat), ∃ (A130 : Option Nat), l124 = [[Value.slice A127 n128 n129, Value.map A130]] ∧ condK (x126 == (↑n103 : Int)) (NewK w125
    (Obj.cells (Array.mk [Value.int IntKind.i64 x47]) 3) fun (n131 : Nat) (w132 : World) => AppK 8 1 [Value.int IntKind.i64 0] 3 A102 n103 n104 (some (Addr.mk n131 0 none)) 1 w132 fun (A133 : Option Addr)
    (n134 n135 : Nat) (w136 : World) => NewK w136 (Obj.cells (Array.mk [Value.int IntKind.i64 x101]) 3) fun (n137 : Nat) (w138 : World) => AppK 8 1 [Value.int IntKind.i64 0] 3 A105 n106 n107 (some
    (Addr.mk n137 0 none)) 1 w138 fun (A139 : Option Addr) (n140 n141 : Nat) (w142 : World) => J26_13 I100 x101 A133 n134 n135 A139 n140 n141 A127 n128 n129 A130 w142 n113) (J26_13 I100 x101 A102 n103
    n104 A105 n106 n107 A127 n128 n129 A130 w125 n113))

def J26_26 (x21 : Int) (x22 : Int) (A23 : Option Addr) (n24 : Nat) (n25 : Nat) (A26 : Option Addr) (n27 : Nat) (n28 : Nat) (x62 : Int) (x101 : Int) (w116 : World) (x117 : Int) (I100 : Int → Option
    Addr → Nat → Nat → Option Addr → Nat → Nat → Option Addr → Nat → Nat → Option Nat → Lp) (A102 : Option Addr) (n103 : Nat) (n104 : Nat) (A105 : Option Addr) (n106 : Nat) (n107 : Nat) (A108 : Option
    Addr) (n109 : Nat) (n110 : Nat) (A111 : Option Nat) (n113 : Nat) (n33 : Nat) (x47 : Int) : Prop := CallsI Try.prog 58 [Value.agg (Array.mk [Value.int IntKind.i64 x21, Value.int IntKind.i64 x22,
    Value.slice A23 n24 n25, Value.slice A26 n27 n28]), Value.int IntKind.i64 x62, Value.int IntKind.i64 x101] w116 [] fun (v144 : Value) (l145 : List (List Value)) (w146 : World) => ∃ (x147 : Int), v144
    = Value.int IntKind.i64 x147 ∧ l145 = [] ∧ J26_22 x117 x147 I100 x101 A102 n103 n104 A105 n106 n107 A108 n109 n110 A111 w146 n113 n33 x47

theorem s26 (l s : Int) (A : Option Addr) (n c : Nat) (B : Option Addr) (m d : Nat) (lb sb : Int) (Ab : Option Addr) (nb cb : Nat) (Bb : Option Addr) (mb db : Nat) (w : World) (R : Value → List (List Value) → World → Prop) (h :
    ∀ (_n1 _n2 : Nat), CallsI Try.prog 55 [Value.agg (Array.mk [Value.int IntKind.i64 l, Value.int IntKind.i64 s, Value.slice A n c, Value.slice B m d]), Value.agg (Array.mk [Value.int IntKind.i64 lb,
        Value.int IntKind.i64 sb, Value.slice Ab nb cb, Value.slice Bb mb db])] w [] fun (v3 : Value) (l4 : List (List Value)) (w5 : World) => ∃ (x6 : Int), v3 = Value.int IntKind.i64 x6 ∧ l4 = [] ∧ condK (x6
        != 0) (R (Value.tuple (Array.mk [Value.slice none 0 0, Value.bool false, Value.int IntKind.i64 x6])) [] w5) (CallsI Try.prog 54 [Value.agg (Array.mk [Value.int IntKind.i64 l, Value.int IntKind.i64 s,
        Value.slice A n c, Value.slice B m d])] w5 [] fun (v7 : Value) (l8 : List (List Value)) (w9 : World) => ∃ (x10 : Int), ∃ (x11 : Int), ∃ (A12 : Option Addr), ∃ (n13 : Nat), ∃ (n14 : Nat), ∃ (A15 :
        Option Addr), ∃ (n16 : Nat), ∃ (n17 : Nat), v7 = Value.agg (Array.mk [Value.int IntKind.i64 x10, Value.int IntKind.i64 x11, Value.slice A12 n13 n14, Value.slice A15 n16 n17]) ∧ l8 = [] ∧ CallsI
        Try.prog 54 [Value.agg (Array.mk [Value.int IntKind.i64 lb, Value.int IntKind.i64 sb, Value.slice Ab nb cb, Value.slice Bb mb db])] w9 [] fun (v18 : Value) (l19 : List (List Value)) (w20 : World) => ∃
        (x21 : Int), ∃ (x22 : Int), ∃ (A23 : Option Addr), ∃ (n24 : Nat), ∃ (n25 : Nat), ∃ (A26 : Option Addr), ∃ (n27 : Nat), ∃ (n28 : Nat), v18 = Value.agg (Array.mk [Value.int IntKind.i64 x21, Value.int
        IntKind.i64 x22, Value.slice A23 n24 n25, Value.slice A26 n27 n28]) ∧ l19 = [] ∧ CallsI Try.prog 56 [Value.agg (Array.mk [Value.int IntKind.i64 x10, Value.int IntKind.i64 x11, Value.slice A12 n13 n14,
        Value.slice A15 n16 n17]), Value.agg (Array.mk [Value.int IntKind.i64 x21, Value.int IntKind.i64 x22, Value.slice A23 n24 n25, Value.slice A26 n27 n28])] w20 [] fun (v29 : Value) (l30 : List (List
        Value)) (w31 : World) => ∃ (t32 : Bool), v29 = Value.bool t32 ∧ l30 = [] ∧ condK t32 (R (Value.tuple (Array.mk [Value.slice none 0 0, Value.bool false, Value.int IntKind.i64 7])) [] w31) (∀ (n33 :
        Nat), CallsI Try.prog 57 [Value.pointer (some (Addr.mk n33 0 none)), Value.agg (Array.mk [Value.int IntKind.i64 x11, Value.int IntKind.i64 x22])] w31 [(n33, 68, [Value.slice none 0 0, Value.map
        none])] fun (v34 : Value) (l35 : List (List Value)) (w36 : World) => ∃ (x37 : Int), v34 = Value.int IntKind.i64 x37 ∧ ∃ (A38 : Option Addr), ∃ (n39 : Nat), ∃ (n40 : Nat), ∃ (A41 : Option Nat), l35 =
        [[Value.slice A38 n39 n40, Value.map A41]] ∧ NewK w36 (Obj.cells (Array.mk [Value.int IntKind.i64 (-1)]) 3) fun (n42 : Nat) (w43 : World) => NewK w43 (Obj.cells (Array.mk [Value.int IntKind.i64 (-1)])
        3) fun (n44 : Nat) (w45 : World) => ∃ (I46 : Int → Option Addr → Nat → Nat → Option Addr → Nat → Nat → Option Addr → Nat → Nat → Option Nat → Lp), (I46 0 (some (Addr.mk n42 0 none)) 1 1 (some (Addr.mk
        n44 0 none)) 1 1 A38 n39 n40 A41).1 w45 ∧ ∀ (x47 : Int) (A48 : Option Addr) (n49 n50 : Nat) (A51 : Option Addr) (n52 n53 : Nat) (A54 : Option Addr) (n55 n56 : Nat) (A57 : Option Nat) (w58 : World),
        (I46 x47 A48 n49 n50 A51 n52 n53 A54 n55 n56 A57).1 w58 → ∀ (n59 : Nat), (I46 x47 A48 n49 n50 A51 n52 n53 A54 n55 n56 A57).m w58 = n59 → condK (decide (x47 < (↑n55 : Int))) (IxV A54 n55 2 x47 fun (a60
        : Addr) => ∃ (x61 : Int), ∃ (x62 : Int), w58.cell? a60 = some (Value.int IntKind.i64 x61) ∧ w58.cell? (a60.add 1) = some (Value.int IntKind.i64 x62) ∧ ∀ (_n63 : Nat), CallsI Try.prog 52 [Value.agg
        (Array.mk [Value.int IntKind.i64 x10, Value.int IntKind.i64 x11, Value.slice A12 n13 n14, Value.slice A15 n16 n17]), Value.int IntKind.i64 x61] w58 [] fun (v64 : Value) (l65 : List (List Value)) (w66
        : World) => ∃ (t67 : Bool), v64 = Value.bool t67 ∧ l65 = [] ∧ CallsI Try.prog 52 [Value.agg (Array.mk [Value.int IntKind.i64 x21, Value.int IntKind.i64 x22, Value.slice A23 n24 n25, Value.slice A26
        n27 n28]), Value.int IntKind.i64 x62] w66 [] fun (v68 : Value) (l69 : List (List Value)) (w70 : World) => ∃ (t71 : Bool), v68 = Value.bool t71 ∧ l69 = [] ∧ condK (!t67 == t71) (IxV A54 n55 2 x47 fun
        (a72 : Addr) => J26_12 w70 a72 x10 x11 A12 n13 n14 A15 n16 n17 x47 A48 n49 A51 n52 R) (∃ (I100 : Int → Option Addr → Nat → Nat → Option Addr → Nat → Nat → Option Addr → Nat → Nat → Option Nat → Lp),
        (I100 0 A48 n49 n50 A51 n52 n53 A54 n55 n56 A57).1 w70 ∧ ∀ (x101 : Int) (A102 : Option Addr) (n103 n104 : Nat) (A105 : Option Addr) (n106 n107 : Nat) (A108 : Option Addr) (n109 n110 : Nat) (A111 :
        Option Nat) (w112 : World), (I100 x101 A102 n103 n104 A105 n106 n107 A108 n109 n110 A111).1 w112 → ∀ (n113 : Nat), (I100 x101 A102 n103 n104 A105 n106 n107 A108 n109 n110 A111).m w112 = n113 → condK
        (decide (x101 < x10)) ((CallsI Try.prog 58 [Value.agg (Array.mk [Value.int IntKind.i64 x10, Value.int IntKind.i64 x11, Value.slice A12 n13 n14, Value.slice A15 n16 n17]), Value.int IntKind.i64 x61,
        Value.int IntKind.i64 x101] w112 [] fun (v114 : Value) (l115 : List (List Value)) (w116 : World) => ∃ (x117 : Int), v114 = Value.int IntKind.i64 x117 ∧ l115 = [] ∧ (CallsI Try.prog 58 [Value.agg
        (Array.mk [Value.int IntKind.i64 x21, Value.int IntKind.i64 x22, Value.slice A23 n24 n25, Value.slice A26 n27 n28]), Value.int IntKind.i64 x62, Value.int IntKind.i64 x101] w116 [] fun (v118 : Value)
        (l119 : List (List Value)) (w120 : World) => ∃ (x121 : Int), v118 = Value.int IntKind.i64 x121 ∧ l119 = [] ∧ (Nat → J26_22 x117 x121 I100 x101 A102 n103 n104 A105 n106 n107 A108 n109 n110 A111 w120
        n113 n33 x47)) ∧ (Nat → J26_26 x21 x22 A23 n24 n25 A26 n27 n28 x62 x101 w116 x117 I100 A102 n103 n104 A105 n106 n107 A108 n109 n110 A111 n113 n33 x47)) ∧ ∀ (_n148 : Nat), CallsI Try.prog 58 [Value.agg
        (Array.mk [Value.int IntKind.i64 x10, Value.int IntKind.i64 x11, Value.slice A12 n13 n14, Value.slice A15 n16 n17]), Value.int IntKind.i64 x61, Value.int IntKind.i64 x101] w112 [] fun (v149 : Value)
        (l150 : List (List Value)) (w151 : World) => ∃ (x152 : Int), v149 = Value.int IntKind.i64 x152 ∧ l150 = [] ∧ J26_26 x21 x22 A23 n24 n25 A26 n27 n28 x62 x101 w151 x152 I100 A102 n103 n104 A105 n106
        n107 A108 n109 n110 A111 n113 n33 x47) (J26_13 I46 x47 A102 n103 n104 A105 n106 n107 A108 n109 n110 A111 w112 n59))) (IxV A54 n55 2 x47 fun (a157 : Addr) => J26_12 w58 a157 x10 x11 A12 n13 n14 A15 n16
        n17 x47 A48 n49 A51 n52 R)))) :
    CallsI Try.prog 26 [(.agg #[.int .i64 l, .int .i64 s, .slice A n c, .slice B m d]), (.agg #[.int .i64 lb, .int .i64 sb, .slice Ab nb cb, .slice Bb mb db])] w [] R :=
  vcFun_sound (H := ⟨[((8, 5), [((68, 0), true)]), ((20, 1), [((68, 0), true)])], [(0, [(11, .int .i64), (9, .slice), (10, .slice)], [(68, 0)]), (2, [(59, .int .i64), (9, .slice), (10, .slice)], [(68, 0)]), (4, [(11, .int .i64), (4, .slice)], [])]⟩) (args := [.v (.agg #[.int .i64 l, .int .i64 s, .slice A n c, .slice B m d]), .v (.agg #[.int .i64 lb, .int .i64 sb, .slice Ab nb cb, .slice Bb mb db])]) (L := []) goodP Try.func26 (by simp [okp]) (by rw [Try.ntmps26]; simp) (by simp [okp]) (Eq.mp (by kernel_rfl) h)

end Go.Proofs.Ytnkpjlhbojjneaa.VC

/- The conditions of functions, printed by wip/tools/gen.py. -/
namespace Go.Proofs.Ytnkpjlhbojjneaa.VC
open Go Go.RowKit

def J27_2 (I52 : Int → Option Addr → Nat → Nat → Option Nat → Lp) (x53 : Int) (A77 : Option Addr) (n78 : Nat) (n79 : Nat) (A80 : Option Nat) (w75 : World) (n59 : Nat) : Prop := (I52 (IntKind.i64.wrap
    (x53 + 1)) A77 n78 n79 A80).1 w75 ∧ (I52 (IntKind.i64.wrap (x53 + 1)) A77 n78 n79 A80).m w75 < n59

def J27_6 (x67 : Int) (x71 : Int) (n34 : Nat) (w70 : World) (A54 : Option Addr) (n55 : Nat) (n56 : Nat) (A57 : Option Nat) (I52 : Int → Option Addr → Nat → Nat → Option Nat → Lp) (x53 : Int) (n59 :
    Nat) : Prop := condK (!(x67 == -1 && x71 == -1)) (CallsI Try.prog 57 [Value.pointer (some (Addr.mk n34 0 none)), Value.agg (Array.mk [Value.int IntKind.i64 x67, Value.int IntKind.i64 x71])] w70 [(n34,
    68, [Value.slice A54 n55 n56, Value.map A57])] fun (v73 : Value) (l74 : List (List Value)) (w75 : World) => ∃ (x76 : Int), v73 = Value.int IntKind.i64 x76 ∧ ∃ (A77 : Option Addr), ∃ (n78 : Nat), ∃
    (n79 : Nat), ∃ (A80 : Option Nat), l74 = [[Value.slice A77 n78 n79, Value.map A80]] ∧ J27_2 I52 x53 A77 n78 n79 A80 w75 n59) (J27_2 I52 x53 A54 n55 n56 A57 w70 n59)

def J27_10 (lb : Int) (sb : Int) (Ab : Option Addr) (nb : Nat) (cb : Nat) (Bb : Option Addr) (mb : Nat) (db : Nat) (x63 : Int) (x53 : Int) (w66 : World) (x67 : Int) (n34 : Nat) (A54 : Option Addr)
    (n55 : Nat) (n56 : Nat) (A57 : Option Nat) (I52 : Int → Option Addr → Nat → Nat → Option Nat → Lp) (n59 : Nat) : Prop := CallsI Try.prog 58 [Value.agg (Array.mk [Value.int IntKind.i64 lb, Value.int
    IntKind.i64 sb, Value.slice Ab nb cb, Value.slice Bb mb db]), Value.int IntKind.i64 x63, Value.int IntKind.i64 x53] w66 [] fun (v82 : Value) (l83 : List (List Value)) (w84 : World) => ∃ (x85 : Int),
    v82 = Value.int IntKind.i64 x85 ∧ l83 = [] ∧ J27_6 x67 x85 n34 w84 A54 n55 n56 A57 I52 x53 n59

def J27_27 (x45 : Int) (n47 : Nat) (A46 : Option Addr) (n48 : Nat) (A49 : Option Nat) (w50 : World) (l : Int) (s : Int) (A : Option Addr) (n : Nat) (c : Nat) (B : Option Addr) (m : Nat) (d : Nat) (lb
    : Int) (sb : Int) (Ab : Option Addr) (nb : Nat) (cb : Nat) (Bb : Option Addr) (mb : Nat) (db : Nat) (n34 : Nat) (R : Value → List (List Value) → World → Prop) (I44 : Int → Option Addr → Nat → Nat →
    Option Nat → Lp) (n51 : Nat) : Prop := condK (decide (x45 < (↑n47 : Int))) (∃ (I52 : Int → Option Addr → Nat → Nat → Option Nat → Lp), (I52 0 A46 n47 n48 A49).1 w50 ∧ ∀ (x53 : Int) (A54 : Option Addr)
    (n55 n56 : Nat) (A57 : Option Nat) (w58 : World), (I52 x53 A54 n55 n56 A57).1 w58 → ∀ (n59 : Nat), (I52 x53 A54 n55 n56 A57).m w58 = n59 → condK (decide (x53 < l)) (IxV A54 n55 2 x45 fun (a60 : Addr)
    => ∃ (x61 : Int), w58.cell? a60 = some (Value.int IntKind.i64 x61) ∧ IxV A54 n55 2 x45 fun (a62 : Addr) => ∃ (x63 : Int), w58.cell? (a62.add 1) = some (Value.int IntKind.i64 x63) ∧ (CallsI Try.prog 58
    [Value.agg (Array.mk [Value.int IntKind.i64 l, Value.int IntKind.i64 s, Value.slice A n c, Value.slice B m d]), Value.int IntKind.i64 x61, Value.int IntKind.i64 x53] w58 [] fun (v64 : Value) (l65 :
    List (List Value)) (w66 : World) => ∃ (x67 : Int), v64 = Value.int IntKind.i64 x67 ∧ l65 = [] ∧ w66.cell? (a62.add 1) = some (Value.int IntKind.i64 x63) ∧ (CallsI Try.prog 58 [Value.agg (Array.mk
    [Value.int IntKind.i64 lb, Value.int IntKind.i64 sb, Value.slice Ab nb cb, Value.slice Bb mb db]), Value.int IntKind.i64 x63, Value.int IntKind.i64 x53] w66 [] fun (v68 : Value) (l69 : List (List
    Value)) (w70 : World) => ∃ (x71 : Int), v68 = Value.int IntKind.i64 x71 ∧ l69 = [] ∧ (Nat → J27_6 x67 x71 n34 w70 A54 n55 n56 A57 I52 x53 n59)) ∧ ∀ (_n81 : Nat), w66.cell? (a62.add 1) = some
    (Value.int IntKind.i64 x63) ∧ J27_10 lb sb Ab nb cb Bb mb db x63 x53 w66 x67 n34 A54 n55 n56 A57 I52 n59) ∧ ∀ (_n86 : Nat), w58.cell? (a62.add 1) = some (Value.int IntKind.i64 x63) ∧ w58.cell? a60 =
    some (Value.int IntKind.i64 x61) ∧ CallsI Try.prog 58 [Value.agg (Array.mk [Value.int IntKind.i64 l, Value.int IntKind.i64 s, Value.slice A n c, Value.slice B m d]), Value.int IntKind.i64 x61,
    Value.int IntKind.i64 x53] w58 [] fun (v87 : Value) (l88 : List (List Value)) (w89 : World) => ∃ (x90 : Int), v87 = Value.int IntKind.i64 x90 ∧ l88 = [] ∧ w89.cell? (a62.add 1) = some (Value.int
    IntKind.i64 x63) ∧ J27_10 lb sb Ab nb cb Bb mb db x63 x53 w89 x90 n34 A54 n55 n56 A57 I52 n59) (condK (decide ((↑n55 : Int) > 20000)) (R (Value.tuple (Array.mk [Value.slice none 0 0, Value.int
    IntKind.i64 5])) [] w58) (J27_2 I44 x45 A54 n55 n56 A57 w58 n51))) (CallsI Try.prog 60 [Value.slice A46 n47 n48, Value.func (Fn.func 61) (Array.mk []) (Array.mk [])] w50 [] fun (v95 : Value) (l96 :
    List (List Value)) (w97 : World) => v95 = Value.tuple (Array.mk []) ∧ l96 = [] ∧ R (Value.tuple (Array.mk [Value.slice A46 n47 n48, Value.int IntKind.i64 0])) [] w97)

theorem s27 (l s : Int) (A : Option Addr) (n c : Nat) (B : Option Addr) (m d : Nat) (lb sb : Int) (Ab : Option Addr) (nb cb : Nat) (Bb : Option Addr) (mb db : Nat) (w : World) (R : Value → List (List Value) → World → Prop) (h :
    ∀ (_n1 _n2 : Nat), CallsI Try.prog 55 [Value.agg (Array.mk [Value.int IntKind.i64 l, Value.int IntKind.i64 s, Value.slice A n c, Value.slice B m d]), Value.agg (Array.mk [Value.int IntKind.i64 lb,
        Value.int IntKind.i64 sb, Value.slice Ab nb cb, Value.slice Bb mb db])] w [] fun (v3 : Value) (l4 : List (List Value)) (w5 : World) => ∃ (x6 : Int), v3 = Value.int IntKind.i64 x6 ∧ l4 = [] ∧ condK (x6
        != 0) (R (Value.tuple (Array.mk [Value.slice none 0 0, Value.int IntKind.i64 x6])) [] w5) (CallsI Try.prog 54 [Value.agg (Array.mk [Value.int IntKind.i64 l, Value.int IntKind.i64 s, Value.slice A n c,
        Value.slice B m d])] w5 [] fun (v7 : Value) (l8 : List (List Value)) (w9 : World) => ∃ (x10 : Int), ∃ (x11 : Int), ∃ (A12 : Option Addr), ∃ (n13 : Nat), ∃ (n14 : Nat), ∃ (A15 : Option Addr), ∃ (n16 :
        Nat), ∃ (n17 : Nat), v7 = Value.agg (Array.mk [Value.int IntKind.i64 x10, Value.int IntKind.i64 x11, Value.slice A12 n13 n14, Value.slice A15 n16 n17]) ∧ l8 = [] ∧ CallsI Try.prog 54 [Value.agg
        (Array.mk [Value.int IntKind.i64 lb, Value.int IntKind.i64 sb, Value.slice Ab nb cb, Value.slice Bb mb db])] w9 [] fun (v18 : Value) (l19 : List (List Value)) (w20 : World) => ∃ (x21 : Int), ∃ (x22 :
        Int), ∃ (A23 : Option Addr), ∃ (n24 : Nat), ∃ (n25 : Nat), ∃ (A26 : Option Addr), ∃ (n27 : Nat), ∃ (n28 : Nat), v18 = Value.agg (Array.mk [Value.int IntKind.i64 x21, Value.int IntKind.i64 x22,
        Value.slice A23 n24 n25, Value.slice A26 n27 n28]) ∧ l19 = [] ∧ CallsI Try.prog 56 [Value.agg (Array.mk [Value.int IntKind.i64 x10, Value.int IntKind.i64 x11, Value.slice A12 n13 n14, Value.slice A15
        n16 n17]), Value.agg (Array.mk [Value.int IntKind.i64 x21, Value.int IntKind.i64 x22, Value.slice A23 n24 n25, Value.slice A26 n27 n28])] w20 [] fun (v29 : Value) (l30 : List (List Value)) (w31 :
        World) => ∃ (t32 : Bool), v29 = Value.bool t32 ∧ l30 = [] ∧ condK (!t32) (R (Value.tuple (Array.mk [Value.slice none 0 0, Value.int IntKind.i64 8])) [] w31) (∀ (_n33 n34 _n35 : Nat), condK (!(s == -1
        && sb == -1)) (CallsI Try.prog 57 [Value.pointer (some (Addr.mk n34 0 none)), Value.agg (Array.mk [Value.int IntKind.i64 s, Value.int IntKind.i64 sb])] w31 [(n34, 68, [Value.slice none 0 0, Value.map
        none])] fun (v36 : Value) (l37 : List (List Value)) (w38 : World) => ∃ (x39 : Int), v36 = Value.int IntKind.i64 x39 ∧ ∃ (A40 : Option Addr), ∃ (n41 : Nat), ∃ (n42 : Nat), ∃ (A43 : Option Nat), l37 =
        [[Value.slice A40 n41 n42, Value.map A43]] ∧ ∃ (I44 : Int → Option Addr → Nat → Nat → Option Nat → Lp), (I44 0 A40 n41 n42 A43).1 w38 ∧ ((x45 : Int) → (A46 : Option Addr) → (n47 n48 : Nat) → (A49 :
        Option Nat) → (w50 : World) → (I44 x45 A46 n47 n48 A49).1 w50 → (n51 : Nat) → (I44 x45 A46 n47 n48 A49).m w50 = n51 → J27_27 x45 n47 A46 n48 A49 w50 l s A n c B m d lb sb Ab nb cb Bb mb db n34 R I44
        n51)) (∃ (I98 : Int → Option Addr → Nat → Nat → Option Nat → Lp), (I98 0 none 0 0 none).1 w31 ∧ ((x99 : Int) → (A100 : Option Addr) → (n101 n102 : Nat) → (A103 : Option Nat) → (w104 : World) → (I98
        x99 A100 n101 n102 A103).1 w104 → (n105 : Nat) → (I98 x99 A100 n101 n102 A103).m w104 = n105 → J27_27 x99 n101 A100 n102 A103 w104 l s A n c B m d lb sb Ab nb cb Bb mb db n34 R I98 n105))))) :
    CallsI Try.prog 27 [(.agg #[.int .i64 l, .int .i64 s, .slice A n c, .slice B m d]), (.agg #[.int .i64 lb, .int .i64 sb, .slice Ab nb cb, .slice Bb mb db])] w [] R :=
  vcFun_sound (H := ⟨[((10, 1), [((68, 0), true)]), ((19, 1), [((68, 0), true)])], [(0, [(10, .int .i64)], [(68, 0)]), (2, [(45, .int .i64)], [(68, 0)])]⟩) (args := [.v (.agg #[.int .i64 l, .int .i64 s, .slice A n c, .slice B m d]), .v (.agg #[.int .i64 lb, .int .i64 sb, .slice Ab nb cb, .slice Bb mb db])]) (L := []) goodP Try.func27 (by simp [okp]) (by rw [Try.ntmps27]; simp) (by simp [okp]) (Eq.mp (by kernel_rfl) h)

def J31_1 (I28 : Int → Option Addr → Nat → Nat → Lp) (x29 : Int) (A39 : Option Addr) (n40 : Nat) (n41 : Nat) (w42 : World) (n34 : Nat) : Prop := (I28 (IntKind.i64.wrap (x29 + 1)) A39 n40 n41).1 w42 ∧
    (I28 (IntKind.i64.wrap (x29 + 1)) A39 n40 n41).m w42 < n34

theorem s31 (l s : Int) (A : Option Addr) (n c : Nat) (B : Option Addr) (m d : Nat) (q : Int) (w : World) (R : Value → List (List Value) → World → Prop) (h :
    ∀ (_n1 : Nat), CallsI Try.prog 18 [Value.agg (Array.mk [Value.int IntKind.i64 l, Value.int IntKind.i64 s, Value.slice A n c, Value.slice B m d])] w [] fun (v2 : Value) (l3 : List (List Value)) (w4 :
        World) => ∃ (x5 : Int), v2 = Value.int IntKind.i64 x5 ∧ l3 = [] ∧ condK (x5 != 0) (R (Value.tuple (Array.mk [Value.int IntKind.u64 0, Value.int IntKind.i64 1])) [] w4) (condK (decide (q < 0)) (R
        (Value.tuple (Array.mk [Value.int IntKind.u64 0, Value.int IntKind.i64 1])) [] w4) (condK (decide (q > 1000)) (R (Value.tuple (Array.mk [Value.int IntKind.u64 0, Value.int IntKind.i64 1])) [] w4)
        (CallsI Try.prog 54 [Value.agg (Array.mk [Value.int IntKind.i64 l, Value.int IntKind.i64 s, Value.slice A n c, Value.slice B m d])] w4 [] fun (v6 : Value) (l7 : List (List Value)) (w8 : World) => ∃
        (x9 : Int), ∃ (x10 : Int), ∃ (A11 : Option Addr), ∃ (n12 : Nat), ∃ (n13 : Nat), ∃ (A14 : Option Addr), ∃ (n15 : Nat), ∃ (n16 : Nat), v6 = Value.agg (Array.mk [Value.int IntKind.i64 x9, Value.int
        IntKind.i64 x10, Value.slice A11 n12 n13, Value.slice A14 n15 n16]) ∧ l7 = [] ∧ condK (decide (x10 < 0)) (R (Value.tuple (Array.mk [Value.int IntKind.u64 0, Value.int IntKind.i64 0])) [] w8) (∃ (I17 :
        Int → Option Addr → Nat → Nat → Lp), (I17 0 none 0 0).1 w8 ∧ ∀ (x18 : Int) (A19 : Option Addr) (n20 n21 : Nat) (w22 : World), (I17 x18 A19 n20 n21).1 w22 → ∀ (n23 : Nat), (I17 x18 A19 n20 n21).m w22 =
        n23 → condK (decide (x18 < (↑n12 : Int))) (IxV A11 n12 1 x18 fun (a24 : Addr) => ∃ (A25 : Option Addr), ∃ (n26 : Nat), ∃ (n27 : Nat), w22.cell? a24 = some (Value.slice A25 n26 n27) ∧ ∃ (I28 : Int →
        Option Addr → Nat → Nat → Lp), (I28 0 A19 n20 n21).1 w22 ∧ ∀ (x29 : Int) (A30 : Option Addr) (n31 n32 : Nat) (w33 : World), (I28 x29 A30 n31 n32).1 w33 → ∀ (n34 : Nat), (I28 x29 A30 n31 n32).m w33 =
        n34 → condK (decide (x29 < (↑n26 : Int))) (IxV A25 n26 1 x29 fun (a35 : Addr) => ∃ (x36 : Int), w33.cell? a35 = some (Value.int IntKind.i64 x36) ∧ condK (decide (x36 ≥ 0)) (NewK w33 (Obj.cells
        (Array.mk [Value.int IntKind.i64 x18, Value.int IntKind.i64 x36]) 78) fun (n37 : Nat) (w38 : World) => AppK 16 2 [Value.int IntKind.i64 0, Value.int IntKind.i64 0] 78 A30 n31 n32 (some (Addr.mk n37 0
        none)) 1 w38 fun (A39 : Option Addr) (n40 n41 : Nat) (w42 : World) => J31_1 I28 x29 A39 n40 n41 w42 n34) (J31_1 I28 x29 A30 n31 n32 w33 n34)) (J31_1 I17 x18 A30 n31 n32 w33 n23)) ((↑n12 : Int) = (↑n12
        : Int) ∧ 0 ≤ (↑n12 : Int) ∧ (↑n12 : Int) * (↑8 : Int) ≤ 281474976710656 ∧ (↑n12 : Int) ≤ 9223372036854775807 ∧ NewK w22 (Obj.cells (Array.mk (List.replicate n12 (Value.int IntKind.u64 0))) 45) fun
        (n43 : Nat) (w44 : World) => IxV (some (Addr.mk n43 0 none)) n12 1 x10 fun (a45 : Addr) => SetK w44 a45 (Value.int IntKind.u64 1) fun (w46 : World) => ∃ (I47 : Int → Option Addr → Nat → Nat → Lp),
        (I47 0 (some (Addr.mk n43 0 none)) n12 n12).1 w46 ∧ ∀ (x48 : Int) (A49 : Option Addr) (n50 n51 : Nat) (w52 : World), (I47 x48 A49 n50 n51).1 w52 → ∀ (n53 : Nat), (I47 x48 A49 n50 n51).m w52 = n53 →
        condK (decide (x48 < q)) ((↑n12 : Int) = (↑n12 : Int) ∧ 0 ≤ (↑n12 : Int) ∧ (↑n12 : Int) * (↑8 : Int) ≤ 281474976710656 ∧ (↑n12 : Int) ≤ 9223372036854775807 ∧ NewK w52 (Obj.cells (Array.mk
        (List.replicate n12 (Value.int IntKind.u64 0))) 45) fun (n54 : Nat) (w55 : World) => ∃ (I56 : Int → Lp), (I56 0).1 w55 ∧ ∀ (x57 : Int) (w58 : World), (I56 x57).1 w58 → ∀ (n59 : Nat), (I56 x57).m w58 =
        n59 → condK (decide (x57 < (↑n20 : Int))) (IxV A19 n20 2 x57 fun (a60 : Addr) => ∃ (x61 : Int), ∃ (x62 : Int), w58.cell? a60 = some (Value.int IntKind.i64 x61) ∧ w58.cell? (a60.add 1) = some
        (Value.int IntKind.i64 x62) ∧ ∀ (_n63 : Nat), IxV (some (Addr.mk n54 0 none)) n12 1 x62 fun (a64 : Addr) => ∃ (x65 : Int), w58.cell? a64 = some (Value.int IntKind.u64 x65) ∧ IxV A49 n50 1 x61 fun (a66
        : Addr) => ∃ (x67 : Int), w58.cell? a66 = some (Value.int IntKind.u64 x67) ∧ IxV (some (Addr.mk n54 0 none)) n12 1 x62 fun (a68 : Addr) => SetK w58 a68 (Value.int IntKind.u64 (IntKind.u64.wrap (x65 +
        x67))) fun (w69 : World) => (I56 (IntKind.i64.wrap (x57 + 1))).1 w69 ∧ (I56 (IntKind.i64.wrap (x57 + 1))).m w69 < n59) ((I47 (IntKind.i64.wrap (x48 + 1)) (some (Addr.mk n54 0 none)) n12 n12).1 w58 ∧
        (I47 (IntKind.i64.wrap (x48 + 1)) (some (Addr.mk n54 0 none)) n12 n12).m w58 < n53)) (∃ (I70 : Int → Int → Lp), (I70 0 0).1 w52 ∧ ∀ (x71 x72 : Int) (w73 : World), (I70 x71 x72).1 w73 → ∀ (n74 : Nat),
        (I70 x71 x72).m w73 = n74 → condK (decide (x71 < (↑n50 : Int))) (IxV A49 n50 1 x71 fun (a75 : Addr) => ∃ (x76 : Int), w73.cell? a75 = some (Value.int IntKind.u64 x76) ∧ IxV A14 n15 1 x71 fun (a77 :
        Addr) => ∃ (t78 : Bool), w73.cell? a77 = some (Value.bool t78) ∧ condK t78 ((I70 (IntKind.i64.wrap (x71 + 1)) (IntKind.u64.wrap (x72 + x76))).1 w73 ∧ (I70 (IntKind.i64.wrap (x71 + 1))
        (IntKind.u64.wrap (x72 + x76))).m w73 < n74) ((I70 (IntKind.i64.wrap (x71 + 1)) x72).1 w73 ∧ (I70 (IntKind.i64.wrap (x71 + 1)) x72).m w73 < n74)) (R (Value.tuple (Array.mk [Value.int IntKind.u64 x72,
        Value.int IntKind.i64 0])) [] w73)))))))) :
    CallsI Try.prog 31 [(.agg #[.int .i64 l, .int .i64 s, .slice A n c, .slice B m d]), (.int .i64 q)] w [] R :=
  vcFun_sound (H := ⟨[], [(0, [(37, .int .i64), (6, .slice)], []), (2, [(44, .int .i64), (6, .slice)], []), (4, [(67, .int .i64), (11, .slice)], []), (6, [(75, .int .i64)], []), (8, [(96, .int .i64), (15, .int .u64)], [])]⟩) (args := [.v (.agg #[.int .i64 l, .int .i64 s, .slice A n c, .slice B m d]), .v (.int .i64 q)]) (L := []) goodP Try.func31 (by simp [okp]) (by rw [Try.ntmps31]; simp) (by simp [okp]) (Eq.mp (by kernel_rfl) h)

end Go.Proofs.Ytnkpjlhbojjneaa.VC

/- The conditions of functions, printed by wip/tools/gen.py. -/
namespace Go.Proofs.Ytnkpjlhbojjneaa.VC
open Go Go.RowKit

def J28_1 (I13 : Int → Lp) (x14 : Int) (w30 : World) (n16 : Nat) : Prop := (I13 (IntKind.i64.wrap (x14 + 1))).1 w30 ∧ (I13 (IntKind.i64.wrap (x14 + 1))).m w30 < n16

def J28_2 (n8 : Nat) (n28 : Nat) (w26 : World) (l29 : List (Value × Value)) (x18 : Int) (x19 : Int) (I13 : Int → Lp) (x14 : Int) (n16 : Nat) : Prop := some n8 = some n28 ∧ MapAt w26 KT.pair n28 l29 ∧
    ((w30 : World) → MapUpd w26 KT.pair n28 (assocSet KT.pair (Value.agg (Array.mk [Value.int IntKind.i64 x18, Value.int IntKind.i64 x19])) (Value.bool true) l29) w30 → J28_1 I13 x14 w30 n16)

theorem s28 (l s : Int) (A : Option Addr) (n c : Nat) (B : Option Addr) (m d : Nat) (lb sb : Int) (Ab : Option Addr) (nb cb : Nat) (Bb : Option Addr) (mb db : Nat) (D : Option Addr) (k e : Nat) (w : World) (R : Value → List (List Value) → World → Prop) (h :
    ∀ (_n1 _n2 : Nat), CallsI Try.prog 55 [Value.agg (Array.mk [Value.int IntKind.i64 l, Value.int IntKind.i64 s, Value.slice A n c, Value.slice B m d]), Value.agg (Array.mk [Value.int IntKind.i64 lb,
        Value.int IntKind.i64 sb, Value.slice Ab nb cb, Value.slice Bb mb db])] w [] fun (v3 : Value) (l4 : List (List Value)) (w5 : World) => ∃ (x6 : Int), v3 = Value.int IntKind.i64 x6 ∧ l4 = [] ∧ condK (x6
        != 0) (R (Value.int IntKind.i64 x6) [] w5) (∀ (_n7 : Nat), NewK w5 (Obj.map (Array.mk []) 0) fun (n8 : Nat) (w9 : World) => ∃ (n10 : Nat), ∃ (l11 : List (Value × Value)), some n8 = some n10 ∧ MapAt w9
        KT.pair n10 l11 ∧ ∀ (w12 : World), MapUpd w9 KT.pair n10 (assocSet KT.pair (Value.agg (Array.mk [Value.int IntKind.i64 (-1), Value.int IntKind.i64 (-1)])) (Value.bool true) l11) w12 → ∃ (I13 : Int →
        Lp), (I13 0).1 w12 ∧ ∀ (x14 : Int) (w15 : World), (I13 x14).1 w15 → ∀ (n16 : Nat), (I13 x14).m w15 = n16 → condK (decide (x14 < (↑k : Int))) (IxV D k 2 x14 fun (a17 : Addr) => ∃ (x18 : Int), ∃ (x19 :
        Int), w15.cell? a17 = some (Value.int IntKind.i64 x18) ∧ w15.cell? (a17.add 1) = some (Value.int IntKind.i64 x19) ∧ ∀ (_n20 : Nat), condK (decide (x18 < -1)) (R (Value.int IntKind.i64 2) [] w15)
        (condK (decide (x19 < -1)) (R (Value.int IntKind.i64 2) [] w15) (condK (decide (x18 ≥ (↑n : Int))) (R (Value.int IntKind.i64 2) [] w15) (condK (decide (x19 ≥ (↑nb : Int))) (R (Value.int IntKind.i64 2)
        [] w15) (condK (x18 == -1 && x19 == -1) (R (Value.int IntKind.i64 2) [] w15) (condK (decide (x14 > 0)) (IxV D k 2 (IntKind.i64.wrap (x14 - 1)) fun (a21 : Addr) => ∃ (x22 : Int), ∃ (x23 : Int),
        w15.cell? a21 = some (Value.int IntKind.i64 x22) ∧ w15.cell? (a21.add 1) = some (Value.int IntKind.i64 x23) ∧ CallsI Try.prog 61 [Value.agg (Array.mk [Value.int IntKind.i64 x22, Value.int IntKind.i64
        x23]), Value.agg (Array.mk [Value.int IntKind.i64 x18, Value.int IntKind.i64 x19])] w15 [] fun (v24 : Value) (l25 : List (List Value)) (w26 : World) => ∃ (x27 : Int), v24 = Value.int IntKind.i64 x27 ∧
        l25 = [] ∧ condK (decide (x27 ≥ 0)) (R (Value.int IntKind.i64 2) [] w26) (∃ (n28 : Nat), ∃ (l29 : List (Value × Value)), J28_2 n8 n28 w26 l29 x18 x19 I13 x14 n16)) (∃ (n31 : Nat), ∃ (l32 : List (Value
        × Value)), J28_2 n8 n31 w15 l32 x18 x19 I13 x14 n16))))))) (∃ (l34 : List (Value × Value)), MapOpt w15 KT.pair (some n8) l34 ∧ ∃ (t35 : Bool), (assoc KT.pair l34 (Value.agg (Array.mk [Value.int
        IntKind.i64 s, Value.int IntKind.i64 sb]))).getD (Value.bool false) = Value.bool t35 ∧ condK (!t35) (R (Value.int IntKind.i64 8) [] w15) (∃ (I36 : Int → Lp), (I36 0).1 w15 ∧ ∀ (x37 : Int) (w38 :
        World), (I36 x37).1 w38 → ∀ (n39 : Nat), (I36 x37).m w38 = n39 → condK (decide (x37 < (↑k : Int))) (IxV D k 2 x37 fun (a40 : Addr) => ∃ (x41 : Int), ∃ (x42 : Int), w38.cell? a40 = some (Value.int
        IntKind.i64 x41) ∧ w38.cell? (a40.add 1) = some (Value.int IntKind.i64 x42) ∧ ∀ (_n43 : Nat), CallsI Try.prog 52 [Value.agg (Array.mk [Value.int IntKind.i64 l, Value.int IntKind.i64 s, Value.slice A n
        c, Value.slice B m d]), Value.int IntKind.i64 x41] w38 [] fun (v44 : Value) (l45 : List (List Value)) (w46 : World) => ∃ (t47 : Bool), v44 = Value.bool t47 ∧ l45 = [] ∧ CallsI Try.prog 52 [Value.agg
        (Array.mk [Value.int IntKind.i64 lb, Value.int IntKind.i64 sb, Value.slice Ab nb cb, Value.slice Bb mb db]), Value.int IntKind.i64 x42] w46 [] fun (v48 : Value) (l49 : List (List Value)) (w50 : World)
        => ∃ (t51 : Bool), v48 = Value.bool t51 ∧ l49 = [] ∧ condK (!t47 == t51) (R (Value.int IntKind.i64 8) [] w50) (∃ (I52 : Int → Lp), (I52 0).1 w50 ∧ ∀ (x53 : Int) (w54 : World), (I52 x53).1 w54 → ∀ (n55
        : Nat), (I52 x53).m w54 = n55 → condK (decide (x53 < l)) (CallsI Try.prog 58 [Value.agg (Array.mk [Value.int IntKind.i64 l, Value.int IntKind.i64 s, Value.slice A n c, Value.slice B m d]), Value.int
        IntKind.i64 x41, Value.int IntKind.i64 x53] w54 [] fun (v56 : Value) (l57 : List (List Value)) (w58 : World) => ∃ (x59 : Int), v56 = Value.int IntKind.i64 x59 ∧ l57 = [] ∧ CallsI Try.prog 58
        [Value.agg (Array.mk [Value.int IntKind.i64 lb, Value.int IntKind.i64 sb, Value.slice Ab nb cb, Value.slice Bb mb db]), Value.int IntKind.i64 x42, Value.int IntKind.i64 x53] w58 [] fun (v60 : Value)
        (l61 : List (List Value)) (w62 : World) => ∃ (x63 : Int), v60 = Value.int IntKind.i64 x63 ∧ l61 = [] ∧ ∃ (l64 : List (Value × Value)), MapOpt w62 KT.pair (some n8) l64 ∧ ∃ (t65 : Bool), (assoc KT.pair
        l64 (Value.agg (Array.mk [Value.int IntKind.i64 x59, Value.int IntKind.i64 x63]))).getD (Value.bool false) = Value.bool t65 ∧ condK (!t65) (R (Value.int IntKind.i64 8) [] w62) (J28_1 I52 x53 w62 n55))
        (J28_1 I36 x37 w54 n39))) (R (Value.int IntKind.i64 0) [] w38))))) :
    CallsI Try.prog 28 [(.agg #[.int .i64 l, .int .i64 s, .slice A n c, .slice B m d]), (.agg #[.int .i64 lb, .int .i64 sb, .slice Ab nb cb, .slice Bb mb db]), (.slice D k e)] w [] R :=
  vcFun_sound (H := ⟨[], [(0, [(27, .int .i64)], []), (2, [(88, .int .i64)], []), (4, [(103, .int .i64)], [])]⟩) (args := [.v (.agg #[.int .i64 l, .int .i64 s, .slice A n c, .slice B m d]), .v (.agg #[.int .i64 lb, .int .i64 sb, .slice Ab nb cb, .slice Bb mb db]), .v (.slice D k e)]) (L := []) goodP Try.func28 (by simp [okp]) (by rw [Try.ntmps28]; simp) (by simp [okp]) (Eq.mp (by kernel_rfl) h)

end Go.Proofs.Ytnkpjlhbojjneaa.VC

/- The conditions of functions, printed by wip/tools/gen.py. -/
namespace Go.Proofs.Ytnkpjlhbojjneaa.VC
open Go Go.RowKit

def J15_15 (x105 : Int) (x106 : Int) (A107 : Option Addr) (n108 : Nat) (n109 : Nat) (A110 : Option Addr) (n111 : Nat) (n112 : Nat) (n113 : Nat) (w114 : World) (x15 : Int) (x16 : Int) (A17 : Option
    Addr) (n18 : Nat) (n19 : Nat) (A20 : Option Addr) (n21 : Nat) (n22 : Nat) (A65 : Option Addr) (n66 : Nat) (n67 : Nat) (R : Value → List (List Value) → World → Prop) : Prop := CallsI Try.prog 20
    [Value.agg (Array.mk [Value.int IntKind.i64 x105, Value.int IntKind.i64 x106, Value.slice A107 n108 n109, Value.slice A110 n111 n112]), Value.slice (some (Addr.mk n113 0 none)) 1 1] w114 [] fun (v115
    : Value) (l116 : List (List Value)) (w117 : World) => ∃ (t118 : Bool), v115 = Value.bool t118 ∧ l116 = [] ∧ condK (!t118) (CallsI Try.prog 47 [] w117 [] fun (v119 : Value) (l120 : List (List Value))
    (w121 : World) => ∃ (x122 : Int), ∃ (x123 : Int), ∃ (A124 : Option Addr), ∃ (n125 : Nat), ∃ (n126 : Nat), ∃ (A127 : Option Addr), ∃ (n128 : Nat), ∃ (n129 : Nat), v119 = Value.agg (Array.mk [Value.int
    IntKind.i64 x122, Value.int IntKind.i64 x123, Value.slice A124 n125 n126, Value.slice A127 n128 n129]) ∧ l120 = [] ∧ CallsI Try.prog 28 [Value.agg (Array.mk [Value.int IntKind.i64 x122, Value.int
    IntKind.i64 x123, Value.slice A124 n125 n126, Value.slice A127 n128 n129]), Value.agg (Array.mk [Value.int IntKind.i64 x15, Value.int IntKind.i64 x16, Value.slice A17 n18 n19, Value.slice A20 n21
    n22]), Value.slice A65 n66 n67] w121 [] fun (v130 : Value) (l131 : List (List Value)) (w132 : World) => ∃ (x133 : Int), v130 = Value.int IntKind.i64 x133 ∧ l131 = [] ∧ condK (x133 == 0) ((0 : Int) ≤ 2
    ∧ 2 ≤ (↑n67 : Int) ∧ CallsI Try.prog 47 [] w132 [] fun (v134 : Value) (l135 : List (List Value)) (w136 : World) => ∃ (x137 : Int), ∃ (x138 : Int), ∃ (A139 : Option Addr), ∃ (n140 : Nat), ∃ (n141 :
    Nat), ∃ (A142 : Option Addr), ∃ (n143 : Nat), ∃ (n144 : Nat), v134 = Value.agg (Array.mk [Value.int IntKind.i64 x137, Value.int IntKind.i64 x138, Value.slice A139 n140 n141, Value.slice A142 n143
    n144]) ∧ l135 = [] ∧ CallsI Try.prog 28 [Value.agg (Array.mk [Value.int IntKind.i64 x137, Value.int IntKind.i64 x138, Value.slice A139 n140 n141, Value.slice A142 n143 n144]), Value.agg (Array.mk
    [Value.int IntKind.i64 x15, Value.int IntKind.i64 x16, Value.slice A17 n18 n19, Value.slice A20 n21 n22]), Value.slice (if n67 = 0 then A65 else Option.map (fun (x : Addr) => x.add (0 * i50.size))
    A65) 2 n67] w136 [] fun (v145 : Value) (l146 : List (List Value)) (w147 : World) => ∃ (x148 : Int), v145 = Value.int IntKind.i64 x148 ∧ l146 = [] ∧ R (Value.bool (x148 == 8)) [] w147) (R (Value.bool
    false) [] w132)) (R (Value.bool false) [] w117)

def J15_27 (x88 : Int) (x89 : Int) (A90 : Option Addr) (n91 : Nat) (n92 : Nat) (A93 : Option Addr) (n94 : Nat) (n95 : Nat) (n96 : Nat) (w97 : World) (x15 : Int) (x16 : Int) (A17 : Option Addr) (n18 :
    Nat) (n19 : Nat) (A20 : Option Addr) (n21 : Nat) (n22 : Nat) (A65 : Option Addr) (n66 : Nat) (n67 : Nat) (R : Value → List (List Value) → World → Prop) : Prop := CallsI Try.prog 20 [Value.agg
    (Array.mk [Value.int IntKind.i64 x88, Value.int IntKind.i64 x89, Value.slice A90 n91 n92, Value.slice A93 n94 n95]), Value.slice (some (Addr.mk n96 0 none)) 2 2] w97 [] fun (v98 : Value) (l99 : List
    (List Value)) (w100 : World) => ∃ (t101 : Bool), v98 = Value.bool t101 ∧ l99 = [] ∧ condK t101 ((CallsI Try.prog 47 [] w100 [] fun (v102 : Value) (l103 : List (List Value)) (w104 : World) => ∃ (x105 :
    Int), ∃ (x106 : Int), ∃ (A107 : Option Addr), ∃ (n108 : Nat), ∃ (n109 : Nat), ∃ (A110 : Option Addr), ∃ (n111 : Nat), ∃ (n112 : Nat), v102 = Value.agg (Array.mk [Value.int IntKind.i64 x105, Value.int
    IntKind.i64 x106, Value.slice A107 n108 n109, Value.slice A110 n111 n112]) ∧ l103 = [] ∧ NewK w104 (Obj.cells (Array.mk [Value.int IntKind.i64 0]) 3) fun (n113 : Nat) (w114 : World) => J15_15 x105
    x106 A107 n108 n109 A110 n111 n112 n113 w114 x15 x16 A17 n18 n19 A20 n21 n22 A65 n66 n67 R) ∧ NewK w100 (Obj.cells (Array.mk [Value.int IntKind.i64 0]) 3) fun (n149 : Nat) (w150 : World) => CallsI
    Try.prog 47 [] w150 [] fun (v151 : Value) (l152 : List (List Value)) (w153 : World) => ∃ (x154 : Int), ∃ (x155 : Int), ∃ (A156 : Option Addr), ∃ (n157 : Nat), ∃ (n158 : Nat), ∃ (A159 : Option Addr), ∃
    (n160 : Nat), ∃ (n161 : Nat), v151 = Value.agg (Array.mk [Value.int IntKind.i64 x154, Value.int IntKind.i64 x155, Value.slice A156 n157 n158, Value.slice A159 n160 n161]) ∧ l152 = [] ∧ J15_15 x154
    x155 A156 n157 n158 A159 n160 n161 n149 w153 x15 x16 A17 n18 n19 A20 n21 n22 A65 n66 n67 R) (R (Value.bool false) [] w100 ∧ R (Value.bool false) [] w100)

set_option maxRecDepth 100000 in
theorem s15  (w : World) (R : Value → List (List Value) → World → Prop) (h :
    CallsI Try.prog 47 [] w [] fun (v1 : Value) (l2 : List (List Value)) (w3 : World) => ∃ (x4 : Int), ∃ (x5 : Int), ∃ (A6 : Option Addr), ∃ (n7 : Nat), ∃ (n8 : Nat), ∃ (A9 : Option Addr), ∃ (n10 : Nat),
        ∃ (n11 : Nat), v1 = Value.agg (Array.mk [Value.int IntKind.i64 x4, Value.int IntKind.i64 x5, Value.slice A6 n7 n8, Value.slice A9 n10 n11]) ∧ l2 = [] ∧ CallsI Try.prog 23 [Value.agg (Array.mk
        [Value.int IntKind.i64 x4, Value.int IntKind.i64 x5, Value.slice A6 n7 n8, Value.slice A9 n10 n11])] w3 [] fun (v12 : Value) (l13 : List (List Value)) (w14 : World) => ∃ (x15 : Int), ∃ (x16 : Int), ∃
        (A17 : Option Addr), ∃ (n18 : Nat), ∃ (n19 : Nat), ∃ (A20 : Option Addr), ∃ (n21 : Nat), ∃ (n22 : Nat), ∃ (x23 : Int), v12 = Value.tuple (Array.mk [Value.agg (Array.mk [Value.int IntKind.i64 x15,
        Value.int IntKind.i64 x16, Value.slice A17 n18 n19, Value.slice A20 n21 n22]), Value.int IntKind.i64 x23]) ∧ l13 = [] ∧ ∀ (_n24 : Nat), NewK w14 (Obj.cells (Array.mk [Value.int IntKind.i64 0]) 3) fun
        (n25 : Nat) (w26 : World) => NewK w26 (Obj.cells (Array.mk [Value.slice (some (Addr.mk n25 0 none)) 1 1]) 26) fun (n27 : Nat) (w28 : World) => NewK w28 (Obj.cells (Array.mk [Value.bool true]) 4) fun
        (n29 : Nat) (w30 : World) => ∀ (_n31 : Nat), CallsI Try.prog 47 [] w30 [] fun (v32 : Value) (l33 : List (List Value)) (w34 : World) => ∃ (x35 : Int), ∃ (x36 : Int), ∃ (A37 : Option Addr), ∃ (n38 :
        Nat), ∃ (n39 : Nat), ∃ (A40 : Option Addr), ∃ (n41 : Nat), ∃ (n42 : Nat), v32 = Value.agg (Array.mk [Value.int IntKind.i64 x35, Value.int IntKind.i64 x36, Value.slice A37 n38 n39, Value.slice A40 n41
        n42]) ∧ l33 = [] ∧ CallsI Try.prog 26 [Value.agg (Array.mk [Value.int IntKind.i64 x35, Value.int IntKind.i64 x36, Value.slice A37 n38 n39, Value.slice A40 n41 n42]), Value.agg (Array.mk [Value.int
        IntKind.i64 1, Value.int IntKind.i64 0, Value.slice (some (Addr.mk n27 0 none)) 1 1, Value.slice (some (Addr.mk n29 0 none)) 1 1])] w34 [] fun (v43 : Value) (l44 : List (List Value)) (w45 : World) =>
        ∃ (A46 : Option Addr), ∃ (n47 : Nat), ∃ (n48 : Nat), ∃ (t49 : Bool), ∃ (x50 : Int), v43 = Value.tuple (Array.mk [Value.slice A46 n47 n48, Value.bool t49, Value.int IntKind.i64 x50]) ∧ l44 = [] ∧
        CallsI Try.prog 47 [] w45 [] fun (v51 : Value) (l52 : List (List Value)) (w53 : World) => ∃ (x54 : Int), ∃ (x55 : Int), ∃ (A56 : Option Addr), ∃ (n57 : Nat), ∃ (n58 : Nat), ∃ (A59 : Option Addr), ∃
        (n60 : Nat), ∃ (n61 : Nat), v51 = Value.agg (Array.mk [Value.int IntKind.i64 x54, Value.int IntKind.i64 x55, Value.slice A56 n57 n58, Value.slice A59 n60 n61]) ∧ l52 = [] ∧ CallsI Try.prog 27
        [Value.agg (Array.mk [Value.int IntKind.i64 x54, Value.int IntKind.i64 x55, Value.slice A56 n57 n58, Value.slice A59 n60 n61]), Value.agg (Array.mk [Value.int IntKind.i64 x15, Value.int IntKind.i64
        x16, Value.slice A17 n18 n19, Value.slice A20 n21 n22])] w53 [] fun (v62 : Value) (l63 : List (List Value)) (w64 : World) => ∃ (A65 : Option Addr), ∃ (n66 : Nat), ∃ (n67 : Nat), ∃ (x68 : Int), v62 =
        Value.tuple (Array.mk [Value.slice A65 n66 n67, Value.int IntKind.i64 x68]) ∧ l63 = [] ∧ CallsI Try.prog 47 [] w64 [] fun (v69 : Value) (l70 : List (List Value)) (w71 : World) => ∃ (x72 : Int), ∃ (x73
        : Int), ∃ (A74 : Option Addr), ∃ (n75 : Nat), ∃ (n76 : Nat), ∃ (A77 : Option Addr), ∃ (n78 : Nat), ∃ (n79 : Nat), v69 = Value.agg (Array.mk [Value.int IntKind.i64 x72, Value.int IntKind.i64 x73,
        Value.slice A74 n75 n76, Value.slice A77 n78 n79]) ∧ l70 = [] ∧ CallsI Try.prog 31 [Value.agg (Array.mk [Value.int IntKind.i64 x72, Value.int IntKind.i64 x73, Value.slice A74 n75 n76, Value.slice A77
        n78 n79]), Value.int IntKind.i64 4] w71 [] fun (v80 : Value) (l81 : List (List Value)) (w82 : World) => ∃ (x83 : Int), ∃ (x84 : Int), v80 = Value.tuple (Array.mk [Value.int IntKind.u64 x83, Value.int
        IntKind.i64 x84]) ∧ l81 = [] ∧ condK (x23 != 0) (R (Value.bool false) [] w82) (condK (x50 != 0) (R (Value.bool false) [] w82) (condK (x68 != 0) (R (Value.bool false) [] w82) (condK (x84 != 0) (R
        (Value.bool false) [] w82) (condK ((↑n18 : Int) != 2) (R (Value.bool false) [] w82) (condK ((↑n47 : Int) != 1) (R (Value.bool false) [] w82) (condK t49 (R (Value.bool false) [] w82) (condK ((↑n66 :
        Int) != 3) (R (Value.bool false) [] w82) (condK (x83 != 1) (R (Value.bool false) [] w82) ((CallsI Try.prog 47 [] w82 [] fun (v85 : Value) (l86 : List (List Value)) (w87 : World) => ∃ (x88 : Int), ∃
        (x89 : Int), ∃ (A90 : Option Addr), ∃ (n91 : Nat), ∃ (n92 : Nat), ∃ (A93 : Option Addr), ∃ (n94 : Nat), ∃ (n95 : Nat), v85 = Value.agg (Array.mk [Value.int IntKind.i64 x88, Value.int IntKind.i64 x89,
        Value.slice A90 n91 n92, Value.slice A93 n94 n95]) ∧ l86 = [] ∧ NewK w87 (Obj.cells (Array.mk [Value.int IntKind.i64 0, Value.int IntKind.i64 0]) 3) fun (n96 : Nat) (w97 : World) => J15_27 x88 x89 A90
        n91 n92 A93 n94 n95 n96 w97 x15 x16 A17 n18 n19 A20 n21 n22 A65 n66 n67 R) ∧ NewK w82 (Obj.cells (Array.mk [Value.int IntKind.i64 0, Value.int IntKind.i64 0]) 3) fun (n196 : Nat) (w197 : World) =>
        CallsI Try.prog 47 [] w197 [] fun (v198 : Value) (l199 : List (List Value)) (w200 : World) => ∃ (x201 : Int), ∃ (x202 : Int), ∃ (A203 : Option Addr), ∃ (n204 : Nat), ∃ (n205 : Nat), ∃ (A206 : Option
        Addr), ∃ (n207 : Nat), ∃ (n208 : Nat), v198 = Value.agg (Array.mk [Value.int IntKind.i64 x201, Value.int IntKind.i64 x202, Value.slice A203 n204 n205, Value.slice A206 n207 n208]) ∧ l199 = [] ∧ J15_27
        x201 x202 A203 n204 n205 A206 n207 n208 n196 w200 x15 x16 A17 n18 n19 A20 n21 n22 A65 n66 n67 R)))))))))) :
    CallsI Try.prog 15 [] w [] R :=
  vcFun_sound (H := ⟨[], []⟩) (args := []) (L := []) goodP Try.func15 (by simp [okp]) (by rw [Try.ntmps15]; simp) (by simp [okp]) (Eq.mp (by kernel_rfl) h)

def J3_1 (w : World) (R : Value → List (List Value) → World → Prop) : Prop := CallsI Try.prog 15 [] w [] fun (v2 : Value) (l3 : List (List Value)) (w4 : World) => ∃ (t5 : Bool), v2 = Value.bool t5 ∧
    l3 = [] ∧ R (Value.bool t5) [] w4

set_option maxRecDepth 100000 in
theorem s3 (l s : Int) (A : Option Addr) (n c : Nat) (B : Option Addr) (m d : Nat) (D : Option Addr) (k e : Nat) (w : World) (R : Value → List (List Value) → World → Prop) (h :
    ∀ (_n1 : Nat), condK (decide ((↑n : Int) > 8000)) (J3_1 w R) (CallsI Try.prog 16 [Value.agg (Array.mk [Value.int IntKind.i64 l, Value.int IntKind.i64 s, Value.slice A n c, Value.slice B m d])] w []
        fun (v6 : Value) (l7 : List (List Value)) (w8 : World) => ∃ (x9 : Int), v6 = Value.int IntKind.i64 x9 ∧ l7 = [] ∧ CallsI Try.prog 17 [Value.agg (Array.mk [Value.int IntKind.i64 l, Value.int
        IntKind.i64 s, Value.slice A n c, Value.slice B m d]), Value.slice D k e] w8 [] fun (v10 : Value) (l11 : List (List Value)) (w12 : World) => ∃ (t13 : Bool), v10 = Value.bool t13 ∧ l11 = [] ∧ CallsI
        Try.prog 19 [Value.agg (Array.mk [Value.int IntKind.i64 l, Value.int IntKind.i64 s, Value.slice A n c, Value.slice B m d])] w12 [] fun (v14 : Value) (l15 : List (List Value)) (w16 : World) => ∃ (x17 :
        Int), ∃ (x18 : Int), ∃ (A19 : Option Addr), ∃ (n20 : Nat), ∃ (n21 : Nat), ∃ (A22 : Option Addr), ∃ (n23 : Nat), ∃ (n24 : Nat), v14 = Value.agg (Array.mk [Value.int IntKind.i64 x17, Value.int
        IntKind.i64 x18, Value.slice A19 n20 n21, Value.slice A22 n23 n24]) ∧ l15 = [] ∧ CallsI Try.prog 18 [Value.agg (Array.mk [Value.int IntKind.i64 x17, Value.int IntKind.i64 x18, Value.slice A19 n20 n21,
        Value.slice A22 n23 n24])] w16 [] fun (v25 : Value) (l26 : List (List Value)) (w27 : World) => ∃ (x28 : Int), v25 = Value.int IntKind.i64 x28 ∧ l26 = [] ∧ condK (x28 == x9) (CallsI Try.prog 19
        [Value.agg (Array.mk [Value.int IntKind.i64 l, Value.int IntKind.i64 s, Value.slice A n c, Value.slice B m d])] w27 [] fun (v29 : Value) (l30 : List (List Value)) (w31 : World) => ∃ (x32 : Int), ∃
        (x33 : Int), ∃ (A34 : Option Addr), ∃ (n35 : Nat), ∃ (n36 : Nat), ∃ (A37 : Option Addr), ∃ (n38 : Nat), ∃ (n39 : Nat), v29 = Value.agg (Array.mk [Value.int IntKind.i64 x32, Value.int IntKind.i64 x33,
        Value.slice A34 n35 n36, Value.slice A37 n38 n39]) ∧ l30 = [] ∧ NewK w31 (Obj.cells (Array.mk []) 3) fun (n40 : Nat) (w41 : World) => AppK 8 1 [Value.int IntKind.i64 0] 3 (some (Addr.mk n40 0 none)) 0
        0 D k w41 fun (A42 : Option Addr) (n43 n44 : Nat) (w45 : World) => CallsI Try.prog 20 [Value.agg (Array.mk [Value.int IntKind.i64 x32, Value.int IntKind.i64 x33, Value.slice A34 n35 n36, Value.slice
        A37 n38 n39]), Value.slice A42 n43 n44] w45 [] fun (v46 : Value) (l47 : List (List Value)) (w48 : World) => ∃ (t49 : Bool), v46 = Value.bool t49 ∧ l47 = [] ∧ condK (t49 == t13) (J3_1 w48 R) (R
        (Value.bool false) [] w48)) (R (Value.bool false) [] w27))) :
    CallsI Try.prog 3 [(.agg #[.int .i64 l, .int .i64 s, .slice A n c, .slice B m d]), (.slice D k e)] w [] R :=
  vcFun_sound (H := ⟨[], []⟩) (args := [.v (.agg #[.int .i64 l, .int .i64 s, .slice A n c, .slice B m d]), .v (.slice D k e)]) (L := []) goodP Try.func3 (by simp [okp]) (by rw [Try.ntmps3]; simp) (by simp [okp]) (Eq.mp (by kernel_rfl) h)

end Go.Proofs.Ytnkpjlhbojjneaa.VC
