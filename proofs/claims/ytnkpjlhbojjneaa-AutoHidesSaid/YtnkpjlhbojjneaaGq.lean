/- Hidden letters, by the program. -/
import Derived.Test.YtnkpjlhbojjneaaGb
import Derived.Test.YtnkpjlhbojjneaaProg
import Derived.Shelf.Sort.Plain
import Derived.Test.YtnkpjlhbojjneaaGh
import Derived.Test.YtnkpjlhbojjneaaGi
/- The conditions of functions, printed by wip/tools/gen.py. -/
namespace Go.Proofs.Ytnkpjlhbojjneaa.VC
open Go Go.RowKit

def J73_1 (R : Value → List (List Value) → World → Prop) (G : Option Addr) (g0 : Nat) (g1 : Nat) (A7 : Option Addr) (n8 : Nat) (n9 : Nat) (w10 : World) : Prop := R (Value.tuple (Array.mk []))
    [[Value.slice G g0 g1], [Value.slice A7 n8 n9]] w10

set_option maxRecDepth 100000 in
theorem s73 (bi bs : Nat) (G : Option Addr) (g0 g1 : Nat) (K : Option Addr) (k0 k1 : Nat) (q : Int) (w : World) (R : Value → List (List Value) → World → Prop) (h :
    condK (decide (q ≥ 0)) (IxV G g0 1 q fun (a1 : Addr) => ∃ (t2 : Bool), w.cell? a1 = some (Value.bool t2) ∧ condK (!t2) (IxV G g0 1 q fun (a3 : Addr) => SetK w a3 (Value.bool true) fun (w4 : World) =>
        NewK w4 (Obj.cells (Array.mk [Value.int IntKind.i64 q]) 3) fun (n5 : Nat) (w6 : World) => AppK 8 1 [Value.int IntKind.i64 0] 3 K k0 k1 (some (Addr.mk n5 0 none)) 1 w6 fun (A7 : Option Addr) (n8 n9 :
        Nat) (w10 : World) => J73_1 R G g0 g1 A7 n8 n9 w10) (J73_1 R G g0 g1 K k0 k1 w)) (J73_1 R G g0 g1 K k0 k1 w)) :
    CallsI Try.prog 73 [(.int .i64 q), .pointer (some ⟨bi, 0, none⟩), .pointer (some ⟨bs, 0, none⟩)] w [(bi, 23, [.slice G g0 g1]), (bs, 26, [.slice K k0 k1])] R :=
  vcFun_sound (H := ⟨[], []⟩) (args := [.v (.int .i64 q), .p 0 bi 0, .p 1 bs 0]) (L := [⟨bi, 23, [.v (.slice G g0 g1)]⟩, ⟨bs, 26, [.v (.slice K k0 k1)]⟩]) goodP Try.func73 (by simp [okp]) (by rw [Try.ntmps73]; simp) (by simp [okp]) (Eq.mp (by kernel_rfl) h)

def J72_1 (I5 : Int → Option Addr → Nat → Nat → Lp) (x6 : Int) (A17 : Option Addr) (n18 : Nat) (n19 : Nat) (w16 : World) (n11 : Nat) : Prop := (I5 (IntKind.i64.wrap (x6 + 1)) A17 n18 n19).1 w16 ∧ (I5
    (IntKind.i64.wrap (x6 + 1)) A17 n18 n19).m w16 < n11

def J72_4 (x13 : Int) (n3 : Nat) (n4 : Nat) (w10 : World) (n1 : Nat) (n : Nat) (A7 : Option Addr) (n8 : Nat) (n9 : Nat) (I5 : Int → Option Addr → Nat → Nat → Lp) (x6 : Int) (n11 : Nat) : Prop :=
    CallsI Try.prog 73 [Value.int IntKind.i64 x13, Value.pointer (some (Addr.mk n3 0 none)), Value.pointer (some (Addr.mk n4 0 none))] w10 [(n3, 23, [Value.slice (some (Addr.mk n1 0 none)) n n]), (n4, 26,
    [Value.slice A7 n8 n9])] fun (v14 : Value) (l15 : List (List Value)) (w16 : World) => v14 = Value.tuple (Array.mk []) ∧ ∃ (A17 : Option Addr), ∃ (n18 : Nat), ∃ (n19 : Nat), l15 = [[Value.slice (some
    (Addr.mk n1 0 none)) n n], [Value.slice A17 n18 n19]] ∧ J72_1 I5 x6 A17 n18 n19 w16 n11

set_option maxRecDepth 100000 in
theorem s72 (bm bh bs : Nat) (l s : Int) (A : Option Addr) (n c : Nat) (B : Option Addr) (m d : Nat) (K : Option Addr) (k0 k1 : Nat) (r : Option Nat) (D : Option Addr) (k e : Nat) (w : World) (R : Value → List (List Value) → World → Prop) (h :
    (↑n : Int) = (↑n : Int) ∧ 0 ≤ (↑n : Int) ∧ (↑n : Int) * (↑1 : Int) ≤ 281474976710656 ∧ (↑n : Int) ≤ 9223372036854775807 ∧ NewK w (Obj.cells (Array.mk (List.replicate n (Value.bool false))) 4) fun (n1
        : Nat) (w2 : World) => ∀ (n3 n4 : Nat), ∃ (I5 : Int → Option Addr → Nat → Nat → Lp), (I5 0 none 0 0).1 w2 ∧ ∀ (x6 : Int) (A7 : Option Addr) (n8 n9 : Nat) (w10 : World), (I5 x6 A7 n8 n9).1 w10 → ∀ (n11
        : Nat), (I5 x6 A7 n8 n9).m w10 = n11 → condK (decide (x6 < (↑k : Int))) (IxV D k 1 x6 fun (a12 : Addr) => ∃ (x13 : Int), w10.cell? a12 = some (Value.int IntKind.i64 x13) ∧ J72_4 x13 n3 n4 w10 n1 n A7
        n8 n9 I5 x6 n11) (∃ (I20 : Int → Option Addr → Nat → Nat → Lp), (I20 0 A7 n8 n9).1 w10 ∧ ∀ (x21 : Int) (A22 : Option Addr) (n23 n24 : Nat) (w25 : World), (I20 x21 A22 n23 n24).1 w25 → ∀ (n26 : Nat),
        (I20 x21 A22 n23 n24).m w25 = n26 → condK (decide (x21 < (↑n23 : Int))) (IxV A22 n23 1 x21 fun (a27 : Addr) => ∃ (x28 : Int), w25.cell? a27 = some (Value.int IntKind.i64 x28) ∧ IxV A n 1 x28 fun (a29
        : Addr) => ∃ (A30 : Option Addr), ∃ (n31 : Nat), ∃ (n32 : Nat), w25.cell? a29 = some (Value.slice A30 n31 n32) ∧ ∃ (I33 : Int → Option Addr → Nat → Nat → Lp), (I33 0 A22 n23 n24).1 w25 ∧ ∀ (x34 : Int)
        (A35 : Option Addr) (n36 n37 : Nat) (w38 : World), (I33 x34 A35 n36 n37).1 w38 → ∀ (n39 : Nat), (I33 x34 A35 n36 n37).m w38 = n39 → condK (decide (x34 < (↑n31 : Int))) (IxV A30 n31 1 x34 fun (a40 :
        Addr) => ∃ (x41 : Int), w38.cell? a40 = some (Value.int IntKind.i64 x41) ∧ IxV K k0 1 x34 fun (a42 : Addr) => ∃ (t43 : Bool), w38.cell? a42 = some (Value.bool t43) ∧ condK t43 (J72_4 x41 n3 n4 w38 n1
        n A35 n36 n37 I33 x34 n39) (J72_1 I33 x34 A35 n36 n37 w38 n39)) (J72_1 I20 x21 A35 n36 n37 w38 n26)) (CallsI Try.prog 74 [Value.slice A22 n23 n24] w25 [] fun (v50 : Value) (l51 : List (List Value))
        (w52 : World) => v50 = Value.tuple (Array.mk []) ∧ l51 = [] ∧ ∃ (I53 : Int → Option Addr → Nat → Nat → Lp), (I53 0 none 0 0).1 w52 ∧ ∀ (x54 : Int) (A55 : Option Addr) (n56 n57 : Nat) (w58 : World),
        (I53 x54 A55 n56 n57).1 w58 → ∀ (n59 : Nat), (I53 x54 A55 n56 n57).m w58 = n59 → condK (decide (x54 < (↑n23 : Int))) (IxV A22 n23 1 x54 fun (a60 : Addr) => ∃ (x61 : Int), w58.cell? a60 = some
        (Value.int IntKind.i64 x61) ∧ NewK w58 (Obj.cells (Array.mk [Value.int IntKind.u8 (IntKind.u8.wrap (x61 / 256)), Value.int IntKind.u8 (IntKind.u8.wrap x61)]) 5) fun (n62 : Nat) (w63 : World) => AppK 1
        1 [Value.int IntKind.u8 0] 5 A55 n56 n57 (some (Addr.mk n62 0 none)) 2 w63 fun (A64 : Option Addr) (n65 n66 : Nat) (w67 : World) => J72_1 I53 x54 A64 n65 n66 w67 n59) (∃ (l68 : List Int), l68.length =
        n56 ∧ Row w58 A55 (List.map (Value.int IntKind.u8) l68) ∧ ∃ (n69 : Nat), ∃ (l70 : List (Value × Value)), r = some n69 ∧ MapAt w58 KT.str n69 l70 ∧ ∀ (w71 : World), MapUpd w58
        KT.str n69 (assocSet KT.str (Value.string (strOfNums l68)) (Value.slice A22 n23 n24) l70) w71 → R (Value.string (strOfNums l68)) [[Value.int IntKind.i64 l, Value.int IntKind.i64 s, Value.slice A n c,
        Value.slice B m d], [Value.slice K k0 k1], [Value.map r]] w71)))) :
    CallsI Try.prog 72 [(.slice D k e), .pointer (some ⟨bm, 0, none⟩), .pointer (some ⟨bh, 0, none⟩), .pointer (some ⟨bs, 0, none⟩)] w [(bm, 25, [.int .i64 l, .int .i64 s, .slice A n c, .slice B m d]), (bh, 23, [.slice K k0 k1]), (bs, 88, [.map r])] R :=
  vcFun_sound (H := ⟨[((7, 2), [((23, 1), false), ((26, 0), true)]), ((16, 2), [((23, 1), false), ((26, 0), true)])], [(0, [(25, .int .i64)], [(26, 0)]), (2, [(11, .int .i64)], [(26, 0)]), (4, [(48, .int .i64)], [(26, 0)]), (6, [(65, .int .i64), (14, .slice)], [])]⟩) (args := [.v (.slice D k e), .p 0 bm 0, .p 1 bh 0, .p 2 bs 0]) (L := [⟨bm, 25, [.v (.int .i64 l), .v (.int .i64 s), .v (.slice A n c), .v (.slice B m d)]⟩, ⟨bh, 23, [.v (.slice K k0 k1)]⟩, ⟨bs, 88, [.v (.map r)]⟩]) goodP Try.func72 (by simp [okp]) (by rw [Try.ntmps72]; simp) (by simp [okp]) (Eq.mp (by kernel_rfl) h)

end Go.Proofs.Ytnkpjlhbojjneaa.VC

/- The conditions of functions, printed by wip/tools/gen.py. -/
namespace Go.Proofs.Ytnkpjlhbojjneaa.VC
open Go Go.RowKit

def J76_1 (R : Value → List (List Value) → World → Prop) (K : Option Addr) (k0 : Nat) (k1 : Nat) (r : Option Nat) (l : Int) (s : Int) (A : Option Addr) (n : Nat) (c : Nat) (B : Option Addr) (m : Nat)
    (d : Nat) (bm : Nat) (bh : Nat) (bs : Nat) (w : World) : Prop := R (Value.tuple (Array.mk [Value.string (ByteArray.mk (Array.mk [])), Value.bool false])) [[Value.slice K k0 k1], [Value.map r],
    [Value.int IntKind.i64 l, Value.int IntKind.i64 s, Value.slice A n c, Value.slice B m d], [Value.func (Fn.func 72) (Array.mk []) (Array.mk [Value.pointer (some (Addr.mk bm 0 none)), Value.pointer
    (some (Addr.mk bh 0 none)), Value.pointer (some (Addr.mk bs 0 none))])]] w

def J76_2 (I7 : Int → Option Addr → Nat → Nat → Lp) (x8 : Int) (A24 : Option Addr) (n25 : Nat) (n26 : Nat) (w27 : World) (n13 : Nat) : Prop := (I7 (IntKind.i64.wrap (x8 + 1)) A24 n25 n26).1 w27 ∧ (I7
    (IntKind.i64.wrap (x8 + 1)) A24 n25 n26).m w27 < n13

set_option maxRecDepth 100000 in
theorem s76 (bm bh bs bw : Nat) (l s : Int) (A : Option Addr) (n c : Nat) (B : Option Addr) (m d : Nat) (K : Option Addr) (k0 k1 : Nat) (r : Option Nat) (nm : ByteArray) (x : Int) (w : World) (R : Value → List (List Value) → World → Prop) (h :
    IxV K k0 1 x fun (a1 : Addr) => ∃ (t2 : Bool), w.cell? a1 = some (Value.bool t2) ∧ condK t2 (J76_1 R K k0 k1 r l s A n c B m d bm bh bs w) (∃ (l3 : List (Value × Value)), MapOpt w KT.str r l3 ∧ ∃ (A4
        : Option Addr), ∃ (n5 : Nat), ∃ (n6 : Nat), (assoc KT.str l3 (Value.string nm)).getD (Value.slice none 0 0) = Value.slice A4 n5 n6 ∧ ∃ (I7 : Int → Option Addr → Nat → Nat → Lp), (I7 0 none 0 0).1 w ∧
        ∀ (x8 : Int) (A9 : Option Addr) (n10 n11 : Nat) (w12 : World), (I7 x8 A9 n10 n11).1 w12 → ∀ (n13 : Nat), (I7 x8 A9 n10 n11).m w12 = n13 → condK (decide (x8 < (↑n5 : Int))) (IxV A4 n5 1 x8 fun (a14 :
        Addr) => ∃ (x15 : Int), w12.cell? a14 = some (Value.int IntKind.i64 x15) ∧ IxV A n 1 x15 fun (a16 : Addr) => ∃ (A17 : Option Addr), ∃ (n18 : Nat), ∃ (n19 : Nat), w12.cell? a16 = some (Value.slice A17
        n18 n19) ∧ IxV A17 n18 1 x fun (a20 : Addr) => ∃ (x21 : Int), w12.cell? a20 = some (Value.int IntKind.i64 x21) ∧ condK (decide (x21 ≥ 0)) (NewK w12 (Obj.cells (Array.mk [Value.int IntKind.i64 x21]) 3)
        fun (n22 : Nat) (w23 : World) => AppK 8 1 [Value.int IntKind.i64 0] 3 A9 n10 n11 (some (Addr.mk n22 0 none)) 1 w23 fun (A24 : Option Addr) (n25 n26 : Nat) (w27 : World) => J76_2 I7 x8 A24 n25 n26 w27
        n13) (J76_2 I7 x8 A9 n10 n11 w12 n13)) (condK ((↑n10 : Int) == 0) (J76_1 R K k0 k1 r l s A n c B m d bm bh bs w12) (CallsI Try.prog 72 [Value.slice A9 n10 n11, Value.pointer (some (Addr.mk bm 0
        none)), Value.pointer (some (Addr.mk bh 0 none)), Value.pointer (some (Addr.mk bs 0 none))] w12 [(bm, 25, [Value.int IntKind.i64 l, Value.int IntKind.i64 s, Value.slice A n c, Value.slice B m d]),
        (bh, 23, [Value.slice K k0 k1]), (bs, 88, [Value.map r])] fun (v28 : Value) (l29 : List (List Value)) (w30 : World) => ∃ (s31 : ByteArray), v28 = Value.string s31 ∧ l29 = [[Value.int IntKind.i64 l,
        Value.int IntKind.i64 s, Value.slice A n c, Value.slice B m d], [Value.slice K k0 k1], [Value.map r]] ∧ R (Value.tuple (Array.mk [Value.string s31, Value.bool true])) [[Value.slice K k0 k1],
        [Value.map r], [Value.int IntKind.i64 l, Value.int IntKind.i64 s, Value.slice A n c, Value.slice B m d], [Value.func (Fn.func 72) (Array.mk []) (Array.mk [Value.pointer (some (Addr.mk bm 0 none)),
        Value.pointer (some (Addr.mk bh 0 none)), Value.pointer (some (Addr.mk bs 0 none))])]] w30)))) :
    CallsI Try.prog 76 [(.string nm), (.int .i64 x), .pointer (some ⟨bh, 0, none⟩), .pointer (some ⟨bs, 0, none⟩), .pointer (some ⟨bm, 0, none⟩), .pointer (some ⟨bw, 0, none⟩)] w [(bh, 23, [.slice K k0 k1]), (bs, 88, [.map r]), (bm, 25, [.int .i64 l, .int .i64 s, .slice A n c, .slice B m d]), (bw, 92, [.func (.func 72) #[] #[.pointer (some ⟨bm, 0, none⟩), .pointer (some ⟨bh, 0, none⟩), .pointer (some ⟨bs, 0, none⟩)]])] R :=
  vcFun_sound (H := ⟨[((13, 2), [((25, 0), false), ((23, 0), false), ((88, 0), false)])], [(0, [(22, .int .i64), (10, .slice)], [])]⟩) (args := [.v (.string nm), .v (.int .i64 x), .p 0 bh 0, .p 1 bs 0, .p 2 bm 0, .p 3 bw 0]) (L := [⟨bh, 23, [.v (.slice K k0 k1)]⟩, ⟨bs, 88, [.v (.map r)]⟩, ⟨bm, 25, [.v (.int .i64 l), .v (.int .i64 s), .v (.slice A n c), .v (.slice B m d)]⟩, ⟨bw, 92, [.v (.func (.func 72) #[] #[.pointer (some ⟨bm, 0, none⟩), .pointer (some ⟨bh, 0, none⟩), .pointer (some ⟨bs, 0, none⟩)])]⟩]) goodP Try.func76 (by simp [okp]) (by rw [Try.ntmps76]; simp) (by simp [okp]) (Eq.mp (by kernel_rfl) h)

set_option maxRecDepth 100000 in
theorem s77 (bs bm : Nat) (l s : Int) (A : Option Addr) (n c : Nat) (B : Option Addr) (m d : Nat) (r : Option Nat) (nm : ByteArray) (w : World) (R : Value → List (List Value) → World → Prop) (h :
    ∃ (l1 : List (Value × Value)), MapOpt w KT.str r l1 ∧ ∃ (A2 : Option Addr), ∃ (n3 : Nat), ∃ (n4 : Nat), (assoc KT.str l1 (Value.string nm)).getD (Value.slice none 0 0) = Value.slice A2 n3 n4 ∧ CallsI
        Try.prog 78 [Value.slice A2 n3 n4, Value.func (Fn.func 79) (Array.mk []) (Array.mk [Value.pointer (some (Addr.mk bm 0 none))])] w [(bm, 25, [Value.int IntKind.i64 l, Value.int IntKind.i64 s,
        Value.slice A n c, Value.slice B m d])] fun (v5 : Value) (l6 : List (List Value)) (w7 : World) => ∃ (t8 : Bool), v5 = Value.bool t8 ∧ l6 = [[Value.int IntKind.i64 l, Value.int IntKind.i64 s,
        Value.slice A n c, Value.slice B m d]] ∧ R (Value.bool t8) [[Value.map r], [Value.int IntKind.i64 l, Value.int IntKind.i64 s, Value.slice A n c, Value.slice B m d]] w7) :
    CallsI Try.prog 77 [(.string nm), .pointer (some ⟨bs, 0, none⟩), .pointer (some ⟨bm, 0, none⟩)] w [(bs, 88, [.map r]), (bm, 25, [.int .i64 l, .int .i64 s, .slice A n c, .slice B m d])] R :=
  vcFun_sound (H := ⟨[((1, 4), [((25, 0), false)])], []⟩) (args := [.v (.string nm), .p 0 bs 0, .p 1 bm 0]) (L := [⟨bs, 88, [.v (.map r)]⟩, ⟨bm, 25, [.v (.int .i64 l), .v (.int .i64 s), .v (.slice A n c), .v (.slice B m d)]⟩]) goodP Try.func77 (by simp [okp]) (by rw [Try.ntmps77]; simp) (by simp [okp]) (Eq.mp (by kernel_rfl) h)

set_option maxRecDepth 100000 in
theorem s78 (bm : Nat) (l s : Int) (A : Option Addr) (n c : Nat) (B : Option Addr) (m d : Nat) (D : Option Addr) (k e : Nat) (w : World) (R : Value → List (List Value) → World → Prop) (h :
    CallsI Try.prog 102 [Value.slice D k e, Value.func (Fn.func 79) (Array.mk []) (Array.mk [Value.pointer (some (Addr.mk bm 0 none))])] w [(bm, 25, [Value.int IntKind.i64 l, Value.int IntKind.i64 s,
        Value.slice A n c, Value.slice B m d])] fun (v1 : Value) (l2 : List (List Value)) (w3 : World) => ∃ (x4 : Int), v1 = Value.int IntKind.i64 x4 ∧ l2 = [[Value.int IntKind.i64 l, Value.int IntKind.i64 s,
        Value.slice A n c, Value.slice B m d]] ∧ R (Value.bool (decide (x4 ≥ 0))) [[Value.int IntKind.i64 l, Value.int IntKind.i64 s, Value.slice A n c, Value.slice B m d]] w3) :
    CallsI Try.prog 78 [(.slice D k e), (.func (.func 79) #[] #[.pointer (some ⟨bm, 0, none⟩)])] w [(bm, 25, [.int .i64 l, .int .i64 s, .slice A n c, .slice B m d])] R :=
  vcFun_sound (H := ⟨[((1, 2), [((25, 0), false)])], []⟩) (args := [.v (.slice D k e), .v (.func (.func 79) #[] #[.pointer (some ⟨bm, 0, none⟩)])]) (L := [⟨bm, 25, [.v (.int .i64 l), .v (.int .i64 s), .v (.slice A n c), .v (.slice B m d)]⟩]) goodP Try.func78 (by simp [okp]) (by rw [Try.ntmps78]; simp) (by simp [okp]) (Eq.mp (by kernel_rfl) h)

set_option maxRecDepth 100000 in
theorem s102 (bm : Nat) (l s : Int) (A : Option Addr) (n c : Nat) (B : Option Addr) (m d : Nat) (D : Option Addr) (k e : Nat) (w : World) (R : Value → List (List Value) → World → Prop) (h :
    ∃ (I1 : Int → Lp), (I1 0).1 w ∧ ∀ (x2 : Int) (w3 : World), (I1 x2).1 w3 → ∀ (n4 : Nat), (I1 x2).m w3 = n4 → condK (decide (x2 < (↑k : Int))) (IxV D k 1 x2 fun (a5 : Addr) => ∃ (x6 : Int), w3.cell? a5
        = some (Value.int IntKind.i64 x6) ∧ CallsI Try.prog 79 [Value.int IntKind.i64 x6, Value.pointer (some (Addr.mk bm 0 none))] w3 [(bm, 25, [Value.int IntKind.i64 l, Value.int IntKind.i64 s, Value.slice
        A n c, Value.slice B m d])] fun (v7 : Value) (l8 : List (List Value)) (w9 : World) => ∃ (t10 : Bool), v7 = Value.bool t10 ∧ l8 = [[Value.int IntKind.i64 l, Value.int IntKind.i64 s, Value.slice A n c,
        Value.slice B m d]] ∧ condK t10 (R (Value.int IntKind.i64 x2) [[Value.int IntKind.i64 l, Value.int IntKind.i64 s, Value.slice A n c, Value.slice B m d]] w9) ((I1 (IntKind.i64.wrap (x2 + 1))).1 w9 ∧
        (I1 (IntKind.i64.wrap (x2 + 1))).m w9 < n4)) (R (Value.int IntKind.i64 (-1)) [[Value.int IntKind.i64 l, Value.int IntKind.i64 s, Value.slice A n c, Value.slice B m d]] w3)) :
    CallsI Try.prog 102 [(.slice D k e), (.func (.func 79) #[] #[.pointer (some ⟨bm, 0, none⟩)])] w [(bm, 25, [.int .i64 l, .int .i64 s, .slice A n c, .slice B m d])] R :=
  vcFun_sound (H := ⟨[((4, 5), [((25, 0), false)])], [(0, [(8, .int .i64)], [])]⟩) (args := [.v (.slice D k e), .v (.func (.func 79) #[] #[.pointer (some ⟨bm, 0, none⟩)])]) (L := [⟨bm, 25, [.v (.int .i64 l), .v (.int .i64 s), .v (.slice A n c), .v (.slice B m d)]⟩]) goodP Try.func102 (by simp [okp]) (by rw [Try.ntmps102]; simp) (by simp [okp]) (Eq.mp (by kernel_rfl) h)

set_option maxRecDepth 100000 in
theorem s79 (bm : Nat) (l s : Int) (A : Option Addr) (n c : Nat) (B : Option Addr) (m d : Nat) (q : Int) (w : World) (R : Value → List (List Value) → World → Prop) (h :
    IxV B m 1 q fun (a1 : Addr) => ∃ (t2 : Bool), w.cell? a1 = some (Value.bool t2) ∧ R (Value.bool t2) [[Value.int IntKind.i64 l, Value.int IntKind.i64 s, Value.slice A n c, Value.slice B m d]] w) :
    CallsI Try.prog 79 [(.int .i64 q), .pointer (some ⟨bm, 0, none⟩)] w [(bm, 25, [.int .i64 l, .int .i64 s, .slice A n c, .slice B m d])] R :=
  vcFun_sound (H := ⟨[], []⟩) (args := [.v (.int .i64 q), .p 0 bm 0]) (L := [⟨bm, 25, [.v (.int .i64 l), .v (.int .i64 s), .v (.slice A n c), .v (.slice B m d)]⟩]) goodP Try.func79 (by simp [okp]) (by rw [Try.ntmps79]; simp) (by simp [okp]) (Eq.mp (by kernel_rfl) h)

end Go.Proofs.Ytnkpjlhbojjneaa.VC

/- The conditions of functions, printed by wip/tools/gen.py. -/
namespace Go.Proofs.Ytnkpjlhbojjneaa.VC
open Go Go.RowKit

set_option maxRecDepth 100000 in
theorem s101 (b : Nat) (A : Option Addr) (n c : Nat) (r : Option Nat) (nm : ByteArray) (w : World) (R : Value → List (List Value) → World → Prop) (h :
    ∃ (l1 : List (Value × Value)), MapOpt w KT.str r l1 ∧ ∃ (x2 : Int), (assoc KT.str l1 (Value.string nm)).getD (Value.int IntKind.i64 0) = Value.int IntKind.i64 x2 ∧ condK (!(assoc KT.str l1
        (Value.string nm)).isSome) (condK r.isNone (NewK w (Obj.map (Array.mk []) 0) fun (n3 : Nat) (w4 : World) => ∃ (n5 : Nat), ∃ (l6 : List (Value × Value)), some n3 = some n5 ∧ MapAt w4 KT.str n5 l6 ∧ ∀
        (w7 : World), MapUpd w4 KT.str n5 (assocSet KT.str (Value.string nm) (Value.int IntKind.i64 (↑n : Int)) l6) w7 → NewK w7 (Obj.cells (Array.mk [Value.string nm]) 9) fun (n8 : Nat) (w9 : World) => AppK
        16 1 [Value.string (ByteArray.mk (Array.mk []))] 9 A n c (some (Addr.mk n8 0 none)) 1 w9 fun (A10 : Option Addr) (n11 n12 : Nat) (w13 : World) => R (Value.int IntKind.i64 (↑n : Int)) [[Value.slice A10
        n11 n12, Value.map (some n3)]] w13) (∃ (n14 : Nat), ∃ (l15 : List (Value × Value)), r = some n14 ∧ MapAt w KT.str n14 l15 ∧ ∀ (w16 : World), MapUpd w KT.str n14 (assocSet KT.str (Value.string nm)
        (Value.int IntKind.i64 (↑n : Int)) l15) w16 → NewK w16 (Obj.cells (Array.mk [Value.string nm]) 9) fun (n17 : Nat) (w18 : World) => AppK 16 1 [Value.string (ByteArray.mk (Array.mk []))] 9 A n c (some
        (Addr.mk n17 0 none)) 1 w18 fun (A19 : Option Addr) (n20 n21 : Nat) (w22 : World) => R (Value.int IntKind.i64 (↑n : Int)) [[Value.slice A19 n20 n21, Value.map r]] w22)) (R (Value.int IntKind.i64 x2)
        [[Value.slice A n c, Value.map r]] w)) :
    CallsI Try.prog 101 [.pointer (some ⟨b, 0, none⟩), (.string nm)] w [(b, 125, [.slice A n c, .map r])] R :=
  vcFun_sound (H := ⟨[], []⟩) (args := [.p 0 b 0, .v (.string nm)]) (L := [⟨b, 125, [.v (.slice A n c), .v (.map r)]⟩]) goodP Try.func101 (by simp [okp]) (by rw [Try.ntmps101]; simp) (by simp [okp]) (Eq.mp (by kernel_rfl) h)

def J75_5 (n68 : Nat) (most : Int) (R : Value → List (List Value) → World → Prop) (K : Option Addr) (k0 : Nat) (k1 : Nat) (r : Option Nat) (l : Int) (s : Int) (A : Option Addr) (n : Nat) (c : Nat) (B
    : Option Addr) (m : Nat) (d : Nat) (bm : Nat) (bh : Nat) (bs : Nat) (w72 : World) (I38 : Int → Int → Int → Option Addr → Nat → Nat → Option Addr → Nat → Nat → Option Addr → Nat → Nat → Option Nat →
    Lp) (x39 : Int) (x40 : Int) (x41 : Int) (A42 : Option Addr) (n43 : Nat) (n44 : Nat) (A45 : Option Addr) (n46 : Nat) (n47 : Nat) (A67 : Option Addr) (n69 : Nat) (A70 : Option Nat) (n53 : Nat) : Prop :=
    condK (decide ((↑n68 : Int) > most)) (R (Value.tuple (Array.mk [Value.agg (Array.mk [Value.int IntKind.i64 0, Value.int IntKind.i64 0, Value.slice none 0 0, Value.slice none 0 0]), Value.bool false]))
    [[Value.slice K k0 k1], [Value.map r], [Value.int IntKind.i64 l, Value.int IntKind.i64 s, Value.slice A n c, Value.slice B m d], [Value.func (Fn.func 72) (Array.mk []) (Array.mk [Value.pointer (some
    (Addr.mk bm 0 none)), Value.pointer (some (Addr.mk bh 0 none)), Value.pointer (some (Addr.mk bs 0 none))])]] w72) ((I38 (IntKind.i64.wrap (x39 + 1)) x40 x41 A42 n43 n44 A45 n46 n47 A67 n68 n69 A70).1
    w72 ∧ (I38 (IntKind.i64.wrap (x39 + 1)) x40 x41 A42 n43 n44 A45 n46 n47 A67 n68 n69 A70).m w72 < n53)

set_option maxRecDepth 100000 in
theorem s75 (bm bh bs bw : Nat) (l s : Int) (A : Option Addr) (n c : Nat) (B : Option Addr) (m d : Nat) (K : Option Addr) (k0 k1 : Nat) (r : Option Nat) (letters most : Int) (nm : ByteArray) (w : World) (R : Value → List (List Value) → World → Prop) (h :
    ∀ (_n1 n2 : Nat), CallsI Try.prog 101 [Value.pointer (some (Addr.mk n2 0 none)), Value.string nm] w [(n2, 125, [Value.slice none 0 0, Value.map none])] fun (v3 : Value) (l4 : List (List Value)) (w5 :
        World) => ∃ (x6 : Int), v3 = Value.int IntKind.i64 x6 ∧ ∃ (A7 : Option Addr), ∃ (n8 : Nat), ∃ (n9 : Nat), ∃ (A10 : Option Nat), l4 = [[Value.slice A7 n8 n9, Value.map A10]] ∧ ∀ (_n11 : Nat), ∃ (I12 :
        Int → Int → Int → Option Addr → Nat → Nat → Option Addr → Nat → Nat → Option Addr → Nat → Nat → Option Nat → Int → Int → Option Addr → Nat → Nat → Option Addr → Nat → Nat → Lp), (I12 0 0 0 none 0 0
        none 0 0 A7 n8 n9 A10 letters 0 none 0 0 none 0 0).1 w5 ∧ ∀ (x13 x14 x15 : Int) (A16 : Option Addr) (n17 n18 : Nat) (A19 : Option Addr) (n20 n21 : Nat) (A22 : Option Addr) (n23 n24 : Nat) (A25 :
        Option Nat) (x26 x27 : Int) (A28 : Option Addr) (n29 n30 : Nat) (A31 : Option Addr) (n32 n33 : Nat) (w34 : World), (I12 x13 x14 x15 A16 n17 n18 A19 n20 n21 A22 n23 n24 A25 x26 x27 A28 n29 n30 A31 n32
        n33).1 w34 → ∀ (n35 : Nat), (I12 x13 x14 x15 A16 n17 n18 A19 n20 n21 A22 n23 n24 A25 x26 x27 A28 n29 n30 A31 n32 n33).m w34 = n35 → condK (decide (x13 < (↑n23 : Int))) (letters = letters ∧ 0 ≤ letters
        ∧ letters * (↑8 : Int) ≤ 281474976710656 ∧ letters ≤ 9223372036854775807 ∧ NewK w34 (Obj.cells (Array.mk (List.replicate letters.toNat (Value.int IntKind.i64 0))) 3) fun (n36 : Nat) (w37 : World) => ∃
        (I38 : Int → Int → Int → Option Addr → Nat → Nat → Option Addr → Nat → Nat → Option Addr → Nat → Nat → Option Nat → Lp), (I38 0 x14 x15 A16 n17 n18 A19 n20 n21 A22 n23 n24 A25).1 w37 ∧ ∀ (x39 x40 x41
        : Int) (A42 : Option Addr) (n43 n44 : Nat) (A45 : Option Addr) (n46 n47 : Nat) (A48 : Option Addr) (n49 n50 : Nat) (A51 : Option Nat) (w52 : World), (I38 x39 x40 x41 A42 n43 n44 A45 n46 n47 A48 n49
        n50 A51).1 w52 → ∀ (n53 : Nat), (I38 x39 x40 x41 A42 n43 n44 A45 n46 n47 A48 n49 n50 A51).m w52 = n53 → condK (decide (x39 < letters)) (IxV (some (Addr.mk n36 0 none)) letters.toNat 1 x39 fun (a54 :
        Addr) => SetK w52 a54 (Value.int IntKind.i64 (-1)) fun (w55 : World) => IxV A48 n49 1 x13 fun (a56 : Addr) => ∃ (s57 : ByteArray), w55.cell? a56 = some (Value.string s57) ∧ CallsI Try.prog 76
        [Value.string s57, Value.int IntKind.i64 x39, Value.pointer (some (Addr.mk bh 0 none)), Value.pointer (some (Addr.mk bs 0 none)), Value.pointer (some (Addr.mk bm 0 none)), Value.pointer (some (Addr.mk
        bw 0 none))] w55 [(bh, 23, [Value.slice K k0 k1]), (bs, 88, [Value.map r]), (bm, 25, [Value.int IntKind.i64 l, Value.int IntKind.i64 s, Value.slice A n c, Value.slice B m d]), (bw, 92, [Value.func
        (Fn.func 72) (Array.mk []) (Array.mk [Value.pointer (some (Addr.mk bm 0 none)), Value.pointer (some (Addr.mk bh 0 none)), Value.pointer (some (Addr.mk bs 0 none))])])] fun (v58 : Value) (l59 : List
        (List Value)) (w60 : World) => ∃ (s61 : ByteArray), ∃ (t62 : Bool), v58 = Value.tuple (Array.mk [Value.string s61, Value.bool t62]) ∧ l59 = [[Value.slice K k0 k1], [Value.map r], [Value.int
        IntKind.i64 l, Value.int IntKind.i64 s, Value.slice A n c, Value.slice B m d], [Value.func (Fn.func 72) (Array.mk []) (Array.mk [Value.pointer (some (Addr.mk bm 0 none)), Value.pointer (some (Addr.mk
        bh 0 none)), Value.pointer (some (Addr.mk bs 0 none))])]] ∧ condK t62 (CallsI Try.prog 101 [Value.pointer (some (Addr.mk n2 0 none)), Value.string s61] w60 [(n2, 125, [Value.slice A48 n49 n50,
        Value.map A51])] fun (v63 : Value) (l64 : List (List Value)) (w65 : World) => ∃ (x66 : Int), v63 = Value.int IntKind.i64 x66 ∧ ∃ (A67 : Option Addr), ∃ (n68 : Nat), ∃ (n69 : Nat), ∃ (A70 : Option
        Nat), l64 = [[Value.slice A67 n68 n69, Value.map A70]] ∧ IxV (some (Addr.mk n36 0 none)) letters.toNat 1 x39 fun (a71 : Addr) => SetK w65 a71 (Value.int IntKind.i64 x66) fun (w72 : World) => J75_5 n68
        most R K k0 k1 r l s A n c B m d bm bh bs w72 I38 x39 x40 x41 A42 n43 n44 A45 n46 n47 A67 n69 A70 n53) (J75_5 n49 most R K k0 k1 r l s A n c B m d bm bh bs w60 I38 x39 x40 x41 A42 n43 n44 A45 n46 n47
        A48 n50 A51 n53)) (NewK w52 (Obj.cells (Array.mk [Value.slice (some (Addr.mk n36 0 none)) letters.toNat letters.toNat]) 26) fun (n73 : Nat) (w74 : World) => AppK 24 1 [Value.slice none 0 0] 26 A28 n29
        n30 (some (Addr.mk n73 0 none)) 1 w74 fun (A75 : Option Addr) (n76 n77 : Nat) (w78 : World) => IxV A48 n49 1 x13 fun (a79 : Addr) => ∃ (s80 : ByteArray), w78.cell? a79 = some (Value.string s80) ∧
        CallsI Try.prog 77 [Value.string s80, Value.pointer (some (Addr.mk bs 0 none)), Value.pointer (some (Addr.mk bm 0 none))] w78 [(bs, 88, [Value.map r]), (bm, 25, [Value.int IntKind.i64 l, Value.int
        IntKind.i64 s, Value.slice A n c, Value.slice B m d])] fun (v81 : Value) (l82 : List (List Value)) (w83 : World) => ∃ (t84 : Bool), v81 = Value.bool t84 ∧ l82 = [[Value.map r], [Value.int IntKind.i64
        l, Value.int IntKind.i64 s, Value.slice A n c, Value.slice B m d]] ∧ NewK w83 (Obj.cells (Array.mk [Value.bool t84]) 4) fun (n85 : Nat) (w86 : World) => AppK 1 1 [Value.bool false] 4 A31 n32 n33 (some
        (Addr.mk n85 0 none)) 1 w86 fun (A87 : Option Addr) (n88 n89 : Nat) (w90 : World) => (I12 (IntKind.i64.wrap (x13 + 1)) x40 x41 A42 n43 n44 A45 n46 n47 A48 n49 n50 A51 x26 x27 A75 n76 n77 A87 n88
        n89).1 w90 ∧ (I12 (IntKind.i64.wrap (x13 + 1)) x40 x41 A42 n43 n44 A45 n46 n47 A48 n49 n50 A51 x26 x27 A75 n76 n77 A87 n88 n89).m w90 < n35)) (R (Value.tuple (Array.mk [Value.agg (Array.mk [Value.int
        IntKind.i64 x26, Value.int IntKind.i64 x27, Value.slice A28 n29 n30, Value.slice A31 n32 n33]), Value.bool true])) [[Value.slice K k0 k1], [Value.map r], [Value.int IntKind.i64 l, Value.int
        IntKind.i64 s, Value.slice A n c, Value.slice B m d], [Value.func (Fn.func 72) (Array.mk []) (Array.mk [Value.pointer (some (Addr.mk bm 0 none)), Value.pointer (some (Addr.mk bh 0 none)),
        Value.pointer (some (Addr.mk bs 0 none))])]] w34)) :
    CallsI Try.prog 75 [(.int .i64 letters), (.int .i64 most), (.string nm), (.func (.func 76) #[] #[.pointer (some ⟨bh, 0, none⟩), .pointer (some ⟨bs, 0, none⟩), .pointer (some ⟨bm, 0, none⟩), .pointer (some ⟨bw, 0, none⟩)]), (.func (.func 77) #[] #[.pointer (some ⟨bs, 0, none⟩), .pointer (some ⟨bm, 0, none⟩)])] w [(bh, 23, [.slice K k0 k1]), (bs, 88, [.map r]), (bm, 25, [.int .i64 l, .int .i64 s, .slice A n c, .slice B m d]), (bw, 92, [.func (.func 72) #[] #[.pointer (some ⟨bm, 0, none⟩), .pointer (some ⟨bh, 0, none⟩), .pointer (some ⟨bs, 0, none⟩)]])] R :=
  vcFun_sound (H := ⟨[((2, 1), [((125, 0), true)]), ((14, 3), [((125, 0), true)]), ((12, 7), [((23, 0), false), ((88, 0), false), ((25, 0), false), ((92, 0), false)]), ((19, 8), [((88, 0), false), ((25, 0), false)])], [(0, [(14, .int .i64)], [(25, 1), (125, 0), (25, 2)]), (2, [(33, .int .i64)], [(25, 1), (125, 0)])]⟩) (args := [.v (.int .i64 letters), .v (.int .i64 most), .v (.string nm), .v (.func (.func 76) #[] #[.pointer (some ⟨bh, 0, none⟩), .pointer (some ⟨bs, 0, none⟩), .pointer (some ⟨bm, 0, none⟩), .pointer (some ⟨bw, 0, none⟩)]), .v (.func (.func 77) #[] #[.pointer (some ⟨bs, 0, none⟩), .pointer (some ⟨bm, 0, none⟩)])]) (L := [⟨bh, 23, [.v (.slice K k0 k1)]⟩, ⟨bs, 88, [.v (.map r)]⟩, ⟨bm, 25, [.v (.int .i64 l), .v (.int .i64 s), .v (.slice A n c), .v (.slice B m d)]⟩, ⟨bw, 92, [.v (.func (.func 72) #[] #[.pointer (some ⟨bm, 0, none⟩), .pointer (some ⟨bh, 0, none⟩), .pointer (some ⟨bs, 0, none⟩)])]⟩]) goodP Try.func75 (by simp [okp]) (by rw [Try.ntmps75]; simp) (by simp [okp]) (Eq.mp (by kernel_rfl) h)

end Go.Proofs.Ytnkpjlhbojjneaa.VC

/- The conditions of functions, printed by wip/tools/gen.py. -/
namespace Go.Proofs.Ytnkpjlhbojjneaa.VC
open Go Go.RowKit

def J40_1 (R : Value → List (List Value) → World → Prop) (w6 : World) : Prop := R (Value.tuple (Array.mk [Value.agg (Array.mk [Value.int IntKind.i64 0, Value.int IntKind.i64 0, Value.slice none 0 0,
    Value.slice none 0 0]), Value.int IntKind.i64 1])) [] w6

def J40_2 (R : Value → List (List Value) → World → Prop) (x11 : Int) (x12 : Int) (A13 : Option Addr) (n14 : Nat) (n15 : Nat) (A16 : Option Addr) (n17 : Nat) (n18 : Nat) (w10 : World) : Prop := R
    (Value.tuple (Array.mk [Value.agg (Array.mk [Value.int IntKind.i64 x11, Value.int IntKind.i64 x12, Value.slice A13 n14 n15, Value.slice A16 n17 n18]), Value.int IntKind.i64 0])) [] w10

def J40_3 (R : Value → List (List Value) → World → Prop) (w31 : World) : Prop := R (Value.tuple (Array.mk [Value.agg (Array.mk [Value.int IntKind.i64 0, Value.int IntKind.i64 0, Value.slice none 0 0,
    Value.slice none 0 0]), Value.int IntKind.i64 5])) [] w31

def J40_6 (x32 : Int) (x33 : Int) (A34 : Option Addr) (n35 : Nat) (n36 : Nat) (A37 : Option Addr) (n38 : Nat) (n39 : Nat) (w31 : World) (R : Value → List (List Value) → World → Prop) : Prop := CallsI
    Try.prog 54 [Value.agg (Array.mk [Value.int IntKind.i64 x32, Value.int IntKind.i64 x33, Value.slice A34 n35 n36, Value.slice A37 n38 n39])] w31 [] fun (v42 : Value) (l43 : List (List Value)) (w44 :
    World) => ∃ (x45 : Int), ∃ (x46 : Int), ∃ (A47 : Option Addr), ∃ (n48 : Nat), ∃ (n49 : Nat), ∃ (A50 : Option Addr), ∃ (n51 : Nat), ∃ (n52 : Nat), v42 = Value.agg (Array.mk [Value.int IntKind.i64 x45,
    Value.int IntKind.i64 x46, Value.slice A47 n48 n49, Value.slice A50 n51 n52]) ∧ l43 = [] ∧ J40_2 R x45 x46 A47 n48 n49 A50 n51 n52 w44

def J40_20 (x11 : Int) (s28 : ByteArray) (n2 : Nat) (n21 : Nat) (n1 : Nat) (n22 : Nat) (w27 : World) (K : Option Addr) (k0 : Nat) (k1 : Nat) (n19 : Nat) (x12 : Int) (A13 : Option Addr) (n14 : Nat)
    (n15 : Nat) (A16 : Option Addr) (n17 : Nat) (n18 : Nat) (R : Value → List (List Value) → World → Prop) : Prop := CallsI Try.prog 75 [Value.int IntKind.i64 x11, Value.int IntKind.i64 4000, Value.string
    s28, Value.func (Fn.func 76) (Array.mk []) (Array.mk [Value.pointer (some (Addr.mk n2 0 none)), Value.pointer (some (Addr.mk n21 0 none)), Value.pointer (some (Addr.mk n1 0 none)), Value.pointer (some
    (Addr.mk n22 0 none))]), Value.func (Fn.func 77) (Array.mk []) (Array.mk [Value.pointer (some (Addr.mk n21 0 none)), Value.pointer (some (Addr.mk n1 0 none))])] w27 [(n2, 23, [Value.slice K k0 k1]),
    (n21, 88, [Value.map (some n19)]), (n1, 25, [Value.int IntKind.i64 x11, Value.int IntKind.i64 x12, Value.slice A13 n14 n15, Value.slice A16 n17 n18]), (n22, 92, [Value.func (Fn.func 72) (Array.mk [])
    (Array.mk [Value.pointer (some (Addr.mk n1 0 none)), Value.pointer (some (Addr.mk n2 0 none)), Value.pointer (some (Addr.mk n21 0 none))])])] fun (v54 : Value) (l55 : List (List Value)) (w56 : World)
    => ∃ (x57 : Int), ∃ (x58 : Int), ∃ (A59 : Option Addr), ∃ (n60 : Nat), ∃ (n61 : Nat), ∃ (A62 : Option Addr), ∃ (n63 : Nat), ∃ (n64 : Nat), ∃ (t65 : Bool), v54 = Value.tuple (Array.mk [Value.agg
    (Array.mk [Value.int IntKind.i64 x57, Value.int IntKind.i64 x58, Value.slice A59 n60 n61, Value.slice A62 n63 n64]), Value.bool t65]) ∧ l55 = [[Value.slice K k0 k1], [Value.map (some n19)], [Value.int
    IntKind.i64 x11, Value.int IntKind.i64 x12, Value.slice A13 n14 n15, Value.slice A16 n17 n18], [Value.func (Fn.func 72) (Array.mk []) (Array.mk [Value.pointer (some (Addr.mk n1 0 none)), Value.pointer
    (some (Addr.mk n2 0 none)), Value.pointer (some (Addr.mk n21 0 none))])]] ∧ condK (!t65) (J40_3 R w56) (J40_6 x57 x58 A59 n60 n61 A62 n63 n64 w56 R)

def J40_24 (n23 : Nat) (n1 : Nat) (n2 : Nat) (n21 : Nat) (w24 : World) (x11 : Int) (x12 : Int) (A13 : Option Addr) (n14 : Nat) (n15 : Nat) (A16 : Option Addr) (n17 : Nat) (n18 : Nat) (K : Option Addr)
    (k0 : Nat) (k1 : Nat) (n19 : Nat) (n22 : Nat) (R : Value → List (List Value) → World → Prop) : Prop := CallsI Try.prog 72 [Value.slice (some (Addr.mk n23 0 none)) 1 1, Value.pointer (some (Addr.mk n1
    0 none)), Value.pointer (some (Addr.mk n2 0 none)), Value.pointer (some (Addr.mk n21 0 none))] w24 [(n1, 25, [Value.int IntKind.i64 x11, Value.int IntKind.i64 x12, Value.slice A13 n14 n15, Value.slice
    A16 n17 n18]), (n2, 23, [Value.slice K k0 k1]), (n21, 88, [Value.map (some n19)])] fun (v67 : Value) (l68 : List (List Value)) (w69 : World) => ∃ (s70 : ByteArray), v67 = Value.string s70 ∧ l68 =
    [[Value.int IntKind.i64 x11, Value.int IntKind.i64 x12, Value.slice A13 n14 n15, Value.slice A16 n17 n18], [Value.slice K k0 k1], [Value.map (some n19)]] ∧ J40_20 x11 s70 n2 n21 n1 n22 w69 K k0 k1 n19
    x12 A13 n14 n15 A16 n17 n18 R

set_option maxRecDepth 100000 in
theorem s40 (l s : Int) (A : Option Addr) (n c : Nat) (B : Option Addr) (m d : Nat) (K : Option Addr) (k0 k1 : Nat) (w : World) (R : Value → List (List Value) → World → Prop) (h :
    ∀ (n1 n2 _n3 : Nat), CallsI Try.prog 18 [Value.agg (Array.mk [Value.int IntKind.i64 l, Value.int IntKind.i64 s, Value.slice A n c, Value.slice B m d])] w [] fun (v4 : Value) (l5 : List (List Value))
        (w6 : World) => ∃ (x7 : Int), v4 = Value.int IntKind.i64 x7 ∧ l5 = [] ∧ condK (x7 != 0) (J40_1 R w6) (condK ((↑k0 : Int) != l) (J40_1 R w6) (CallsI Try.prog 54 [Value.agg (Array.mk [Value.int
        IntKind.i64 l, Value.int IntKind.i64 s, Value.slice A n c, Value.slice B m d])] w6 [] fun (v8 : Value) (l9 : List (List Value)) (w10 : World) => ∃ (x11 : Int), ∃ (x12 : Int), ∃ (A13 : Option Addr), ∃
        (n14 : Nat), ∃ (n15 : Nat), ∃ (A16 : Option Addr), ∃ (n17 : Nat), ∃ (n18 : Nat), v8 = Value.agg (Array.mk [Value.int IntKind.i64 x11, Value.int IntKind.i64 x12, Value.slice A13 n14 n15, Value.slice
        A16 n17 n18]) ∧ l9 = [] ∧ condK (decide (x12 < 0)) (J40_2 R x11 x12 A13 n14 n15 A16 n17 n18 w10) (NewK w10 (Obj.map (Array.mk []) 0) fun (n19 : Nat) (w20 : World) => ∀ (n21 n22 : Nat), (NewK w20
        (Obj.cells (Array.mk [Value.int IntKind.i64 x12]) 3) fun (n23 : Nat) (w24 : World) => (CallsI Try.prog 72 [Value.slice (some (Addr.mk n23 0 none)) 1 1, Value.pointer (some (Addr.mk n1 0 none)),
        Value.pointer (some (Addr.mk n2 0 none)), Value.pointer (some (Addr.mk n21 0 none))] w24 [(n1, 25, [Value.int IntKind.i64 x11, Value.int IntKind.i64 x12, Value.slice A13 n14 n15, Value.slice A16 n17
        n18]), (n2, 23, [Value.slice K k0 k1]), (n21, 88, [Value.map (some n19)])] fun (v25 : Value) (l26 : List (List Value)) (w27 : World) => ∃ (s28 : ByteArray), v25 = Value.string s28 ∧ l26 = [[Value.int
        IntKind.i64 x11, Value.int IntKind.i64 x12, Value.slice A13 n14 n15, Value.slice A16 n17 n18], [Value.slice K k0 k1], [Value.map (some n19)]] ∧ (CallsI Try.prog 75 [Value.int IntKind.i64 x11,
        Value.int IntKind.i64 4000, Value.string s28, Value.func (Fn.func 76) (Array.mk []) (Array.mk [Value.pointer (some (Addr.mk n2 0 none)), Value.pointer (some (Addr.mk n21 0 none)), Value.pointer (some
        (Addr.mk n1 0 none)), Value.pointer (some (Addr.mk n22 0 none))]), Value.func (Fn.func 77) (Array.mk []) (Array.mk [Value.pointer (some (Addr.mk n21 0 none)), Value.pointer (some (Addr.mk n1 0
        none))])] w27 [(n2, 23, [Value.slice K k0 k1]), (n21, 88, [Value.map (some n19)]), (n1, 25, [Value.int IntKind.i64 x11, Value.int IntKind.i64 x12, Value.slice A13 n14 n15, Value.slice A16 n17 n18]),
        (n22, 92, [Value.func (Fn.func 72) (Array.mk []) (Array.mk [Value.pointer (some (Addr.mk n1 0 none)), Value.pointer (some (Addr.mk n2 0 none)), Value.pointer (some (Addr.mk n21 0 none))])])] fun (v29
        : Value) (l30 : List (List Value)) (w31 : World) => ∃ (x32 : Int), ∃ (x33 : Int), ∃ (A34 : Option Addr), ∃ (n35 : Nat), ∃ (n36 : Nat), ∃ (A37 : Option Addr), ∃ (n38 : Nat), ∃ (n39 : Nat), ∃ (t40 :
        Bool), v29 = Value.tuple (Array.mk [Value.agg (Array.mk [Value.int IntKind.i64 x32, Value.int IntKind.i64 x33, Value.slice A34 n35 n36, Value.slice A37 n38 n39]), Value.bool t40]) ∧ l30 =
        [[Value.slice K k0 k1], [Value.map (some n19)], [Value.int IntKind.i64 x11, Value.int IntKind.i64 x12, Value.slice A13 n14 n15, Value.slice A16 n17 n18], [Value.func (Fn.func 72) (Array.mk [])
        (Array.mk [Value.pointer (some (Addr.mk n1 0 none)), Value.pointer (some (Addr.mk n2 0 none)), Value.pointer (some (Addr.mk n21 0 none))])]] ∧ ∀ (_n41 : Nat), condK (!t40) (J40_3 R w31) (J40_6 x32 x33
        A34 n35 n36 A37 n38 n39 w31 R)) ∧ (Nat → J40_20 x11 s28 n2 n21 n1 n22 w27 K k0 k1 n19 x12 A13 n14 n15 A16 n17 n18 R)) ∧ (Nat → J40_24 n23 n1 n2 n21 w24 x11 x12 A13 n14 n15 A16 n17 n18 K k0 k1 n19 n22
        R)) ∧ ∀ (_n83 : Nat), NewK w20 (Obj.cells (Array.mk [Value.int IntKind.i64 x12]) 3) fun (n84 : Nat) (w85 : World) => J40_24 n84 n1 n2 n21 w85 x11 x12 A13 n14 n15 A16 n17 n18 K k0 k1 n19 n22 R)))) :
    CallsI Try.prog 40 [(.agg #[.int .i64 l, .int .i64 s, .slice A n c, .slice B m d]), (.slice K k0 k1)] w [] R :=
  vcFun_sound (H := ⟨[((8, 6), [((25, 0), false), ((23, 0), false), ((88, 0), false)]), ((8, 9), [((23, 0), false), ((88, 0), false), ((25, 0), false), ((92, 0), false)])], []⟩) (args := [.v (.agg #[.int .i64 l, .int .i64 s, .slice A n c, .slice B m d]), .v (.slice K k0 k1)]) (L := []) goodP Try.func40 (by simp [okp]) (by rw [Try.ntmps40]; simp) (by simp [okp]) (Eq.mp (by kernel_rfl) h)

end Go.Proofs.Ytnkpjlhbojjneaa.VC

/- The sort of ints at this program: its laying, in plain words (written by a tool of the kit). -/
namespace Go.Proofs.Ytnkpjlhbojjneaa.VC
open Go.Shelf
def sortI_ren : Go.Shelf.Ren := ⟨fun | 189 => 74 | 125 => 93 | 257 => 100 | 128 => 119 | 129 => 120 | 294 => 121 | 295 => 122 | 296 => 123 | 297 => 124 | 298 => 125 | 299 => 126 | 216 => 127 | 300 => 128 | 301 => 129 | 328 => 135 | 329 => 131 | 330 => 132 | 331 => 136 | 332 => 137 | 215 => 138 | 343 => 140 | n => n, fun | 28 => 26 | 3 => 3 | 46 => 91 | 0 => 0 | 51 => 148 | 53 => 45 | 4 => 4 | 183 => 142 | 182 => 141 | 131 => 111 | 5 => 5 | 9 => 9 | 218 => 159 | 222 => 163 | 228 => 167 | 229 => 168 | n => n, fun | n => n⟩
theorem sortI : Go.Proofs.Lays.n189 Try.prog sortI_ren := {
  mixed := by kernel_rfl
  f125 := Try.func93.trans (congrArg some (by kernel_rfl))
  f128 := Try.func119.trans (congrArg some (by kernel_rfl))
  f129 := Try.func120.trans (congrArg some (by kernel_rfl))
  f189 := Try.func74.trans (congrArg some (by kernel_rfl))
  f215 := Try.func138.trans (congrArg some (by kernel_rfl))
  f216 := Try.func127.trans (congrArg some (by kernel_rfl))
  f257 := Try.func100.trans (congrArg some (by kernel_rfl))
  f294 := Try.func121.trans (congrArg some (by kernel_rfl))
  f295 := Try.func122.trans (congrArg some (by kernel_rfl))
  f296 := Try.func123.trans (congrArg some (by kernel_rfl))
  f297 := Try.func124.trans (congrArg some (by kernel_rfl))
  f298 := Try.func125.trans (congrArg some (by kernel_rfl))
  f299 := Try.func126.trans (congrArg some (by kernel_rfl))
  f300 := Try.func128.trans (congrArg some (by kernel_rfl))
  f301 := Try.func129.trans (congrArg some (by kernel_rfl))
  f328 := Try.func135.trans (congrArg some (by kernel_rfl))
  f329 := Try.func131.trans (congrArg some (by kernel_rfl))
  f330 := Try.func132.trans (congrArg some (by kernel_rfl))
  f331 := Try.func136.trans (congrArg some (by kernel_rfl))
  f332 := Try.func137.trans (congrArg some (by kernel_rfl))
  f343 := Try.func140.trans (congrArg some (by kernel_rfl))
  t0 := Try.underlying0
  a0 := Try.isAgg0
  z0 := Try.sizeOf0
  v0 := Try.zeroValue0
  t3 := Try.underlying3
  a3 := Try.isAgg3
  z3 := Try.sizeOf3
  v3 := Try.zeroValue3
  t4 := Try.underlying4
  a4 := Try.isAgg4
  z4 := Try.sizeOf4
  v4 := Try.zeroValue4
  t5 := Try.underlying5
  a5 := Try.isAgg5
  z5 := Try.sizeOf5
  v5 := Try.zeroValue5
  t9 := Try.underlying9
  a9 := Try.isAgg9
  z9 := Try.sizeOf9
  v9 := Try.zeroValue9
  t28 := Try.underlying26
  a28 := Try.isAgg26
  z28 := Try.sizeOf26
  v28 := Try.zeroValue26
  t46 := Try.underlying91
  a46 := Try.isAgg91
  z46 := Try.sizeOf91
  v46 := Try.zeroValue91
  t51 := Try.underlying148
  a51 := Try.isAgg148
  z51 := Try.sizeOf148
  v51 := Try.zeroValue148
  t53 := Try.underlying45
  a53 := Try.isAgg45
  z53 := Try.sizeOf45
  v53 := Try.zeroValue45
  t131 := Try.underlying111
  a131 := Try.isAgg111
  z131 := Try.sizeOf111
  v131 := Try.zeroValue111
  t182 := Try.underlying141
  a182 := Try.isAgg141
  z182 := Try.sizeOf141
  v182 := Try.zeroValue141
  t183 := Try.underlying142
  a183 := Try.isAgg142
  z183 := Try.sizeOf142
  v183 := Try.zeroValue142
  t218 := Try.underlying159
  a218 := Try.isAgg159
  z218 := Try.sizeOf159
  v218 := Try.zeroValue159
  t222 := Try.underlying163
  a222 := Try.isAgg163
  z222 := Try.sizeOf163
  v222 := Try.zeroValue163
  t228 := Try.underlying167
  a228 := Try.isAgg167
  z228 := Try.sizeOf167
  v228 := Try.zeroValue167
  t229 := Try.underlying168
  a229 := Try.isAgg168
  z229 := Try.sizeOf168
  v229 := Try.zeroValue168 }
end Go.Proofs.Ytnkpjlhbojjneaa.VC

/- Hidden letters: sets of states, how they are named, and the words without the hidden letters. -/
namespace Go.Proofs.Ytnkpjlhbojjneaa.VC
open Go Go.RowKit

theorem gb_true {S : List Bool} {s : Int} (h : gb S s = true) (_h0 : 0 ≤ s) : s < S.length := by
  rcases ilt s S.length with h1 | h1
  · exact h1
  · rw [gb_out h1] at h; cases h
/-- the members of a set, in their order -/
def memL (S : List Bool) : List Int := ((List.range S.length).filter fun i => S.getD i false).map fun (i : Nat) => (i : Int)
theorem mem_memL {S : List Bool} {s : Int} : s ∈ memL S ↔ (0 ≤ s ∧ s < S.length) ∧ gb S s = true := by
  unfold memL gb
  simp only [List.mem_map, List.mem_filter, List.mem_range]
  constructor
  · rintro ⟨i, ⟨h1, h2⟩, rfl⟩
    exact ⟨by omega, by simpa using h2⟩
  · rintro ⟨⟨h0, h1⟩, h2⟩
    exact ⟨s.toNat, ⟨by omega, h2⟩, by omega⟩
theorem memL_sorted (S : List Bool) : (memL S).Pairwise (· < ·) := by
  unfold memL
  rw [List.pairwise_map]
  refine (List.Pairwise.filter _ List.pairwise_lt_range).imp fun h => by omega
theorem memL_len (S : List Bool) : (memL S).length ≤ S.length := by
  unfold memL
  rw [List.length_map]
  exact Nat.le_trans (List.length_filter_le _ _) (by simp)
theorem memL_inj {S T : List Bool} (hl : S.length = T.length) (h : memL S = memL T) : S = T := gb_ext hl fun i h0 h1 => by
  have a := mem_memL (S := S) (s := i); have b := mem_memL (S := T) (s := i)
  rw [h] at a
  cases e : gb S i <;> cases e2 : gb T i
  · rfl
  · have := a.1 (b.2 ⟨⟨h0, by omega⟩, e2⟩); rw [e] at this; cases this.2
  · have := b.1 (a.2 ⟨⟨h0, by omega⟩, e⟩); rw [e2] at this; cases this.2
  · rfl
theorem wrapB (n : Int) : IntKind.u8.wrap n = n % 256 := by simp [IntKind.wrap, IntKind.bits, IntKind.signed]
/-- the bytes of a list of states -/
def encB : List Int → List Int
  | [] => []
  | s :: l => IntKind.u8.wrap (s / 256) :: IntKind.u8.wrap s :: encB l
theorem encB_append (l r : List Int) : encB (l ++ r) = encB l ++ encB r := by
  induction l with
  | nil => rfl
  | cons s l ih => simp only [List.cons_append, encB, ih]
theorem encB_len (l : List Int) : (encB l).length = 2 * l.length := by
  induction l with
  | nil => rfl
  | cons s l ih => simp only [encB, List.length_cons, ih]; omega
theorem encB_inj : ∀ (l r : List Int), (∀ s ∈ l, 0 ≤ s ∧ s < 65536) → (∀ s ∈ r, 0 ≤ s ∧ s < 65536) → (encB l).map (fun n => UInt8.ofNat n.toNat) = (encB r).map (fun n => UInt8.ofNat n.toNat) → l = r := by
  intro l
  induction l with
  | nil =>
    intro r _ _ h
    cases r with
    | nil => rfl
    | cons t r => simp [encB] at h
  | cons s l ih =>
    intro r hl hr h
    cases r with
    | nil => simp [encB] at h
    | cons t r =>
      simp only [encB, List.map_cons, List.cons.injEq] at h
      obtain ⟨h1, h2, h3⟩ := h
      have hs := hl s (List.mem_cons_self ..)
      have ht := hr t (List.mem_cons_self ..)
      have g1 := congrArg UInt8.toNat h1
      have g2 := congrArg UInt8.toNat h2
      rw [UInt8.toNat_ofNat', UInt8.toNat_ofNat', wrapB, wrapB] at g1
      rw [UInt8.toNat_ofNat', UInt8.toNat_ofNat', wrapB, wrapB] at g2
      have e : s = t := by omega
      rw [e, ih r (fun x hx => hl x (List.mem_cons_of_mem _ hx)) (fun x hx => hr x (List.mem_cons_of_mem _ hx)) h3]
def nameL (l : List Int) : ByteArray := strOfNums (encB l)
def name (S : List Bool) : ByteArray := nameL (memL S)
theorem name_inj {S T : List Bool} (hl : S.length = T.length) (hn : S.length ≤ 65536) (h : name S = name T) : S = T := by
  refine memL_inj hl (encB_inj _ _ (fun s hs => ?_) (fun s hs => ?_) ?_)
  · have := (mem_memL.1 hs).1; omega
  · have := (mem_memL.1 hs).1; omega
  · have := congrArg (fun b : ByteArray => b.data.toList) h
    exact this
open Classical in
noncomputable def setOf (n : Nat) (nm : ByteArray) : List Bool := if h : ∃ S : List Bool, S.length = n ∧ name S = nm then h.choose else []
theorem setOf_name {n : Nat} {S : List Bool} (hl : S.length = n) (hn : n ≤ 65536) : setOf n (name S) = S := by
  have h : ∃ T : List Bool, T.length = n ∧ name T = name S := ⟨S, hl, rfl⟩
  unfold setOf
  rw [dif_pos h]
  have := h.choose_spec
  exact name_inj (by rw [this.1, hl]) (by rw [this.1]; exact hn) this.2

/-- what is found from some states by hidden letters alone -/
def Clo (m : Mach) (hid : List Bool) (P : Int → Prop) (t : Int) : Prop := ∃ s v, P s ∧ (∀ y ∈ v, gb hid y = true) ∧ m.run s v = t ∧ 0 ≤ t
open Classical in
noncomputable def cloL (m : Mach) (hid : List Bool) (P : Int → Prop) : List Bool := (List.range m.next.length).map fun (i : Nat) => decide (Clo m hid P (i : Int))
theorem cloL_len (m : Mach) (hid : List Bool) (P : Int → Prop) : (cloL m hid P).length = m.next.length := by simp [cloL]
theorem cloL_gb {m : Mach} {hid : List Bool} {P : Int → Prop} {t : Int} (h0 : 0 ≤ t) (h1 : t < m.next.length) : gb (cloL m hid P) t = true ↔ Clo m hid P t := by
  have hlt : t.toNat < m.next.length := by omega
  unfold gb cloL
  rw [List.getD_eq_getElem?_getD, List.getElem?_map, List.getElem?_range hlt]
  simp only [Option.map_some, Option.getD_some, decide_eq_true_eq]
  rw [show ((t.toNat : Nat) : Int) = t by omega]
/-- a set that is closed -/
theorem cloL_eq {m : Mach} {hid : List Bool} {P : Int → Prop} {S : List Bool} (hl : S.length = m.next.length) (h1 : ∀ s : Int, P s → 0 ≤ s → gb S s = true) (h2 : ∀ s : Int, 0 ≤ s → s < m.next.length → gb S s = true → Clo m hid P s)
    (h3 : ∀ s y : Int, 0 ≤ s → gb S s = true → gb hid y = true → 0 ≤ m.step s y → gb S (m.step s y) = true) : S = cloL m hid P := by
  have key : ∀ (v : List Int) (s : Int), 0 ≤ s → gb S s = true → (∀ y ∈ v, gb hid y = true) → 0 ≤ m.run s v → gb S (m.run s v) = true := by
    intro v
    induction v with
    | nil => exact fun s _ h _ _ => h
    | cons y v ih =>
      intro s h0 hs hv hr
      have hst : 0 ≤ m.step s y := by
        rcases ilt (m.step s y) 0 with h | h
        · have : m.run s (y :: v) < 0 := Mach.run_neg h v
          omega
        · exact h
      exact ih _ hst (h3 s y h0 hs (hv y (List.mem_cons_self ..)) hst) (fun z hz => hv z (List.mem_cons_of_mem _ hz)) hr
  refine gb_ext (by rw [hl, cloL_len]) fun i h0 h4 => ?_
  have hb : gb S i = true ↔ gb (cloL m hid P) i = true := by
    rw [cloL_gb h0 (by omega)]
    constructor
    · exact h2 i h0 (by omega)
    · rintro ⟨s, v, hP, hv, rfl, hr⟩
      have hs0 : 0 ≤ s := by
        rcases ilt s 0 with h | h
        · have := Mach.run_neg h (m := m) v; omega
        · exact h
      exact key v s hs0 (h1 s hP hs0) hv hr
  cases e : gb S i <;> cases e2 : gb (cloL m hid P) i
  · rfl
  · rw [hb.2 e2] at e; cases e
  · rw [hb.1 e] at e2; cases e2
  · rfl
def stepP (m : Mach) (S : List Bool) (x : Int) (t : Int) : Prop := ∃ s, (0 ≤ s ∧ gb S s = true) ∧ m.step s x = t
open Classical in
noncomputable def hideNext (m : Mach) (hid : List Bool) (S : List Bool) (x : Int) : Option (List Bool) :=
  if gb hid x = true then none else if ∃ s, (0 ≤ s ∧ gb S s = true) ∧ 0 ≤ m.step s x then some (cloL m hid (stepP m S x)) else none
theorem hideNext_hid {m : Mach} {hid S : List Bool} {x : Int} (h : gb hid x = true) : hideNext m hid S x = none := if_pos h
theorem hideNext_none {m : Mach} {hid S : List Bool} {x : Int} (h : ¬ ∃ s, (0 ≤ s ∧ gb S s = true) ∧ 0 ≤ m.step s x) : hideNext m hid S x = none := by unfold hideNext; rw [if_neg h]; split <;> rfl
theorem hideNext_some {m : Mach} {hid S : List Bool} {x : Int} (h : gb hid x = false) (h2 : ∃ s, (0 ≤ s ∧ gb S s = true) ∧ 0 ≤ m.step s x) : hideNext m hid S x = some (cloL m hid (stepP m S x)) := by
  unfold hideNext; rw [if_neg (by rw [h]; decide), if_pos h2]
noncomputable def hideAuto (m : Mach) (hid : List Bool) : Auto (List Bool) := ⟨m.letters, hideNext m hid, fun S => (memL S).any m.ends⟩
noncomputable def hfirst (m : Mach) (hid : List Bool) : List Bool := cloL m hid (fun s => s = m.start)
def hideW (hid : List Bool) (v : List Int) : List Int := v.filter fun y => !gb hid y
def HL (m : Mach) (hid : List Bool) (P : Int → Prop) (u : List Int) : Prop := ∃ s v, P s ∧ hideW hid v = u ∧ m.acc s v = true
theorem acc_run {m : Mach} {s : Int} (u v : List Int) : m.acc s (u ++ v) = m.acc (m.run s u) v := by unfold Mach.acc; rw [Mach.run_append]
theorem acc_pos {m : Mach} {s : Int} {v : List Int} (h : m.acc s v = true) : 0 ≤ s := by
  rcases ilt s 0 with h1 | h1
  · rw [Mach.acc_neg h1] at h; cases h
  · exact h1
theorem ends_rng {m : Mach} (hm : m.Shaped) {t : Int} (h : m.ends t = true) : 0 ≤ t ∧ t < m.next.length := by
  have h0 : 0 ≤ t := by
    rcases ilt t 0 with h1 | h1
    · rw [Mach.ends_neg h1] at h; cases h
    · exact h1
  refine ⟨h0, ?_⟩
  have hf := hm.fin
  rcases ilt t m.next.length with h1 | h1
  · exact h1
  · unfold Mach.ends at h
    rw [List.getD_eq_getElem?_getD, List.getElem?_eq_none (by omega)] at h
    simp at h
theorem hide_acc {m : Mach} {hid : List Bool} (hm : m.Shaped) (u : List Int) : ∀ P : Int → Prop, (∀ s, P s → s < m.next.length) → ((hideAuto m hid).acc (cloL m hid P) u = true ↔ HL m hid P u) := by
  induction u with
  | nil =>
    intro P hP
    show (memL (cloL m hid P)).any m.ends = true ↔ _
    rw [List.any_eq_true]
    constructor
    · rintro ⟨t, ht, he⟩
      obtain ⟨⟨h0, h1⟩, h2⟩ := mem_memL.1 ht
      rw [cloL_len] at h1
      obtain ⟨s, v, h3, h4, h5, _⟩ := (cloL_gb h0 h1).1 h2
      exact ⟨s, v, h3, List.filter_eq_nil_iff.2 fun y hy => by rw [h4 y hy]; decide, by unfold Mach.acc; rw [h5]; exact he⟩
    · rintro ⟨s, v, h3, h4, h5⟩
      have he : m.ends (m.run s v) = true := h5
      obtain ⟨h0, h1⟩ := ends_rng hm he
      refine ⟨_, mem_memL.2 ⟨⟨h0, by rw [cloL_len]; exact h1⟩, (cloL_gb h0 h1).2 ⟨s, v, h3, fun y hy => ?_, rfl, h0⟩⟩, he⟩
      have := List.filter_eq_nil_iff.1 h4 y hy
      simpa using this
  | cons c u ih =>
    intro P hP
    rw [Auto.acc]
    have split : HL m hid P (c :: u) ↔ gb hid c = false ∧ HL m hid (stepP m (cloL m hid P) c) u := by
      constructor
      · rintro ⟨s, v, h3, h4, h5⟩
        obtain ⟨v1, v2, rfl, h6, h7, h8⟩ := List.filter_eq_cons_iff.1 h4
        rw [acc_run, Mach.acc_cons] at h5
        have hst := acc_pos h5
        have hr := hm.step_let hst
        refine ⟨by simpa using h7, m.step (m.run s v1) c, v2, ⟨m.run s v1, ⟨hr.1.1, (cloL_gb hr.1.1 hr.1.2).2 ⟨s, v1, h3, fun y hy => by have := h6 y hy; simpa using this, rfl, hr.1.1⟩⟩, rfl⟩, h8, h5⟩
      · rintro ⟨h7, s', v2, ⟨s1, ⟨h0, h1⟩, rfl⟩, h8, h5⟩
        have hlt := gb_true h1 h0
        rw [cloL_len] at hlt
        obtain ⟨s, v1, h3, h4, h6, _⟩ := (cloL_gb h0 hlt).1 h1
        refine ⟨s, v1 ++ c :: v2, h3, ?_, by rw [acc_run, h6, Mach.acc_cons]; exact h5⟩
        unfold hideW at *
        rw [List.filter_append, List.filter_eq_nil_iff.2 fun y hy => by rw [h4 y hy]; decide, List.nil_append, List.filter_cons, h7, h8]
        rfl
    rw [split]
    by_cases hc : 0 ≤ c ∧ c < (hideAuto m hid).letters
    · rw [if_pos hc]
      cases hh : gb hid c with
      | true =>
        rw [show (hideAuto m hid).next (cloL m hid P) c = none from hideNext_hid hh]
        simp
      | false =>
        by_cases hex : ∃ s, (0 ≤ s ∧ gb (cloL m hid P) s = true) ∧ 0 ≤ m.step s c
        · rw [show (hideAuto m hid).next (cloL m hid P) c = some _ from hideNext_some hh hex]
          simp only [true_and]
          exact ih _ fun t ⟨s, _, e⟩ => by rw [← e]; exact (hm.step_range _ _).2
        · rw [show (hideAuto m hid).next (cloL m hid P) c = none from hideNext_none hex]
          simp only [true_and, Bool.false_eq_true, false_iff]
          rintro ⟨s', v, ⟨s, h1, rfl⟩, _, h5⟩
          exact hex ⟨s, h1, acc_pos h5⟩
    · rw [if_neg hc]
      simp only [Bool.false_eq_true, false_iff]
      rintro ⟨_, s', v, ⟨s, h1, rfl⟩, _, h5⟩
      exact hc (hm.step_let (acc_pos h5)).2

/-- the least machine of the words without the hidden letters -/
structure IsHide (m : Mach) (hid : List Bool) (mm : Mach) : Prop where
  canon : mm.Canon
  letters : mm.letters = m.letters
  words : ∀ u, mm.acc mm.start u = true ↔ HL m hid (fun s => s = m.start) u
theorem IsHide.unique {m : Mach} {hid : List Bool} {x y : Mach} (hx : IsHide m hid x) (hy : IsHide m hid y) : x = y :=
  canon_unique hx.canon hy.canon (by rw [hx.letters, hy.letters]) fun u => by
    have := (hx.words u).trans (hy.words u).symm
    cases e : x.acc x.start u <;> cases e2 : y.acc y.start u
    · rfl
    · rw [this.2 e2] at e; cases e
    · rw [this.1 e] at e2; cases e2
    · rfl
theorem IsHide.of {m x mm : Mach} {hid : List Bool} (hx : IsLeast m x) (h : IsHide x hid mm) : IsHide m hid mm :=
  ⟨h.canon, by rw [h.letters, hx.letters], fun u => by
    rw [h.words]
    constructor
    · rintro ⟨s, v, rfl, h1, h2⟩; exact ⟨_, v, rfl, h1, by rw [← hx.words]; exact h2⟩
    · rintro ⟨s, v, rfl, h1, h2⟩; exact ⟨_, v, rfl, h1, by rw [hx.words]; exact h2⟩⟩
theorem IsHide.none {x : Mach} {hid : List Bool} (hx : x.Canon) (h : x.start < 0) : IsHide x hid x :=
  ⟨hx, rfl, fun u => by
    rw [Mach.acc_neg h]
    simp only [Bool.false_eq_true, false_iff]
    rintro ⟨s, v, rfl, _, h2⟩
    rw [Mach.acc_neg h] at h2; cases h2⟩
theorem Made.hide {x m0 mm : Mach} {hid : List Bool} {xs : List (List Bool)} (hx : x.Shaped) (h : Made (hideAuto x hid) (hfirst x hid) m0 xs) (hm : IsLeast m0 mm) : IsHide x hid mm :=
  ⟨hm.canon, by rw [hm.letters, h.letters]; rfl, fun u => by
    rw [hm.words, h.acc_start]
    exact hide_acc hx u _ fun s e => by rw [e]; exact hx.start_range.2⟩
/-- an accepted word without the hidden letters is accepted -/
theorem IsHide.word {m mm : Mach} {hid : List Bool} (h : IsHide m hid mm) {v : List Int} (hv : m.acc m.start v = true) : mm.acc mm.start (hideW hid v) = true := (h.words _).2 ⟨_, v, rfl, rfl, hv⟩

/-- the same, by names -/
noncomputable def hideAutoB (m : Mach) (hid : List Bool) : Auto ByteArray := ⟨m.letters, fun nm x => (hideNext m hid (setOf m.next.length nm) x).map name, fun nm => (memL (setOf m.next.length nm)).any m.ends⟩
theorem hideNext_len {m : Mach} {hid S T : List Bool} {x : Int} (h : hideNext m hid S x = some T) : T.length = m.next.length := by
  unfold hideNext at h
  split at h
  · cases h
  · split at h
    · injection h with h; subst h; exact cloL_len _ _ _
    · cases h
theorem hideAutoB_acc {m : Mach} {hid : List Bool} (hn : m.next.length ≤ 65536) (u : List Int) : ∀ S : List Bool, S.length = m.next.length → (hideAutoB m hid).acc (name S) u = (hideAuto m hid).acc S u := by
  induction u with
  | nil => intro S hS; show (memL (setOf m.next.length (name S))).any m.ends = _; rw [setOf_name hS hn]; rfl
  | cons c u ih =>
    intro S hS
    rw [Auto.acc, Auto.acc]
    have e : (hideAutoB m hid).next (name S) c = ((hideAuto m hid).next S c).map name := by
      show (hideNext m hid (setOf m.next.length (name S)) c).map name = _
      rw [setOf_name hS hn]; rfl
    rw [e]
    show (if 0 ≤ c ∧ c < m.letters then _ else _) = if 0 ≤ c ∧ c < m.letters then _ else _
    split
    · cases hh : (hideAuto m hid).next S c with
      | none => rfl
      | some T => exact ih T (hideNext_len hh)
    · rfl
theorem fromB {m : Mach} {hid : List Bool} (hn : m.next.length ≤ 65536) {S0 S : List Bool} (h0 : S0.length = m.next.length) (h : (hideAuto m hid).From S0 S) : (hideAutoB m hid).From (name S0) (name S) ∧ S.length = m.next.length := by
  induction h with
  | here => exact ⟨.here, h0⟩
  | @step y z c _ h1 h2 e ih =>
    refine ⟨.step ih.1 h1 h2 ?_, hideNext_len e⟩
    show (hideNext m hid (setOf m.next.length (name y)) c).map name = _
    rw [setOf_name ih.2 hn, show hideNext m hid y c = some z from e]; rfl
theorem fromB' {m : Mach} {hid : List Bool} (hn : m.next.length ≤ 65536) {S0 : List Bool} {nm : ByteArray} (h0 : S0.length = m.next.length) (h : (hideAutoB m hid).From (name S0) nm) : ∃ S, nm = name S ∧ S.length = m.next.length ∧ (hideAuto m hid).From S0 S := by
  induction h with
  | here => exact ⟨S0, rfl, h0, .here⟩
  | @step y z c _ h1 h2 e ih =>
    obtain ⟨S, rfl, hS, hf⟩ := ih
    have e : (hideNext m hid (setOf m.next.length (name S)) c).map name = some z := e
    rw [setOf_name hS hn, Option.map_eq_some_iff] at e
    obtain ⟨T, e1, rfl⟩ := e
    exact ⟨T, rfl, hideNext_len e1, .step hf h1 h2 e1⟩
theorem Made.hideB {x m0 mm : Mach} {hid : List Bool} {xs : List ByteArray} (hx : x.Shaped) (hn : x.next.length ≤ 65536) (h : Made (hideAutoB x hid) (name (hfirst x hid)) m0 xs) (hm : IsLeast m0 mm) : IsHide x hid mm :=
  ⟨hm.canon, by rw [hm.letters, h.letters]; rfl, fun u => by
    rw [hm.words, h.acc_start, hideAutoB_acc hn u (hfirst x hid) (cloL_len _ _ _)]
    exact hide_acc hx u _ fun s e => by rw [e]; exact hx.start_range.2⟩
theorem nodup_le {X : Type} [DecidableEq X] : ∀ (l r : List X), l.Nodup → (∀ x ∈ l, x ∈ r) → l.length ≤ r.length := by
  intro l
  induction l with
  | nil => intro r _ _; simp
  | cons a l ih =>
    intro r hn hs
    have ha := hs a (List.mem_cons_self ..)
    have := ih (r.erase a) (List.nodup_cons.1 hn).2 fun x hx => by
      refine (List.mem_erase_of_ne fun e => ?_).2 (hs x (List.mem_cons_of_mem _ hx))
      subst e; exact (List.nodup_cons.1 hn).1 hx
    rw [List.length_erase_of_mem ha] at this
    have hp : 0 < r.length := List.length_pos_of_mem ha
    rw [List.length_cons]; omega
/-- too many sets on one side, and not on the other -/
theorem hide_many {x m0 : Mach} {hid : List Bool} (hn : x.next.length ≤ 65536) {xs : List (List Bool)} {ys : List ByteArray} (h1 : xs.Nodup) (h2 : ∀ S ∈ xs, (hideAuto x hid).From (hfirst x hid) S) (h : Made (hideAutoB x hid) (name (hfirst x hid)) m0 ys) : xs.length ≤ ys.length := by
  have hl : (hfirst x hid).length = x.next.length := cloL_len _ _ _
  have := nodup_le (xs.map name) ys ?_ fun nm hnm => ?_
  · simpa using this
  · rw [List.nodup_iff_pairwise_ne, List.pairwise_map]
    refine (List.nodup_iff_pairwise_ne.1 h1).imp_of_mem fun {S T} hS hT hne e => hne ?_
    have a := (fromB hn hl (h2 S hS)).2; have b := (fromB hn hl (h2 T hT)).2
    exact name_inj (by rw [a, b]) (by rw [a]; exact hn) e
  · obtain ⟨S, hS, rfl⟩ := List.mem_map.1 hnm
    exact h.all (fromB hn hl (h2 S hS)).1
theorem hide_many' {x m0 : Mach} {hid : List Bool} (hn : x.next.length ≤ 65536) {xs : List (List Bool)} {ys : List ByteArray} (h1 : ys.Nodup) (h2 : ∀ nm ∈ ys, (hideAutoB x hid).From (name (hfirst x hid)) nm) (h : Made (hideAuto x hid) (hfirst x hid) m0 xs) : ys.length ≤ xs.length := by
  have hl : (hfirst x hid).length = x.next.length := cloL_len _ _ _
  have := nodup_le ys (xs.map name) h1 fun nm hnm => by
    obtain ⟨S, rfl, _, hf⟩ := fromB' hn hl (h2 nm hnm)
    exact List.mem_map.2 ⟨S, h.all hf, rfl⟩
  simpa using this
end Go.Proofs.Ytnkpjlhbojjneaa.VC

/- Sorted ints; the set of states that is found by hidden letters, and its name. -/
namespace Go.Proofs.Ytnkpjlhbojjneaa.VC
open Go Go.RowKit Go.Shelf Go.Lib Go.Sort

def sorted (xs : List Int) : List Int := xs.mergeSort fun x y => decide (x ≤ y)
theorem sorted_perm (xs : List Int) : (sorted xs).Perm xs := List.mergeSort_perm _ _
theorem sorted_lt {xs : List Int} (h : xs.Nodup) : (sorted xs).Pairwise (· < ·) := by
  have h1 : (sorted xs).Pairwise fun x y => decide (x ≤ y) = true := by
    refine List.pairwise_mergeSort (fun x y z h1 h2 => ?_) (fun x y => ?_) _
    · simp only [decide_eq_true_eq] at *; omega
    · simp only [Bool.or_eq_true, decide_eq_true_eq]; omega
  have h2 : (sorted xs).Nodup := (sorted_perm xs).nodup_iff.2 h
  refine h1.imp₂ (fun x y a b => ?_) (List.nodup_iff_pairwise_ne.1 h2)
  simp only [decide_eq_true_eq] at a
  omega
theorem ltsort_unique : ∀ {l r : List Int}, l.Pairwise (· < ·) → r.Pairwise (· < ·) → (∀ x, x ∈ l ↔ x ∈ r) → l = r := by
  intro l
  induction l with
  | nil =>
    intro r _ _ h
    cases r with
    | nil => rfl
    | cons y r => have := (h y).2 (List.mem_cons_self ..); cases this
  | cons x l ih =>
    intro r hl hr h
    cases r with
    | nil => have := (h x).1 (List.mem_cons_self ..); cases this
    | cons y r =>
      rw [List.pairwise_cons] at hl hr
      have hxy : x = y := by
        have a := (h x).1 (List.mem_cons_self ..)
        have b := (h y).2 (List.mem_cons_self ..)
        rcases List.mem_cons.1 a with e | a
        · exact e
        · rcases List.mem_cons.1 b with e | b
          · exact e.symm
          · have := hl.1 y b; have := hr.1 x a; omega
      subst hxy
      refine congrArg (x :: ·) (ih hl.2 hr.2 fun z => ?_)
      have hz := h z
      constructor
      · intro hm
        rcases List.mem_cons.1 (hz.1 (List.mem_cons_of_mem _ hm)) with e | h2
        · subst e; have := hl.1 z hm; omega
        · exact h2
      · intro hm
        rcases List.mem_cons.1 (hz.2 (List.mem_cons_of_mem _ hm)) with e | h2
        · subst e; have := hr.1 z hm; omega
        · exact h2

theorem c74 {w0 w : World} {F : FamF} {i : Nat} {A : Option Addr} {n c : Nat} {xs : List Int} {R : Res} (hF : Fam w0 w F) (hs : GSl F i A n c (ints xs)) (hne : xs ≠ []) (hl : xs.length ≤ 1099511627776)
    (hR : ∀ F' w', Only i F F' → Fam w0 w' F' → GSl F' i A n c (ints (sorted xs)) → R unitV [] w') : CallsI Try.prog 74 [.slice A n c] w [] R := by
  intro Fp wa hrel
  rcases hs with ⟨_, _, _, _, h2⟩ | ⟨b, rest, hi, rfl, rfl, hc⟩
  · exact absurd (List.map_eq_nil_iff.1 h2) hne
  · obtain ⟨⟨e, hw⟩, hlo⟩ := hF.own i b _ hi
    have hwa := hrel.vis b _ hw (cells_ne_hid _ _ _)
    have hH : Go.Sort.Holds (Value.int .i64) wa b 0 xs.toArray := by
      intro j hj
      simp only [List.size_toArray] at hj
      have e1 : xs.toArray[j]! = xs[j] := by simp [List.getElem?_eq_getElem hj]
      rw [e1, Nat.zero_add]
      have hj' : j < (ints xs).length := by simpa using hj
      constructor
      · simp only [World.cell?, hwa]
        simp [ints, List.getElem?_append_left (show j < (List.map (Value.int IntKind.i64) xs).length by simpa using hj), List.getElem?_eq_getElem hj]
      · simp [World.frozen?, hwa]
    have hS := Any.slices_Sort_int sortI b 0 c xs wa hH (Array.getElem?_eq_some_iff.1 hwa).1 (by omega)
    rw [ints_len] at hc ⊢
    change Calls Try.prog 74 _ _ _ at hS
    refine hS.mono ?_
    rintro e' wa' ⟨rfl, n', os, rfl⟩
    change ∃ v css w', _
    have hms : (xs.mergeSort fun x y => decide (x ≤ y)) = sorted xs := rfl
    rw [hms]
    have hlen : (sorted xs).length = xs.length := (sorted_perm xs).length_eq
    let f : Array Value → Array Value := putCells (Value.int .i64) 0 (sorted xs).toArray
    have hblk : ∀ (u : World), u.heap[b]? = some (.cells (ints xs ++ rest).toArray e (0, 0)) → (mapBlock u b f).heap[b]? = some (.cells (ints (sorted xs) ++ rest).toArray e (0, 0)) := fun u hu => by
      simp only [mapBlock, Array.getElem?_modify, if_true, hu, Option.map_some, onCells]
      congr 2
      show putCells (Value.int .i64) 0 (sorted xs).toArray _ = _
      apply Array.ext_getElem?
      intro k
      simp only [putCells, Array.getElem?_mapIdx, List.getElem?_toArray, Nat.zero_le, true_and, Nat.zero_add, Nat.sub_zero, List.size_toArray]
      rcases Nat.lt_or_ge k xs.length with hk | hk
      · rw [List.getElem?_append_left (by simpa using hk), List.getElem?_append_left (by simp [hlen]; exact hk)]
        have e1 : (sorted xs).toArray[k]! = (sorted xs)[k]'(by omega) := by simp [List.getElem?_eq_getElem (show k < (sorted xs).length by omega)]
        simp only [ints, List.getElem?_map, List.getElem?_eq_getElem hk, List.getElem?_eq_getElem (show k < (sorted xs).length by omega), Option.map_some]
        rw [if_pos (by omega), e1]
      · rw [List.getElem?_append_right (by simpa using hk), List.getElem?_append_right (by simp [hlen]; exact hk), ints_len, ints_len, hlen]
        cases h : rest[k - xs.length]? with
        | none => simp
        | some v => simp only [Option.map_some]; rw [if_neg (by omega)]
    have hoth : ∀ (u : World) (j : Nat), j ≠ b → (mapBlock u b f).heap[j]? = u.heap[j]? := fun u j hj => by
      simp only [mapBlock, Array.getElem?_modify]; rw [if_neg (Ne.symm hj)]
    have hheap : (grow (putRow (Value.int .i64) (Sort.ahead wa n') b 0 (sorted xs).toArray) os).heap = (mapBlock wa b f).heap ++ os := rfl
    have hgo : ∀ j, j < wa.heap.size → (grow (putRow (Value.int .i64) (Sort.ahead wa n') b 0 (sorted xs).toArray) os).heap[j]? = (mapBlock wa b f).heap[j]? := fun j hj => by
      rw [hheap, Array.getElem?_append_left (by simp [mapBlock]; exact hj)]
    have hbw := (Array.getElem?_eq_some_iff.1 hwa).1
    have honly : OnlyB w b (mapBlock w b f) := ⟨rfl, rfl, rfl, by simp [mapBlock], fun j hj _ => hoth w j hj⟩
    have hF' := hF.only (c := .cells (ints (sorted xs) ++ rest)) (i := i) honly ⟨e, hblk w hw⟩ (.inl ⟨_, hi⟩)
    refine ⟨unitV, [], mapBlock w b f, rfl, rfl, ?_, hR _ _ upd_only hF' (.inr ⟨b, rest, upd_self .., rfl, by simp [hlen], by rw [hc]; simp [hlen]⟩)⟩
    refine ⟨hrel.os, hrel.tape, hrel.output, ?_, fun j o hj hne => ?_, fun b' o hm => ?_, fun b' o hm o' ho' => ?_, hrel.nd⟩
    · rw [hheap]; have := hrel.size; simp [mapBlock]; omega
    · by_cases hjb : j = b
      · subst hjb
        rw [hgo j hbw, hblk wa hwa, ← hblk w hw]; exact hj
      · rw [hoth w j hjb] at hj
        have := hrel.vis j o hj hne
        rw [hgo j (Array.getElem?_eq_some_iff.1 this).1, hoth wa j hjb]; exact this
    · have hne : b' ≠ b := fun e => by subst e; exact cells_ne_hid _ _ _ (hrel.cov _ _ hm _ hw)
      have := hrel.loc b' o hm
      rw [hgo b' (Array.getElem?_eq_some_iff.1 this).1, hoth wa b' hne]; exact this
    · have hne : b' ≠ b := fun e => by subst e; exact cells_ne_hid _ _ _ (hrel.cov _ _ hm _ hw)
      rw [hoth w b' hne] at ho'
      exact hrel.cov b' o hm o' ho'

theorem c73 {w0 w : World} {F : FamF} {bi bs i : Nat} {G : Option Addr} {g0 g1 : Nat} {K : Option Addr} {k0 k1 : Nat} {S : List Bool} {l : List Int} {q : Int} {R : Res} (hF : Fam w0 w F) (hin : GSl F 5 G g0 g1 (bools S)) (hset : GSl F i K k0 k1 (ints l)) (hi : i ≠ 5) (hq : q < S.length) (hl : l.length ≤ 1048576)
    (skip : (q < 0 ∨ gb S q = true) → R unitV [[.slice G g0 g1], [.slice K k0 k1]] w)
    (add : 0 ≤ q → gb S q = false → ∀ F' w' K' c', (∀ j, j ≠ 5 → j ≠ i → F' j = F j) → Fam w0 w' F' → GSl F' 5 G g0 g1 (bools (S.set q.toNat true)) → GSl F' i K' (k0 + 1) c' (ints (l ++ [q])) → R unitV [[.slice G g0 g1], [.slice K' (k0 + 1) c']] w') :
    CallsI Try.prog 73 [.int .i64 q, .pointer (some ⟨bi, 0, none⟩), .pointer (some ⟨bs, 0, none⟩)] w [(bi, 23, [.slice G g0 g1]), (bs, 26, [.slice K k0 k1])] R := by
  refine s73 _ _ _ _ _ _ _ _ _ _ _ ?_
  refine condK_dec (fun h0 => ?_) fun h0 => skip (.inl (by omega))
  have hk0 : k0 = l.length := by rw [hset.len, ints_len]
  refine hin.get_bool hF h0 hq (K := fun t => condK (!t) _ _) ?_
  cases hg : gb S q with
  | true => exact skip (.inr hg)
  | false =>
    refine hin.set_bool hF h0 hq fun F1 w4 ho1 hF1 hin1 => ?_
    refine (hset.keep ho1 hi).push_int hF1 (by omega) fun F2 A7 c9 w10 ho2 hF2 hset2 => ?_
    exact add h0 hg F2 w10 A7 c9 (fun j h1 h2 => by rw [ho2 j h2, ho1 j h1]) hF2 (hin1.keep ho2 (Ne.symm hi)) hset2

/-- the states that are found by hidden letters, so far -/
structure Wl (m : Mach) (hid : List Bool) (P : Int → Prop) (S : List Bool) (l : List Int) : Prop where
  len : S.length = m.next.length
  mem : ∀ s : Int, s ∈ l ↔ (0 ≤ s ∧ s < m.next.length) ∧ gb S s = true
  nodup : l.Nodup
  sub : ∀ s ∈ l, Clo m hid P s
theorem Wl.init (m : Mach) (hid : List Bool) (P : Int → Prop) : Wl m hid P (List.replicate m.next.length false) [] :=
  ⟨by simp, fun s => by simp [gb_rep], by simp, fun s h => by cases h⟩
section
variable {m : Mach} {hid : List Bool} {P : Int → Prop} {S : List Bool} {l : List Int}
theorem Wl.count (h : Wl m hid P S l) : l.length ≤ m.next.length := nodup_bound _ l h.nodup fun x hx => ((h.mem x).1 hx).1
theorem Wl.add (h : Wl m hid P S l) {q : Int} (h0 : 0 ≤ q) (h1 : q < m.next.length) (hn : gb S q = false) (hc : Clo m hid P q) : Wl m hid P (S.set q.toNat true) (l ++ [q]) := by
  have hl := h.len
  refine ⟨by simp [hl], fun s => ?_, nodup_push h.nodup (fun hq => by rw [((h.mem q).1 hq).2] at hn; cases hn), fun s hs => ?_⟩
  · rw [List.mem_append, List.mem_singleton, h.mem s]
    constructor
    · rintro (⟨a, b⟩ | rfl)
      · exact ⟨a, by rw [gb_set h0 (by omega) a.1]; split <;> first | rfl | exact b⟩
      · exact ⟨⟨h0, h1⟩, by rw [gb_set h0 (by omega) h0, if_pos rfl]⟩
    · rintro ⟨a, b⟩
      rw [gb_set h0 (by omega) a.1] at b
      by_cases e : s = q
      · exact .inr e
      · rw [if_neg e] at b; exact .inl ⟨a, b⟩
  · rcases List.mem_append.1 hs with hs | hs
    · exact h.sub s hs
    · rw [List.mem_singleton] at hs; subst hs; exact hc
theorem Wl.done (h : Wl m hid P S l) (hm : m.Shaped) (h1 : ∀ s : Int, P s → 0 ≤ s → s ∈ l) (h3 : ∀ s ∈ l, ∀ y : Int, gb hid y = true → 0 ≤ m.step s y → m.step s y ∈ l) : S = cloL m hid P :=
  cloL_eq h.len (fun s hP h0 => ((h.mem s).1 (h1 s hP h0)).2) (fun s h0 h4 hg => h.sub s ((h.mem s).2 ⟨⟨h0, h4⟩, hg⟩)) fun s y h0 hg hy hs => by
    have hr := (hm.step_let hs).1
    exact ((h.mem _).1 (h3 s ((h.mem s).2 ⟨hr, hg⟩) y hy hs)).2
theorem Clo.base {s : Int} (h : P s) (h0 : 0 ≤ s) : Clo m hid P s := ⟨s, [], h, fun _ h => (by cases h), rfl, h0⟩
theorem Clo.step {s y : Int} (h : Clo m hid P s) (hy : gb hid y = true) (h0 : 0 ≤ m.step s y) : Clo m hid P (m.step s y) := by
  obtain ⟨s0, v, h1, h2, h3, _⟩ := h
  refine ⟨s0, v ++ [y], h1, fun z hz => ?_, by rw [Mach.run_append, h3]; rfl, h0⟩
  rcases List.mem_append.1 hz with hz | hz
  · exact h2 z hz
  · rw [List.mem_singleton] at hz; subst hz; exact hy
theorem Wl.sorted_eq (h : Wl m hid P S l) : sorted l = memL S := ltsort_unique (sorted_lt h.nodup) (memL_sorted S) fun x => by
  rw [(sorted_perm l).mem_iff, h.mem x, mem_memL, h.len]
end
theorem gi_step {m : Mach} {row : List Int} {s x : Int} (hr : m.next[s.toNat]? = some row) (h0 : 0 ≤ s) (hx0 : 0 ≤ x) (hx : x < row.length) : m.step s x = gi row x := Mach.step_in hr h0 hx0 (get_gi hx0 hx)

theorem keyStr : KeyOf KT.str Value.string where
  eq := fun a b => by
    obtain ⟨a⟩ := a; obtain ⟨b⟩ := b
    show (a == b) = _
    by_cases h : a = b <;> simp [h]
  ok := fun v h => by
    unfold KT.ok at h
    split at h
    · rename_i e; cases e
    · exact ⟨_, rfl⟩
    · rename_i e; cases e
    · cases h
  ok' := fun _ => rfl
/-- what the closures keep: the sets by their names -/
structure HInv (n : Nat) (F : FamF) (bs cnt : Nat) (f : ByteArray → Option Value) : Prop where
  map : GM F 4 KT.str Value.string bs f
  sets : ∀ nm v, f nm = some v → ∃ S A c k, S.length = n ∧ nm = name S ∧ k < cnt ∧ v = .slice A (memL S).length c ∧ GSl F (11 + 2 * k) A (memL S).length c (ints (memL S))
def HK (n : Nat) (F : FamF) (bs : Nat) (xs : List ByteArray) : Prop := ∃ cnt f, HInv n F bs cnt f ∧ ∀ nm ∈ xs, (f nm).isSome = true
/-- the caller's own places -/
def Ow (j : Nat) : Prop := j < 4 ∨ (10 ≤ j ∧ j % 2 = 0)
theorem HInv.same {n : Nat} {F F' : FamF} {bs cnt : Nat} {f : ByteArray → Option Value} (h : HInv n F bs cnt f) (h4 : F' 4 = F 4) (hk : ∀ k, k < cnt → F' (11 + 2 * k) = F (11 + 2 * k)) : HInv n F' bs cnt f :=
  ⟨h.map.same h4, fun nm v hv => by
    obtain ⟨S, A, c, k, h1, h2, h3, h5, h6⟩ := h.sets nm v hv
    exact ⟨S, A, c, k, h1, h2, h3, h5, h6.same (hk k h3)⟩⟩
theorem HK.same {n : Nat} {F F' : FamF} {bs : Nat} {xs : List ByteArray} (h : HK n F bs xs) (hs : ∀ j, ¬ Ow j → 8 < j ∨ j = 4 → F' j = F j) : HK n F' bs xs := by
  obtain ⟨cnt, f, h1, h2⟩ := h
  exact ⟨cnt, f, h1.same (hs 4 (by unfold Ow; omega) (.inr rfl)) fun k _ => hs _ (by unfold Ow; omega) (.inl (by omega)), h2⟩
theorem HK.sub {n : Nat} {F : FamF} {bs : Nat} {xs ys : List ByteArray} (h : HK n F bs xs) (hs : ∀ y ∈ ys, y ∈ xs) : HK n F bs ys := by
  obtain ⟨cnt, f, h1, h2⟩ := h
  exact ⟨cnt, f, h1, fun y hy => h2 y (hs y hy)⟩
def u8s (xs : List Int) : List Value := xs.map (Value.int .u8)

set_option maxHeartbeats 4000000 in
theorem c72 {w0 w : World} {F0 : FamF} {bm bh bx bs : Nat} {m : Mach} {A : Option Addr} {n c : Nat} {B : Option Addr} {k d : Nat} {hid : List Bool} {Kp : Option Addr} {k1 : Nat} {D : Option Addr} {kk ee : Nat} {ls : List Int} {xs : List ByteArray} {R : Res}
    (hF0 : Fam w0 w F0) (hm : MachAt w0 m (.agg (Array.mk [.int .i64 m.letters, .int .i64 m.start, .slice A n c, .slice B k d]))) (hsh : m.Shaped) (hN : m.next.length ≤ 4000) (hL : m.letters ≤ 1048576) (hK : Row w0 Kp (bools hid)) (hhid : (hid.length : Int) = m.letters)
    (harg : GSl F0 7 D kk ee (ints ls)) (hls : ∀ s ∈ ls, 0 ≤ s ∧ s < m.next.length) (hne : ls ≠ []) (hlen : ls.length ≤ 1048576) (hH : HK m.next.length F0 bs xs)
    (hR : ∀ F' w', Fam w0 w' F' → (∀ j, Ow j → F' j = F0 j) → HK m.next.length F' bs (name (cloL m hid fun s => s ∈ ls) :: xs) →
      R (.string (name (cloL m hid fun s => s ∈ ls))) [[.int .i64 m.letters, .int .i64 m.start, .slice A n c, .slice B k d], [.slice Kp hid.length k1], [.map (some bs)]] w') :
    CallsI Try.prog 72 [.slice D kk ee, .pointer (some ⟨bm, 0, none⟩), .pointer (some ⟨bh, 0, none⟩), .pointer (some ⟨bx, 0, none⟩)] w [(bm, 25, [.int .i64 m.letters, .int .i64 m.start, .slice A n c, .slice B k d]), (bh, 23, [.slice Kp hid.length k1]), (bx, 88, [.map (some bs)])] R := by
  obtain ⟨_, _, e, ⟨A', c', hs, e1, hA, hl, hx⟩, ⟨B', d', e2, hB⟩⟩ := hm
  simp only [Value.agg.injEq, Array.mk.injEq, List.cons.injEq, true_and, and_true] at e
  obtain ⟨e3, e4⟩ := e
  rw [e1] at e3; rw [e2] at e4
  injection e3 with e5 e6 e7; injection e4 with e8 e9 e10
  subst e5 e6 e7 e8 e9 e10
  clear e1 e2
  obtain ⟨cnt, f, hinv, hknown⟩ := hH
  have hkk : kk = ls.length := by rw [harg.len, ints_len]
  subst hkk
  have h0L := hsh.letters
  refine s72 _ _ _ _ _ _ _ _ _ _ _ _ _ _ _ _ _ _ _ _ ⟨rfl, by omega, by omega, by omega, ?_⟩
  refine hF0.mkRow 5 fun n1 F w2 ho hF hin => ?_
  rw [List.length_replicate] at hin
  have hin : GSl F 5 (some ⟨n1, 0, none⟩) m.next.length m.next.length (bools (List.replicate m.next.length false)) := by rw [bools_rep]; exact hin
  intro n3 n4
  -- nothing at index 11 + 2 * cnt is needed
  have hdrop : Fam w0 w2 (fun j => if j = 11 + 2 * cnt then none else F j) := hF.drop fun j => by by_cases h : j = 11 + 2 * cnt <;> simp [h]
  have sm : ∀ {F : FamF}, (∀ j, j ≠ 5 → j ≠ 6 → j ≠ 8 → j ≠ 11 + 2 * cnt → F j = F0 j) → HInv m.next.length F bs cnt f := fun hj => hinv.same (hj 4 (by decide) (by decide) (by decide) (by omega)) fun q hq => hj _ (by omega) (by omega) (by omega) (by omega)
  have P : ∀ s : Int, s ∈ ls → Clo m hid (fun s => s ∈ ls) s := fun s h => Clo.base h (hls s h).1
  refine ⟨fun x6 A7 n8 n9 => ⟨fun w10 => ∃ F S l, Fam w0 w10 F ∧ (∀ j, j ≠ 5 → j ≠ 6 → j ≠ 8 → j ≠ 11 + 2 * cnt → F j = F0 j) ∧ GSl F 5 (some ⟨n1, 0, none⟩) m.next.length m.next.length (bools S) ∧ GSl F (11 + 2 * cnt) A7 n8 n9 (ints l) ∧ Wl m hid (fun s => s ∈ ls) S l ∧ (∀ k : Int, 0 ≤ k → k < x6 → gi ls k ∈ l) ∧ 0 ≤ x6 ∧ x6 ≤ ls.length, fun _ => (ls.length - x6).toNat⟩,
    ⟨_, _, [], hdrop, fun j h1 _ _ h4 => by simp only [h4, if_false]; exact ho j h1, hin.same (by simp; omega), .nil (by simp), Wl.init _ _ _, fun k h0 h1 => by omega, by omega, by omega⟩, ?_⟩
  clear hin hF ho hdrop
  rintro x6 A7 n8 n9 w10 ⟨F, S, l, hF, hsm, hin, hset, hwl, hdone, h60, h61⟩ n11 rfl
  have hcnt := hwl.count
  have hSl := hwl.len
  refine condK_dec (fun hlt => ?_) fun hge => ?_
  · have harg1 := harg.same (hsm 7 (by decide) (by decide) (by decide) (by omega))
    refine harg1.get_int hF h60 (by omega) (K := fun x13 => J72_4 x13 n3 n4 w10 n1 _ A7 n8 n9 _ x6 _) ?_
    have hm1 := gi_mem (l := ls) h60 (by omega)
    have hr1 := hls _ hm1
    rw [J72_4]
    refine c73 hF hin hset (by omega) (by omega) (by omega) (fun hsk => ⟨rfl, _, _, _, rfl, ?_⟩) fun h0 hg F' w' K' c' ho hF' hin' hset' => ⟨rfl, _, _, _, rfl, ?_⟩
    · rw [J72_1, wrap_id (by omega) (by omega)]
      refine ⟨⟨F, S, l, hF, hsm, hin, hset, hwl, fun k h0 h1 => ?_, by omega, by omega⟩, by simp only []; omega⟩
      by_cases e : k = x6
      · subst e
        exact (hwl.mem _).2 ⟨hr1, by rcases hsk with h | h; omega; exact h⟩
      · exact hdone k h0 (by omega)
    · rw [J72_1, wrap_id (by omega) (by omega)]
      refine ⟨⟨F', _, _, hF', fun j h1 h2 h3 h4 => by rw [ho j h1 h4]; exact hsm j h1 h2 h3 h4, hin', hset', hwl.add h0 hr1.2 hg (P _ hm1), fun k h0 h1 => ?_, by omega, by omega⟩, by simp only []; omega⟩
      by_cases e : k = x6
      · subst e; simp
      · exact List.mem_append_left _ (hdone k h0 (by omega))
  have hall : ∀ s : Int, s ∈ ls → s ∈ l := fun s hs => by
    obtain ⟨q, h0, h1, rfl⟩ := mem_gi hs
    exact hdone q h0 (by omega)
  refine ⟨fun x21 A22 n23 n24 => ⟨fun w25 => ∃ F S l, Fam w0 w25 F ∧ (∀ j, j ≠ 5 → j ≠ 6 → j ≠ 8 → j ≠ 11 + 2 * cnt → F j = F0 j) ∧ GSl F 5 (some ⟨n1, 0, none⟩) m.next.length m.next.length (bools S) ∧ GSl F (11 + 2 * cnt) A22 n23 n24 (ints l) ∧ Wl m hid (fun s => s ∈ ls) S l ∧ (∀ s : Int, s ∈ ls → s ∈ l) ∧ (∀ k y : Int, 0 ≤ k → k < x21 → gb hid y = true → 0 ≤ m.step (gi l k) y → m.step (gi l k) y ∈ l) ∧ 0 ≤ x21 ∧ x21 ≤ l.length, fun _ => (m.next.length - x21).toNat⟩,
    ⟨F, S, l, hF, hsm, hin, hset, hwl, hall, fun k y h0 h1 => by omega, by omega, by omega⟩, ?_⟩
  clear hF hsm hin hset hwl hdone hall hcnt hSl F S l
  rintro x21 A22 n23 n24 w25 ⟨F, S, l, hF, hsm, hin, hset, hwl, hall, hproc, h210, h211⟩ n26 rfl
  have hcnt := hwl.count
  have hSl := hwl.len
  have hn23 : n23 = l.length := by rw [hset.len, ints_len]
  subst hn23
  refine condK_dec (fun hlt => ?_) fun hge => ?_
  · refine hset.get_int hF h210 (by omega) (K := fun x28 => IxV A m.next.length 1 x28 _) ?_
    have hx28 := ((hwl.mem _).1 (gi_mem (l := l) h210 (by omega))).1
    refine rd_row hF.base hA hl hx hx28.1 hx28.2 (K := fun A30 n31 n32 => ∃ I33, _) fun A30 c32 row hrow hA30 => ?_
    have hrl := (hsh.rows row (List.mem_of_getElem? hrow)).len
    obtain ⟨s28, hs28⟩ : ∃ s28, s28 = gi l x21 := ⟨_, rfl⟩
    rw [← hs28] at hx28 hrow
    refine ⟨fun x34 A35 n36 n37 => ⟨fun w38 => ∃ F S l, Fam w0 w38 F ∧ (∀ j, j ≠ 5 → j ≠ 6 → j ≠ 8 → j ≠ 11 + 2 * cnt → F j = F0 j) ∧ GSl F 5 (some ⟨n1, 0, none⟩) m.next.length m.next.length (bools S) ∧ GSl F (11 + 2 * cnt) A35 n36 n37 (ints l) ∧ Wl m hid (fun s => s ∈ ls) S l ∧ (∀ s : Int, s ∈ ls → s ∈ l) ∧ (∀ k y : Int, 0 ≤ k → (k < x21 ∨ k = x21 ∧ y < x34) → gb hid y = true → 0 ≤ m.step (gi l k) y → m.step (gi l k) y ∈ l) ∧ x21 < l.length ∧ gi l x21 = s28 ∧ 0 ≤ x34 ∧ x34 ≤ m.letters, fun _ => (m.letters - x34).toNat⟩,
      ⟨F, S, l, hF, hsm, hin, hset, hwl, hall, fun k y h0 h1 h2 h3 => hproc k y h0 (by
        rcases h1 with h1 | ⟨h1, h4⟩
        · exact h1
        · have := (hsh.step_let h3).2.1; omega) h2 h3, by omega, hs28.symm, by omega, h0L⟩, ?_⟩
    clear hF hsm hin hset hwl hall hproc hcnt hSl hs28 hlt h211
    rintro x34 A35 n36 n37 w38 ⟨F, S, l, hF, hsm, hin, hset, hwl, hall, hproc, hlt, hs28, h340, h341⟩ n39 rfl
    have hcnt := hwl.count
    have hSl := hwl.len
    refine condK_dec (fun hlt2 => ?_) fun hge2 => ?_
    · have hst := gi_step hrow hx28.1 h340 (by omega)
      have hsr := hsh.step_range s28 x34
      refine rd_int hF.base hA30 h340 (by omega) (K := fun x41 => IxV Kp hid.length 1 x34 _) ?_
      refine rd_bool hF.base hK h340 (by omega) (K := fun t43 => condK t43 _ _) ?_
      rw [← hst]
      refine condK_of (fun hy => ?_) fun hy => ?_
      · rw [J72_4]
        have hnext : ∀ (l' : List Int), (∀ k : Int, 0 ≤ k → k < l.length → gi l' k = gi l k) → (∀ z ∈ l, z ∈ l') → (0 ≤ m.step s28 x34 → m.step s28 x34 ∈ l') → l.length ≤ l'.length → ∀ k y : Int, 0 ≤ k → (k < x21 ∨ k = x21 ∧ y < x34 + 1) → gb hid y = true → 0 ≤ m.step (gi l' k) y → m.step (gi l' k) y ∈ l' := by
          intro l' hg1 hsub hnew _ k y h0 h1 h2 h3
          have hkl : k < l.length := by omega
          rw [hg1 k h0 hkl] at h3 ⊢
          by_cases e : k = x21 ∧ y = x34
          · obtain ⟨rfl, rfl⟩ := e
            rw [hs28] at h3 ⊢; exact hnew h3
          · exact hsub _ (hproc k y h0 (by omega) h2 h3)
        refine c73 hF hin hset (by omega) (by omega) (by omega) (fun hsk => ⟨rfl, _, _, _, rfl, ?_⟩) fun h0 hg F' w' K' c' ho hF' hin' hset' => ⟨rfl, _, _, _, rfl, ?_⟩
        · rw [J72_1, wrap_id (by omega) (by omega)]
          refine ⟨⟨F, S, l, hF, hsm, hin, hset, hwl, hall, hnext l (fun _ _ _ => rfl) (fun _ h => h) (fun h => (hwl.mem _).2 ⟨⟨h, hsr.2⟩, ?_⟩) (Nat.le_refl _), hlt, hs28, by omega, by omega⟩, by simp only []; omega⟩
          rcases hsk with h2 | h2
          · omega
          · exact h2
        · rw [J72_1, wrap_id (by omega) (by omega)]
          have hclo : Clo m hid (fun s => s ∈ ls) (m.step s28 x34) := by
            have := hwl.sub s28 (by rw [← hs28]; exact gi_mem (by omega) hlt)
            exact this.step hy h0
          refine ⟨⟨F', _, _, hF', fun j h1 h2 h3 h4 => by rw [ho j h1 h4]; exact hsm j h1 h2 h3 h4, hin', hset', hwl.add h0 hsr.2 hg hclo, fun s hs => List.mem_append_left _ (hall s hs), hnext _ (fun q h0 h1 => gi_left h0 h1) (fun _ h => List.mem_append_left _ h) (fun _ => by simp) (by simp), by simp; omega, by rw [gi_left h210 hlt]; exact hs28, by omega, by omega⟩, by simp only []; omega⟩
      · rw [J72_1, wrap_id (by omega) (by omega)]
        refine ⟨⟨F, S, l, hF, hsm, hin, hset, hwl, hall, fun q y h0 h1 h2 h3 => ?_, hlt, hs28, by omega, by omega⟩, by simp only []; omega⟩
        by_cases e : q = x21 ∧ y = x34
        · rw [e.2, hy] at h2; cases h2
        · exact hproc q y h0 (by omega) h2 h3
    · rw [J72_1, wrap_id (by omega) (by omega)]
      refine ⟨⟨F, S, l, hF, hsm, hin, hset, hwl, hall, fun q y h0 h1 h2 h3 => hproc q y h0 ?_ h2 h3, by omega, by omega⟩, by simp only []; omega⟩
      rcases ilt q x21 with h4 | h4
      · exact .inl h4
      · have := (hsh.step_let h3).2.2; exact .inr (by omega)
  -- sorted
  have hfin : S = cloL m hid fun s => s ∈ ls := hwl.done hsh (fun s h _ => hall s h) fun s hs y hy hst => by
    obtain ⟨q, h0, h1, rfl⟩ := mem_gi hs
    exact hproc q y h0 (by omega) hy hst
  have hlne : l ≠ [] := fun e => by
    obtain ⟨z, hz⟩ := List.exists_mem_of_ne_nil ls hne
    have := hall z hz; rw [e] at this; cases this
  refine c74 hF hset hlne (by omega) fun F1 w52 ho1 hF1 hset1 => ⟨rfl, rfl, ?_⟩
  have hsl : (sorted l).length = l.length := (sorted_perm l).length_eq
  have hse := hwl.sorted_eq
  rw [hfin] at hse
  have hsm1 : ∀ j, j ≠ 5 → j ≠ 6 → j ≠ 8 → j ≠ 11 + 2 * cnt → F1 j = F0 j := fun j h1 h2 h3 h4 => by rw [ho1 j h4]; exact hsm j h1 h2 h3 h4
  have hdrop : Fam w0 w52 (fun j => if j = 6 then none else F1 j) := hF1.drop fun j => by by_cases h : j = 6 <;> simp [h]
  refine ⟨fun x54 A55 n56 n57 => ⟨fun w58 => ∃ F, Fam w0 w58 F ∧ (∀ j, j ≠ 5 → j ≠ 6 → j ≠ 8 → j ≠ 11 + 2 * cnt → F j = F0 j) ∧ GSl F (11 + 2 * cnt) A22 l.length n24 (ints (sorted l)) ∧ GSl F 6 A55 n56 n57 (u8s (encB ((sorted l).take x54.toNat))) ∧ 0 ≤ x54 ∧ x54 ≤ l.length, fun _ => (l.length - x54).toNat⟩,
    ⟨_, hdrop, fun j h1 h2 h3 h4 => by simp only [h2, if_false]; exact hsm1 j h1 h2 h3 h4, hset1.same (by simp; omega), .nil (by simp), by omega, by omega⟩, ?_⟩
  clear hdrop hsm1 hset1 hF1 ho1 hF hsm hin hset F1
  rintro x54 A55 n56 n57 w58 ⟨F, hF, hsm, hset, hby, h540, h541⟩ n59 rfl
  have hn56 : n56 = 2 * (x54.toNat) := by rw [hby.len, u8s, List.length_map, encB_len, List.length_take]; omega
  refine condK_dec (fun hlt => ?_) fun hge2 => ?_
  · refine hset.get_int hF h540 (by omega) (K := fun x61 => NewK w58 (Obj.cells (Array.mk [Value.int IntKind.u8 (IntKind.u8.wrap (x61 / 256)), Value.int IntKind.u8 (IntKind.u8.wrap x61)]) 5) _) ?_
    have hgt := get_gi (l := sorted l) h540 (by omega)
    refine hF.mkRow 8 fun n62 F2 w63 ho2 hF2 ht => ?_
    refine (hby.keep ho2 (by decide)).append hF2 (ht.row hF2) rfl (fun v hv => by
      simp only [List.mem_cons, List.not_mem_nil, or_false] at hv
      rcases hv with rfl | rfl <;> rfl) (by simp only [List.length_cons, List.length_nil]; omega) fun F3 A64 c66 w67 ho3 hF3 hby3 => ?_
    rw [J72_1, wrap_id (by omega) (by omega)]
    refine ⟨⟨F3, hF3, fun j h1 h2 h3 h4 => by rw [ho3 j h2, ho2 j h3]; exact hsm j h1 h2 h3 h4, (hset.keep ho2 (by omega)).keep ho3 (by omega), ?_, by omega, by omega⟩, by simp only []; omega⟩
    rw [show (x54 + 1).toNat = x54.toNat + 1 by omega, List.take_add_one, hgt, encB_append]
    simpa [u8s, encB] using hby3
  · have htk : (sorted l).take x54.toNat = memL (cloL m hid fun s => s ∈ ls) := by rw [List.take_of_length_le (by omega)]; exact hse
    rw [htk] at hby
    refine ⟨encB (memL (cloL m hid fun s => s ∈ ls)), by rw [hby.len, u8s, List.length_map], hby.row hF, ?_⟩
    rw [show strOfNums (encB (memL (cloL m hid fun s => s ∈ ls))) = name (cloL m hid fun s => s ∈ ls) from rfl]
    have hinv1 := sm hsm
    refine hinv1.map.putS keyStr hF (a := name (cloL m hid fun s => s ∈ ls)) (v := .slice A22 l.length n24) fun F4 w71 ho4 hF4 hg4 => ?_
    rw [hse] at hset
    have hmlen : l.length = (memL (cloL m hid fun s => s ∈ ls)).length := by rw [← hse, hsl]
    rw [hmlen] at hset hg4
    refine hR F4 w71 hF4 (fun j hj => ?_) ⟨cnt + 1, _, ⟨hg4, fun nm v hv => ?_⟩, fun nm hnm => ?_⟩
    · have : j ≠ 4 ∧ j ≠ 5 ∧ j ≠ 6 ∧ j ≠ 8 ∧ j ≠ 11 + 2 * cnt := by unfold Ow at hj; omega
      rw [ho4 j this.1]; exact hsm j this.2.1 this.2.2.1 this.2.2.2.1 this.2.2.2.2
    · by_cases e : nm = name (cloL m hid fun s => s ∈ ls)
      · rw [if_pos e] at hv
        injection hv with hv
        exact ⟨_, A22, n24, cnt, cloL_len _ _ _, e, by omega, hv.symm, hset.keep ho4 (by omega)⟩
      · rw [if_neg e] at hv
        obtain ⟨S', A1, c1, q, g1, g2, g3, g4, g5⟩ := hinv1.sets nm v hv
        exact ⟨S', A1, c1, q, g1, g2, by omega, g4, g5.keep ho4 (by omega)⟩
    · by_cases e : nm = name (cloL m hid fun s => s ∈ ls)
      · rw [if_pos e]; rfl
      · rw [if_neg e]
        rcases List.mem_cons.1 hnm with h | h
        · exact absurd h e
        · exact hknown nm h
end Go.Proofs.Ytnkpjlhbojjneaa.VC

/- Hide: what a letter leads to, which sets accept; the machine of all sets that are found. -/
namespace Go.Proofs.Ytnkpjlhbojjneaa.VC
open Go Go.RowKit

theorem cloL_congr {m : Mach} {hid : List Bool} {P Q : Int → Prop} (h : ∀ t, 0 ≤ t → (P t ↔ Q t)) : cloL m hid P = cloL m hid Q := by
  have key : ∀ {P Q : Int → Prop}, (∀ t, 0 ≤ t → (P t ↔ Q t)) → ∀ t, Clo m hid P t → Clo m hid Q t := by
    rintro P Q h t ⟨s, v, h1, h2, h3, h4⟩
    refine ⟨s, v, (h s ?_).1 h1, h2, h3, h4⟩
    rcases ilt s 0 with hs | hs
    · have := Mach.run_neg hs (m := m) v; omega
    · exact hs
  unfold cloL
  refine List.map_congr_left fun i _ => ?_
  rw [decide_eq_decide]
  exact ⟨key h i, key (fun t ht => (h t ht).symm) i⟩

section
variable {w0 : World} {m : Mach} {A : Option Addr} {n c : Nat} {B : Option Addr} {k d : Nat}
theorem c79 {w : World} {bm : Nat} {q : Int} {R : Res} (hE : Ext w0 w) (hm : MachAt w0 m (.agg (Array.mk [.int .i64 m.letters, .int .i64 m.start, .slice A n c, .slice B k d]))) (hsh : m.Shaped) (h0 : 0 ≤ q) (h1 : q < m.next.length)
    (hR : R (.bool (m.ends q)) [[.int .i64 m.letters, .int .i64 m.start, .slice A n c, .slice B k d]] w) : CallsI Try.prog 79 [.int .i64 q, .pointer (some ⟨bm, 0, none⟩)] w [(bm, 25, [.int .i64 m.letters, .int .i64 m.start, .slice A n c, .slice B k d])] R := by
  obtain ⟨_, _, e, ⟨A', c', hs, e1, hA, hl, hx⟩, ⟨B', d', e2, hB⟩⟩ := hm
  simp only [Value.agg.injEq, Array.mk.injEq, List.cons.injEq, true_and, and_true] at e
  obtain ⟨e3, e4⟩ := e
  rw [e1] at e3; rw [e2] at e4
  injection e3 with e5 e6 e7; injection e4 with e8 e9 e10
  subst e5 e6 e7 e8 e9 e10
  have := hsh.fin
  exact s79 _ _ _ _ _ _ _ _ _ _ _ _ (rd_end hE hB h0 (by omega) (K := fun t => R (.bool t) _ w) hR)
theorem c102 {w : World} {bm : Nat} {D : Option Addr} {e : Nat} {ls : List Int} {R : Res} (hE : Ext w0 w) (hm : MachAt w0 m (.agg (Array.mk [.int .i64 m.letters, .int .i64 m.start, .slice A n c, .slice B k d]))) (hsh : m.Shaped) (hD : Row w D (ints ls)) (hls : ∀ s ∈ ls, 0 ≤ s ∧ s < m.next.length) (hlen : ls.length ≤ 1048576)
    (yes : ∀ x : Int, 0 ≤ x → ls.any m.ends = true → R (.int .i64 x) [[.int .i64 m.letters, .int .i64 m.start, .slice A n c, .slice B k d]] w) (no : ls.any m.ends = false → R (.int .i64 (-1)) [[.int .i64 m.letters, .int .i64 m.start, .slice A n c, .slice B k d]] w) :
    CallsI Try.prog 102 [.slice D ls.length e, .func (.func 79) #[] #[.pointer (some ⟨bm, 0, none⟩)]] w [(bm, 25, [.int .i64 m.letters, .int .i64 m.start, .slice A n c, .slice B k d])] R := by
  refine s102 _ _ _ _ _ _ _ _ _ _ _ _ _ _ ?_
  refine ⟨fun x2 => ⟨fun w3 => w3 = w ∧ (∀ i : Int, 0 ≤ i → i < x2 → m.ends (gi ls i) = false) ∧ 0 ≤ x2 ∧ x2 ≤ ls.length, fun _ => (ls.length - x2).toNat⟩, ⟨rfl, fun i h0 h1 => by omega, by omega, by omega⟩, ?_⟩
  rintro x2 w3 ⟨rfl, hI, h20, h21⟩ n4 rfl
  refine condK_dec (fun hlt => ?_) fun hge => ?_
  · refine rd_int Ext.rfl' hD h20 hlt (K := fun x6 => CallsI Try.prog 79 _ w3 _ _) ?_
    have hmem := gi_mem (l := ls) h20 hlt
    have hr := hls _ hmem
    refine c79 hE hm hsh hr.1 hr.2 ⟨_, rfl, rfl, ?_⟩
    refine condK_of (fun h => yes _ h20 (List.any_eq_true.2 ⟨_, hmem, h⟩)) fun h => ?_
    rw [wrap_id (by omega) (by omega)]
    refine ⟨⟨rfl, fun i h0 h1 => ?_, by omega, by omega⟩, by simp only []; omega⟩
    by_cases e : i = x2
    · subst e; exact h
    · exact hI i h0 (by omega)
  · refine no ?_
    rw [List.any_eq_false]
    intro s hs
    obtain ⟨i, h0, h1, rfl⟩ := mem_gi hs
    rw [hI i h0 (by omega)]; decide
theorem c78 {w : World} {bm : Nat} {D : Option Addr} {e : Nat} {ls : List Int} {R : Res} (hE : Ext w0 w) (hm : MachAt w0 m (.agg (Array.mk [.int .i64 m.letters, .int .i64 m.start, .slice A n c, .slice B k d]))) (hsh : m.Shaped) (hD : Row w D (ints ls)) (hls : ∀ s ∈ ls, 0 ≤ s ∧ s < m.next.length) (hlen : ls.length ≤ 1048576)
    (hR : R (.bool (ls.any m.ends)) [[.int .i64 m.letters, .int .i64 m.start, .slice A n c, .slice B k d]] w) :
    CallsI Try.prog 78 [.slice D ls.length e, .func (.func 79) #[] #[.pointer (some ⟨bm, 0, none⟩)]] w [(bm, 25, [.int .i64 m.letters, .int .i64 m.start, .slice A n c, .slice B k d])] R := by
  refine s78 _ _ _ _ _ _ _ _ _ _ _ _ _ _ ?_
  refine c102 hE hm hsh hD hls hlen (fun x h0 ha => ⟨x, rfl, rfl, ?_⟩) fun ha => ⟨-1, rfl, rfl, ?_⟩
  · rw [ha] at hR; rw [decide_eq_true (show x ≥ 0 from h0)]; exact hR
  · rw [ha] at hR; exact hR
theorem HK.get {w : World} {F : FamF} {bs N : Nat} {xs : List ByteArray} {nm : ByteArray} (h : HK N F bs xs) (hF : Fam w0 w F) (hn : nm ∈ xs) (hN : N ≤ 65536) :
    ∃ l S A c q, MapAt w KT.str bs l ∧ assoc KT.str l (.string nm) = some (.slice A (memL S).length c) ∧ S.length = N ∧ nm = name S ∧ setOf N nm = S ∧ GSl F (11 + 2 * q) A (memL S).length c (ints (memL S)) := by
  obtain ⟨cnt, f, hi, hk⟩ := h
  obtain ⟨l, h1, h2⟩ := hi.map.look hF
  obtain ⟨v, hv⟩ := Option.isSome_iff_exists.1 (hk nm hn)
  obtain ⟨S, A, c, q, h3, h4, _, rfl, h6⟩ := hi.sets nm v hv
  exact ⟨l, S, A, c, q, h1, by rw [h2, hv], h3, h4, by rw [h4]; exact setOf_name h3 hN, h6⟩
theorem c77 {w : World} {F : FamF} {bm bx bs : Nat} {nm : ByteArray} {xs : List ByteArray} {R : Res} (hF : Fam w0 w F) (hm : MachAt w0 m (.agg (Array.mk [.int .i64 m.letters, .int .i64 m.start, .slice A n c, .slice B k d]))) (hsh : m.Shaped) (hN : m.next.length ≤ 4000) (hH : HK m.next.length F bs xs) (hn : nm ∈ xs)
    (hR : R (.bool ((memL (setOf m.next.length nm)).any m.ends)) [[.map (some bs)], [.int .i64 m.letters, .int .i64 m.start, .slice A n c, .slice B k d]] w) :
    CallsI Try.prog 77 [.string nm, .pointer (some ⟨bx, 0, none⟩), .pointer (some ⟨bm, 0, none⟩)] w [(bx, 88, [.map (some bs)]), (bm, 25, [.int .i64 m.letters, .int .i64 m.start, .slice A n c, .slice B k d])] R := by
  obtain ⟨l, S, A2, c2, q, h1, h2, h3, h4, h5, h6⟩ := hH.get hF hn (by omega)
  refine s77 _ _ _ _ _ _ _ _ _ _ _ _ _ _ ⟨l, h1, A2, _, c2, by rw [h2]; rfl, ?_⟩
  rw [h5] at hR
  have := memL_len S
  refine c78 hF.base hm hsh (h6.row hF) (fun s hs => ?_) (by omega) ⟨_, rfl, rfl, hR⟩
  have := (mem_memL.1 hs).1
  omega

set_option maxHeartbeats 4000000 in
theorem c76 {w : World} {F0 : FamF} {bm bh bx bw bs : Nat} {hid : List Bool} {Kp : Option Addr} {k1 : Nat} {nm : ByteArray} {x : Int} {xs : List ByteArray} {R : Res}
    (hF0 : Fam w0 w F0) (hm : MachAt w0 m (.agg (Array.mk [.int .i64 m.letters, .int .i64 m.start, .slice A n c, .slice B k d]))) (hsh : m.Shaped) (hN : m.next.length ≤ 4000) (hL : m.letters ≤ 1048576) (hK : Row w0 Kp (bools hid)) (hhid : (hid.length : Int) = m.letters)
    (hH : HK m.next.length F0 bs xs) (hn : nm ∈ xs) (hx0 : 0 ≤ x) (hx1 : x < m.letters)
    (hnone : ∀ y, (hideAutoB m hid).next nm x = none → R (.tuple (Array.mk [.string y, .bool false])) [[.slice Kp hid.length k1], [.map (some bs)], [.int .i64 m.letters, .int .i64 m.start, .slice A n c, .slice B k d], [.func (.func 72) #[] #[.pointer (some ⟨bm, 0, none⟩), .pointer (some ⟨bh, 0, none⟩), .pointer (some ⟨bx, 0, none⟩)]]] w)
    (hnone2 : ∀ F' w' y, Fam w0 w' F' → (∀ j, Ow j → F' j = F0 j) → HK m.next.length F' bs xs → (hideAutoB m hid).next nm x = none → R (.tuple (Array.mk [.string y, .bool false])) [[.slice Kp hid.length k1], [.map (some bs)], [.int .i64 m.letters, .int .i64 m.start, .slice A n c, .slice B k d], [.func (.func 72) #[] #[.pointer (some ⟨bm, 0, none⟩), .pointer (some ⟨bh, 0, none⟩), .pointer (some ⟨bx, 0, none⟩)]]] w')
    (hsome : ∀ F' w' y, Fam w0 w' F' → (∀ j, Ow j → F' j = F0 j) → HK m.next.length F' bs (y :: xs) → (hideAutoB m hid).next nm x = some y → R (.tuple (Array.mk [.string y, .bool true])) [[.slice Kp hid.length k1], [.map (some bs)], [.int .i64 m.letters, .int .i64 m.start, .slice A n c, .slice B k d], [.func (.func 72) #[] #[.pointer (some ⟨bm, 0, none⟩), .pointer (some ⟨bh, 0, none⟩), .pointer (some ⟨bx, 0, none⟩)]]] w') :
    CallsI Try.prog 76 [.string nm, .int .i64 x, .pointer (some ⟨bh, 0, none⟩), .pointer (some ⟨bx, 0, none⟩), .pointer (some ⟨bm, 0, none⟩), .pointer (some ⟨bw, 0, none⟩)] w
      [(bh, 23, [.slice Kp hid.length k1]), (bx, 88, [.map (some bs)]), (bm, 25, [.int .i64 m.letters, .int .i64 m.start, .slice A n c, .slice B k d]), (bw, 92, [.func (.func 72) #[] #[.pointer (some ⟨bm, 0, none⟩), .pointer (some ⟨bh, 0, none⟩), .pointer (some ⟨bx, 0, none⟩)]])] R := by
  have hm0 := hm
  obtain ⟨_, _, e, ⟨A', c', hs, e1, hA, hl, hxx⟩, ⟨B', d', e2, hB⟩⟩ := hm
  simp only [Value.agg.injEq, Array.mk.injEq, List.cons.injEq, true_and, and_true] at e
  obtain ⟨e3, e4⟩ := e
  rw [e1] at e3; rw [e2] at e4
  injection e3 with e5 e6 e7; injection e4 with e8 e9 e10
  subst e5 e6 e7 e8 e9 e10
  clear e1 e2
  obtain ⟨l0, S, A4, c4, q, h1, h2, h3, h4, h5, h6⟩ := hH.get hF0 hn (by omega)
  have nx : (hideAutoB m hid).next nm x = (hideNext m hid S x).map name := by show (hideNext m hid (setOf m.next.length nm) x).map name = _; rw [h5]
  have hmem : ∀ s ∈ memL S, 0 ≤ s ∧ s < m.next.length := fun s hs => by have := (mem_memL.1 hs).1; omega
  have hml := memL_len S
  refine s76 _ _ _ _ _ _ _ _ _ _ _ _ _ _ _ _ _ _ _ _ ?_
  refine rd_bool hF0.base hK hx0 (by omega) (K := fun t2 => condK t2 _ _) ?_
  refine condK_of (fun hh => ?_) fun hh => ?_
  · rw [J76_1]; exact hnone _ (by rw [nx, hideNext_hid hh]; rfl)
  refine ⟨l0, h1, A4, _, c4, by rw [h2]; rfl, ?_⟩
  have hdrop : Fam w0 w (fun j => if j = 7 then none else F0 j) := hF0.drop fun j => by by_cases h : j = 7 <;> simp [h]
  refine ⟨fun x8 A9 n10 n11 => ⟨fun w12 => ∃ F, Fam w0 w12 F ∧ (∀ j, j ≠ 7 → F j = F0 j) ∧ GSl F 7 A9 n10 n11 (ints ((((memL S).take x8.toNat).map fun s => m.step s x).filter fun t => decide (0 ≤ t))) ∧ 0 ≤ x8 ∧ x8 ≤ (memL S).length, fun _ => ((memL S).length - x8).toNat⟩,
    ⟨_, hdrop, fun j h => by simp [h], .nil (by simp), by omega, by omega⟩, ?_⟩
  clear hdrop
  rintro x8 A9 n10 n11 w12 ⟨F, hF, hsm, hls, h80, h81⟩ n13 rfl
  have hn10 := hls.len
  rw [ints_len] at hn10
  have hflen : ((((memL S).take x8.toNat).map fun s => m.step s x).filter fun t => decide (0 ≤ t)).length ≤ (memL S).length := Nat.le_trans (List.length_filter_le _ _) (by rw [List.length_map, List.length_take]; omega)
  refine condK_dec (fun hlt => ?_) fun hge => ?_
  · refine (h6.same (hsm _ (by omega))).get_int hF h80 (by omega) (K := fun x15 => IxV A m.next.length 1 x15 _) ?_
    have hr := hmem _ (gi_mem (l := memL S) h80 (by omega))
    refine rd_step hF.base hA hl hxx hsh hr.1 hr.2 ⟨hx0, hx1⟩ (K := fun x21 => condK _ _ _) ?_
    have htk : (memL S).take (x8 + 1).toNat = (memL S).take x8.toNat ++ [gi (memL S) x8] := by
      rw [show (x8 + 1).toNat = x8.toNat + 1 by omega, List.take_add_one, get_gi h80 (by omega)]; rfl
    refine condK_dec (fun hp => ?_) fun hp => ?_
    · refine hls.push_int hF (by omega) fun F2 A24 c26 w27 ho2 hF2 hls2 => ?_
      rw [J76_2, wrap_id (by omega) (by omega)]
      refine ⟨⟨F2, hF2, fun j h => by rw [ho2 j h]; exact hsm j h, ?_, by omega, by omega⟩, by simp only []; omega⟩
      rw [htk, List.map_append, List.filter_append]
      simp only [List.map_cons, List.map_nil, List.filter_cons, List.filter_nil]
      rw [if_pos (decide_eq_true hp)]; exact hls2
    · rw [J76_2, wrap_id (by omega) (by omega)]
      refine ⟨⟨F, hF, hsm, ?_, by omega, by omega⟩, by simp only []; omega⟩
      rw [htk, List.map_append, List.filter_append]
      simp only [List.map_cons, List.map_nil, List.filter_cons, List.filter_nil]
      rw [if_neg (by simpa using hp), List.append_nil]; exact hls
  · have htk : (memL S).take x8.toNat = memL S := List.take_of_length_le (by omega)
    rw [htk] at hls hn10
    obtain ⟨tl, htl⟩ : ∃ tl, tl = (((memL S).map fun s => m.step s x).filter fun t => decide (0 ≤ t)) := ⟨_, rfl⟩
    rw [← htl] at hls hn10
    have hin : ∀ t : Int, t ∈ tl ↔ 0 ≤ t ∧ ∃ s, (0 ≤ s ∧ gb S s = true) ∧ m.step s x = t := fun t => by
      rw [htl, List.mem_filter, List.mem_map, decide_eq_true_eq]
      constructor
      · rintro ⟨⟨s, hs, rfl⟩, h⟩
        have := mem_memL.1 hs
        exact ⟨h, s, ⟨this.1.1, this.2⟩, rfl⟩
      · rintro ⟨h, s, ⟨h0, hg⟩, rfl⟩
        exact ⟨⟨s, mem_memL.2 ⟨⟨h0, gb_true hg h0⟩, hg⟩, rfl⟩, h⟩
    have hHF : HK m.next.length F bs xs := hH.same fun j h1 h2 => hsm j (by omega)
    refine condK_beq (fun h0 => ?_) fun hne => ?_
    · rw [J76_1]
      refine hnone2 F w12 _ hF (fun j hj => hsm j (by unfold Ow at hj; omega)) hHF ?_
      rw [nx, hideNext_none]; rfl
      rintro ⟨s, h1, h2⟩
      have := (hin _).2 ⟨h2, s, h1, rfl⟩
      have : tl = [] := List.length_eq_zero_iff.1 (by omega)
      simp [this] at *
    · have htne : tl ≠ [] := fun e => by rw [e] at hn10; simp at hn10; omega
      have htlen : tl.length ≤ (memL S).length := by rw [htl]; exact Nat.le_trans (List.length_filter_le _ _) (by simp)
      have hex : ∃ s, (0 ≤ s ∧ gb S s = true) ∧ 0 ≤ m.step s x := by
        obtain ⟨t, ht⟩ := List.exists_mem_of_ne_nil tl htne
        obtain ⟨h0, s, hs, rfl⟩ := (hin t).1 ht
        exact ⟨s, hs, h0⟩
      have hclo : cloL m hid (fun s => s ∈ tl) = cloL m hid (stepP m S x) := cloL_congr fun t ht => by
        rw [hin t]; exact ⟨fun h => h.2, fun h => ⟨ht, h⟩⟩
      have hnx : (hideAutoB m hid).next nm x = some (name (cloL m hid fun s => s ∈ tl)) := by rw [nx, hideNext_some hh hex, hclo]; rfl
      refine c72 hF hm0 hsh hN hL hK hhid hls (fun s hs => ?_) htne (by omega) hHF fun F' w' hF' hoo hH' => ⟨_, rfl, rfl, ?_⟩
      · obtain ⟨h0, s', _, rfl⟩ := (hin s).1 hs
        exact ⟨h0, (hsh.step_range _ _).2⟩
      · exact hsome F' w' _ hF' (fun j hj => by rw [hoo j hj]; exact hsm j (by unfold Ow at hj; omega)) hH' hnx
end

def strs (xs : List ByteArray) : List Value := xs.map Value.string
@[simp] theorem strs_len (xs : List ByteArray) : (strs xs).length = xs.length := List.length_map _
theorem c101 {w0 w : World} {F : FamF} {b : Nat} {A : Option Addr} {n c : Nat} {r : Option Nat} {xs : List ByteArray} {x : ByteArray} {R : Res} (hF : Fam w0 w F) (hl : GSl F 0 A n c (strs xs)) (hm : NumMap F 1 KT.str Value.string r xs) (hlim : xs.length ≤ 1048576)
    (old : ∀ k : Nat, xs[k]? = some x → R (.int .i64 k) [[.slice A n c, .map r]] w)
    (new : x ∉ xs → ∀ F' w' A' c' r', (∀ j, j ≠ 0 → j ≠ 1 → F' j = F j) → Fam w0 w' F' → GSl F' 0 A' (n + 1) c' (strs (xs ++ [x])) → NumMap F' 1 KT.str Value.string r' (xs ++ [x]) → R (.int .i64 xs.length) [[.slice A' (n + 1) c', .map r']] w') :
    CallsI Try.prog 101 [.pointer (some ⟨b, 0, none⟩), .string x] w [(b, 125, [.slice A n c, .map r])] R := by
  have hn : n = xs.length := by rw [hl.len, strs_len]
  subst hn
  have hap : strs (xs ++ [x]) = strs xs ++ [.string x] := List.map_append ..
  rw [hap] at new
  obtain ⟨l, h1, h2⟩ := hm.look hF x
  refine s101 _ _ _ _ _ _ _ _ ⟨l, h1, ?_⟩
  rcases h2 with ⟨k, h3, h4⟩ | ⟨h3, h4⟩
  · rw [h3]; exact ⟨k, rfl, old k h4⟩
  · rw [h3]
    refine ⟨0, rfl, ?_⟩
    show condK _ _ _
    rcases hm with ⟨rfl, rfl⟩ | ⟨b', f, rfl, h5, h6⟩
    · refine GM.make hF 1 KT.str Value.string fun b1 F1 w1 ho1 hF1 hg1 => ?_
      refine hg1.putS keyStr hF1 fun F2 w2 ho2 hF2 hg2 => ?_
      refine ((hl.keep ho1 (by decide)).keep ho2 (by decide)).push (bytes := 16) hF2 rfl (by omega) fun F3 A3 c3 w3 ho3 hF3 hl3 => ?_
      exact new h4 F3 w3 A3 c3 (some b1) (fun j a b => by rw [ho3 j a, ho2 j b, ho1 j b]) hF3 hl3 (.inr ⟨b1, _, rfl, hg2.same (ho3 1 (by decide)), (show Num (fun _ : ByteArray => none) [] from fun y => .inr ⟨rfl, by simp⟩).push h4⟩)
    · refine h5.putS keyStr hF fun F2 w2 ho2 hF2 hg2 => ?_
      refine (hl.keep ho2 (by decide)).push (bytes := 16) hF2 rfl (by omega) fun F3 A3 c3 w3 ho3 hF3 hl3 => ?_
      exact new h4 F3 w3 A3 c3 (some b') (fun j a b => by rw [ho3 j a, ho2 j b]) hF3 hl3 (.inr ⟨b', _, rfl, hg2.same (ho3 1 (by decide)), h6.push h4⟩)
end Go.Proofs.Ytnkpjlhbojjneaa.VC

/- Hide of the program. -/
namespace Go.Proofs.Ytnkpjlhbojjneaa.VC
open Go Go.RowKit

def ge (t : Nat) : Nat := 10 + 2 * t
theorem ge_ne {t j : Nat} (h : j < 10) : ge t ≠ j := by unfold ge; omega
theorem ge_ow (t : Nat) : Ow (ge t) := by unfold Ow ge; omega
theorem ow_small {j : Nat} (h : j < 4) : Ow j := .inl h
theorem Fam.map {w0 w : World} {F : FamF} (h : Fam w0 w F) {e : Nat → Nat} (he : ∀ i j, e i = e j → i = j) : Fam w0 w (fun j => F (e j)) := ⟨h.base, fun _ b c hi => h.own _ b c hi, fun _ _ _ _ _ hi hj => he _ _ (h.inj _ _ _ _ _ hi hj)⟩
def e0 (j : Nat) : Nat := if j < 10 then j else 10 + 2 * (j - 10)
theorem e0_inj (i j : Nat) (h : e0 i = e0 j) : i = j := by unfold e0 at h; split at h <;> split at h <;> omega
theorem MachNew.of_ge {w0 w : World} {F : FamF} (hF : Fam w0 w F) {m : Mach} {A : Option Addr} {n c : Nat} {B : Option Addr} {k d : Nat} (h1 : GII F 2 ge A n c m.next) (h2 : GSl F 3 B k d (bools m.fin)) :
    MachNew w0 w m (.agg (Array.mk [.int .i64 m.letters, .int .i64 m.start, .slice A n c, .slice B k d])) := by
  refine ⟨_, A, n, c, B, k, d, rfl, hF.map e0_inj, ?_, ?_⟩
  · obtain ⟨hs, a1, a2, a3⟩ := h1
    refine ⟨hs, a1, a2, fun t h xs ht hx => ?_⟩
    obtain ⟨A', n', c', e, a4⟩ := a3 t h xs ht hx
    refine ⟨A', n', c', e, ?_⟩
    have : e0 (g10 t) = ge t := by unfold e0 g10 ge; rw [if_neg (by omega)]; omega
    unfold GSl at a4 ⊢
    simp only [this]; exact a4
  · exact h2

section
variable {w0 : World} {m : Mach} {A : Option Addr} {n c : Nat} {B : Option Addr} {k d : Nat}
def I12S (X : Auto ByteArray) (first : ByteArray) (most : Int) (w0 : World) (N bs : Nat) : Int → Int → Int → Option Addr → Nat → Nat → Option Addr → Nat → Nat → Option Addr → Nat → Nat → Option Nat → Int → Int → Option Addr → Nat → Nat → Option Addr → Nat → Nat → Lp :=
  fun x13 _ _ _ _ _ _ _ _ A22 n23 n24 A25 x26 x27 A28 n29 n30 A31 n32 n33 => ⟨fun w' => ∃ F xs rows fins, Fam w0 w' F ∧ GSl F 0 A22 n23 n24 (strs xs) ∧ NumMap F 1 KT.str Value.string A25 xs ∧ GII F 2 ge A28 n29 n30 rows ∧ GSl F 3 A31 n32 n33 (bools fins) ∧ HK N F bs xs ∧ x26 = X.letters ∧ x27 = 0 ∧ Part X first xs rows ∧
    (∀ row ∈ rows, (row.length : Int) = X.letters) ∧ fins = (xs.take rows.length).map X.fin ∧ x13 = rows.length ∧ rows.length ≤ xs.length ∧ (xs.length : Int) ≤ most, fun _ => (most - x13).toNat⟩
def I38S (X : Auto ByteArray) (first : ByteArray) (most : Int) (w0 : World) (N bs : Nat) (rows : List (List Int)) (fins : List Bool) (n36 : Nat) (A28 : Option Addr) (n29 n30 : Nat) (A31 : Option Addr) (n32 n33 : Nat) : Int → Int → Int → Option Addr → Nat → Nat → Option Addr → Nat → Nat → Option Addr → Nat → Nat → Option Nat → Lp :=
  fun x39 _ _ _ _ _ _ _ _ A48 n49 n50 A51 => ⟨fun w' => ∃ F xs cur, Fam w0 w' F ∧ GSl F 0 A48 n49 n50 (strs xs) ∧ NumMap F 1 KT.str Value.string A51 xs ∧ GII F 2 ge A28 n29 n30 rows ∧ GSl F 3 A31 n32 n33 (bools fins) ∧ HK N F bs xs ∧
    GSl F (ge rows.length) (some ⟨n36, 0, none⟩) X.letters.toNat X.letters.toNat (ints (cur ++ List.replicate (X.letters - x39).toNat 0)) ∧ (cur.length : Int) = x39 ∧ Part X first xs (rows ++ [cur]) ∧ fins = (xs.take rows.length).map X.fin ∧ rows.length < xs.length ∧ (xs.length : Int) ≤ most ∧ 0 ≤ x39 ∧ x39 ≤ X.letters, fun _ => (X.letters - x39).toNat⟩

theorem get_str {w : World} {F : FamF} {A : Option Addr} {n c : Nat} {xs : List ByteArray} (h : GSl F 0 A n c (strs xs)) (hF : Fam w0 w F) {i : Nat} {x : ByteArray} (hx : xs[i]? = some x) {K : ByteArray → Prop} (hk : K x) :
    IxV A n 1 (i : Int) fun a => ∃ s, w.cell? a = some (.string s) ∧ K s := by
  have hlt := (List.getElem?_eq_some_iff.1 hx).1
  refine h.ix hF (by omega) (by rw [strs_len]; omega) fun b rest v _ _ hv hc => ?_
  simp only [strs, List.getElem?_map, Int.toNat_natCast, hx, Option.map_some, Option.some.injEq] at hv
  subst hv; exact ⟨_, hc, hk⟩

set_option maxHeartbeats 4000000 in
theorem c75 {w : World} {F0 : FamF} {bm bh bx bw bs : Nat} {hid : List Bool} {Kp : Option Addr} {k1 : Nat} {most : Int} {first : ByteArray} {R : Res}
    (hF0 : Fam w0 w F0) (hm : MachAt w0 m (.agg (Array.mk [.int .i64 m.letters, .int .i64 m.start, .slice A n c, .slice B k d]))) (hsh : m.Shaped) (hN : m.next.length ≤ 4000) (hL : m.letters ≤ 1048576) (hK : Row w0 Kp (bools hid)) (hhid : (hid.length : Int) = m.letters)
    (hH : HK m.next.length F0 bs [first]) (hm0 : 1 ≤ most) (hm1 : most ≤ 1000000)
    (hok : ∀ w' mm (A' : Option Addr) (n' c' : Nat) (B' : Option Addr) (k' d' : Nat) ys, MachNew w0 w' mm (.agg (Array.mk [.int .i64 m.letters, .int .i64 0, .slice A' n' c', .slice B' k' d'])) → Made (hideAutoB m hid) first mm ys → (ys.length : Int) ≤ most →
      R (.tuple (Array.mk [.agg (Array.mk [.int .i64 m.letters, .int .i64 0, .slice A' n' c', .slice B' k' d']), .bool true])) [[.slice Kp hid.length k1], [.map (some bs)], [.int .i64 m.letters, .int .i64 m.start, .slice A n c, .slice B k d], [.func (.func 72) #[] #[.pointer (some ⟨bm, 0, none⟩), .pointer (some ⟨bh, 0, none⟩), .pointer (some ⟨bx, 0, none⟩)]]] w')
    (hfail : ∀ w' (ys : List ByteArray), Ext w0 w' → ys.Nodup → (∀ y ∈ ys, (hideAutoB m hid).From first y) → most < ys.length →
      R (.tuple (Array.mk [.agg (Array.mk [.int .i64 0, .int .i64 0, .slice none 0 0, .slice none 0 0]), .bool false])) [[.slice Kp hid.length k1], [.map (some bs)], [.int .i64 m.letters, .int .i64 m.start, .slice A n c, .slice B k d], [.func (.func 72) #[] #[.pointer (some ⟨bm, 0, none⟩), .pointer (some ⟨bh, 0, none⟩), .pointer (some ⟨bx, 0, none⟩)]]] w') :
    CallsI Try.prog 75 [.int .i64 m.letters, .int .i64 most, .string first, .func (.func 76) #[] #[.pointer (some ⟨bh, 0, none⟩), .pointer (some ⟨bx, 0, none⟩), .pointer (some ⟨bm, 0, none⟩), .pointer (some ⟨bw, 0, none⟩)], .func (.func 77) #[] #[.pointer (some ⟨bx, 0, none⟩), .pointer (some ⟨bm, 0, none⟩)]] w
      [(bh, 23, [.slice Kp hid.length k1]), (bx, 88, [.map (some bs)]), (bm, 25, [.int .i64 m.letters, .int .i64 m.start, .slice A n c, .slice B k d]), (bw, 92, [.func (.func 72) #[] #[.pointer (some ⟨bm, 0, none⟩), .pointer (some ⟨bh, 0, none⟩), .pointer (some ⟨bx, 0, none⟩)]])] R := by
  have hL0 := hsh.letters
  obtain ⟨X, hX⟩ : ∃ X, X = hideAutoB m hid := ⟨_, rfl⟩
  have hXl : X.letters = m.letters := by rw [hX]; rfl
  have hXf : ∀ nm, X.fin nm = (memL (setOf m.next.length nm)).any m.ends := fun nm => by rw [hX]; rfl
  rw [← hX] at hok hfail
  rw [← hXl] at hok hL0
  have hLX : X.letters ≤ 1048576 := by rw [hXl]; exact hL
  refine s75 _ _ _ _ _ _ _ _ _ _ _ _ _ _ _ _ _ _ _ _ _ fun _ n3 => ?_
  have hdrop : Fam w0 w (fun j => if j < 4 then none else F0 j) := hF0.drop fun j => by by_cases h : j < 4 <;> simp [h]
  have hHd : HK m.next.length (fun j => if j < 4 then none else F0 j) bs [first] := hH.same fun j _ h => by rw [if_neg (by omega)]
  refine c101 (x := first) (xs := []) hdrop (.nil rfl) (.inl ⟨rfl, rfl⟩) (by simp) (fun k h => by simp at h) fun _ F w5 A7 c9 r10 ho hF hls hmp => ?_
  refine ⟨0, rfl, A7, 1, c9, r10, rfl, fun _ => ?_⟩
  rw [← hXl]
  refine ⟨I12S X first most w0 m.next.length bs, ⟨F, [first], [], [], hF, hls, hmp, GII.nil (by rw [ho 2 (by decide) (by decide)]; simp), .nil (by rw [ho 3 (by decide) (by decide)]; simp), hHd.same fun j h1 h2 => ho j (fun e => h1 (e ▸ ow_small (by decide))) (fun e => h1 (e ▸ ow_small (by decide))), rfl, rfl, .init X first, by simp, rfl, rfl, by simp, by simpa using hm0⟩, ?_⟩
  clear hF hls hmp ho hdrop hHd
  intro x13 x14 x15 A16 n17 n18 A19 n20 n21 A22 n23 n24 A25 x26 x27 A28 n29 n30 A31 n32 n33 w34 hI n35 hk
  obtain ⟨F, xs, rows, fins, hF, hls, hmp, hrows, hfins, hHF, rfl, rfl, hpart, hlen, hfe, rfl, hle, hmost⟩ := hI
  subst hk
  have n23' : n23 = xs.length := by rw [hls.len, strs_len]
  refine condK_dec (fun hlt => ?_) fun hge => ?_
  · refine ⟨rfl, hL0, by omega, by omega, ?_⟩
    refine hF.mkRow (ge rows.length) fun n36 F1 w37 ho1 hF1 hr1 => ?_
    rw [List.length_replicate] at hr1
    refine ⟨I38S X first most w0 m.next.length bs rows fins n36 A28 n29 n30 A31 n32 n33, ⟨F1, xs, [], hF1, hls.keep ho1 (Ne.symm (ge_ne (by decide))), hmp.same (ho1 1 (Ne.symm (ge_ne (by decide)))), hrows.keep ho1 (Ne.symm (ge_ne (by decide))) (fun t ht => by unfold ge; omega), hfins.keep ho1 (Ne.symm (ge_ne (by decide))), hHF.same fun j h1 _ => ho1 j fun e => h1 (e ▸ ge_ow _),
      by rw [List.nil_append, ints_rep, Int.sub_zero]; exact hr1, rfl, Part.empty.2 hpart, hfe, by omega, hmost, by omega, hL0⟩, ?_⟩
    clear hF hls hmp hrows hfins hpart hF1 hr1 ho1 hHF F1 hfe hmost n23' hlt
    clear hle
    intro x39 x40 x41 A42 n43 n44 A45 n46 n47 A48 n49 n50 A51 w52 hI n53 hk
    obtain ⟨F, xs, cur, hF, hls, hmp, hrows, hfins, hHF, hrow, hcur, hpart, hfe, hlt, hmost, h390, h391⟩ := hI
    subst hk
    have n49' : n49 = xs.length := by rw [hls.len, strs_len]
    have n29' : n29 = rows.length := hrows.len
    have hx := List.getElem?_eq_getElem (l := xs) (i := rows.length) hlt
    obtain ⟨nm, hnm⟩ : ∃ nm, nm = xs[rows.length] := ⟨_, rfl⟩
    rw [← hnm] at hx
    have hmemx := List.mem_of_getElem? hx
    have hfrom := hpart.from_ _ hmemx
    have g0' : (0 : Nat) ≠ ge rows.length := Ne.symm (ge_ne (by decide))
    have g1' : (1 : Nat) ≠ ge rows.length := Ne.symm (ge_ne (by decide))
    have g2' : (2 : Nat) ≠ ge rows.length := Ne.symm (ge_ne (by decide))
    have g3' : (3 : Nat) ≠ ge rows.length := Ne.symm (ge_ne (by decide))
    have gt' : ∀ t, t < rows.length → ge t ≠ ge rows.length := fun t ht => by unfold ge; omega
    refine condK_dec (fun hltx => ?_) fun hgex => ?_
    · refine hrow.set_int hF h390 (by simp; omega) fun F1 w55 ho1 hF1 hrow1 => ?_
      rw [show x39.toNat = cur.length by omega, set_row (by omega)] at hrow1
      have hls1 := hls.keep ho1 g0'
      have hmp1 := hmp.same (ho1 1 g1')
      have hrows1 := hrows.keep ho1 g2' gt'
      have hfins1 := hfins.keep ho1 g3'
      have hHF1 : HK m.next.length F1 bs xs := hHF.same fun j h1 _ => ho1 j fun e => h1 (e ▸ ge_ow _)
      refine get_str hls1 hF1 hx (K := fun s57 => CallsI Try.prog 76 _ w55 _ _) ?_
      have next : ∀ (A48 : Option Addr) (n49 n50 : Nat) (A51 : Option Nat) (w60 : World) (F : FamF) (xs' : List ByteArray) (v : Int), Fam w0 w60 F → GSl F 0 A48 n49 n50 (strs xs') → NumMap F 1 KT.str Value.string A51 xs' → GII F 2 ge A28 n29 n30 rows → GSl F 3 A31 n32 n33 (bools fins) → HK m.next.length F bs xs' →
          GSl F (ge rows.length) (some ⟨n36, 0, none⟩) X.letters.toNat X.letters.toNat (ints (cur ++ [v] ++ List.replicate ((X.letters - x39).toNat - 1) 0)) → Part X first xs' (rows ++ [cur ++ [v]]) → fins = (xs'.take rows.length).map X.fin → rows.length < xs'.length →
          J75_5 n49 most R Kp hid.length k1 (some bs) m.letters m.start A n c B k d bm bh bx w60 (I38S X first most w0 m.next.length bs rows fins n36 A28 n29 n30 A31 n32 n33) x39 x40 x41 A42 n43 n44 A45 n46 n47 A48 n50 A51 (X.letters - x39).toNat := by
        intro A48 n49 n50 A51 w60 F xs' v hF hls hmp hrows hfins hHF hrow hpart hfe hlt
        have n49' : n49 = xs'.length := by rw [hls.len, strs_len]
        refine condK_dec (fun hgt => hfail w60 xs' hF.base hpart.nodup hpart.from_ (by omega)) fun hng => ?_
        rw [wrap_id (by omega) (by omega)]
        refine ⟨⟨F, xs', cur ++ [v], hF, hls, hmp, hrows, hfins, hHF, ?_, by simp; omega, hpart, hfe, hlt, by omega, by omega, by omega⟩, by simp only [I38S]; omega⟩
        rw [show (X.letters - (x39 + 1)).toNat = (X.letters - x39).toNat - 1 by omega]; exact hrow
      rw [hXl]
      refine c76 hF1 hm hsh hN hL hK hhid hHF1 hmemx h390 (by omega) (fun y hnone => ?_) (fun F2 w2 y hF2 hoo hH2 hnone => ?_) fun F2 w2 y hF2 hoo hH2 hsome => ?_
      · rw [← hX] at hnone
        refine ⟨y, false, rfl, rfl, ?_⟩
        exact next _ _ _ _ _ F1 xs (-1) hF1 hls1 hmp1 hrows1 hfins1 hHF1 hrow1 (hpart.none hx (by rw [hcur]; exact hnone)) hfe hlt
      · rw [← hX] at hnone
        refine ⟨y, false, rfl, rfl, ?_⟩
        exact next _ _ _ _ _ F2 xs (-1) hF2 (hls1.same (hoo 0 (ow_small (by decide)))) (hmp1.same (hoo 1 (ow_small (by decide)))) (hrows1.same (hoo 2 (ow_small (by decide))) fun t _ => hoo _ (ge_ow t)) (hfins1.same (hoo 3 (ow_small (by decide)))) hH2 (hrow1.same (hoo _ (ge_ow _))) (hpart.none hx (by rw [hcur]; exact hnone)) hfe hlt
      · rw [← hX] at hsome
        have hls2 := hls1.same (hoo 0 (ow_small (by decide)))
        have hmp2 := hmp1.same (hoo 1 (ow_small (by decide)))
        have hrows2 := hrows1.same (F' := F2) (hoo 2 (ow_small (by decide))) fun t _ => hoo _ (ge_ow t)
        have hfins2 := hfins1.same (hoo 3 (ow_small (by decide)))
        have hrow2 := hrow1.same (hoo _ (ge_ow _))
        refine ⟨y, true, rfl, rfl, ?_⟩
        refine c101 hF2 hls2 hmp2 (by omega) (fun q hq => ?_) fun hy F3 w3 A3 c3 r3 ho3 hF3 hls3 hmp3 => ?_
        · refine ⟨q, rfl, _, _, _, _, rfl, ?_⟩
          have hrow2m : GSl F2 (ge rows.length) (some ⟨n36, 0, none⟩) m.letters.toNat m.letters.toNat (ints (cur ++ [-1] ++ List.replicate ((X.letters - x39).toNat - 1) 0)) := by rw [← hXl]; exact hrow2
          refine hrow2m.set_int hF2 h390 (by simp; omega) fun F4 w72 ho4 hF4 hrow4 => ?_
          rw [← hXl, show x39.toNat = cur.length by omega, set_row2] at hrow4
          exact next _ _ _ _ _ F4 xs q hF4 (hls2.keep ho4 g0') (hmp2.same (ho4 1 g1')) (hrows2.keep ho4 g2' gt') (hfins2.keep ho4 g3') ((hH2.sub fun z hz => List.mem_cons_of_mem _ hz).same fun j h1 _ => ho4 j fun e => h1 (e ▸ ge_ow _)) hrow4 (hpart.old hx (by rw [hcur]; exact hsome) hq) hfe hlt
        · refine ⟨xs.length, rfl, _, _, _, _, rfl, ?_⟩
          have e2 : ∀ j, 2 ≤ j → F3 j = F2 j := fun j hj => ho3 j (by omega) (by omega)
          have hrow3 := hrow2.same (e2 (ge rows.length) (by unfold ge; omega))
          have hrow3m : GSl F3 (ge rows.length) (some ⟨n36, 0, none⟩) m.letters.toNat m.letters.toNat (ints (cur ++ [-1] ++ List.replicate ((X.letters - x39).toNat - 1) 0)) := by rw [← hXl]; exact hrow3
          refine hrow3m.set_int hF3 h390 (by simp; omega) fun F4 w72 ho4 hF4 hrow4 => ?_
          rw [← hXl, show x39.toNat = cur.length by omega, set_row2] at hrow4
          have hH4 : HK m.next.length F4 bs (xs ++ [y]) := ((hH2.sub fun z hz => by
            rcases List.mem_append.1 hz with hz | hz
            · exact List.mem_cons_of_mem _ hz
            · rw [List.mem_singleton] at hz; subst hz; exact List.mem_cons_self ..).same fun j h1 h2 => e2 j (by omega)).same fun j h1 _ => ho4 j fun e => h1 (e ▸ ge_ow _)
          exact next _ _ _ _ _ F4 (xs ++ [y]) xs.length hF4 (hls3.keep ho4 g0') (hmp3.same (ho4 1 g1')) ((hrows2.same (e2 2 (by decide)) fun t _ => e2 _ (by unfold ge; omega)).keep ho4 g2' gt') ((hfins2.same (e2 3 (by decide))).keep ho4 g3') hH4 hrow4
            (hpart.fresh hx (by rw [hcur]; exact hsome) (by omega) hy) (by rw [List.take_append_of_le_length (by omega)]; exact hfe) (by simp; omega)
    · have hcl : (X.letters - x39).toNat = 0 := by omega
      rw [hcl, List.replicate_zero, List.append_nil] at hrow
      refine hrows.pushRow hrow hF (fun t => ge_ne (by decide)) (by omega) fun F1 A75 c77' w78 ho1 hF1 hrows1 => ?_
      have hls1 := hls.keep ho1 (by decide)
      have hHF1 : HK m.next.length F1 bs xs := hHF.same fun j h1 _ => ho1 j fun e => h1 (e ▸ ow_small (by decide))
      refine get_str hls1 hF1 hx (K := fun s80 => CallsI Try.prog 77 _ w78 _ _) ?_
      rw [hXl]
      refine c77 hF1 hm hsh hN hHF1 hmemx ?_
      refine ⟨_, rfl, rfl, ?_⟩
      rw [← hXf nm]
      have n32' : n32 = fins.length := by rw [hfins.len, bools_len]
      have hfl : fins.length = rows.length := by rw [hfe, List.length_map, List.length_take]; omega
      refine (hfins.keep ho1 (by decide)).push_bool hF1 (by omega) fun F2 A87 c89 w90 ho2 hF2 hfins2 => ?_
      rw [wrap_id (by omega) (by omega)]
      refine ⟨⟨F2, xs, rows ++ [cur], _, hF2, hls1.keep ho2 (by decide), (hmp.same (ho1 1 (by decide))).same (ho2 1 (by decide)), hrows1.keep ho2 (by decide) (fun t _ => ge_ne (by decide)), hfins2, hHF1.same fun j h1 _ => ho2 j fun e => h1 (e ▸ ow_small (by decide)), hXl.symm, rfl, hpart, fun row hr => ?_, ?_, by simp, by simp; omega, hmost⟩, by simp only [I12S]; omega⟩
      · rcases List.mem_append.1 hr with hr | hr
        · exact hlen row hr
        · rw [List.mem_singleton] at hr; subst hr; omega
      · rw [List.length_append, List.length_singleton, List.take_add_one, hx, hfe]; simp
  · have hl2 : rows.length = xs.length := by omega
    have hnew := MachNew.of_ge hF (m := ⟨X.letters, 0, rows, fins⟩) hrows hfins
    exact hok w34 ⟨X.letters, 0, rows, fins⟩ _ _ _ _ _ _ xs hnew ⟨hpart, rfl, hL0, rfl, hl2, hlen, by rw [hfe, hl2, List.take_length]⟩ hmost
end

/-- what is known of a machine that Hide gives -/
def HideOk (m : Mach) (hid : List Bool) (mm : Mach) : Prop := ∃ x, IsLeast m x ∧ x.next.length ≤ 4000 ∧ IsHide x hid mm ∧ (x.start < 0 ∨ ∃ m0 ys, Made (hideAutoB x hid) (name (hfirst x hid)) m0 ys ∧ ys.length ≤ 4000)
set_option maxHeartbeats 2000000 in
theorem c40 {w : World} {m : Mach} {v kv : Value} {hid : List Bool} {R : Res} (hm : MachAt w m v) (hlim : m.Lim) (hk : SlB w kv hid)
    (bad : ¬ (m.Valid ∧ (hid.length : Int) = m.letters) → R (.tuple (Array.mk [zeroV, .int .i64 1])) [] w)
    (full : m.Valid → (hid.length : Int) = m.letters → ∀ (w' : World) (x : Mach) (ys : List ByteArray), Ext w w' → IsLeast m x → x.next.length ≤ 4000 → ys.Nodup → (∀ y ∈ ys, (hideAutoB x hid).From (name (hfirst x hid)) y) → 4000 < ys.length → 0 ≤ x.start → R (.tuple (Array.mk [zeroV, .int .i64 5])) [] w')
    (ok : m.Valid → (hid.length : Int) = m.letters → ∀ w' mm v', MachNew w w' mm v' → HideOk m hid mm → mm.next.length ≤ 4000 → R (.tuple (Array.mk [v', .int .i64 0])) [] w') : CallsI Try.prog 40 [v, kv] w [] R := by
  have hm0 := hm
  obtain ⟨A, n, c, B, k, d, rfl⟩ := hm.form
  obtain ⟨Kp, k1, rfl, hK⟩ := hk
  refine s40 _ _ _ _ _ _ _ _ _ _ _ _ _ fun n1 n2 _ => c18 hm0 hlim ⟨_, rfl, rfl, ?_⟩
  refine condK_bne (fun h => bad fun e => h (Mach.code_ok.2 e.1)) fun h => ?_
  have hv := Mach.code_ok.1 h
  refine condK_bne (fun h => bad fun e => h e.2) fun hhid => ?_
  have full := full hv hhid
  have ok := ok hv hhid
  have hmL := hv.letters; have hmn := hv.next
  refine c54 hm0 hv.shaped (by have := hv.next; omega) (by omega) fun w10 x vx hnx hlx hxn => ?_
  have hatx := hnx.at_
  have hE10 := hnx.below
  have sx := hlx.shaped
  have hxl : x.letters = m.letters := hlx.letters
  have hsr := sx.start_range
  have hnx0 := hnx
  obtain ⟨A13, n14, n15, A16, n17, n18, rfl⟩ := hatx.form
  refine ⟨_, _, _, _, _, _, _, _, rfl, rfl, ?_⟩
  refine condK_dec (fun hneg => ok w10 x _ hnx0 ⟨x, hlx, by omega, IsHide.none hlx.canon hneg, .inl hneg⟩ (by omega)) fun hpos => ?_
  have hhx : (hid.length : Int) = x.letters := by omega
  have hK10 := hE10.row hK
  refine GM.make (Fam.empty w10) 4 KT.str Value.string fun n19 F w20 ho hF hg n21 n22 => ?_
  have hfirst_eq : cloL x hid (fun s => s ∈ [x.start]) = hfirst x hid := cloL_congr fun t _ => by rw [List.mem_singleton]
  have h6 : ∀ (w31 : World) (mm : Mach) (A' : Option Addr) (n' c' : Nat) (B' : Option Addr) (k' d' : Nat) ys, MachNew w10 w31 mm (.agg (Array.mk [.int .i64 x.letters, .int .i64 0, .slice A' n' c', .slice B' k' d'])) → Made (hideAutoB x hid) (name (hfirst x hid)) mm ys → (ys.length : Int) ≤ 4000 →
      J40_6 x.letters 0 A' n' c' B' k' d' w31 R := by
    intro w31 mm A' n' c' B' k' d' ys hnew hmade hle
    have hat := hnew.at_
    have hml : mm.letters = x.letters := hmade.letters
    have hlen := hmade.len
    rw [J40_6]
    refine c54 hat hmade.shaped (by omega) (by omega) fun w44 mz vz hmz hlz hnz => ?_
    have hatz := hmz.at_
    have hz0 := hmz
    obtain ⟨A47, n48, n49, A50, n51, n52, rfl⟩ := hatz.form
    refine ⟨_, _, _, _, _, _, _, _, rfl, rfl, ?_⟩
    exact ok w44 mz _ (hz0.after (hE10.trans' hnew.below)) ⟨x, hlx, by omega, hmade.hideB sx (by omega) hlz, .inr ⟨mm, ys, hmade, by omega⟩⟩ (by omega)
  have hmade : ∀ (w27 : World) (F' : FamF) (R' : Res), Fam w10 w27 F' → HK x.next.length F' n19 [name (hfirst x hid)] →
      (∀ w31 mm (A' : Option Addr) (n' c' : Nat) (B' : Option Addr) (k' d' : Nat) ys, MachNew w10 w31 mm (.agg (Array.mk [.int .i64 x.letters, .int .i64 0, .slice A' n' c', .slice B' k' d'])) → Made (hideAutoB x hid) (name (hfirst x hid)) mm ys → (ys.length : Int) ≤ 4000 → R' (.tuple (Array.mk [.agg (Array.mk [.int .i64 x.letters, .int .i64 0, .slice A' n' c', .slice B' k' d']), .bool true])) [[.slice Kp hid.length k1], [.map (some n19)], [.int .i64 x.letters, .int .i64 x.start, .slice A13 n14 n15, .slice A16 n17 n18], [.func (.func 72) #[] #[.pointer (some ⟨n1, 0, none⟩), .pointer (some ⟨n2, 0, none⟩), .pointer (some ⟨n21, 0, none⟩)]]] w31) →
      (∀ w31, Ext w10 w31 → R (.tuple (Array.mk [zeroV, .int .i64 5])) [] w31 → R' (.tuple (Array.mk [.agg (Array.mk [.int .i64 0, .int .i64 0, .slice none 0 0, .slice none 0 0]), .bool false])) [[.slice Kp hid.length k1], [.map (some n19)], [.int .i64 x.letters, .int .i64 x.start, .slice A13 n14 n15, .slice A16 n17 n18], [.func (.func 72) #[] #[.pointer (some ⟨n1, 0, none⟩), .pointer (some ⟨n2, 0, none⟩), .pointer (some ⟨n21, 0, none⟩)]]] w31) →
      CallsI Try.prog 75 [.int .i64 x.letters, .int .i64 4000, .string (name (hfirst x hid)), .func (.func 76) #[] #[.pointer (some ⟨n2, 0, none⟩), .pointer (some ⟨n21, 0, none⟩), .pointer (some ⟨n1, 0, none⟩), .pointer (some ⟨n22, 0, none⟩)], .func (.func 77) #[] #[.pointer (some ⟨n21, 0, none⟩), .pointer (some ⟨n1, 0, none⟩)]] w27
        [(n2, 23, [.slice Kp hid.length k1]), (n21, 88, [.map (some n19)]), (n1, 25, [.int .i64 x.letters, .int .i64 x.start, .slice A13 n14 n15, .slice A16 n17 n18]), (n22, 92, [.func (.func 72) #[] #[.pointer (some ⟨n1, 0, none⟩), .pointer (some ⟨n2, 0, none⟩), .pointer (some ⟨n21, 0, none⟩)]])] R' := by
    intro w27 F' R' hF' hH' hok hfail
    refine c75 hF' hatx sx (by omega) (by omega) hK10 hhx hH' (by decide) (by decide) hok fun w31 ys hE hnd hfr hgt => hfail w31 hE ?_
    exact full w31 x ys (hE10.trans' hE) hlx (by omega) hnd hfr (by omega) (by omega)
  have j20 : ∀ (w27 : World) (F' : FamF), Fam w10 w27 F' → HK x.next.length F' n19 [name (hfirst x hid)] → J40_20 x.letters (name (hfirst x hid)) n2 n21 n1 n22 w27 Kp hid.length k1 n19 x.start A13 n14 n15 A16 n17 n18 R := by
    intro w27 F' hF' hH'
    rw [J40_20]
    refine hmade w27 F' _ hF' hH' (fun w31 mm A' n' c' B' k' d' ys hnew hmd hle => ⟨_, _, _, _, _, _, _, _, _, rfl, rfl, ?_⟩) fun w31 hE hr => ⟨_, _, _, _, _, _, _, _, _, rfl, rfl, ?_⟩
    · exact condK_of (fun h => by cases h) fun _ => h6 w31 mm _ _ _ _ _ _ ys hnew hmd hle
    · exact condK_of (fun _ => by rw [J40_3]; exact hr) fun h => by cases h
  have whole : ∀ (w24 : World) (F1 : FamF) (n23 : Nat) (R' : Res), Fam w10 w24 F1 → GM F1 4 KT.str Value.string n19 (fun _ => none) → GSl F1 7 (some ⟨n23, 0, none⟩) 1 1 (ints [x.start]) →
      (∀ w27 F', Fam w10 w27 F' → HK x.next.length F' n19 [name (hfirst x hid)] → R' (.string (name (hfirst x hid))) [[.int .i64 x.letters, .int .i64 x.start, .slice A13 n14 n15, .slice A16 n17 n18], [.slice Kp hid.length k1], [.map (some n19)]] w27) →
      CallsI Try.prog 72 [.slice (some ⟨n23, 0, none⟩) 1 1, .pointer (some ⟨n1, 0, none⟩), .pointer (some ⟨n2, 0, none⟩), .pointer (some ⟨n21, 0, none⟩)] w24 [(n1, 25, [.int .i64 x.letters, .int .i64 x.start, .slice A13 n14 n15, .slice A16 n17 n18]), (n2, 23, [.slice Kp hid.length k1]), (n21, 88, [.map (some n19)])] R' := by
    intro w24 F1 n23 R' hF1 hg1 hs1 hR'
    refine c72 (xs := []) hF1 hatx sx (by omega) (by omega) hK10 hhx hs1 (fun s hs => by rw [List.mem_singleton] at hs; subst hs; omega) (by simp) (by simp) ⟨0, _, ⟨hg1, fun nm v h => by cases h⟩, fun nm h => by cases h⟩ fun F' w27 hF' _ hH' => ?_
    rw [hfirst_eq] at hH' ⊢
    exact hR' w27 F' hF' hH'
  have j24 : ∀ (w24 : World) (F1 : FamF) (n23 : Nat), Fam w10 w24 F1 → GM F1 4 KT.str Value.string n19 (fun _ => none) → GSl F1 7 (some ⟨n23, 0, none⟩) 1 1 (ints [x.start]) → J40_24 n23 n1 n2 n21 w24 x.letters x.start A13 n14 n15 A16 n17 n18 Kp hid.length k1 n19 n22 R := by
    intro w24 F1 n23 hF1 hg1 hs1
    rw [J40_24]
    exact whole w24 F1 n23 _ hF1 hg1 hs1 fun w27 F' hF' hH' => ⟨_, rfl, rfl, j20 w27 F' hF' hH'⟩
  refine ⟨hF.mkRow 7 fun n23 F1 w24 ho1 hF1 hs1 => ⟨whole w24 F1 n23 _ hF1 (hg.same (ho1 4 (by decide))) hs1 fun w27 F' hF' hH' => ⟨_, rfl, rfl, ?_, fun _ => j20 w27 F' hF' hH'⟩, fun _ => j24 w24 F1 n23 hF1 (hg.same (ho1 4 (by decide))) hs1⟩, fun _ => hF.mkRow 7 fun n23 F1 w24 ho1 hF1 hs1 => j24 w24 F1 n23 hF1 (hg.same (ho1 4 (by decide))) hs1⟩
  refine hmade w27 F' _ hF' hH' (fun w31 mm A' n' c' B' k' d' ys hnew hmd hle => ⟨_, _, _, _, _, _, _, _, _, rfl, rfl, fun _ => ?_⟩) fun w31 hE hr => ⟨_, _, _, _, _, _, _, _, _, rfl, rfl, fun _ => ?_⟩
  · exact condK_of (fun h => by cases h) fun _ => h6 w31 mm _ _ _ _ _ _ ys hnew hmd hle
  · exact condK_of (fun _ => by rw [J40_3]; exact hr) fun h => by cases h
end Go.Proofs.Ytnkpjlhbojjneaa.VC
