/- Arguments stay as they are. -/
import Derived.Test.YtnkpjlhbojjneaaGl
import Derived.Test.YtnkpjlhbojjneaaGb
import Derived.Test.YtnkpjlhbojjneaaGn
/- Two families of owned memory as one; machines in it, written over. -/
namespace Go.Proofs.Ytnkpjlhbojjneaa.VC
open Go Go.RowKit

/-- both families: the one at the even places, the other at the odd ones -/
def J2 (F1 F2 : FamF) : FamF := fun j => if j % 2 = 0 then F1 (j / 2) else F2 (j / 2)
theorem J2_even (F1 F2 : FamF) (i : Nat) : J2 F1 F2 (2 * i) = F1 i := by
  unfold J2; rw [if_pos (by omega), show 2 * i / 2 = i by omega]
theorem J2_odd (F1 F2 : FamF) (i : Nat) : J2 F1 F2 (2 * i + 1) = F2 i := by
  unfold J2; rw [if_neg (by omega), show (2 * i + 1) / 2 = i by omega]
theorem Fam.join {w0 w1 w2 : World} {F1 F2 : FamF} (h1 : Fam w0 w1 F1) (h2 : Fam w1 w2 F2) : Fam w0 w2 (J2 F1 F2) := by
  have h1' := h1.ext h2.base
  have lt1 : ∀ {i b c}, F1 i = some (b, c) → b < w1.heap.size := fun e => (h1.own _ _ _ e).1.lt
  have le2 : ∀ {i b c}, F2 i = some (b, c) → w1.heap.size ≤ b := fun e => (h2.own _ _ _ e).2
  refine ⟨h1'.base, fun i b c e => ?_, fun i j b c d e e' => ?_⟩
  · unfold J2 at e
    split at e
    · exact h1'.own _ b c e
    · exact ⟨(h2.own _ b c e).1, Nat.le_trans h1.base.size (le2 e)⟩
  · unfold J2 at e e'
    split at e
    · split at e'
      · have := h1.inj _ _ _ _ _ e e'; omega
      · have := lt1 e; have := le2 e'; omega
    · split at e'
      · have := le2 e; have := lt1 e'; omega
      · have := h2.inj _ _ _ _ _ e e'; omega
theorem GSl.even {F1 F2 : FamF} {i : Nat} {A : Option Addr} {n c : Nat} {xs : List Value} (h : GSl F1 i A n c xs) : GSl (J2 F1 F2) (2 * i) A n c xs := by
  unfold GSl at *; rw [J2_even]; exact h
theorem GSl.odd {F1 F2 : FamF} {i : Nat} {A : Option Addr} {n c : Nat} {xs : List Value} (h : GSl F2 i A n c xs) : GSl (J2 F1 F2) (2 * i + 1) A n c xs := by
  unfold GSl at *; rw [J2_odd]; exact h

/-- a machine at the places e of a family -/
def MachIn (F : FamF) (e : Nat → Nat) (m : Mach) (v : Value) : Prop :=
  ∃ A n c B k d, v = .agg #[.int .i64 m.letters, .int .i64 m.start, .slice A n c, .slice B k d] ∧ GII F (e 2) (fun t => e (g10 t)) A n c m.next ∧ GSl F (e 3) B k d (bools m.fin)
theorem MachNew.in_ {w w' : World} {m : Mach} {v : Value} (h : MachNew w w' m v) : ∃ F, Fam w w' F ∧ MachIn F id m v := by
  obtain ⟨F, A, n, c, B, k, d, rfl, hF, h1, h2⟩ := h
  exact ⟨F, hF, A, n, c, B, k, d, rfl, h1, h2⟩
section
variable {w0 w w' : World} {F F' F1 F2 : FamF} {e : Nat → Nat} {m : Mach} {v : Value}
theorem MachIn.even (h : MachIn F1 e m v) : MachIn (J2 F1 F2) (fun t => 2 * e t) m v := by
  obtain ⟨A, n, c, B, k, d, rfl, ⟨hs, h1, h2, h3⟩, h4⟩ := h
  refine ⟨A, n, c, B, k, d, rfl, ⟨hs, h1.even, h2, fun t h xs ht hx => ?_⟩, h4.even⟩
  obtain ⟨A', n', c', e1, h5⟩ := h3 t h xs ht hx
  exact ⟨A', n', c', e1, h5.even⟩
theorem MachIn.odd (h : MachIn F2 e m v) : MachIn (J2 F1 F2) (fun t => 2 * e t + 1) m v := by
  obtain ⟨A, n, c, B, k, d, rfl, ⟨hs, h1, h2, h3⟩, h4⟩ := h
  refine ⟨A, n, c, B, k, d, rfl, ⟨hs, h1.odd, h2, fun t h xs ht hx => ?_⟩, h4.odd⟩
  obtain ⟨A', n', c', e1, h5⟩ := h3 t h xs ht hx
  exact ⟨A', n', c', e1, h5.odd⟩
theorem MachIn.at_ (h : MachIn F e m v) (hF : Fam w0 w F) : MachAt w m v := by
  obtain ⟨A, n, c, B, k, d, rfl, h1, h2⟩ := h
  exact ⟨_, _, rfl, h1.slii hF, h2.slb hF⟩
theorem MachIn.keep {j : Nat} (h : MachIn F e m v) (ho : Only j F F') (hj : ∀ t, e t ≠ j) : MachIn F' e m v := by
  obtain ⟨A, n, c, B, k, d, rfl, h1, h2⟩ := h
  exact ⟨A, n, c, B, k, d, rfl, h1.keep ho (hj 2) (fun t _ => hj _), h2.keep ho (hj 3)⟩
/-- what two machines of one shape have in common -/
structure Like (a b : Mach) : Prop where
  letters : a.letters = b.letters
  start : a.start = b.start
  len : a.next.length = b.next.length
  rows : ∀ i : Int, (gl a.next i).length = (gl b.next i).length
  fin : a.fin.length = b.fin.length
theorem Like.refl (a : Mach) : Like a a := ⟨rfl, rfl, rfl, fun _ => rfl, rfl⟩
theorem Like.setFin {a b : Mach} (h : Like a b) (x : Nat) (t : Bool) : Like { a with fin := a.fin.set x t } b := ⟨h.letters, h.start, h.len, h.rows, by simp [h.fin]⟩
theorem Like.setEl {a b : Mach} (h : Like a b) {x y : Int} (h0 : 0 ≤ x) (h1 : x < a.next.length) (t : Int) : Like { a with next := a.next.set x.toNat ((gl a.next x).set y.toNat t) } b :=
  ⟨h.letters, h.start, by simp [h.len], fun i => by
    rw [← h.rows i]
    rcases ilt i 0 with hi | hi
    · have e : i.toNat = (0 : Int).toNat := by omega
      show (gl (a.next.set x.toNat _) i).length = _
      unfold gl
      rw [e]
      by_cases hx : x = 0
      · subst hx
        simp [List.getD_eq_getElem?_getD, show 0 < a.next.length by omega]
      · simp [List.getD_eq_getElem?_getD, show ¬ x.toNat = 0 by omega]
    · show (gl (a.next.set x.toNat _) i).length = _
      rw [gl_set h0 h1 hi]
      split
      · rename_i e; rw [e]; simp
      · rfl, h.fin⟩
/-- an accepting state is written over -/
theorem MachIn.setFin {l s : Int} {A : Option Addr} {n c : Nat} {B : Option Addr} {k d : Nat} (h : MachIn F e m (.agg #[.int .i64 l, .int .i64 s, .slice A n c, .slice B k d])) (hF : Fam w0 w F) (he : ∀ i j, e i = e j → i = j) {x : Int} {t : Bool} (h0 : 0 ≤ x) (h1 : x < m.fin.length) {K : World → Prop}
    (hk : ∀ F' w', Only (e 3) F F' → Fam w0 w' F' → MachIn F' e { m with fin := m.fin.set x.toNat t } (.agg #[.int .i64 l, .int .i64 s, .slice A n c, .slice B k d]) → K w') : IxV B k 1 x fun a => SetK w a (.bool t) K := by
  obtain ⟨A', n', c', B', k', d', e1, h2, h3⟩ := h
  simp only [Value.agg.injEq, Array.mk.injEq, List.cons.injEq, Value.int.injEq, Value.slice.injEq, true_and, and_true] at e1
  obtain ⟨rfl, rfl, ⟨rfl, rfl, rfl⟩, rfl, rfl, rfl⟩ := e1
  refine h3.set_bool hF h0 h1 fun F2 w2 ho hF2 hs2 => hk F2 w2 ho hF2 ⟨A, n, c, B, k, d, rfl, h2.keep ho (fun h => by have := he _ _ h; omega) fun t _ h => by have := he _ _ h; unfold g10 at this; omega, hs2⟩
theorem MachIn.getFin {l s : Int} {A : Option Addr} {n c : Nat} {B : Option Addr} {k d : Nat} (h : MachIn F e m (.agg #[.int .i64 l, .int .i64 s, .slice A n c, .slice B k d])) (hF : Fam w0 w F) {x : Int} (h0 : 0 ≤ x) (h1 : x < m.fin.length) {K : Bool → Prop}
    (hk : K (gb m.fin x)) : IxV B k 1 x fun a => ∃ t, w.cell? a = some (.bool t) ∧ K t := by
  obtain ⟨A', n', c', B', k', d', e1, h2, h3⟩ := h
  simp only [Value.agg.injEq, Array.mk.injEq, List.cons.injEq, Value.int.injEq, Value.slice.injEq, true_and, and_true] at e1
  obtain ⟨rfl, rfl, ⟨rfl, rfl, rfl⟩, rfl, rfl, rfl⟩ := e1
  exact h3.get_bool hF h0 h1 hk
/-- an entry of a row is written over -/
theorem MachIn.setEl {l s : Int} {A : Option Addr} {n c : Nat} {B : Option Addr} {k d : Nat} (h : MachIn F e m (.agg #[.int .i64 l, .int .i64 s, .slice A n c, .slice B k d])) (hF : Fam w0 w F) (he : ∀ i j, e i = e j → i = j) {x y t : Int} (h0 : 0 ≤ x) (h1 : x < m.next.length) (y0 : 0 ≤ y) (y1 : y < (gl m.next x).length) {K : World → Prop}
    (hk : ∀ F' w', Only (e (g10 x.toNat)) F F' → Fam w0 w' F' → MachIn F' e { m with next := m.next.set x.toNat ((gl m.next x).set y.toNat t) } (.agg #[.int .i64 l, .int .i64 s, .slice A n c, .slice B k d]) → K w') :
    IxV A n 1 x fun a => ∃ A' n' c', w.cell? a = some (.slice A' n' c') ∧ IxV A' n' 1 y fun a => SetK w a (.int .i64 t) K := by
  obtain ⟨A', n', c', B', k', d', e1, h2, h3⟩ := h
  simp only [Value.agg.injEq, Array.mk.injEq, List.cons.injEq, Value.int.injEq, Value.slice.injEq, true_and, and_true] at e1
  obtain ⟨rfl, rfl, ⟨rfl, rfl, rfl⟩, rfl, rfl, rfl⟩ := e1
  refine h2.setEl hF h0 h1 y0 y1 (fun t _ => ⟨fun h => by have := he _ _ h; unfold g10 at this; omega, fun h => by have := he _ _ h; unfold g10 at this; omega⟩) fun F2 w2 ho hF2 hs2 => hk F2 w2 ho hF2 ⟨A, n, c, B, k, d, rfl, hs2, h3.keep ho fun h => by have := he _ _ h; unfold g10 at this; omega⟩
end
end Go.Proofs.Ytnkpjlhbojjneaa.VC

/- The conditions of functions, printed by wip/tools/gen.py. -/
namespace Go.Proofs.Ytnkpjlhbojjneaa.VC
open Go Go.RowKit

def J10_1 (w4 : World) (R : Value → List (List Value) → World → Prop) : Prop := CallsI Try.prog 15 [] w4 [] fun (v6 : Value) (l7 : List (List Value)) (w8 : World) => ∃ (t9 : Bool), v6 = Value.bool t9
    ∧ l7 = [] ∧ R (Value.bool t9) [] w8

def J10_2 (I104 : Int → Lp) (x105 : Int) (w119 : World) (n107 : Nat) : Prop := (I104 (IntKind.i64.wrap (x105 + 1))).1 w119 ∧ (I104 (IntKind.i64.wrap (x105 + 1))).m w119 < n107

def J10_73 (x21 : Int) (x22 : Int) (A23 : Option Addr) (n24 : Nat) (n25 : Nat) (A26 : Option Addr) (n27 : Nat) (n28 : Nat) (w31 : World) (x32 : Int) (x33 : Int) (A34 : Option Addr) (n35 : Nat) (n36 :
    Nat) (A37 : Option Addr) (n38 : Nat) (n39 : Nat) (R : Value → List (List Value) → World → Prop) (l : Int) (s : Int) (A : Option Addr) (n : Nat) (c : Nat) (B : Option Addr) (m : Nat) (d : Nat) : Prop
    := CallsI Try.prog 23 [Value.agg (Array.mk [Value.int IntKind.i64 x21, Value.int IntKind.i64 x22, Value.slice A23 n24 n25, Value.slice A26 n27 n28])] w31 [] fun (v42 : Value) (l43 : List (List Value))
    (w44 : World) => ∃ (x45 : Int), ∃ (x46 : Int), ∃ (A47 : Option Addr), ∃ (n48 : Nat), ∃ (n49 : Nat), ∃ (A50 : Option Addr), ∃ (n51 : Nat), ∃ (n52 : Nat), ∃ (x53 : Int), v42 = Value.tuple (Array.mk
    [Value.agg (Array.mk [Value.int IntKind.i64 x45, Value.int IntKind.i64 x46, Value.slice A47 n48 n49, Value.slice A50 n51 n52]), Value.int IntKind.i64 x53]) ∧ l43 = [] ∧ ∀ (_n54 : Nat), CallsI Try.prog
    34 [Value.agg (Array.mk [Value.int IntKind.i64 x21, Value.int IntKind.i64 x22, Value.slice A23 n24 n25, Value.slice A26 n27 n28]), Value.agg (Array.mk [Value.int IntKind.i64 x32, Value.int IntKind.i64
    x33, Value.slice A34 n35 n36, Value.slice A37 n38 n39])] w44 [] fun (v55 : Value) (l56 : List (List Value)) (w57 : World) => ∃ (x58 : Int), ∃ (x59 : Int), ∃ (A60 : Option Addr), ∃ (n61 : Nat), ∃ (n62
    : Nat), ∃ (A63 : Option Addr), ∃ (n64 : Nat), ∃ (n65 : Nat), ∃ (x66 : Int), v55 = Value.tuple (Array.mk [Value.agg (Array.mk [Value.int IntKind.i64 x58, Value.int IntKind.i64 x59, Value.slice A60 n61
    n62, Value.slice A63 n64 n65]), Value.int IntKind.i64 x66]) ∧ l56 = [] ∧ ∀ (_n67 : Nat), condK (x53 != 0) (R (Value.bool false) [] w57) (condK (x66 != 0) (R (Value.bool false) [] w57) (CallsI Try.prog
    24 [Value.agg (Array.mk [Value.int IntKind.i64 x21, Value.int IntKind.i64 x22, Value.slice A23 n24 n25, Value.slice A26 n27 n28]), Value.agg (Array.mk [Value.int IntKind.i64 l, Value.int IntKind.i64
    s, Value.slice A n c, Value.slice B m d])] w57 [] fun (v68 : Value) (l69 : List (List Value)) (w70 : World) => ∃ (t71 : Bool), v68 = Value.bool t71 ∧ l69 = [] ∧ condK (!t71) (R (Value.bool false) []
    w70) (CallsI Try.prog 24 [Value.agg (Array.mk [Value.int IntKind.i64 x32, Value.int IntKind.i64 x33, Value.slice A34 n35 n36, Value.slice A37 n38 n39]), Value.agg (Array.mk [Value.int IntKind.i64 l,
    Value.int IntKind.i64 s, Value.slice A n c, Value.slice B m d])] w70 [] fun (v72 : Value) (l73 : List (List Value)) (w74 : World) => ∃ (t75 : Bool), v72 = Value.bool t75 ∧ l73 = [] ∧ condK (!t75) (R
    (Value.bool false) [] w74) (CallsI Try.prog 24 [Value.agg (Array.mk [Value.int IntKind.i64 x45, Value.int IntKind.i64 x46, Value.slice A47 n48 n49, Value.slice A50 n51 n52]), Value.agg (Array.mk
    [Value.int IntKind.i64 x58, Value.int IntKind.i64 x59, Value.slice A60 n61 n62, Value.slice A63 n64 n65])] w74 [] fun (v76 : Value) (l77 : List (List Value)) (w78 : World) => ∃ (t79 : Bool), v76 =
    Value.bool t79 ∧ l77 = [] ∧ condK (!t79) (R (Value.bool false) [] w78) (CallsI Try.prog 19 [Value.agg (Array.mk [Value.int IntKind.i64 x45, Value.int IntKind.i64 x46, Value.slice A47 n48 n49,
    Value.slice A50 n51 n52])] w78 [] fun (v80 : Value) (l81 : List (List Value)) (w82 : World) => ∃ (x83 : Int), ∃ (x84 : Int), ∃ (A85 : Option Addr), ∃ (n86 : Nat), ∃ (n87 : Nat), ∃ (A88 : Option Addr),
    ∃ (n89 : Nat), ∃ (n90 : Nat), v80 = Value.agg (Array.mk [Value.int IntKind.i64 x83, Value.int IntKind.i64 x84, Value.slice A85 n86 n87, Value.slice A88 n89 n90]) ∧ l81 = [] ∧ ∀ (_n91 : Nat), ∃ (I92 :
    Int → Lp), (I92 0).1 w82 ∧ ∀ (x93 : Int) (w94 : World), (I92 x93).1 w94 → ∀ (n95 : Nat), (I92 x93).m w94 = n95 → condK (decide (x93 < (↑n24 : Int))) (IxV A26 n27 1 x93 fun (a96 : Addr) => ∃ (t97 :
    Bool), w94.cell? a96 = some (Value.bool t97) ∧ IxV A26 n27 1 x93 fun (a98 : Addr) => SetK w94 a98 (Value.bool !t97) fun (w99 : World) => IxV A37 n38 1 x93 fun (a100 : Addr) => ∃ (t101 : Bool),
    w99.cell? a100 = some (Value.bool t101) ∧ IxV A37 n38 1 x93 fun (a102 : Addr) => SetK w99 a102 (Value.bool !t101) fun (w103 : World) => ∃ (I104 : Int → Lp), (I104 0).1 w103 ∧ ∀ (x105 : Int) (w106 :
    World), (I104 x105).1 w106 → ∀ (n107 : Nat), (I104 x105).m w106 = n107 → condK (decide (x105 < x21)) (IxV A23 n24 1 x93 fun (a108 : Addr) => ∃ (A109 : Option Addr), ∃ (n110 : Nat), ∃ (n111 : Nat),
    w106.cell? a108 = some (Value.slice A109 n110 n111) ∧ IxV A109 n110 1 x105 fun (a112 : Addr) => SetK w106 a112 (Value.int IntKind.i64 (-1)) fun (w113 : World) => IxV A34 n35 1 x93 fun (a114 : Addr) =>
    ∃ (A115 : Option Addr), ∃ (n116 : Nat), ∃ (n117 : Nat), w113.cell? a114 = some (Value.slice A115 n116 n117) ∧ IxV A115 n116 1 x105 fun (a118 : Addr) => SetK w113 a118 (Value.int IntKind.i64 0) fun
    (w119 : World) => J10_2 I104 x105 w119 n107) (J10_2 I92 x93 w106 n95)) (CallsI Try.prog 24 [Value.agg (Array.mk [Value.int IntKind.i64 x45, Value.int IntKind.i64 x46, Value.slice A47 n48 n49,
    Value.slice A50 n51 n52]), Value.agg (Array.mk [Value.int IntKind.i64 x83, Value.int IntKind.i64 x84, Value.slice A85 n86 n87, Value.slice A88 n89 n90])] w94 [] fun (v120 : Value) (l121 : List (List
    Value)) (w122 : World) => ∃ (t123 : Bool), v120 = Value.bool t123 ∧ l121 = [] ∧ condK (!t123) (R (Value.bool false) [] w122) (CallsI Try.prog 24 [Value.agg (Array.mk [Value.int IntKind.i64 x58,
    Value.int IntKind.i64 x59, Value.slice A60 n61 n62, Value.slice A63 n64 n65]), Value.agg (Array.mk [Value.int IntKind.i64 x83, Value.int IntKind.i64 x84, Value.slice A85 n86 n87, Value.slice A88 n89
    n90])] w122 [] fun (v124 : Value) (l125 : List (List Value)) (w126 : World) => ∃ (t127 : Bool), v124 = Value.bool t127 ∧ l125 = [] ∧ condK (!t127) (R (Value.bool false) [] w126) (∃ (I128 : Int → Lp),
    (I128 0).1 w126 ∧ ∀ (x129 : Int) (w130 : World), (I128 x129).1 w130 → ∀ (n131 : Nat), (I128 x129).m w130 = n131 → condK (decide (x129 < (↑n48 : Int))) (IxV A50 n51 1 x129 fun (a132 : Addr) => SetK
    w130 a132 (Value.bool false) fun (w133 : World) => ∃ (I134 : Int → Lp), (I134 0).1 w133 ∧ ∀ (x135 : Int) (w136 : World), (I134 x135).1 w136 → ∀ (n137 : Nat), (I134 x135).m w136 = n137 → condK (decide
    (x135 < x45)) (IxV A47 n48 1 x129 fun (a138 : Addr) => ∃ (A139 : Option Addr), ∃ (n140 : Nat), ∃ (n141 : Nat), w136.cell? a138 = some (Value.slice A139 n140 n141) ∧ IxV A139 n140 1 x135 fun (a142 :
    Addr) => SetK w136 a142 (Value.int IntKind.i64 (-1)) fun (w143 : World) => J10_2 I134 x135 w143 n137) (J10_2 I128 x129 w136 n131)) (CallsI Try.prog 24 [Value.agg (Array.mk [Value.int IntKind.i64 x58,
    Value.int IntKind.i64 x59, Value.slice A60 n61 n62, Value.slice A63 n64 n65]), Value.agg (Array.mk [Value.int IntKind.i64 x83, Value.int IntKind.i64 x84, Value.slice A85 n86 n87, Value.slice A88 n89
    n90])] w130 [] fun (v144 : Value) (l145 : List (List Value)) (w146 : World) => ∃ (t147 : Bool), v144 = Value.bool t147 ∧ l145 = [] ∧ condK t147 (J10_1 w146 R) (R (Value.bool false) [] w146))))))))))

def J10_87 (l : Int) (s : Int) (A : Option Addr) (n : Nat) (c : Nat) (B : Option Addr) (m : Nat) (d : Nat) (w20 : World) (x21 : Int) (x22 : Int) (A23 : Option Addr) (n24 : Nat) (n25 : Nat) (A26 :
    Option Addr) (n27 : Nat) (n28 : Nat) (R : Value → List (List Value) → World → Prop) : Prop := CallsI Try.prog 19 [Value.agg (Array.mk [Value.int IntKind.i64 l, Value.int IntKind.i64 s, Value.slice A n
    c, Value.slice B m d])] w20 [] fun (v241 : Value) (l242 : List (List Value)) (w243 : World) => ∃ (x244 : Int), ∃ (x245 : Int), ∃ (A246 : Option Addr), ∃ (n247 : Nat), ∃ (n248 : Nat), ∃ (A249 : Option
    Addr), ∃ (n250 : Nat), ∃ (n251 : Nat), v241 = Value.agg (Array.mk [Value.int IntKind.i64 x244, Value.int IntKind.i64 x245, Value.slice A246 n247 n248, Value.slice A249 n250 n251]) ∧ l242 = [] ∧ (Nat →
    J10_73 x21 x22 A23 n24 n25 A26 n27 n28 w243 x244 x245 A246 n247 n248 A249 n250 n251 R l s A n c B m d)

def J10_94 (l : Int) (s : Int) (A : Option Addr) (n : Nat) (c : Nat) (B : Option Addr) (m : Nat) (d : Nat) (w20 : World) (x21 : Int) (x22 : Int) (A23 : Option Addr) (n24 : Nat) (n25 : Nat) (A26 :
    Option Addr) (n27 : Nat) (n28 : Nat) (R : Value → List (List Value) → World → Prop) : Prop := CallsI Try.prog 19 [Value.agg (Array.mk [Value.int IntKind.i64 l, Value.int IntKind.i64 s, Value.slice A n
    c, Value.slice B m d])] w20 [] fun (v254 : Value) (l255 : List (List Value)) (w256 : World) => ∃ (x257 : Int), ∃ (x258 : Int), ∃ (A259 : Option Addr), ∃ (n260 : Nat), ∃ (n261 : Nat), ∃ (A262 : Option
    Addr), ∃ (n263 : Nat), ∃ (n264 : Nat), v254 = Value.agg (Array.mk [Value.int IntKind.i64 x257, Value.int IntKind.i64 x258, Value.slice A259 n260 n261, Value.slice A262 n263 n264]) ∧ l255 = [] ∧ J10_73
    x21 x22 A23 n24 n25 A26 n27 n28 w256 x257 x258 A259 n260 n261 A262 n263 n264 R l s A n c B m d

def J10_102 (l : Int) (s : Int) (A : Option Addr) (n : Nat) (c : Nat) (B : Option Addr) (m : Nat) (d : Nat) (w12 : World) (R : Value → List (List Value) → World → Prop) : Prop := CallsI Try.prog 19
    [Value.agg (Array.mk [Value.int IntKind.i64 l, Value.int IntKind.i64 s, Value.slice A n c, Value.slice B m d])] w12 [] fun (v291 : Value) (l292 : List (List Value)) (w293 : World) => ∃ (x294 : Int), ∃
    (x295 : Int), ∃ (A296 : Option Addr), ∃ (n297 : Nat), ∃ (n298 : Nat), ∃ (A299 : Option Addr), ∃ (n300 : Nat), ∃ (n301 : Nat), v291 = Value.agg (Array.mk [Value.int IntKind.i64 x294, Value.int
    IntKind.i64 x295, Value.slice A296 n297 n298, Value.slice A299 n300 n301]) ∧ l292 = [] ∧ J10_87 l s A n c B m d w293 x294 x295 A296 n297 n298 A299 n300 n301 R ∧ (Nat → J10_94 l s A n c B m d w293 x294
    x295 A296 n297 n298 A299 n300 n301 R)

def J10_106 (l : Int) (s : Int) (A : Option Addr) (n : Nat) (c : Nat) (B : Option Addr) (m : Nat) (d : Nat) (w12 : World) (R : Value → List (List Value) → World → Prop) : Prop := CallsI Try.prog 19
    [Value.agg (Array.mk [Value.int IntKind.i64 l, Value.int IntKind.i64 s, Value.slice A n c, Value.slice B m d])] w12 [] fun (v327 : Value) (l328 : List (List Value)) (w329 : World) => ∃ (x330 : Int), ∃
    (x331 : Int), ∃ (A332 : Option Addr), ∃ (n333 : Nat), ∃ (n334 : Nat), ∃ (A335 : Option Addr), ∃ (n336 : Nat), ∃ (n337 : Nat), v327 = Value.agg (Array.mk [Value.int IntKind.i64 x330, Value.int
    IntKind.i64 x331, Value.slice A332 n333 n334, Value.slice A335 n336 n337]) ∧ l328 = [] ∧ J10_94 l s A n c B m d w329 x330 x331 A332 n333 n334 A335 n336 n337 R

set_option maxRecDepth 100000 in
theorem s10 (l s : Int) (A : Option Addr) (n c : Nat) (B : Option Addr) (m d : Nat) (w : World) (R : Value → List (List Value) → World → Prop) (h :
    ∀ (_n1 : Nat), CallsI Try.prog 21 [Value.agg (Array.mk [Value.int IntKind.i64 l, Value.int IntKind.i64 s, Value.slice A n c, Value.slice B m d])] w [] fun (v2 : Value) (l3 : List (List Value)) (w4 :
        World) => ∃ (t5 : Bool), v2 = Value.bool t5 ∧ l3 = [] ∧ condK (!t5) (J10_1 w4 R) (CallsI Try.prog 16 [Value.agg (Array.mk [Value.int IntKind.i64 l, Value.int IntKind.i64 s, Value.slice A n c,
        Value.slice B m d])] w4 [] fun (v10 : Value) (l11 : List (List Value)) (w12 : World) => ∃ (x13 : Int), v10 = Value.int IntKind.i64 x13 ∧ l11 = [] ∧ condK (x13 != 0) (J10_1 w12 R) ((CallsI Try.prog 19
        [Value.agg (Array.mk [Value.int IntKind.i64 l, Value.int IntKind.i64 s, Value.slice A n c, Value.slice B m d])] w12 [] fun (v18 : Value) (l19 : List (List Value)) (w20 : World) => ∃ (x21 : Int), ∃
        (x22 : Int), ∃ (A23 : Option Addr), ∃ (n24 : Nat), ∃ (n25 : Nat), ∃ (A26 : Option Addr), ∃ (n27 : Nat), ∃ (n28 : Nat), v18 = Value.agg (Array.mk [Value.int IntKind.i64 x21, Value.int IntKind.i64 x22,
        Value.slice A23 n24 n25, Value.slice A26 n27 n28]) ∧ l19 = [] ∧ (CallsI Try.prog 19 [Value.agg (Array.mk [Value.int IntKind.i64 l, Value.int IntKind.i64 s, Value.slice A n c, Value.slice B m d])] w20
        [] fun (v29 : Value) (l30 : List (List Value)) (w31 : World) => ∃ (x32 : Int), ∃ (x33 : Int), ∃ (A34 : Option Addr), ∃ (n35 : Nat), ∃ (n36 : Nat), ∃ (A37 : Option Addr), ∃ (n38 : Nat), ∃ (n39 : Nat),
        v29 = Value.agg (Array.mk [Value.int IntKind.i64 x32, Value.int IntKind.i64 x33, Value.slice A34 n35 n36, Value.slice A37 n38 n39]) ∧ l30 = [] ∧ (Nat → Nat → J10_73 x21 x22 A23 n24 n25 A26 n27 n28 w31
        x32 x33 A34 n35 n36 A37 n38 n39 R l s A n c B m d) ∧ (Nat → Nat → J10_73 x21 x22 A23 n24 n25 A26 n27 n28 w31 x32 x33 A34 n35 n36 A37 n38 n39 R l s A n c B m d)) ∧ (∀ (_n240 : Nat), J10_87 l s A n c B
        m d w20 x21 x22 A23 n24 n25 A26 n27 n28 R ∧ (Nat → J10_94 l s A n c B m d w20 x21 x22 A23 n24 n25 A26 n27 n28 R)) ∧ ∀ (_n265 : Nat), J10_87 l s A n c B m d w20 x21 x22 A23 n24 n25 A26 n27 n28 R ∧ (Nat
        → J10_94 l s A n c B m d w20 x21 x22 A23 n24 n25 A26 n27 n28 R)) ∧ (∀ (_n290 : Nat), J10_102 l s A n c B m d w12 R ∧ (Nat → J10_106 l s A n c B m d w12 R)) ∧ ∀ (_n349 : Nat), J10_102 l s A n c B m d
        w12 R ∧ (Nat → J10_106 l s A n c B m d w12 R)))) :
    CallsI Try.prog 10 [(.agg #[.int .i64 l, .int .i64 s, .slice A n c, .slice B m d])] w [] R :=
  vcFun_sound (H := ⟨[], [(0, [(10, .int .i64)], []), (2, [(11, .int .i64)], []), (4, [(12, .int .i64)], []), (6, [(13, .int .i64)], [])]⟩) (args := [.v (.agg #[.int .i64 l, .int .i64 s, .slice A n c, .slice B m d])]) (L := []) goodP Try.func10 (by simp [okp]) (by rw [Try.ntmps10]; simp) (by simp [okp]) (Eq.mp (by kernel_rfl) h)

end Go.Proofs.Ytnkpjlhbojjneaa.VC

/- The law that arguments stay as they are, and results share no memory. -/
namespace Go.Proofs.Ytnkpjlhbojjneaa.VC
open Go Go.RowKit

def ea (t : Nat) : Nat := 2 * (2 * (2 * (2 * t)))
def eb (t : Nat) : Nat := 2 * (2 * (2 * (2 * t + 1)))
def ex (t : Nat) : Nat := 2 * (2 * (2 * t + 1))
def ey (t : Nat) : Nat := 2 * (2 * t + 1)
def ek (t : Nat) : Nat := 2 * t + 1
theorem MachIn.lens {F : FamF} {e : Nat → Nat} {m : Mach} {l s : Int} {A : Option Addr} {n c : Nat} {B : Option Addr} {k d : Nat} (h : MachIn F e m (.agg (Array.mk [.int .i64 l, .int .i64 s, .slice A n c, .slice B k d]))) : l = m.letters ∧ n = m.next.length ∧ k = m.fin.length := by
  obtain ⟨A', n', c', B', k', d', e1, h2, h3⟩ := h
  simp only [Value.agg.injEq, Array.mk.injEq, List.cons.injEq, Value.int.injEq, Value.slice.injEq, true_and, and_true] at e1
  obtain ⟨rfl, rfl, ⟨rfl, rfl, rfl⟩, rfl, rfl, rfl⟩ := e1
  exact ⟨rfl, h2.len, by rw [h3.len, bools_len]⟩
theorem Mach.Shaped.gl_len {m : Mach} (hm : m.Shaped) {i : Int} (h0 : 0 ≤ i) (h1 : i < m.next.length) : ((gl m.next i).length : Int) = m.letters := (hm.rows _ (List.mem_of_getElem? (get_gl h0 h1))).len
/-- five machines at their places -/
structure Five (w w' : World) (F : FamF) (a b x y k : Mach) (va vb vx vy vk : Value) : Prop where
  fam : Fam w w' F
  ia : MachIn F ea a va
  ib : MachIn F eb b vb
  ix : MachIn F ex x vx
  iy : MachIn F ey y vy
  ik : MachIn F ek k vk
theorem Five.make {w w1 w2 w3 w4 w5 : World} {a b x y k : Mach} {va vb vx vy vk : Value} (ha : MachNew w w1 a va) (hb : MachNew w1 w2 b vb) (hx : MachNew w2 w3 x vx) (hy : MachNew w3 w4 y vy) (hk : MachNew w4 w5 k vk) : ∃ F, Five w w5 F a b x y k va vb vx vy vk := by
  obtain ⟨Fa, h1, ia⟩ := ha.in_
  obtain ⟨Fb, h2, ib⟩ := hb.in_
  obtain ⟨Fx, h3, ix⟩ := hx.in_
  obtain ⟨Fy, h4, iy⟩ := hy.in_
  obtain ⟨Fk, h5, ik⟩ := hk.in_
  exact ⟨J2 (J2 (J2 (J2 Fa Fb) Fx) Fy) Fk, (((h1.join h2).join h3).join h4).join h5, ia.even.even.even.even, ib.odd.even.even.even, ix.odd.even.even, iy.odd.even, ik.odd⟩
section
variable {w w' : World} {F F' : FamF} {a b x y k a' : Mach} {va vb vx vy vk : Value}
theorem Five.setA (h : Five w w' F a b x y k va vb vx vy vk) {w2 : World} {t : Nat} (ho : Only (ea t) F F') (hF : Fam w w2 F') (hi : MachIn F' ea a' va) : Five w w2 F' a' b x y k va vb vx vy vk :=
  ⟨hF, hi, h.ib.keep ho fun s e => by unfold ea eb at e; omega, h.ix.keep ho fun s e => by unfold ea ex at e; omega, h.iy.keep ho fun s e => by unfold ea ey at e; omega, h.ik.keep ho fun s e => by unfold ea ek at e; omega⟩
theorem Five.setB (h : Five w w' F a b x y k va vb vx vy vk) {w2 : World} {t : Nat} (ho : Only (eb t) F F') (hF : Fam w w2 F') (hi : MachIn F' eb a' vb) : Five w w2 F' a a' x y k va vb vx vy vk :=
  ⟨hF, h.ia.keep ho fun s e => by unfold ea eb at e; omega, hi, h.ix.keep ho fun s e => by unfold eb ex at e; omega, h.iy.keep ho fun s e => by unfold eb ey at e; omega, h.ik.keep ho fun s e => by unfold eb ek at e; omega⟩
theorem Five.setX (h : Five w w' F a b x y k va vb vx vy vk) {w2 : World} {t : Nat} (ho : Only (ex t) F F') (hF : Fam w w2 F') (hi : MachIn F' ex a' vx) : Five w w2 F' a b a' y k va vb vx vy vk :=
  ⟨hF, h.ia.keep ho fun s e => by unfold ea ex at e; omega, h.ib.keep ho fun s e => by unfold eb ex at e; omega, hi, h.iy.keep ho fun s e => by unfold ex ey at e; omega, h.ik.keep ho fun s e => by unfold ex ek at e; omega⟩
end
theorem ea_inj (i j : Nat) (h : ea i = ea j) : i = j := by unfold ea at h; omega
theorem eb_inj (i j : Nat) (h : eb i = eb j) : i = j := by unfold eb at h; omega
theorem ex_inj (i j : Nat) (h : ex i = ex j) : i = j := by unfold ex at h; omega

set_option maxHeartbeats 4000000 in
theorem c10 {w : World} {m : Mach} {v : Value} {R : Res} (hm : MachAt w m v) (hlim : m.Lim) (hR : ∀ w', Ext w w' → R (.bool true) [] w') : CallsI Try.prog 10 [v] w [] R := by
  have hm0 := hm
  obtain ⟨A, n, c, B, k, d, rfl⟩ := hm.form
  have awake : ∀ w', Ext w w' → J10_1 w' R := fun w' hE => c15 fun w2 hE2 => ⟨_, rfl, rfl, hR w2 (hE.trans' hE2)⟩
  refine s10 _ _ _ _ _ _ _ _ _ _ fun _ => c21 hm0 (fun hsm => ⟨_, rfl, rfl, ?_⟩) fun _ => ⟨_, rfl, rfl, awake w Ext.rfl'⟩
  refine condK_of (fun h => by cases h) fun _ => ?_
  refine c16 hm0 hlim ⟨_, rfl, rfl, ?_⟩
  refine condK_bne (fun _ => awake w Ext.rfl') fun h => ?_
  have hv := Mach.code_ok.1 h
  have hsh := hv.shaped
  have hfit : fitc m m = 0 := fitc_ok.2 ⟨hv, hv, rfl⟩
  have few := few30 hsm hsm
  have hfin := hsh.fin
  have hmn := hv.next
  have hmL := hv.letters
  have j73 : ∀ (w20 w31 : World) (A23 : Option Addr) (n24 n25 : Nat) (A26 : Option Addr) (n27 n28 : Nat) (A34 : Option Addr) (n35 n36 : Nat) (A37 : Option Addr) (n38 n39 : Nat), MachNew w w20 m (.agg (Array.mk [.int .i64 m.letters, .int .i64 m.start, .slice A23 n24 n25, .slice A26 n27 n28])) →
      MachNew w20 w31 m (.agg (Array.mk [.int .i64 m.letters, .int .i64 m.start, .slice A34 n35 n36, .slice A37 n38 n39])) →
      J10_73 m.letters m.start A23 n24 n25 A26 n27 n28 w31 m.letters m.start A34 n35 n36 A37 n38 n39 R m.letters m.start A n c B k d := by
    intro w20 w31 A23 n24 n25 A26 n27 n28 A34 n35 n36 A37 n38 n39 hna hnb
    have hata := hna.at_.ext hnb.below
    have hatb := hnb.at_
    have e31 : Ext w w31 := hna.below.trans' hnb.below
    rw [J10_73]
    refine c23 hata hlim (fun h => absurd hv h) fun _ w44 x vx hnx hlx hxn => ?_
    have hatx := hnx.at_
    obtain ⟨A47, n48, n49, A50, n51, n52, rfl⟩ := hatx.form
    refine ⟨_, _, _, _, _, _, _, _, _, rfl, rfl, fun _ => ?_⟩
    refine c34 (hata.ext hnx.below) (hatb.ext hnx.below) hlim hlim few (fun h => absurd hfit h) fun _ w57 y vy hny hjy hyn => ?_
    have haty := hny.at_
    obtain ⟨A60, n61, n62, A63, n64, n65, rfl⟩ := haty.form
    refine ⟨_, _, _, _, _, _, _, _, _, rfl, rfl, fun _ => ?_⟩
    have hxy : x = y := (IsJoin.same hlx false).unique hjy
    have hE57 : Ext w31 w57 := hnx.below.trans' hny.below
    have lx : x.Lim := hlx.lim (by omega) (by omega)
    have sx := hlx.shaped
    have hxf := sx.fin
    refine condK_bne (fun h => absurd rfl h) fun _ => condK_bne (fun h => absurd rfl h) fun _ => ?_
    refine c24 (hata.ext hE57) (hm0.ext (e31.trans' hE57)) hlim (fun _ => ⟨_, rfl, rfl, condK_of (fun h => by cases h) fun _ => ?_⟩) fun h => absurd rfl h
    refine c24 (hatb.ext hE57) (hm0.ext (e31.trans' hE57)) hlim (fun _ => ⟨_, rfl, rfl, condK_of (fun h => by cases h) fun _ => ?_⟩) fun h => absurd rfl h
    refine c24 (hatx.ext hny.below) haty lx (fun _ => ⟨_, rfl, rfl, condK_of (fun h => by cases h) fun _ => ?_⟩) fun h => absurd hxy h
    refine c19 (hatx.ext hny.below) lx fun w82 vk hnk => ?_
    have hatk := hnk.at_
    obtain ⟨A85, n86, n87, A88, n89, n90, rfl⟩ := hatk.form
    refine ⟨_, _, _, _, _, _, _, _, rfl, rfl, fun _ => ?_⟩
    obtain ⟨F, hfive⟩ := Five.make hna hnb hnx hny hnk
    clear hata hatb hatx haty hatk hnk hny hnx hna hnb
    subst hxy
    have ln24 := hfive.ia.lens.2.1
    have lx48 := hfive.ix.lens.2.1
    refine ⟨fun x93 => ⟨fun w94 => ∃ F a' b', Five w w94 F a' b' x x x (.agg (Array.mk [.int .i64 m.letters, .int .i64 m.start, .slice A23 n24 n25, .slice A26 n27 n28])) (.agg (Array.mk [.int .i64 m.letters, .int .i64 m.start, .slice A34 n35 n36, .slice A37 n38 n39])) (.agg (Array.mk [.int .i64 x.letters, .int .i64 x.start, .slice A47 n48 n49, .slice A50 n51 n52])) (.agg (Array.mk [.int .i64 x.letters, .int .i64 x.start, .slice A60 n61 n62, .slice A63 n64 n65])) (.agg (Array.mk [.int .i64 x.letters, .int .i64 x.start, .slice A85 n86 n87, .slice A88 n89 n90])) ∧ Like a' m ∧ Like b' m ∧ 0 ≤ x93 ∧ x93 ≤ m.next.length, fun _ => (m.next.length - x93).toNat⟩,
      ⟨F, m, m, hfive, Like.refl m, Like.refl m, by omega, by omega⟩, ?_⟩
    clear hfive F
    rintro x93 w94 ⟨F, a', b', hf, la', lb', h930, h931⟩ n95 rfl
    refine condK_dec (fun hlt => ?_) fun hge => ?_
    · have hltm : x93 < m.next.length := by omega
      have fa' := la'.fin; have fb' := lb'.fin
      refine hf.ia.getFin hf.fam h930 (by omega) (K := fun t97 => IxV A26 n27 1 x93 _) ?_
      refine hf.ia.setFin hf.fam ea_inj h930 (by omega) fun F1 w99 ho1 hF1 hi1 => ?_
      have hf1 := hf.setA ho1 hF1 hi1
      have la1 := la'.setFin x93.toNat (!gb a'.fin x93)
      refine hf1.ib.getFin hf1.fam h930 (by omega) (K := fun t101 => IxV A37 n38 1 x93 _) ?_
      refine hf1.ib.setFin hf1.fam eb_inj h930 (by omega) fun F2 w103 ho2 hF2 hi2 => ?_
      have hf2 := hf1.setB ho2 hF2 hi2
      have lb1 := lb'.setFin x93.toNat (!gb b'.fin x93)
      have hgl := hsh.gl_len h930 hltm
      have h0L := hsh.letters
      refine ⟨fun x105 => ⟨fun w106 => ∃ F a' b', Five w w106 F a' b' x x x (.agg (Array.mk [.int .i64 m.letters, .int .i64 m.start, .slice A23 n24 n25, .slice A26 n27 n28])) (.agg (Array.mk [.int .i64 m.letters, .int .i64 m.start, .slice A34 n35 n36, .slice A37 n38 n39])) (.agg (Array.mk [.int .i64 x.letters, .int .i64 x.start, .slice A47 n48 n49, .slice A50 n51 n52])) (.agg (Array.mk [.int .i64 x.letters, .int .i64 x.start, .slice A60 n61 n62, .slice A63 n64 n65])) (.agg (Array.mk [.int .i64 x.letters, .int .i64 x.start, .slice A85 n86 n87, .slice A88 n89 n90])) ∧ Like a' m ∧ Like b' m ∧ 0 ≤ x105 ∧ x105 ≤ m.letters, fun _ => (m.letters - x105).toNat⟩,
        ⟨F2, _, _, hf2, la1, lb1, by omega, h0L⟩, ?_⟩
      clear hf hf1 hf2 hi1 hi2 hF1 hF2 ho1 ho2 la1 lb1 la' lb' fa' fb' a' b' F F1 F2
      rintro x105 w106 ⟨F, a', b', hf, la', lb', h1050, h1051⟩ n107 rfl
      refine condK_dec (fun hlt2 => ?_) fun hge2 => ?_
      · have ra := la'.rows x93; have rb := lb'.rows x93
        have na := la'.len; have nb := lb'.len
        refine hf.ia.setEl hf.fam ea_inj h930 (by omega) h1050 (by omega) fun F1 w113 ho1 hF1 hi1 => ?_
        have hf1 := hf.setA ho1 hF1 hi1
        refine hf1.ib.setEl hf1.fam eb_inj h930 (by omega) h1050 (by omega) fun F2 w119 ho2 hF2 hi2 => ?_
        rw [J10_2, wrap_id (by omega) (by omega)]
        exact ⟨⟨F2, _, _, hf1.setB ho2 hF2 hi2, la'.setEl h930 (by omega) _, lb'.setEl h930 (by omega) _, by omega, by omega⟩, by simp only []; omega⟩
      · rw [J10_2, wrap_id (by omega) (by omega)]
        exact ⟨⟨F, a', b', hf, la', lb', by omega, by omega⟩, by simp only []; omega⟩
    · refine c24 (hf.ix.at_ hf.fam) (hf.ik.at_ hf.fam) lx (fun _ => ⟨_, rfl, rfl, condK_of (fun h => by cases h) fun _ => ?_⟩) fun h => absurd rfl h
      refine c24 (hf.iy.at_ hf.fam) (hf.ik.at_ hf.fam) lx (fun _ => ⟨_, rfl, rfl, condK_of (fun h => by cases h) fun _ => ?_⟩) fun h => absurd rfl h
      clear la' lb'
      refine ⟨fun x129 => ⟨fun w130 => ∃ F x', Five w w130 F a' b' x' x x (.agg (Array.mk [.int .i64 m.letters, .int .i64 m.start, .slice A23 n24 n25, .slice A26 n27 n28])) (.agg (Array.mk [.int .i64 m.letters, .int .i64 m.start, .slice A34 n35 n36, .slice A37 n38 n39])) (.agg (Array.mk [.int .i64 x.letters, .int .i64 x.start, .slice A47 n48 n49, .slice A50 n51 n52])) (.agg (Array.mk [.int .i64 x.letters, .int .i64 x.start, .slice A60 n61 n62, .slice A63 n64 n65])) (.agg (Array.mk [.int .i64 x.letters, .int .i64 x.start, .slice A85 n86 n87, .slice A88 n89 n90])) ∧ Like x' x ∧ 0 ≤ x129 ∧ x129 ≤ x.next.length, fun _ => (x.next.length - x129).toNat⟩,
        ⟨F, x, hf, Like.refl x, by omega, by omega⟩, ?_⟩
      clear hf F
      rintro x129 w130 ⟨F, x', hf, lx', h1290, h1291⟩ n131 rfl
      refine condK_dec (fun hlt => ?_) fun hge => ?_
      · have fx' := lx'.fin
        have hltx : x129 < x.next.length := by omega
        refine hf.ix.setFin hf.fam ex_inj h1290 (by omega) fun F1 w133 ho1 hF1 hi1 => ?_
        have hf1 := hf.setX ho1 hF1 hi1
        have hgl := sx.gl_len h1290 hltx
        have h0L := sx.letters
        have hxL : x.letters = m.letters := hlx.letters
        refine ⟨fun x135 => ⟨fun w136 => ∃ F x', Five w w136 F a' b' x' x x (.agg (Array.mk [.int .i64 m.letters, .int .i64 m.start, .slice A23 n24 n25, .slice A26 n27 n28])) (.agg (Array.mk [.int .i64 m.letters, .int .i64 m.start, .slice A34 n35 n36, .slice A37 n38 n39])) (.agg (Array.mk [.int .i64 x.letters, .int .i64 x.start, .slice A47 n48 n49, .slice A50 n51 n52])) (.agg (Array.mk [.int .i64 x.letters, .int .i64 x.start, .slice A60 n61 n62, .slice A63 n64 n65])) (.agg (Array.mk [.int .i64 x.letters, .int .i64 x.start, .slice A85 n86 n87, .slice A88 n89 n90])) ∧ Like x' x ∧ 0 ≤ x135 ∧ x135 ≤ x.letters, fun _ => (x.letters - x135).toNat⟩,
          ⟨F1, _, hf1, lx'.setFin _ _, by omega, h0L⟩, ?_⟩
        clear hf hf1 hi1 hF1 ho1 lx' fx' x' F F1
        rintro x135 w136 ⟨F, x', hf, lx', h1350, h1351⟩ n137 rfl
        refine condK_dec (fun hlt2 => ?_) fun hge2 => ?_
        · have rx := lx'.rows x129; have nx := lx'.len
          refine hf.ix.setEl hf.fam ex_inj h1290 (by omega) h1350 (by omega) fun F1 w143 ho1 hF1 hi1 => ?_
          rw [J10_2, wrap_id (by omega) (by omega)]
          exact ⟨⟨F1, _, hf.setX ho1 hF1 hi1, lx'.setEl h1290 (by omega) _, by omega, by omega⟩, by simp only []; omega⟩
        · rw [J10_2, wrap_id (by omega) (by omega)]
          exact ⟨⟨F, x', hf, lx', by omega, by omega⟩, by simp only []; omega⟩
      · refine c24 (hf.iy.at_ hf.fam) (hf.ik.at_ hf.fam) lx (fun _ => ⟨_, rfl, rfl, ?_⟩) fun h => absurd rfl h
        exact condK_of (fun _ => awake w130 hf.fam.base) fun h => by cases h
  have copy : ∀ (w12 : World) (K : Int → Int → Option Addr → Nat → Nat → Option Addr → Nat → Nat → World → Prop), Ext w w12 → (∀ w20 A23 n24 n25 A26 n27 n28, MachNew w12 w20 m (.agg (Array.mk [.int .i64 m.letters, .int .i64 m.start, .slice A23 n24 n25, .slice A26 n27 n28])) → K m.letters m.start A23 n24 n25 A26 n27 n28 w20) →
      CallsI Try.prog 19 [.agg (Array.mk [.int .i64 m.letters, .int .i64 m.start, .slice A n c, .slice B k d])] w12 [] fun (v19 : Value) (l20 : List (List Value)) (w21 : World) => ∃ (x22 : Int), ∃ (x23 : Int), ∃ (A24 : Option Addr), ∃ (n25 : Nat), ∃ (n26 : Nat), ∃ (A27 : Option Addr), ∃ (n28 : Nat), ∃ (n29 : Nat), v19 = Value.agg (Array.mk [Value.int IntKind.i64 x22, Value.int IntKind.i64 x23, Value.slice A24 n25 n26, Value.slice A27 n28 n29]) ∧ l20 = [] ∧ K x22 x23 A24 n25 n26 A27 n28 n29 w21 := by
    intro w12 K hE hK
    refine c19 (hm0.ext hE) hlim fun w20 v18 hna => ?_
    have hat := hna.at_
    obtain ⟨A23, n24, n25, A26, n27, n28, rfl⟩ := hat.form
    exact ⟨_, _, _, _, _, _, _, _, rfl, rfl, hK w20 _ _ _ _ _ _ hna⟩
  have j94 : ∀ (w20 : World) (A23 : Option Addr) (n24 n25 : Nat) (A26 : Option Addr) (n27 n28 : Nat), MachNew w w20 m (.agg (Array.mk [.int .i64 m.letters, .int .i64 m.start, .slice A23 n24 n25, .slice A26 n27 n28])) → J10_94 m.letters m.start A n c B k d w20 m.letters m.start A23 n24 n25 A26 n27 n28 R := by
    intro w20 A23 n24 n25 A26 n27 n28 hna
    rw [J10_94]; exact copy w20 _ hna.below fun w31 _ _ _ _ _ _ hnb => j73 w20 w31 _ _ _ _ _ _ _ _ _ _ _ _ hna hnb
  have j87 : ∀ (w20 : World) (A23 : Option Addr) (n24 n25 : Nat) (A26 : Option Addr) (n27 n28 : Nat), MachNew w w20 m (.agg (Array.mk [.int .i64 m.letters, .int .i64 m.start, .slice A23 n24 n25, .slice A26 n27 n28])) → J10_87 m.letters m.start A n c B k d w20 m.letters m.start A23 n24 n25 A26 n27 n28 R := by
    intro w20 A23 n24 n25 A26 n27 n28 hna
    rw [J10_87]; exact copy w20 _ hna.below fun w31 _ _ _ _ _ _ hnb _ => j73 w20 w31 _ _ _ _ _ _ _ _ _ _ _ _ hna hnb
  have j102 : J10_102 m.letters m.start A n c B k d w R := by
    rw [J10_102]; exact copy w _ Ext.rfl' fun w20 _ _ _ _ _ _ hna => ⟨j87 w20 _ _ _ _ _ _ hna, fun _ => j94 w20 _ _ _ _ _ _ hna⟩
  have j106 : J10_106 m.letters m.start A n c B k d w R := by
    rw [J10_106]; exact copy w _ Ext.rfl' fun w20 _ _ _ _ _ _ hna => j94 w20 _ _ _ _ _ _ hna
  refine ⟨copy w _ Ext.rfl' fun w20 _ _ _ _ _ _ hna => ⟨copy w20 _ hna.below fun w31 _ _ _ _ _ _ hnb => ⟨fun _ _ => j73 w20 w31 _ _ _ _ _ _ _ _ _ _ _ _ hna hnb, fun _ _ => j73 w20 w31 _ _ _ _ _ _ _ _ _ _ _ _ hna hnb⟩, fun _ => ⟨j87 w20 _ _ _ _ _ _ hna, fun _ => j94 w20 _ _ _ _ _ _ hna⟩, fun _ => ⟨j87 w20 _ _ _ _ _ _ hna, fun _ => j94 w20 _ _ _ _ _ _ hna⟩⟩, fun _ => ⟨j102, fun _ => j106⟩, fun _ => ⟨j102, fun _ => j106⟩⟩
end Go.Proofs.Ytnkpjlhbojjneaa.VC
