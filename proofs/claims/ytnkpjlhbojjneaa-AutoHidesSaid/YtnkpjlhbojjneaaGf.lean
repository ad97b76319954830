/- Machines as mathematics; words for memory. -/
import Derived.Test.YtnkpjlhbojjneaaGb
import Derived.Laws.BitsLemmas
/- Words for memory: rows of a visible world, machines, what stays. -/
namespace Go.Proofs.Ytnkpjlhbojjneaa.VC
open Go Go.RowKit

theorem wrap_id {x : Int} (h1 : -9223372036854775808 ≤ x) (h2 : x ≤ 9223372036854775807) : IntKind.i64.wrap x = x := by
  rw [IntKind.wrap_i64]; omega

theorem condK_dec {p : Prop} [Decidable p] {A B : Prop} (h1 : p → A) (h2 : ¬ p → B) : condK (decide p) A B := condK_of (fun h => h1 (by simpa using h)) (fun h => h2 (by simpa using h))
theorem condK_beq {α : Type} [BEq α] [LawfulBEq α] {x y : α} {A B : Prop} (h1 : x = y → A) (h2 : x ≠ y → B) : condK (x == y) A B := condK_of (fun h => h1 (by simpa using h)) (fun h => h2 (by simpa using h))
theorem condK_bne {α : Type} [BEq α] [LawfulBEq α] {x y : α} {A B : Prop} (h1 : x ≠ y → A) (h2 : x = y → B) : condK (x != y) A B := condK_of (fun h => h1 (by simpa using h)) (fun h => h2 (by simpa using h))

/-- The memory of w stays in w'. -/
abbrev Ext (w w' : World) : Prop := Below w.heap.size w w'
theorem Ext.rfl' {w : World} : Ext w w := Below.refl _ _
theorem Ext.trans' {a b c : World} (h : Ext a b) (k : Ext b c) : Ext a c := h.trans (k.mono h.size)

theorem cell_lt {w : World} {a : Addr} {v : Value} (h : w.cell? a = some v) : a.block < w.heap.size := by
  obtain ⟨c, e, f, hb, _⟩ := cell_block h
  exact (Array.getElem?_eq_some_iff.1 hb).1
theorem Below.cell {B : Nat} {w w' : World} (h : Below B w w') {a : Addr} {v : Value} (hc : w.cell? a = some v) (hB : a.block < B) : w'.cell? a = some v := by
  rw [World.cell?_of_block (w := w) (h.block _ hB)]; exact hc
theorem Ext.cell {w w' : World} (h : Ext w w') {a : Addr} {v : Value} (hc : w.cell? a = some v) : w'.cell? a = some v := Below.cell h hc (cell_lt hc)
theorem Ext.heap {w w' : World} (h : Ext w w') {i : Nat} {o : Obj} (ho : w.heap[i]? = some o) : w'.heap[i]? = some o := by
  rw [h.block i (Array.getElem?_eq_some_iff.1 ho).1]; exact ho
theorem Ext.row {w w' : World} (h : Ext w w') {A : Option Addr} {xs : List Value} (hr : Row w A xs) : Row w' A xs := fun hne => by
  obtain ⟨ad, e, hc⟩ := hr hne
  exact ⟨ad, e, fun j v hj => h.cell (hc j v hj)⟩
theorem NewV.ext {w w' : World} {o : Obj} {b : Nat} (h : NewV w o b w') : Ext w w' := ⟨h.os, h.tape, h.output, by have := h.lo; have := h.size; omega, h.old⟩

theorem IxV.row {w : World} {A : Option Addr} {vs : List Value} (h : Row w A vs) {n : Nat} (hn : n = vs.length) {i : Int} (h0 : 0 ≤ i) (hi : i < n) {K : Addr → Prop}
    (hk : ∀ a v, vs[i.toNat]? = some v → w.cell? a = some v → K a) : IxV A n 1 i K := by
  have hlt : i.toNat < vs.length := by omega
  obtain ⟨ad, e, hc⟩ := h (fun e => by subst e; simp at hlt)
  exact ⟨ad, e, h0, hi, by rw [Nat.mul_one]; exact hk _ _ (List.getElem?_eq_getElem hlt) (hc _ _ (List.getElem?_eq_getElem hlt))⟩

def ints (xs : List Int) : List Value := xs.map (Value.int .i64)
def bools (xs : List Bool) : List Value := xs.map Value.bool
@[simp] theorem ints_len (xs : List Int) : (ints xs).length = xs.length := List.length_map _
@[simp] theorem bools_len (xs : List Bool) : (bools xs).length = xs.length := List.length_map _

/-- A slice of whole numbers, of truths, of slices of whole numbers. -/
def SlI (w : World) (v : Value) (xs : List Int) : Prop := ∃ A c, v = .slice A xs.length c ∧ Row w A (ints xs)
def SlB (w : World) (v : Value) (xs : List Bool) : Prop := ∃ A c, v = .slice A xs.length c ∧ Row w A (bools xs)
def SlII (w : World) (v : Value) (xss : List (List Int)) : Prop :=
  ∃ A c hs, v = .slice A xss.length c ∧ Row w A hs ∧ hs.length = xss.length ∧ ∀ (i : Nat) h xs, hs[i]? = some h → xss[i]? = some xs → SlI w h xs
theorem SlI.ext {w w' : World} (h : Ext w w') {v : Value} {xs : List Int} (hs : SlI w v xs) : SlI w' v xs := by
  obtain ⟨A, c, e, hr⟩ := hs; exact ⟨A, c, e, h.row hr⟩
theorem SlB.ext {w w' : World} (h : Ext w w') {v : Value} {xs : List Bool} (hs : SlB w v xs) : SlB w' v xs := by
  obtain ⟨A, c, e, hr⟩ := hs; exact ⟨A, c, e, h.row hr⟩
theorem SlII.ext {w w' : World} (h : Ext w w') {v : Value} {xss : List (List Int)} (hs : SlII w v xss) : SlII w' v xss := by
  obtain ⟨A, c, hs, e, hr, hl, hx⟩ := hs; exact ⟨A, c, hs, e, h.row hr, hl, fun i x xs h1 h2 => (hx i x xs h1 h2).ext h⟩

structure Mach where
  letters : Int
  start : Int
  next : List (List Int)
  fin : List Bool
deriving DecidableEq
def MachAt (w : World) (m : Mach) (v : Value) : Prop :=
  ∃ nx fn, v = .agg #[.int .i64 m.letters, .int .i64 m.start, nx, fn] ∧ SlII w nx m.next ∧ SlB w fn m.fin
theorem MachAt.ext {w w' : World} (h : Ext w w') {m : Mach} {v : Value} (hm : MachAt w m v) : MachAt w' m v := by
  obtain ⟨nx, fn, e, h1, h2⟩ := hm; exact ⟨nx, fn, e, h1.ext h, h2.ext h⟩

/-- indexing -/
theorem ix_int {w : World} {A : Option Addr} {xs : List Int} (h : Row w A (ints xs)) {i : Int} (h0 : 0 ≤ i) (hi : i < xs.length) {K : Addr → Prop}
    (hk : ∀ a x, xs[i.toNat]? = some x → w.cell? a = some (.int .i64 x) → K a) : IxV A xs.length 1 i K :=
  IxV.row h (by simp) h0 hi fun a v hv hc => by
    simp only [ints, List.getElem?_map, Option.map_eq_some_iff] at hv
    obtain ⟨x, hx, rfl⟩ := hv
    exact hk a x hx hc
theorem ix_bool {w : World} {A : Option Addr} {xs : List Bool} (h : Row w A (bools xs)) {i : Int} (h0 : 0 ≤ i) (hi : i < xs.length) {K : Addr → Prop}
    (hk : ∀ a x, xs[i.toNat]? = some x → w.cell? a = some (.bool x) → K a) : IxV A xs.length 1 i K :=
  IxV.row h (by simp) h0 hi fun a v hv hc => by
    simp only [bools, List.getElem?_map, Option.map_eq_some_iff] at hv
    obtain ⟨x, hx, rfl⟩ := hv
    exact hk a x hx hc
/-- indexing a slice of slices: the row, loaded -/
theorem ix_row {w : World} {A : Option Addr} {hs : List Value} {xss : List (List Int)} (h : Row w A hs) (hl : hs.length = xss.length) (hx : ∀ (i : Nat) h xs, hs[i]? = some h → xss[i]? = some xs → SlI w h xs)
    {i : Int} (h0 : 0 ≤ i) (hi : i < xss.length) {K : Addr → Prop}
    (hk : ∀ a xs A' c', xss[i.toNat]? = some xs → w.cell? a = some (.slice A' xs.length c') → Row w A' (ints xs) → K a) : IxV A xss.length 1 i K :=
  IxV.row h hl.symm h0 hi fun a v hv hc => by
    have hlt : i.toNat < xss.length := by omega
    have hxs := List.getElem?_eq_getElem hlt
    obtain ⟨A', c', rfl, hr⟩ := hx _ _ _ hv hxs
    exact hk a _ A' c' hxs hc hr
end Go.Proofs.Ytnkpjlhbojjneaa.VC

/- Machines as mathematics: shaped ones, the words they accept, canonical ones, and that a canonical one is known by its words. -/
namespace Go.Proofs.Ytnkpjlhbojjneaa.VC

structure Mach.RowOk (m : Mach) (row : List Int) : Prop where
  len : (row.length : Int) = m.letters
  to : ∀ t ∈ row, -1 ≤ t ∧ t < m.next.length
structure Mach.Shaped (m : Mach) : Prop where
  letters : 0 ≤ m.letters
  fin : m.next.length = m.fin.length
  rows : ∀ row ∈ m.next, m.RowOk row
  start : (m.next.length = 0 → m.start = -1) ∧ (m.next.length ≠ 0 → 0 ≤ m.start ∧ m.start < m.next.length)
structure Mach.Lim (m : Mach) : Prop where
  next : m.next.length ≤ 5864062014634
  fin : m.fin.length ≤ 140737488351232
  rows : ∀ row ∈ m.next, row.length ≤ 17592186043904

theorem all_idx {α : Type} {p : α → Prop} {l : List α} (h : ∀ (i : Nat) x, i < l.length → l[i]? = some x → p x) : ∀ x ∈ l, p x := fun x hx => by
  obtain ⟨i, hi⟩ := List.mem_iff_getElem?.1 hx
  exact h i x (List.getElem?_eq_some_iff.1 hi).1 hi

theorem ilt (a b : Int) : a < b ∨ b ≤ a := by omega
/-- the number of states -/
def Mach.n (m : Mach) : Int := m.next.length
/-- the state behind a letter; -1 is nowhere -/
def Mach.step (m : Mach) (s x : Int) : Int := if s < 0 ∨ x < 0 then -1 else (m.next.getD s.toNat []).getD x.toNat (-1)
def Mach.ends (m : Mach) (s : Int) : Bool := decide (0 ≤ s) && m.fin.getD s.toNat false
def Mach.run (m : Mach) (s : Int) : List Int → Int
  | [] => s
  | x :: u => Mach.run m (m.step s x) u
def Mach.acc (m : Mach) (s : Int) (u : List Int) : Bool := m.ends (m.run s u)
/-- a word over the letters -/
def Mach.Let (m : Mach) (x : Int) : Prop := 0 ≤ x ∧ x < m.letters
def Mach.Live (m : Mach) (s : Int) : Prop := ∃ u, m.acc s u = true
def Mach.Reach (m : Mach) (s : Int) : Prop := ∃ u, m.run m.start u = s

theorem Mach.run_append (m : Mach) (s : Int) (u v : List Int) : m.run s (u ++ v) = m.run (m.run s u) v := by
  induction u generalizing s with
  | nil => rfl
  | cons x u ih => exact ih _
theorem Mach.acc_cons (m : Mach) (s x : Int) (u : List Int) : m.acc s (x :: u) = m.acc (m.step s x) u := rfl
theorem Mach.acc_nil (m : Mach) (s : Int) : m.acc s [] = m.ends s := rfl
theorem Mach.step_neg {m : Mach} {s : Int} (h : s < 0) (x : Int) : m.step s x = -1 := by simp [Mach.step, h]
theorem Mach.run_neg {m : Mach} {s : Int} (h : s < 0) (u : List Int) : m.run s u < 0 := by
  induction u generalizing s with
  | nil => exact h
  | cons x u ih => exact ih (by rw [Mach.step_neg h]; decide)
theorem Mach.ends_neg {m : Mach} {s : Int} (h : s < 0) : m.ends s = false := by
  simp only [Mach.ends, Bool.and_eq_false_iff, decide_eq_false_iff_not]; left; omega
theorem Mach.acc_neg {m : Mach} {s : Int} (h : s < 0) (u : List Int) : m.acc s u = false := Mach.ends_neg (Mach.run_neg h u)
theorem Mach.live_nonneg {m : Mach} {s : Int} (h : m.Live s) : 0 ≤ s := by
  obtain ⟨u, hu⟩ := h
  rcases ilt s 0 with hs | hs
  · rw [Mach.acc_neg hs] at hu; cases hu
  · exact hs

/-- steps in a shaped machine -/
theorem Mach.Shaped.row {m : Mach} (hm : m.Shaped) {s : Int} (h0 : 0 ≤ s) (h1 : s < m.next.length) : ∃ row, m.next[s.toNat]? = some row ∧ m.RowOk row ∧ ∀ x, 0 ≤ x → m.step s x = row.getD x.toNat (-1) := by
  have hlt : s.toNat < m.next.length := by omega
  have e := List.getElem?_eq_getElem hlt
  refine ⟨_, e, hm.rows _ (List.mem_of_getElem? e), fun x hx => ?_⟩
  have : ¬ (s < 0 ∨ x < 0) := by omega
  simp [Mach.step, this, List.getD_eq_getElem?_getD, e]
theorem Mach.step_in {m : Mach} {s x : Int} {row : List Int} {t : Int} (hr : m.next[s.toNat]? = some row) (h0 : 0 ≤ s) (hx0 : 0 ≤ x) (ht : row[x.toNat]? = some t) : m.step s x = t := by
  have : ¬ (s < 0 ∨ x < 0) := by omega
  simp [Mach.step, this, List.getD_eq_getElem?_getD, hr, ht]
theorem Mach.Shaped.step_range {m : Mach} (hm : m.Shaped) (s x : Int) : -1 ≤ m.step s x ∧ m.step s x < m.next.length := by
  unfold Mach.step
  split
  · omega
  · rename_i h
    rw [List.getD_eq_getElem?_getD, List.getD_eq_getElem?_getD]
    cases hr : m.next[s.toNat]? with
    | none => simp; omega
    | some row =>
      simp only [Option.getD_some]
      cases ht : row[x.toNat]? with
      | none => simp; omega
      | some t => simp only [Option.getD_some]; exact (hm.rows row (List.mem_of_getElem? hr)).to t (List.mem_of_getElem? ht)
theorem Mach.Shaped.step_let {m : Mach} (hm : m.Shaped) {s x : Int} (h : 0 ≤ m.step s x) : (0 ≤ s ∧ s < m.next.length) ∧ m.Let x := by
  unfold Mach.step at h
  split at h
  · omega
  · rename_i hn
    rw [List.getD_eq_getElem?_getD, List.getD_eq_getElem?_getD] at h
    cases hr : m.next[s.toNat]? with
    | none => simp [hr] at h
    | some row =>
      have hl := (hm.rows row (List.mem_of_getElem? hr)).len
      have := (List.getElem?_eq_some_iff.1 hr).1
      cases ht : row[x.toNat]? with
      | none => simp [hr, ht] at h
      | some t =>
        have := (List.getElem?_eq_some_iff.1 ht).1
        refine ⟨?_, ?_, ?_⟩ <;> omega
theorem Mach.Shaped.run_range {m : Mach} (hm : m.Shaped) {s : Int} (h : -1 ≤ s ∧ s < m.next.length) (u : List Int) : -1 ≤ m.run s u ∧ m.run s u < m.next.length := by
  induction u generalizing s with
  | nil => exact h
  | cons x u ih => exact ih (hm.step_range s x)
theorem Mach.Shaped.start_range {m : Mach} (hm : m.Shaped) : -1 ≤ m.start ∧ m.start < m.next.length := by
  rcases Nat.eq_zero_or_pos m.next.length with h | h
  · have := hm.start.1 h; omega
  · have := hm.start.2 (by omega); omega
theorem Mach.Shaped.acc_let {m : Mach} (hm : m.Shaped) {s : Int} {u : List Int} (h : m.acc s u = true) : ∀ x ∈ u, m.Let x := by
  induction u generalizing s with
  | nil => simp
  | cons x u ih =>
    rw [Mach.acc_cons] at h
    intro y hy
    rcases List.mem_cons.1 hy with rfl | hy
    · rcases ilt (m.step s y) 0 with hn | hn
      · rw [Mach.acc_neg hn] at h; cases h
      · exact (hm.step_let hn).2
    · exact ih h y hy

/-- The states are numbered as they are found. -/
structure Mach.Numbered (m : Mach) : Prop where
  found : ∀ t : Int, 0 < t → t < m.next.length → ∃ i x : Int, 0 ≤ i ∧ i < t ∧ m.Let x ∧ m.step i x = t
  order : ∀ i x t' : Int, 0 ≤ i → m.Let x → m.step i x = t' → ∀ t, 0 < t → t < t' → ∃ j y, 0 ≤ j ∧ m.Let y ∧ (j < i ∨ j = i ∧ y < x) ∧ m.step j y = t
/-- A machine in which all states are found, all live, each with words of its own, and numbered as they are found. -/
structure Mach.Canon (m : Mach) : Prop where
  shaped : m.Shaped
  zero : m.start ≤ 0
  live : ∀ s : Int, 0 ≤ s → s < m.next.length → m.Live s
  apart : ∀ s t : Int, 0 ≤ s → s < m.next.length → 0 ≤ t → t < m.next.length → (∀ u, m.acc s u = m.acc t u) → s = t
  numbered : m.Numbered

theorem Mach.Canon.start0 {m : Mach} (h : m.Canon) (hn : m.next.length ≠ 0) : m.start = 0 := by
  have := h.shaped.start.2 hn; have := h.zero; omega
theorem Mach.Canon.none_of {m : Mach} (h : m.Canon) (hn : ∀ u, m.acc m.start u = false) : m.next.length = 0 := by
  apply Classical.byContradiction; intro hne
  have := h.start0 hne
  obtain ⟨u, hu⟩ := h.live 0 (by omega) (by omega)
  rw [← this, hn] at hu; cases hu

/-- two machines of the same words: states that have a number in both have the same words -/
theorem canon_words {a b : Mach} (ha : a.Canon) (hb : b.Canon) (hsa : a.start = 0) (hsb : b.start = 0) (hlet : a.letters = b.letters) (heq : ∀ u, a.acc a.start u = b.acc b.start u)
    (N : Int) (hN : ∀ i x : Int, 0 ≤ i → i < N → a.Let x → a.step i x = b.step i x) :
    ∀ k : Nat, ∀ t : Int, t.toNat = k → 0 ≤ t → t ≤ N → t < a.next.length ∨ t < b.next.length → ∀ u, a.acc t u = b.acc t u := by
  intro k
  induction k using Nat.strongRecOn with
  | ind k ih =>
    intro t hk h0 htN hlt u
    rcases ilt 0 t with hp | hp
    · rcases hlt with hlt | hlt
      · obtain ⟨i, x, hi0, hit, hx, e⟩ := ha.numbered.found t hp hlt
        have e2 := hN i x hi0 (by omega) hx
        have := ih i.toNat (by omega) i rfl hi0 (by omega) (Or.inl (by omega)) (x :: u)
        rw [Mach.acc_cons, Mach.acc_cons, ← e2, e] at this
        exact this
      · obtain ⟨i, x, hi0, hit, hx, e⟩ := hb.numbered.found t hp hlt
        have e2 := hN i x hi0 (by omega) (by unfold Mach.Let at *; omega)
        have := ih i.toNat (by omega) i rfl hi0 (by omega) (Or.inr (by omega)) (x :: u)
        rw [Mach.acc_cons, Mach.acc_cons, e2, e] at this
        exact this
    · have : t = 0 := by omega
      subst this
      rw [← hsa, heq, hsb, hsa]

theorem canon_step {a b : Mach} (ha : a.Canon) (hb : b.Canon) (hsa : a.start = 0) (hsb : b.start = 0) (hlet : a.letters = b.letters) (heq : ∀ u, a.acc a.start u = b.acc b.start u) :
    ∀ k : Nat, ∀ i : Int, i.toNat = k → 0 ≤ i → ∀ x, a.Let x → a.step i x = b.step i x := by
  intro k
  induction k using Nat.strongRecOn with
  | ind k ih =>
    intro i hk hi0
    have hN : ∀ i' x : Int, 0 ≤ i' → i' < i → a.Let x → a.step i' x = b.step i' x := fun i' x h0 hlt hx => ih i'.toNat (by omega) i' rfl h0 x hx
    have hw := canon_words ha hb hsa hsb hlet heq i hN
    -- rows behind the last state
    rcases ilt i a.next.length with hia | hia
    rotate_left
    · rcases ilt i b.next.length with hib | hib
      · -- b has a state that a has not
        exfalso
        rcases ilt 0 i with hip | hip
        · obtain ⟨j, y, hj0, hji, hy, e⟩ := hb.numbered.found i hip hib
          have := hN j y hj0 hji (by unfold Mach.Let at *; omega)
          have := (ha.shaped.step_range j y).2
          omega
        · have : i = 0 := by omega
          have := ha.shaped.start.1 (by omega)
          omega
      · intro x hx
        have h1 := ha.shaped.step_range i x; have h2 := hb.shaped.step_range i x
        have h3 : ¬ 0 ≤ a.step i x := fun h => by have := (ha.shaped.step_let h).1; omega
        have h4 : ¬ 0 ≤ b.step i x := fun h => by have := (hb.shaped.step_let h).1; omega
        omega
    have hib : i < b.next.length := by
      apply Classical.byContradiction; intro hib
      rcases ilt 0 i with hip | hip
      · obtain ⟨j, y, hj0, hji, hy, e⟩ := ha.numbered.found i hip hia
        have := hN j y hj0 hji hy
        have := (hb.shaped.step_range j y).2
        omega
      · have : i = 0 := by omega
        have := hb.shaped.start.1 (by omega)
        omega
    have key : ∀ l : Nat, ∀ x : Int, x.toNat = l → a.Let x → a.step i x = b.step i x := by
      intro l
      induction l using Nat.strongRecOn with
      | ind l ihl =>
        intro x hl hx
        have words : ∀ u, a.acc (a.step i x) u = b.acc (b.step i x) u := fun u => hw i.toNat i rfl hi0 (by omega) (Or.inl hia) (x :: u)
        have earlier : ∀ j y : Int, 0 ≤ j → a.Let y → (j < i ∨ j = i ∧ y < x) → a.step j y = b.step j y := by
          intro j y hj hy h
          rcases h with h | ⟨rfl, h⟩
          · exact hN j y hj h hy
          · exact ihl y.toNat (by unfold Mach.Let at *; omega) y rfl hy
        -- a number that stands in both at the same earlier place has the same words
        have same : ∀ j y t : Int, 0 ≤ j → a.Let y → (j < i ∨ j = i ∧ y < x) → a.step j y = t → ∀ u, a.acc t u = b.acc t u := by
          intro j y t hj hy h e u
          have e2 := earlier j y hj hy h
          have := hw j.toNat j rfl hj (by omega) (Or.inl (by omega)) (y :: u)
          rw [Mach.acc_cons, Mach.acc_cons, ← e2, e] at this
          exact this
        have ra := ha.shaped.step_range i x; have rb := hb.shaped.step_range i x
        rcases ilt (a.step i x) 0 with h1 | h1
        · rcases ilt (b.step i x) 0 with h2 | h2
          · omega
          · obtain ⟨u, hu⟩ := hb.live _ h2 rb.2
            rw [← words, Mach.acc_neg h1] at hu; cases hu
        · rcases ilt (b.step i x) 0 with h2 | h2
          · obtain ⟨u, hu⟩ := ha.live _ h1 ra.2
            rw [words, Mach.acc_neg h2] at hu; cases hu
          · have zero : ∀ u, a.acc 0 u = b.acc 0 u := fun u => by rw [← hsa, heq, hsb, hsa]
            rcases Int.lt_trichotomy (a.step i x) (b.step i x) with hlt | heq' | hgt
            · -- the number of a stands in b at an earlier place
              have sa : ∀ u, a.acc (a.step i x) u = b.acc (a.step i x) u := by
                rcases ilt 0 (a.step i x) with hp | hp
                · obtain ⟨j, y, hj, hy, h, e⟩ := hb.numbered.order i x _ hi0 (by unfold Mach.Let at *; omega) rfl _ hp hlt
                  have hy' : a.Let y := by unfold Mach.Let at *; omega
                  have := earlier j y hj hy' h
                  exact same j y _ hj hy' h (by rw [this, e])
                · have : a.step i x = 0 := by omega
                  rw [this]; exact zero
              exact hb.apart _ _ h1 (by omega) h2 rb.2 fun u => by rw [← sa, words]
            · exact heq'
            · have sb : ∀ u, a.acc (b.step i x) u = b.acc (b.step i x) u := by
                rcases ilt 0 (b.step i x) with hp | hp
                · obtain ⟨j, y, hj, hy, h, e⟩ := ha.numbered.order i x _ hi0 hx rfl _ hp hgt
                  exact same j y _ hj hy h e
                · have : b.step i x = 0 := by omega
                  rw [this]; exact zero
              exact ha.apart _ _ h1 ra.2 h2 (by omega) fun u => by rw [sb, words]
    intro x hx
    exact key x.toNat x rfl hx

/-- A canonical machine is known by its letters and its words. -/
theorem canon_unique {a b : Mach} (ha : a.Canon) (hb : b.Canon) (hlet : a.letters = b.letters) (heq : ∀ u, a.acc a.start u = b.acc b.start u) : a = b := by
  by_cases h0 : a.next.length = 0
  · have hsa := ha.shaped.start.1 h0
    have hb0 := hb.none_of fun u => by rw [← heq, hsa]; exact Mach.acc_neg (by decide) u
    have hsb := hb.shaped.start.1 hb0
    have e1 := List.length_eq_zero_iff.1 h0; have e2 := List.length_eq_zero_iff.1 hb0
    have e3 := List.length_eq_zero_iff.1 (ha.shaped.fin ▸ h0); have e4 := List.length_eq_zero_iff.1 (hb.shaped.fin ▸ hb0)
    obtain ⟨al, asx, an, af⟩ := a; obtain ⟨bl, bs, bn, bf⟩ := b
    simp only at *; subst hlet hsa hsb e1 e2 e3 e4; rfl
  · have hb0 : b.next.length ≠ 0 := fun hb0 => h0 (ha.none_of fun u => by rw [heq, hb.shaped.start.1 hb0]; exact Mach.acc_neg (by decide) u)
    have hsa := ha.start0 h0; have hsb := hb.start0 hb0
    have step := fun i hi x hx => canon_step ha hb hsa hsb hlet heq i.toNat i rfl hi x hx
    have hlen : (a.next.length : Int) = b.next.length := by
      rcases Int.lt_trichotomy (a.next.length : Int) b.next.length with h | h | h
      · obtain ⟨i, x, hi0, hit, hx, e⟩ := hb.numbered.found _ (by omega) h
        have := step i hi0 x (by unfold Mach.Let at *; omega)
        have := (ha.shaped.step_range i x).2; omega
      · exact h
      · obtain ⟨i, x, hi0, hit, hx, e⟩ := ha.numbered.found _ (by omega) h
        have := step i hi0 x hx
        have := (hb.shaped.step_range i x).2; omega
    have words := fun t ht hlt => canon_words ha hb hsa hsb hlet heq t (fun i x h0 _ hx => step i h0 x hx) t.toNat t rfl ht (by omega) hlt
    have hnext : a.next = b.next := by
      apply List.ext_getElem? 
      intro i
      rcases Nat.lt_or_ge i a.next.length with hi | hi
      · obtain ⟨r, hr, hrok, hrs⟩ := ha.shaped.row (s := i) (by omega) (by omega)
        obtain ⟨q, hq, hqok, hqs⟩ := hb.shaped.row (s := i) (by omega) (by omega)
        simp only [Int.toNat_natCast] at hr hq
        rw [hr, hq]
        congr 1
        have hl : r.length = q.length := by have := hrok.len; have := hqok.len; omega
        apply List.ext_getElem hl
        intro j h1 h2
        have e := step i (by omega) j ⟨by omega, by have := hrok.len; omega⟩
        rw [hrs j (by omega), hqs j (by omega)] at e
        simpa [List.getD_eq_getElem?_getD, List.getElem?_eq_getElem h1, List.getElem?_eq_getElem h2] using e
      · rw [List.getElem?_eq_none hi, List.getElem?_eq_none (by omega)]
    have hfin : a.fin = b.fin := by
      have hl : a.fin.length = b.fin.length := by rw [← ha.shaped.fin, ← hb.shaped.fin]; omega
      apply List.ext_getElem hl
      intro i h1 h2
      have h3 := ha.shaped.fin
      have e := words i (by omega) (Or.inl (by omega)) []
      rw [Mach.acc_nil, Mach.acc_nil] at e
      simpa [Mach.ends, List.getD_eq_getElem?_getD, List.getElem?_eq_getElem h1, List.getElem?_eq_getElem h2] using e
    obtain ⟨al, asx, an, af⟩ := a; obtain ⟨bl, bs, bn, bf⟩ := b
    simp only at *; subst hlet hsa hsb hnext hfin; rfl
end Go.Proofs.Ytnkpjlhbojjneaa.VC

/- Machines that are made of things as they are found: their rows, their words, when they are canonical. -/
namespace Go.Proofs.Ytnkpjlhbojjneaa.VC

/-- what leads from thing to thing, and which things accept -/
structure Auto (X : Type) where
  letters : Int
  next : X → Int → Option X
  fin : X → Bool
def Auto.acc {X : Type} (A : Auto X) (x : X) : List Int → Bool
  | [] => A.fin x
  | c :: u => if 0 ≤ c ∧ c < A.letters then (match A.next x c with | none => false | some y => A.acc y u) else false
inductive Auto.From {X : Type} (A : Auto X) (x : X) : X → Prop
  | here : From A x x
  | step {y z : X} {c : Int} : From A x y → 0 ≤ c → c < A.letters → A.next y c = some z → From A x z

/-- the entry of a row -/
def Ent (rs : List (List Int)) (i x : Nat) (t : Int) : Prop := ∃ row, rs[i]? = some row ∧ row[x]? = some t
/-- rows, as far as they are, with the things found -/
structure Part {X : Type} (A : Auto X) (first : X) (xs : List X) (rs : List (List Int)) : Prop where
  head : xs[0]? = some first
  nodup : xs.Nodup
  from_ : ∀ x ∈ xs, A.From first x
  /-- an entry is the number of what is found -/
  ent : ∀ (i x : Nat) t, Ent rs i x t → ∃ X, xs[i]? = some X ∧ (A.next X x = none ∧ t = -1 ∨ ∃ Y, A.next X x = some Y ∧ 0 ≤ t ∧ xs[t.toNat]? = some Y)
  found : ∀ t : Nat, 0 < t → t < xs.length → ∃ i x, i < t ∧ Ent rs i x t
  order : ∀ (i x : Nat) (t' : Int), Ent rs i x t' → ∀ t : Nat, 0 < t → (t : Int) < t' → ∃ j y, (j < i ∨ j = i ∧ y < x) ∧ Ent rs j y t

theorem ent_last {rs : List (List Int)} {cur : List Int} {v : Int} {i x : Nat} {t : Int} : Ent (rs ++ [cur ++ [v]]) i x t ↔ Ent (rs ++ [cur]) i x t ∨ (i = rs.length ∧ x = cur.length ∧ t = v) := by
  unfold Ent
  rcases Nat.lt_trichotomy i rs.length with h | h | h
  · rw [List.getElem?_append_left h, List.getElem?_append_left h]
    constructor
    · exact fun h' => .inl h'
    · rintro (h' | ⟨e, _⟩)
      · exact h'
      · omega
  · subst h
    simp only [List.getElem?_append_right (Nat.le_refl _), Nat.sub_self, List.getElem?_cons_zero, Option.some.injEq, exists_eq_left', true_and]
    rcases Nat.lt_trichotomy x cur.length with h | h | h
    · rw [List.getElem?_append_left h]
      constructor
      · exact fun h' => .inl h'
      · rintro (h' | ⟨e, _⟩)
        · exact h'
        · omega
    · subst h
      simp [eq_comm]
    · rw [List.getElem?_append_right (by omega), List.getElem?_eq_none (by simp; omega), List.getElem?_eq_none (l := cur) (by omega)]
      simp; omega
  · rw [List.getElem?_eq_none (by simp; omega), List.getElem?_eq_none (by simp; omega)]
    simp; omega
theorem ent_place {rs : List (List Int)} {cur : List Int} {i x : Nat} {t : Int} (h : Ent (rs ++ [cur]) i x t) : i < rs.length ∨ i = rs.length ∧ x < cur.length := by
  obtain ⟨row, h1, h2⟩ := h
  rcases Nat.lt_trichotomy i rs.length with h | h | h
  · exact .inl h
  · subst h
    simp only [List.getElem?_append_right (Nat.le_refl _), Nat.sub_self, List.getElem?_cons_zero, Option.some.injEq] at h1
    subst h1
    exact .inr ⟨rfl, (List.getElem?_eq_some_iff.1 h2).1⟩
  · rw [List.getElem?_eq_none (by simp; omega)] at h1; cases h1
theorem ent_empty {rs : List (List Int)} {i x : Nat} {t : Int} : Ent (rs ++ [[]]) i x t ↔ Ent rs i x t := by
  unfold Ent
  rcases Nat.lt_trichotomy i rs.length with h | h | h
  · rw [List.getElem?_append_left h]
  · subst h
    rw [List.getElem?_append_right (Nat.le_refl _), List.getElem?_eq_none (Nat.le_refl _)]
    simp
  · rw [List.getElem?_eq_none (by simp; omega), List.getElem?_eq_none (by omega)]

theorem Part.init {X : Type} (A : Auto X) (first : X) : Part A first [first] [] where
  head := rfl
  nodup := by simp
  from_ := fun x hx => by rw [List.mem_singleton] at hx; subst hx; exact .here
  ent := fun i x t h => by obtain ⟨_, h, _⟩ := h; simp at h
  found := fun t h0 h1 => by simp at h1; omega
  order := fun i x t h => by obtain ⟨_, h, _⟩ := h; simp at h
theorem Part.empty {X : Type} {A : Auto X} {first : X} {xs : List X} {rs : List (List Int)} : Part A first xs (rs ++ [[]]) ↔ Part A first xs rs := by
  constructor
  · intro h
    exact ⟨h.head, h.nodup, h.from_, fun i x t e => h.ent i x t (ent_empty.2 e), fun t h0 h1 => by simpa only [ent_empty] using h.found t h0 h1, fun i x t e t' h0 h1 => by simpa only [ent_empty] using h.order i x t (ent_empty.2 e) t' h0 h1⟩
  · intro h
    exact ⟨h.head, h.nodup, h.from_, fun i x t e => h.ent i x t (ent_empty.1 e), fun t h0 h1 => by simpa only [ent_empty] using h.found t h0 h1, fun i x t e t' h0 h1 => by simpa only [ent_empty] using h.order i x t (ent_empty.1 e) t' h0 h1⟩
/-- an entry of nowhere -/
theorem Part.none {X : Type} {A : Auto X} {first : X} {xs : List X} {rs : List (List Int)} {cur : List Int} (h : Part A first xs (rs ++ [cur])) {x : X} (hx : xs[rs.length]? = some x) (hn : A.next x cur.length = none) : Part A first xs (rs ++ [cur ++ [-1]]) where
  head := h.head
  nodup := h.nodup
  from_ := h.from_
  ent := fun i y t e => by
    rcases ent_last.1 e with e | ⟨rfl, rfl, rfl⟩
    · exact h.ent i y t e
    · exact ⟨x, hx, .inl ⟨hn, rfl⟩⟩
  found := fun t h0 h1 => by
    obtain ⟨i, y, hi, e⟩ := h.found t h0 h1
    exact ⟨i, y, hi, ent_last.2 (.inl e)⟩
  order := fun i y t' e t h0 h1 => by
    rcases ent_last.1 e with e | ⟨rfl, rfl, rfl⟩
    · obtain ⟨j, z, hj, e⟩ := h.order i y t' e t h0 h1
      exact ⟨j, z, hj, ent_last.2 (.inl e)⟩
    · omega
/-- an entry of what was found before -/
theorem Part.old {X : Type} {A : Auto X} {first : X} {xs : List X} {rs : List (List Int)} {cur : List Int} (h : Part A first xs (rs ++ [cur])) {x y : X} (hx : xs[rs.length]? = some x) (hn : A.next x cur.length = some y)
    {k : Nat} (hk : xs[k]? = some y) : Part A first xs (rs ++ [cur ++ [(k : Int)]]) where
  head := h.head
  nodup := h.nodup
  from_ := h.from_
  ent := fun i z t e => by
    rcases ent_last.1 e with e | ⟨rfl, rfl, rfl⟩
    · exact h.ent i z t e
    · exact ⟨x, hx, .inr ⟨y, hn, by omega, by simpa using hk⟩⟩
  found := fun t h0 h1 => by
    obtain ⟨i, y, hi, e⟩ := h.found t h0 h1
    exact ⟨i, y, hi, ent_last.2 (.inl e)⟩
  order := fun i z t' e t h0 h1 => by
    rcases ent_last.1 e with e | ⟨rfl, rfl, rfl⟩
    · obtain ⟨j, z, hj, e⟩ := h.order i z t' e t h0 h1
      exact ⟨j, z, hj, ent_last.2 (.inl e)⟩
    · have := (List.getElem?_eq_some_iff.1 hk).1
      obtain ⟨j, z, hj, e⟩ := h.found t h0 (by omega)
      exact ⟨j, z, ent_place e, ent_last.2 (.inl e)⟩
/-- an entry of something new -/
theorem Part.fresh {X : Type} {A : Auto X} {first : X} {xs : List X} {rs : List (List Int)} {cur : List Int} (h : Part A first xs (rs ++ [cur])) {x y : X} (hx : xs[rs.length]? = some x) (hn : A.next x cur.length = some y)
    (hlet : (cur.length : Int) < A.letters) (hy : y ∉ xs) : Part A first (xs ++ [y]) (rs ++ [cur ++ [(xs.length : Int)]]) where
  head := by
    have := h.head
    rw [List.getElem?_append_left (List.getElem?_eq_some_iff.1 this).1]; exact this
  nodup := by
    rw [List.nodup_append]
    refine ⟨h.nodup, by simp, fun a ha b hb => ?_⟩
    rw [List.mem_singleton] at hb; subst hb; rintro rfl; exact hy ha
  from_ := fun z hz => by
    rcases List.mem_append.1 hz with hz | hz
    · exact h.from_ z hz
    · rw [List.mem_singleton] at hz; subst hz
      exact .step (h.from_ x (List.mem_of_getElem? hx)) (by omega) hlet hn
  ent := fun i z t e => by
    have up : ∀ {k : Nat} {v : X}, xs[k]? = some v → (xs ++ [y])[k]? = some v := fun hk => by rw [List.getElem?_append_left (List.getElem?_eq_some_iff.1 hk).1]; exact hk
    rcases ent_last.1 e with e | ⟨rfl, rfl, rfl⟩
    · obtain ⟨v, hv, r⟩ := h.ent i z t e
      refine ⟨v, up hv, ?_⟩
      rcases r with r | ⟨Y, r1, r2, r3⟩
      · exact .inl r
      · exact .inr ⟨Y, r1, r2, up r3⟩
    · exact ⟨x, up hx, .inr ⟨y, hn, by omega, by simp⟩⟩
  found := fun t h0 h1 => by
    rw [List.length_append, List.length_singleton] at h1
    rcases Nat.lt_or_ge t xs.length with hlt | hge
    · obtain ⟨i, y, hi, e⟩ := h.found t h0 hlt
      exact ⟨i, y, hi, ent_last.2 (.inl e)⟩
    · have : t = xs.length := by omega
      subst this
      exact ⟨rs.length, cur.length, (List.getElem?_eq_some_iff.1 hx).1, ent_last.2 (.inr ⟨rfl, rfl, rfl⟩)⟩
  order := fun i z t' e t h0 h1 => by
    rcases ent_last.1 e with e | ⟨rfl, rfl, rfl⟩
    · obtain ⟨j, z, hj, e⟩ := h.order i z t' e t h0 h1
      exact ⟨j, z, hj, ent_last.2 (.inl e)⟩
    · obtain ⟨j, z, hj, e⟩ := h.found t h0 (by omega)
      exact ⟨j, z, ent_place e, ent_last.2 (.inl e)⟩

/-- all rows are there -/
structure Made {X : Type} (A : Auto X) (first : X) (m : Mach) (xs : List X) : Prop where
  part : Part A first xs m.next
  letters : m.letters = A.letters
  pos : 0 ≤ A.letters
  start : m.start = 0
  len : m.next.length = xs.length
  rows : ∀ row ∈ m.next, (row.length : Int) = A.letters
  fin : m.fin = xs.map A.fin

theorem Made.shaped {X : Type} {A : Auto X} {first : X} {m : Mach} {xs : List X} (h : Made A first m xs) : m.Shaped := by
  have h0 : 0 < xs.length := (List.getElem?_eq_some_iff.1 h.part.head).1
  refine ⟨by rw [h.letters]; exact h.pos, by rw [h.len, h.fin, List.length_map], fun row hr => ⟨by rw [h.letters]; exact h.rows row hr, fun t ht => ?_⟩, fun e => by have := h.len; omega, fun _ => by rw [h.start, h.len]; omega⟩
  obtain ⟨i, hi⟩ := List.mem_iff_getElem?.1 hr
  obtain ⟨x, hx⟩ := List.mem_iff_getElem?.1 ht
  obtain ⟨X, _, r⟩ := h.part.ent i x t ⟨row, hi, hx⟩
  rw [h.len]
  rcases r with ⟨_, rfl⟩ | ⟨Y, _, r1, r2⟩
  · omega
  · have := (List.getElem?_eq_some_iff.1 r2).1; omega
theorem Made.ent_step {X : Type} {A : Auto X} {first : X} {m : Mach} {xs : List X} (h : Made A first m xs) {i : Int} (h0 : 0 ≤ i) (h1 : i < xs.length) {c : Int} (hc : m.Let c) : Ent m.next i.toNat c.toNat (m.step i c) := by
  obtain ⟨row, hr, hok, hs⟩ := h.shaped.row h0 (by rw [h.len]; exact h1)
  refine ⟨row, hr, ?_⟩
  have hlt : c.toNat < row.length := by have := hok.len; unfold Mach.Let at hc; omega
  rw [hs c hc.1, List.getD_eq_getElem?_getD, List.getElem?_eq_getElem hlt]; rfl
theorem Made.step {X : Type} {A : Auto X} {first : X} {m : Mach} {xs : List X} (h : Made A first m xs) {i : Int} {x : X} (h0 : 0 ≤ i) (hx : xs[i.toNat]? = some x) {c : Int} (hc : m.Let c) :
    A.next x c = none ∧ m.step i c = -1 ∨ ∃ Y, A.next x c = some Y ∧ 0 ≤ m.step i c ∧ xs[(m.step i c).toNat]? = some Y := by
  have hlt := (List.getElem?_eq_some_iff.1 hx).1
  obtain ⟨X', h1, h2⟩ := h.part.ent _ _ _ (h.ent_step h0 (by omega) hc)
  rw [hx] at h1; injection h1 with h1; subst h1
  have : ((c.toNat : Nat) : Int) = c := by unfold Mach.Let at hc; omega
  rw [this] at h2; exact h2
theorem Made.acc {X : Type} {A : Auto X} {first : X} {m : Mach} {xs : List X} (h : Made A first m xs) {i : Int} {x : X} (h0 : 0 ≤ i) (hx : xs[i.toNat]? = some x) (u : List Int) : m.acc i u = A.acc x u := by
  induction u generalizing i x with
  | nil =>
    rw [Mach.acc_nil, Mach.ends, h.fin, List.getD_eq_getElem?_getD, List.getElem?_map, hx]
    simp [h0, Auto.acc]
  | cons c u ih =>
    rw [Mach.acc_cons, Auto.acc]
    split
    · rename_i hc
      rcases h.step h0 hx (c := c) ⟨hc.1, by rw [h.letters]; exact hc.2⟩ with ⟨e1, e2⟩ | ⟨Y, e1, e2, e3⟩
      · rw [e1, e2, Mach.acc_neg (by decide)]
      · rw [e1]; exact ih e2 e3
    · rename_i hc
      refine Mach.acc_neg (Classical.byContradiction fun hn => hc ?_) u
      have := (h.shaped.step_let (s := i) (x := c) (by omega)).2
      rw [← h.letters]; exact this
theorem Made.acc_start {X : Type} {A : Auto X} {first : X} {m : Mach} {xs : List X} (h : Made A first m xs) (u : List Int) : m.acc m.start u = A.acc first u := by
  rw [h.start]; exact h.acc (i := 0) (by decide) (by simpa using h.part.head) u
theorem Made.numbered {X : Type} {A : Auto X} {first : X} {m : Mach} {xs : List X} (h : Made A first m xs) : m.Numbered := by
  have fin : ∀ {j y : Nat} {t : Int}, Ent m.next j y t → m.Let y ∧ m.step j y = t := by
    rintro j y t ⟨row, hr, ht⟩
    have h2 := (List.getElem?_eq_some_iff.1 ht).1
    refine ⟨⟨by omega, ?_⟩, Mach.step_in (row := row) hr (by omega) (by omega) ht⟩
    have := h.rows row (List.mem_of_getElem? hr); rw [h.letters]; omega
  constructor
  · intro t h0 h1
    obtain ⟨i, x, hi, e⟩ := h.part.found t.toNat (by omega) (by rw [← h.len]; omega)
    obtain ⟨f1, f2⟩ := fin e
    exact ⟨i, x, by omega, by omega, f1, by rw [f2]; omega⟩
  · intro i x t' hi hx e t h0 h1
    have hlt : 0 ≤ m.step i x := by omega
    have hr := (h.shaped.step_let hlt).1
    have := h.ent_step hi (by rw [← h.len]; exact hr.2) hx
    rw [e] at this
    obtain ⟨j, y, hj, e⟩ := h.part.order _ _ _ this t.toNat (by omega) (by omega)
    obtain ⟨f1, f2⟩ := fin e
    unfold Mach.Let at hx
    exact ⟨j, y, by omega, f1, by omega, by rw [f2]; omega⟩
/-- a made machine is canonical if each thing lives, and no two have the same words -/
theorem Made.canon {X : Type} {A : Auto X} {first : X} {m : Mach} {xs : List X} (h : Made A first m xs) (live : ∀ x ∈ xs, ∃ u, A.acc x u = true) (apart : ∀ x ∈ xs, ∀ y ∈ xs, (∀ u, A.acc x u = A.acc y u) → x = y) : m.Canon := by
  have get : ∀ s : Int, 0 ≤ s → s < m.next.length → ∃ x, xs[s.toNat]? = some x := fun s h0 h1 => ⟨_, List.getElem?_eq_getElem (by rw [← h.len]; omega)⟩
  refine ⟨h.shaped, by rw [h.start]; omega, fun s h0 h1 => ?_, fun s t h0 h1 h2 h3 e => ?_, h.numbered⟩
  · obtain ⟨x, hx⟩ := get s h0 h1
    obtain ⟨u, hu⟩ := live x (List.mem_of_getElem? hx)
    exact ⟨u, by rw [h.acc h0 hx]; exact hu⟩
  · obtain ⟨x, hx⟩ := get s h0 h1
    obtain ⟨y, hy⟩ := get t h2 h3
    have : x = y := apart x (List.mem_of_getElem? hx) y (List.mem_of_getElem? hy) fun u => by rw [← h.acc h0 hx, ← h.acc h2 hy]; exact e u
    subst this
    have e1 := (List.getElem?_eq_some_iff.1 hx); have e2 := (List.getElem?_eq_some_iff.1 hy)
    obtain ⟨l1, e1⟩ := e1; obtain ⟨l2, e2⟩ := e2
    have := (List.getElem_inj h.part.nodup (h₀ := l1) (h₁ := l2)).1 (by rw [e1, e2])
    omega
/-- all that is found from the first thing is there -/
theorem Made.all {X : Type} {A : Auto X} {first : X} {m : Mach} {xs : List X} (h : Made A first m xs) {x : X} (hx : A.From first x) : x ∈ xs := by
  induction hx with
  | here => exact List.mem_of_getElem? h.part.head
  | step hy h0 h1 e ih =>
    obtain ⟨i, hi⟩ := List.mem_iff_getElem?.1 ih
    rcases h.step (i := i) (by omega) (by simpa using hi) ⟨h0, by rw [h.letters]; exact h1⟩ with ⟨e1, _⟩ | ⟨Y, e1, _, e3⟩
    · rw [e] at e1; cases e1
    · rw [e] at e1; injection e1 with e1; subst e1; exact List.mem_of_getElem? e3
end Go.Proofs.Ytnkpjlhbojjneaa.VC

/- States in blocks: how the marked ones are put first, and how a block is parted; what is kept while blocks are parted. -/
namespace Go.Proofs.Ytnkpjlhbojjneaa.VC

def gi (l : List Int) (i : Int) : Int := l.getD i.toNat 0
theorem gi_get {l : List Int} {i : Int} {v : Int} (h : l[i.toNat]? = some v) : gi l i = v := by simp [gi, List.getD_eq_getElem?_getD, h]
theorem get_gi {l : List Int} {i : Int} (h0 : 0 ≤ i) (h1 : i < l.length) : l[i.toNat]? = some (gi l i) := by
  have : i.toNat < l.length := by omega
  simp [gi, List.getD_eq_getElem?_getD, List.getElem?_eq_getElem this]
theorem gi_set {l : List Int} {i j v : Int} (h0 : 0 ≤ i) (h1 : i < l.length) (hj : 0 ≤ j) : gi (l.set i.toNat v) j = if j = i then v else gi l j := by
  unfold gi
  rw [List.getD_eq_getElem?_getD, List.getD_eq_getElem?_getD, List.getElem?_set]
  by_cases h : j = i
  · subst h
    have : j.toNat < l.length := by omega
    simp [this]
  · have : ¬ i.toNat = j.toNat := by omega
    simp [this, h]
theorem gi_left {l r : List Int} {j : Int} (h0 : 0 ≤ j) (h : j < l.length) : gi (l ++ r) j = gi l j := by
  unfold gi
  rw [List.getD_eq_getElem?_getD, List.getD_eq_getElem?_getD, List.getElem?_append_left (by omega)]
theorem gi_last {l : List Int} {v : Int} : gi (l ++ [v]) l.length = v := by
  unfold gi
  rw [List.getD_eq_getElem?_getD, List.getElem?_append_right (by omega)]
  simp

structure Par where
  order : List Int
  at_ : List Int
  block : List Int
  first : List Int
  size : List Int
structure Par.Wf (p : Par) (kept : Int → Prop) (n : Int) : Prop where
  kin : ∀ s, kept s → 0 ≤ s ∧ s < n
  atl : (p.at_.length : Int) = n
  bll : (p.block.length : Int) = n
  fs : p.first.length = p.size.length
  pos : ∀ s, kept s → 0 ≤ gi p.at_ s ∧ gi p.at_ s < p.order.length ∧ gi p.order (gi p.at_ s) = s
  ord : ∀ i : Int, 0 ≤ i → i < p.order.length → kept (gi p.order i) ∧ gi p.at_ (gi p.order i) = i
  blk : ∀ s, kept s → 0 ≤ gi p.block s ∧ gi p.block s < p.first.length ∧ gi p.first (gi p.block s) ≤ gi p.at_ s ∧ gi p.at_ s < gi p.first (gi p.block s) + gi p.size (gi p.block s)
  seg : ∀ b : Int, 0 ≤ b → b < p.first.length → 0 ≤ gi p.first b ∧ 1 ≤ gi p.size b ∧ gi p.first b + gi p.size b ≤ p.order.length ∧ ∀ i, gi p.first b ≤ i → i < gi p.first b + gi p.size b → gi p.block (gi p.order i) = b
/-- so many of each block are marked, and stand first -/
structure Par.Marks (p : Par) (kept : Int → Prop) (cnt : Int → Int) (done : Int → Prop) : Prop where
  num : ∀ b : Int, 0 ≤ b → b < p.first.length → 0 ≤ cnt b ∧ cnt b ≤ gi p.size b
  mark : ∀ s, kept s → (done s ↔ gi p.at_ s < gi p.first (gi p.block s) + cnt (gi p.block s))

/-- one more is marked -/
def Par.swap (p : Par) (i j t s : Int) : Par := { p with order := (p.order.set i.toNat t).set j.toNat s, at_ := (p.at_.set t.toNat i).set s.toNat j }
theorem Par.Wf.swap {p : Par} {kept : Int → Prop} {n : Int} (h : p.Wf kept n) {cnt : Int → Int} {done : Int → Prop} (hm : p.Marks kept cnt done) {s : Int} (hs : kept s) (hd : ¬ done s)
    {b i j t : Int} (hb : gi p.block s = b) (hi : gi p.at_ s = i) (hj : gi p.first b + cnt b = j) (ht : gi p.order j = t) :
    (0 ≤ i ∧ i < p.order.length) ∧ (0 ≤ j ∧ j < p.order.length) ∧ (0 ≤ t ∧ t < n) ∧ (p.swap i j t s).Wf kept n ∧ (p.swap i j t s).Marks kept (fun x => if x = b then cnt b + 1 else cnt x) (fun x => done x ∨ x = s) := by
  have hb1 := h.blk s hs
  rw [hb, hi] at hb1
  have hsg := h.seg b hb1.1 hb1.2.1
  have hc := hm.num b hb1.1 hb1.2.1
  have hps := h.pos s hs
  rw [hi] at hps
  have hks := h.kin s hs
  have hdn := hm.mark s hs
  rw [hb, hi] at hdn
  have hij : j ≤ i := by
    apply Classical.byContradiction; intro hn
    exact hd (hdn.2 (by omega))
  have hjr : 0 ≤ j ∧ j < p.order.length := by omega
  have hto := h.ord j hjr.1 hjr.2
  rw [ht] at hto
  have hkt := h.kin t hto.1
  have hbt : gi p.block t = b := by rw [← ht]; exact hsg.2.2.2 j (by omega) (by omega)
  have ol : (p.swap i j t s).order.length = p.order.length := by simp [Par.swap]
  -- what order and at_ tell now
  have og : ∀ x : Int, 0 ≤ x → gi (p.swap i j t s).order x = if x = j then s else if x = i then t else gi p.order x := fun x hx => by
    simp only [Par.swap]
    rw [gi_set hjr.1 (by simp; omega) hx, gi_set hps.1 hps.2.1 hx]
  have ag : ∀ x : Int, 0 ≤ x → gi (p.swap i j t s).at_ x = if x = s then j else if x = t then i else gi p.at_ x := fun x hx => by
    simp only [Par.swap]
    have := h.atl
    rw [gi_set hks.1 (by simp; omega) hx, gi_set hkt.1 (by omega) hx]
  have hst : s = t ↔ i = j := by
    constructor
    · rintro rfl; omega
    · rintro rfl; rw [← ht]; exact hps.2.2.symm
  refine ⟨⟨hps.1, hps.2.1⟩, hjr, hkt, ⟨h.kin, by simp [Par.swap, h.atl], h.bll, h.fs, fun x hx => ?_, fun x h0 h1 => ?_, fun x hx => ?_, fun c h0 h1 => ?_⟩, ⟨fun c h0 h1 => ?_, fun x hx => ?_⟩⟩
  · have hkx := h.kin x hx
    have hpx := h.pos x hx
    rw [ag x hkx.1, ol]
    by_cases e1 : x = s
    · subst e1; simp only [if_pos]; exact ⟨hjr.1, hjr.2, by rw [og j hjr.1]; simp⟩
    · by_cases e2 : x = t
      · subst e2
        rw [if_neg e1, if_pos rfl]
        refine ⟨hps.1, hps.2.1, ?_⟩
        have : i ≠ j := fun e => e1 (hst.2 e).symm
        rw [og i hps.1, if_neg this, if_pos rfl]
      · rw [if_neg e1, if_neg e2]
        refine ⟨hpx.1, hpx.2.1, ?_⟩
        rw [og _ hpx.1, if_neg (fun e => e2 (by rw [← hpx.2.2, e, ht])), if_neg (fun e => e1 (by rw [← hpx.2.2, e, hps.2.2]))]
        exact hpx.2.2
  · rw [ol] at h1
    rw [og x h0]
    have hox := h.ord x h0 h1
    by_cases e1 : x = j
    · subst e1; rw [if_pos rfl, ag s hks.1]; simp [hs]
    · rw [if_neg e1]
      by_cases e2 : x = i
      · subst e2
        have : t ≠ s := fun e => e1 (hst.1 e.symm)
        rw [if_pos rfl, ag t hkt.1, if_neg this, if_pos rfl]; exact ⟨hto.1, rfl⟩
      · rw [if_neg e2, ag _ (h.kin _ hox.1).1]
        have n1 : gi p.order x ≠ s := fun e => e2 (by rw [← hox.2, e, hi])
        have n2 : gi p.order x ≠ t := fun e => e1 (by rw [← hox.2, e, hto.2])
        rw [if_neg n1, if_neg n2]; exact hox
  · have hbx := h.blk x hx
    show 0 ≤ gi p.block x ∧ gi p.block x < p.first.length ∧ gi p.first (gi p.block x) ≤ gi (p.swap i j t s).at_ x ∧ gi (p.swap i j t s).at_ x < gi p.first (gi p.block x) + gi p.size (gi p.block x)
    rw [ag x (h.kin x hx).1]
    by_cases e1 : x = s
    · subst e1; rw [if_pos rfl, hb]; omega
    · rw [if_neg e1]
      by_cases e2 : x = t
      · subst e2; rw [if_pos rfl, hbt]; omega
      · rw [if_neg e2]; exact hbx
  · have hsc := h.seg c h0 h1
    show 0 ≤ gi p.first c ∧ 1 ≤ gi p.size c ∧ gi p.first c + gi p.size c ≤ (p.swap i j t s).order.length ∧ ∀ k, gi p.first c ≤ k → k < gi p.first c + gi p.size c → gi p.block (gi (p.swap i j t s).order k) = c
    rw [ol]
    refine ⟨hsc.1, hsc.2.1, hsc.2.2.1, fun k hk1 hk2 => ?_⟩
    have hk := hsc.2.2.2 k hk1 hk2
    rw [og k (by omega)]
    by_cases e1 : k = j
    · subst e1; rw [if_pos rfl, hb, ← hk, ht, hbt]
    · rw [if_neg e1]
      by_cases e2 : k = i
      · subst e2; rw [if_pos rfl, hbt, ← hk, hps.2.2, hb]
      · rw [if_neg e2]; exact hk
  · have := hm.num c h0 h1
    show 0 ≤ (if c = b then cnt b + 1 else cnt c) ∧ (if c = b then cnt b + 1 else cnt c) ≤ gi p.size c
    split
    · rename_i e; subst e; omega
    · exact this
  · have hdx := hm.mark x hx
    show done x ∨ x = s ↔ gi (p.swap i j t s).at_ x < gi p.first (gi p.block x) + (if gi p.block x = b then cnt b + 1 else cnt (gi p.block x))
    rw [ag x (h.kin x hx).1]
    by_cases e1 : x = s
    · subst e1; simp only [if_pos, hb]; simp only [or_true, true_iff]; omega
    · rw [if_neg e1]
      simp only [e1, or_false]
      by_cases e2 : x = t
      · subst e2
        rw [if_pos rfl, hbt, if_pos rfl, hdx, hbt, hto.2]
        constructor
        · omega
        · intro _; have : i ≠ j := fun e => e1 (hst.2 e).symm
          omega
      · rw [if_neg e2, hdx]
        split
        · rename_i e; rw [e]
          have : gi p.at_ x ≠ j := fun e3 => e2 (by rw [← (h.pos x hx).2.2, e3, ht])
          omega
        · exact Iff.rfl

section
open Classical
/-- the states of some places get another block -/
def Par.Moved (block block' : List Int) (order : List Int) (lo hi k : Int) : Prop :=
  block'.length = block.length ∧ ∀ s, 0 ≤ s → gi block' s = if (∃ i, lo ≤ i ∧ i < hi ∧ gi order i = s) then k else gi block s
theorem Par.moved_nil {block order : List Int} {lo k : Int} : Par.Moved block block order lo lo k := ⟨rfl, fun s _ => by
  rw [if_neg]; rintro ⟨i, h1, h2, _⟩; omega⟩
theorem Par.moved_step {block block' order : List Int} {lo hi k : Int} (h : Par.Moved block block' order lo hi k) (hlo : lo ≤ hi) {s : Int} (hs : gi order hi = s) (h0 : 0 ≤ s) (h1 : s < block.length) :
    Par.Moved block (block'.set s.toNat k) order lo (hi + 1) k := ⟨by simp [h.1], fun x hx => by
  have hl := h.1
  rw [gi_set h0 (by omega) hx, h.2 x hx]
  by_cases e : x = s
  · subst e; rw [if_pos rfl, if_pos ⟨hi, hlo, by omega, hs⟩]
  · rw [if_neg e]
    by_cases e2 : ∃ i, lo ≤ i ∧ i < hi ∧ gi order i = x
    · obtain ⟨i, e2⟩ := e2
      rw [if_pos ⟨i, e2⟩, if_pos ⟨i, e2.1, by omega, e2.2.2⟩]
    · rw [if_neg e2, if_neg]
      rintro ⟨i, e3, e4, e5⟩
      refine e2 ⟨i, e3, ?_, e5⟩
      have : i ≠ hi := fun e6 => e (by rw [← e5, e6, hs])
      omega⟩

/-- the first n of a block become a block of their own -/
def Par.part (p : Par) (b n : Int) (block' : List Int) : Par := { p with block := block', first := (p.first ++ [gi p.first b]).set b.toNat (gi p.first b + n), size := (p.size ++ [n]).set b.toNat (gi p.size b - n) }
/-- what parting does to the blocks of states -/
structure Par.Parts (p p' : Par) (kept : Int → Prop) (M : Int → Prop) (b : Int) : Prop where
  blk : ∀ s, kept s → (gi p.block s = b ∧ M s → gi p'.block s = p.first.length) ∧ (¬ (gi p.block s = b ∧ M s) → gi p'.block s = gi p.block s)
  len : p'.first.length = p.first.length + 1
  rng : 0 ≤ b ∧ b < p.first.length
theorem Par.Wf.part {p : Par} {kept : Int → Prop} {n : Int} (h : p.Wf kept n) {M : Int → Prop} {b c : Int} (hb0 : 0 ≤ b) (hb1 : b < p.first.length) (hc0 : 0 < c) (hc1 : c < gi p.size b)
    (hM : ∀ s, kept s → gi p.block s = b → (M s ↔ gi p.at_ s < gi p.first b + c)) {block' : List Int} (hmv : Par.Moved p.block block' p.order (gi p.first b) (gi p.first b + c) p.first.length) :
    (p.part b c block').Wf kept n ∧ p.Parts (p.part b c block') kept M b ∧ (∀ x : Int, 0 ≤ x → x < p.first.length → x ≠ b → gi (p.part b c block').first x = gi p.first x ∧ gi (p.part b c block').size x = gi p.size x) := by
  have hsg := h.seg b hb0 hb1
  have hfs := h.fs
  have kx : ∀ s, kept s → gi (p.part b c block').block s = if gi p.block s = b ∧ M s then (p.first.length : Int) else gi p.block s := fun s hs => by
    show gi block' s = _
    rw [hmv.2 s (h.kin s hs).1]
    have hps := h.pos s hs
    by_cases e : gi p.block s = b ∧ M s
    · rw [if_pos e, if_pos]
      have := (hM s hs e.1).1 e.2
      have hbs := h.blk s hs; rw [e.1] at hbs
      exact ⟨_, by omega, by omega, hps.2.2⟩
    · rw [if_neg e, if_neg]
      rintro ⟨i, h1, h2, h3⟩
      have ho := h.ord i (by omega) (by omega)
      have hb := hsg.2.2.2 i (by omega) (by omega)
      rw [h3] at ho hb
      exact e ⟨hb, (hM s hs hb).2 (by omega)⟩
  have fl : (p.part b c block').first.length = p.first.length + 1 := by simp [Par.part]
  have fx : ∀ x : Int, 0 ≤ x → x ≤ p.first.length → gi (p.part b c block').first x = if x = b then gi p.first b + c else if x = p.first.length then gi p.first b else gi p.first x := fun x h0 h1 => by
    simp only [Par.part]
    rw [gi_set hb0 (by simp; omega) h0]
    split
    · rfl
    · split
      · rename_i e; subst e; exact gi_last
      · exact gi_left h0 (by omega)
  have sx : ∀ x : Int, 0 ≤ x → x ≤ p.first.length → gi (p.part b c block').size x = if x = b then gi p.size b - c else if x = p.first.length then c else gi p.size x := fun x h0 h1 => by
    simp only [Par.part]
    rw [gi_set hb0 (by simp; omega) h0]
    split
    · rfl
    · split
      · rename_i e; subst e; rw [hfs]; exact gi_last
      · exact gi_left h0 (by omega)
  refine ⟨⟨h.kin, h.atl, by show (block'.length : Int) = n; rw [hmv.1]; exact h.bll, by simp [Par.part, hfs], h.pos, h.ord, fun s hs => ?_, fun x h0 h1 => ?_⟩, ⟨fun s hs => ?_, fl, hb0, hb1⟩, fun x h0 h1 hne => ?_⟩
  · have hbs := h.blk s hs
    rw [kx s hs]
    show 0 ≤ _ ∧ _ < ((p.part b c block').first.length : Int) ∧ _ ≤ gi p.at_ s ∧ gi p.at_ s < _
    rw [fl]
    by_cases e : gi p.block s = b ∧ M s
    · rw [if_pos e, fx _ (by omega) (by omega), sx _ (by omega) (by omega)]
      have := (hM s hs e.1).1 e.2
      rw [e.1] at hbs
      have : (p.first.length : Int) ≠ b := by omega
      rw [if_neg this, if_neg this, if_pos rfl, if_pos rfl]
      omega
    · rw [if_neg e, fx _ (by omega) (by omega), sx _ (by omega) (by omega)]
      by_cases e2 : gi p.block s = b
      · rw [if_pos e2, if_pos e2]
        have : ¬ M s := fun h => e ⟨e2, h⟩
        have := mt (hM s hs e2).2 this
        rw [e2] at hbs
        omega
      · have : gi p.block s ≠ p.first.length := by omega
        rw [if_neg e2, if_neg e2, if_neg this, if_neg this]
        omega
  · rw [fl] at h1
    rw [fx x h0 (by omega), sx x h0 (by omega)]
    show _ ∧ _ ∧ _ ≤ (p.order.length : Int) ∧ _
    have blkat : ∀ i : Int, 0 ≤ i → i < p.order.length → gi (p.part b c block').block (gi (p.part b c block').order i) = if gi p.block (gi p.order i) = b ∧ M (gi p.order i) then (p.first.length : Int) else gi p.block (gi p.order i) := fun i h0 h1 => kx _ (h.ord i h0 h1).1
    by_cases e1 : x = b
    · rw [if_pos e1, if_pos e1]
      refine ⟨by omega, by omega, by omega, fun i hi1 hi2 => ?_⟩
      rw [blkat i (by omega) (by omega)]
      have ho := h.ord i (by omega) (by omega)
      have hb := hsg.2.2.2 i (by omega) (by omega)
      rw [if_neg, hb, e1]
      rintro ⟨_, hMi⟩
      have := (hM _ ho.1 hb).1 hMi
      omega
    · rw [if_neg e1, if_neg e1]
      by_cases e2 : x = p.first.length
      · rw [if_pos e2, if_pos e2]
        refine ⟨by omega, by omega, by omega, fun i hi1 hi2 => ?_⟩
        rw [blkat i (by omega) (by omega)]
        have ho := h.ord i (by omega) (by omega)
        have hb := hsg.2.2.2 i (by omega) (by omega)
        rw [if_pos ⟨hb, (hM _ ho.1 hb).2 (by omega)⟩, e2]
      · rw [if_neg e2, if_neg e2]
        have hsx := h.seg x h0 (by omega)
        refine ⟨hsx.1, hsx.2.1, hsx.2.2.1, fun i hi1 hi2 => ?_⟩
        rw [blkat i (by omega) (by omega)]
        have hb := hsx.2.2.2 i (by omega) (by omega)
        rw [if_neg (fun e => e1 (by rw [← hb, e.1])), hb]
  · rw [kx s hs]
    exact ⟨fun e => if_pos e, fun e => if_neg e⟩
  · rw [fx x h0 (by omega), sx x h0 (by omega), if_neg hne, if_neg hne, if_neg (by omega), if_neg (by omega)]
    exact ⟨rfl, rfl⟩

end

/-- the blocks that are still to be parted, and the others, of which all or none are marked -/
structure Par.Left (p : Par) (kept : Int → Prop) (cnt : Int → Int) (M : Int → Prop) (todo : List Int) : Prop where
  nodup : todo.Nodup
  some_ : ∀ b ∈ todo, 0 ≤ b ∧ b < p.first.length ∧ 0 < cnt b ∧ cnt b ≤ gi p.size b ∧ ∀ s, kept s → gi p.block s = b → (M s ↔ gi p.at_ s < gi p.first b + cnt b)
  all_ : ∀ b : Int, 0 ≤ b → b < p.first.length → b ∉ todo → (∀ s, kept s → gi p.block s = b → M s) ∨ (∀ s, kept s → gi p.block s = b → ¬ M s)
theorem Par.Left.skip {p : Par} {kept : Int → Prop} {n : Int} (h : p.Wf kept n) {cnt : Int → Int} {M : Int → Prop} {b : Int} {todo : List Int} (hl : p.Left kept cnt M (b :: todo)) (hc : cnt b = gi p.size b) : p.Left kept cnt M todo where
  nodup := (List.nodup_cons.1 hl.nodup).2
  some_ := fun c hc => hl.some_ c (List.mem_cons_of_mem _ hc)
  all_ := fun c h0 h1 hn => by
    by_cases e : c = b
    · subst e
      left; intro s hs hb
      have := h.blk s hs; rw [hb] at this
      exact ((hl.some_ c (List.mem_cons_self ..)).2.2.2.2 s hs hb).2 (by omega)
    · exact hl.all_ c h0 h1 (by simp [e, hn])
theorem Par.Left.part {p : Par} {kept : Int → Prop} {n : Int} (h : p.Wf kept n) {cnt : Int → Int} {M : Int → Prop} {b : Int} {todo : List Int} (hl : p.Left kept cnt M (b :: todo)) (hc : cnt b ≠ gi p.size b)
    {block' : List Int} (hmv : Par.Moved p.block block' p.order (gi p.first b) (gi p.first b + cnt b) p.first.length) :
    (p.part b (cnt b) block').Wf kept n ∧ p.Parts (p.part b (cnt b) block') kept M b ∧ (p.part b (cnt b) block').Left kept cnt M todo := by
  have hb := hl.some_ b (List.mem_cons_self ..)
  have hnd := List.nodup_cons.1 hl.nodup
  obtain ⟨hw, hp, hx⟩ := h.part hb.1 hb.2.1 hb.2.2.1 (by omega) hb.2.2.2.2 hmv
  refine ⟨hw, hp, hnd.2, fun c hcm => ?_, fun c h0 h1 hn => ?_⟩
  · have hcb := hl.some_ c (List.mem_cons_of_mem _ hcm)
    have hne : c ≠ b := fun e => hnd.1 (e ▸ hcm)
    obtain ⟨e1, e2⟩ := hx c hcb.1 hcb.2.1 hne
    rw [e1, e2, hp.len]
    refine ⟨hcb.1, by omega, hcb.2.2.1, hcb.2.2.2.1, fun s hs hbs => ?_⟩
    have hbl := hp.blk s hs
    by_cases e : gi p.block s = b ∧ M s
    · have := hbl.1 e; omega
    · rw [hbl.2 e] at hbs
      exact hcb.2.2.2.2 s hs hbs
  · rw [hp.len] at h1
    by_cases e1 : c = b
    · subst e1
      right; intro s hs hbs hM
      have hbl := hp.blk s hs
      by_cases e : gi p.block s = c ∧ M s
      · have := hbl.1 e; omega
      · rw [hbl.2 e] at hbs; exact e ⟨hbs, hM⟩
    · by_cases e2 : c = p.first.length
      · left; intro s hs hbs
        have hbl := hp.blk s hs
        by_cases e : gi p.block s = b ∧ M s
        · exact e.2
        · have := hbl.2 e; have := (h.blk s hs).2.1; omega
      · have hr := hl.all_ c h0 (by omega) (by simp [e1, hn])
        have back : ∀ s, kept s → gi (p.part b (cnt b) block').block s = c → gi p.block s = c := fun s hs hbs => by
          have hbl := hp.blk s hs
          by_cases e : gi p.block s = b ∧ M s
          · have := hbl.1 e; omega
          · rw [← hbl.2 e]; exact hbs
        rcases hr with hr | hr
        · exact .inl fun s hs hbs => hr s hs (back s hs hbs)
        · exact .inr fun s hs hbs => hr s hs (back s hs hbs)
/-- at the end of it: states of one block are marked together -/
theorem Par.Left.done {p : Par} {kept : Int → Prop} {n : Int} (h : p.Wf kept n) {cnt : Int → Int} {M : Int → Prop} (hl : p.Left kept cnt M []) {s t : Int} (hs : kept s) (ht : kept t) (e : gi p.block s = gi p.block t) : M s ↔ M t := by
  have hb := h.blk s hs
  rcases hl.all_ _ hb.1 hb.2.1 (by simp) with hr | hr
  · exact ⟨fun _ => hr t ht e.symm, fun _ => hr s hs rfl⟩
  · exact ⟨fun hm => absurd hm (hr s hs rfl), fun hm => absurd hm (hr t ht e.symm)⟩

/-- blocks are not more than the states that are kept -/
theorem nodup_bound : ∀ (n : Nat) (l : List Int), l.Nodup → (∀ x ∈ l, 0 ≤ x ∧ x < n) → l.length ≤ n := by
  intro n
  induction n with
  | zero =>
    intro l _ h
    cases l with
    | nil => simp
    | cons x l => have := h x (List.mem_cons_self ..); omega
  | succ n ih =>
    intro l hl h
    have h1 : (l.erase (n : Int)).length ≤ n := ih _ (hl.erase _) fun x hx => by
      have hm := (List.Nodup.mem_erase_iff hl).1 hx
      have := h x hm.2; have := hm.1; omega
    rw [List.length_erase] at h1
    split at h1 <;> omega
theorem Par.Wf.count {p : Par} {kept : Int → Prop} {n : Int} (h : p.Wf kept n) : p.first.length ≤ p.order.length := by
  refine (?_ : p.first.length ≤ _)
  refine nodup_bound p.order.length p.first ?_ fun x hx => ?_
  · rw [List.nodup_iff_pairwise_ne, List.pairwise_iff_getElem]
    intro i j hi hj hij e
    have h1 := h.seg i (by omega) (by omega); have h2 := h.seg j (by omega) (by omega)
    have e1 : gi p.first i = gi p.first j := by
      unfold gi; simp only [List.getD_eq_getElem?_getD, Int.toNat_natCast, List.getElem?_eq_getElem hi, List.getElem?_eq_getElem hj, e]
    have b1 := h1.2.2.2 _ (Int.le_refl _) (by omega)
    have b2 := h2.2.2.2 _ (Int.le_refl _) (by omega)
    rw [e1, b2] at b1
    omega
  · obtain ⟨i, hi⟩ := List.mem_iff_getElem?.1 hx
    have hlt := (List.getElem?_eq_some_iff.1 hi).1
    have h1 := h.seg i (by omega) (by omega)
    have : gi p.first i = x := gi_get (by simpa using hi)
    omega
end Go.Proofs.Ytnkpjlhbojjneaa.VC

/- The memory that a function owns, as one family. -/
namespace Go.Proofs.Ytnkpjlhbojjneaa.VC
open Go Go.RowKit

/-- What a block that is owned holds: a row of cells, or a map. -/
inductive Cont where
  | cells (cs : List Value)
  | map (kt : KT) (kvs : List (Value × Value))
def Holds (w : World) (b : Nat) : Cont → Prop
  | .cells cs => ∃ e, w.heap[b]? = some (.cells cs.toArray e (0, 0))
  | .map kt kvs => MapAt w kt b kvs
theorem Holds.lt {w : World} {b : Nat} {c : Cont} (h : Holds w b c) : b < w.heap.size := by
  cases c with
  | cells cs => obtain ⟨e, h⟩ := h; exact (Array.getElem?_eq_some_iff.1 h).1
  | map kt kvs => obtain ⟨es, k, h, _⟩ := h; exact (Array.getElem?_eq_some_iff.1 h).1
theorem Holds.same {w w' : World} {b : Nat} {c : Cont} (h : Holds w b c) (hs : w'.heap[b]? = w.heap[b]?) : Holds w' b c := by
  cases c with
  | cells cs => obtain ⟨e, h⟩ := h; exact ⟨e, by rw [hs]; exact h⟩
  | map kt kvs => obtain ⟨es, k, h, h2⟩ := h; exact ⟨es, k, by rw [hs]; exact h, h2⟩
abbrev FamF := Nat → Option (Nat × Cont)
def upd (F : FamF) (i : Nat) (x : Option (Nat × Cont)) : FamF := fun j => if j = i then x else F j
@[simp] theorem upd_self (F : FamF) (i : Nat) (x : Option (Nat × Cont)) : upd F i x i = x := by simp [upd]
theorem upd_ne {F : FamF} {i j : Nat} {x : Option (Nat × Cont)} (h : j ≠ i) : upd F i x j = F j := by simp [upd, h]
structure Fam (w0 w : World) (F : FamF) : Prop where
  base : Below w0.heap.size w0 w
  own : ∀ i b c, F i = some (b, c) → Holds w b c ∧ w0.heap.size ≤ b
  inj : ∀ i j b c d, F i = some (b, c) → F j = some (b, d) → i = j
def adr : Option (Nat × Cont) → Option Addr
  | none => none
  | some (b, _) => some ⟨b, 0, none⟩
/-- Only block b is not as before. -/
structure OnlyB (w : World) (b : Nat) (w' : World) : Prop where
  os : w'.os = w.os
  tape : w'.tape = w.tape
  output : w'.output = w.output
  size : w.heap.size ≤ w'.heap.size
  old : ∀ i, i ≠ b → i < w.heap.size → w'.heap[i]? = w.heap[i]?
section
variable {w0 w w' : World} {F : FamF}
theorem Fam.empty (w : World) : Fam w w (fun _ => none) := ⟨Below.refl _ _, fun _ _ _ h => by simp at h, fun _ _ _ _ _ h => by simp at h⟩
theorem Fam.ext (h : Fam w0 w F) (hb : Ext w w') : Fam w0 w' F :=
  ⟨h.base.trans (hb.mono h.base.size), fun i b c hi => ⟨(h.own i b c hi).1.same (hb.block b (h.own i b c hi).1.lt), (h.own i b c hi).2⟩, h.inj⟩
theorem Fam.only {b : Nat} {c : Cont} {i : Nat} (h : Fam w0 w F) (hb : OnlyB w b w') (hc : Holds w' b c) (hi : (∃ c0, F i = some (b, c0)) ∨ w.heap.size ≤ b) : Fam w0 w' (upd F i (some (b, c))) := by
  have hlo : w0.heap.size ≤ b := by
    rcases hi with ⟨c0, hi⟩ | hi
    · exact (h.own i b c0 hi).2
    · exact Nat.le_trans h.base.size hi
  have hne : ∀ j b' d, j ≠ i → F j = some (b', d) → b' ≠ b := by
    intro j b' d hj hF e
    subst e
    rcases hi with ⟨c0, hi⟩ | hi
    · exact hj (h.inj _ _ _ _ _ hF hi)
    · have := (h.own j b' d hF).1.lt
      omega
  refine ⟨⟨hb.os.trans h.base.os, hb.tape.trans h.base.tape, hb.output.trans h.base.output, Nat.le_trans h.base.size hb.size, fun k hk => ?_⟩, fun j b' d hj => ?_, fun j k b' d d' hj hk => ?_⟩
  · rw [hb.old k (by omega) (Nat.lt_of_lt_of_le hk h.base.size)]; exact h.base.block k hk
  · by_cases hji : j = i
    · subst hji; simp only [upd_self, Option.some.injEq, Prod.mk.injEq] at hj
      obtain ⟨rfl, rfl⟩ := hj
      exact ⟨hc, hlo⟩
    · rw [upd_ne hji] at hj
      have := h.own j b' d hj
      exact ⟨this.1.same (hb.old b' (hne j b' d hji hj) this.1.lt), this.2⟩
  · by_cases hji : j = i <;> by_cases hki : k = i
    · rw [hji, hki]
    · subst hji; simp only [upd_self, Option.some.injEq, Prod.mk.injEq] at hj
      rw [upd_ne hki] at hk
      exact absurd hj.1.symm (hne k b' d' hki hk)
    · subst hki; simp only [upd_self, Option.some.injEq, Prod.mk.injEq] at hk
      rw [upd_ne hji] at hj
      exact absurd hk.1.symm (hne j b' d hji hj)
    · rw [upd_ne hji] at hj; rw [upd_ne hki] at hk
      exact h.inj _ _ _ _ _ hj hk
theorem NewV.only {o : Obj} {b : Nat} (h : NewV w o b w') : OnlyB w b w' := ⟨h.os, h.tape, h.output, by have := h.lo; have := h.size; omega, fun i _ hi => h.old i hi⟩
theorem setCell_only (w : World) (a : Addr) (x : Value) : OnlyB w a.block (w.setCell a x) := ⟨rfl, rfl, rfl, by simp, fun i hi _ => Below.heap_setCell _ _ _ _ hi⟩
theorem MapUpd.only {kt : KT} {r : Nat} {kvs : List (Value × Value)} (h : MapUpd w kt r kvs w') : OnlyB w r w' := ⟨h.os, h.tape, h.output, by rw [h.size]; exact Nat.le_refl _, fun i hi _ => h.old i hi⟩

/-- a new row -/
theorem Fam.make {cs : List Value} {e : TypeId} (h : Fam w0 w F) (i : Nat) {K : Nat → World → Prop} (k : ∀ b w', Fam w0 w' (upd F i (some (b, .cells cs))) → K b w') : NewK w (.cells cs.toArray e (0, 0)) K := fun b w' hn =>
  k b w' (h.only hn.only ⟨e, hn.new⟩ (.inr hn.lo))
theorem Fam.makeMap (kt : KT) (h : Fam w0 w F) (i : Nat) {K : Nat → World → Prop} (k : ∀ b w', Fam w0 w' (upd F i (some (b, .map kt []))) → K b w') : NewK w (.map #[] 0) K := fun b w' hn =>
  k b w' (h.only hn.only ⟨#[], 0, hn.new, rfl, by simp⟩ (.inr hn.lo))
theorem cell_holds {b : Nat} {cs : List Value} {j : Nat} {v : Value} (h : Holds w b (.cells cs)) (hj : cs[j]? = some v) : w.cell? ⟨b, j, none⟩ = some v := by
  obtain ⟨e, h⟩ := h
  rw [cell_blk h]; simpa using hj
theorem frozen_holds {b : Nat} {cs : List Value} {j : Nat} (h : Holds w b (.cells cs)) : w.frozen? ⟨b, j, none⟩ = false := by
  obtain ⟨e, h⟩ := h
  simp [World.frozen?, h]
/-- a cell is written -/
theorem Fam.write {i b : Nat} {cs : List Value} {j : Nat} {x : Value} {K : World → Prop} (h : Fam w0 w F) (hi : F i = some (b, .cells cs)) (hj : j < cs.length) (h1 : one1 x = true)
    (k : ∀ w', Fam w0 w' (upd F i (some (b, .cells (cs.set j x)))) → K w') : SetK w ⟨b, j, none⟩ x K := by
  obtain ⟨hh, hlo⟩ := h.own i b _ hi
  refine ⟨⟨_, cell_holds hh (List.getElem?_eq_getElem hj)⟩, frozen_holds hh, h1, fun w' e => ?_⟩
  subst e
  refine k _ (h.only (setCell_only w ⟨b, j, none⟩ x) ?_ (.inl ⟨_, hi⟩))
  obtain ⟨e, hh⟩ := hh
  refine ⟨e, ?_⟩
  simp only [World.setCell, Array.getElem?_modify, if_true, hh, Option.map_some]
  simp
theorem Fam.mapPut {i b : Nat} {kt : KT} {kvs kvs' : List (Value × Value)} (h : Fam w0 w F) (hi : F i = some (b, .map kt kvs)) (hm : MapUpd w kt b kvs' w') : Fam w0 w' (upd F i (some (b, .map kt kvs'))) :=
  h.only hm.only hm.map (.inl ⟨_, hi⟩)
end
end Go.Proofs.Ytnkpjlhbojjneaa.VC

/- Slices that grow. -/
namespace Go.Proofs.Ytnkpjlhbojjneaa.VC
open Go Go.RowKit

/-- The slice (A, n, c) is the family's index i, with the contents xs. -/
def GSl (F : FamF) (i : Nat) (A : Option Addr) (n c : Nat) (xs : List Value) : Prop :=
  (F i = none ∧ A = none ∧ n = 0 ∧ c = 0 ∧ xs = []) ∨ ∃ b rest, F i = some (b, .cells (xs ++ rest)) ∧ A = some ⟨b, 0, none⟩ ∧ n = xs.length ∧ c = xs.length + rest.length
theorem GSl.upd {F : FamF} {i j : Nat} {A : Option Addr} {n c : Nat} {xs : List Value} {s : Option (Nat × Cont)} (h : GSl F i A n c xs) (hne : i ≠ j) : GSl (upd F j s) i A n c xs := by
  unfold GSl at *; rw [upd_ne hne]; exact h
theorem GSl.len {F : FamF} {i : Nat} {A : Option Addr} {n c : Nat} {xs : List Value} (h : GSl F i A n c xs) : n = xs.length := by
  rcases h with ⟨_, _, h, _, h2⟩ | ⟨_, _, _, _, h, _⟩
  · rw [h, h2]; rfl
  · exact h
theorem GSl.row {w0 w : World} {F : FamF} {i : Nat} {A : Option Addr} {n c : Nat} {xs : List Value} (h : GSl F i A n c xs) (hF : Fam w0 w F) : Row w A xs := fun hne => by
  rcases h with ⟨_, _, _, _, h2⟩ | ⟨b, rest, h1, h2, _, _⟩
  · exact absurd h2 hne
  · exact ⟨_, h2, fun j v hj => by rw [add_none, Nat.zero_add]; exact cell_holds (hF.own i b _ h1).1 (by rw [List.getElem?_append_left (List.getElem?_eq_some_iff.1 hj).1]; exact hj)⟩
theorem rep_len (n : Nat) (z : Value) : (rep n [z]).length = n := by simp [rep, Builtin.zeroCells]

theorem Fam.push {w0 w : World} {F : FamF} {i : Nat} {x z : Value} {e e2 : TypeId} {xs : List Value} {A : Option Addr} {n c bytes : Nat} (h : Fam w0 w F) (hs : GSl F i A n c xs) (hlim : (n + 1) * bytes ≤ 140737488355328) (h1 : one1 x = true)
    {K : Option Addr → Nat → Nat → World → Prop} (k : ∀ s A' c' w', Fam w0 w' (upd F i s) → GSl (upd F i s) i A' (n + 1) c' (xs ++ [x]) → K A' (n + 1) c' w') :
    NewK w (.cells #[x] e (0, 0)) fun bx w1 => AppK bytes 1 [z] e2 A n c (some ⟨bx, 0, none⟩) 1 w1 K := by
  intro bx w1 hn
  have h' := h.ext hn.ext
  have hx : Holds w1 bx (.cells [x]) := ⟨e, hn.new⟩
  refine ⟨xs, [x], by rw [hs.len]; simp, rfl, hs.row h', fun _ => ⟨_, rfl, fun j v hj => by rw [add_none, Nat.zero_add]; exact cell_holds hx hj⟩, by simpa using h1, hlim, fun hle => .inr ?_, fun hlt cap hcap => ?_⟩
  · rcases hs with ⟨_, _, _, hc, _⟩ | ⟨b, rest, hF, hA, hnx, hc⟩
    · omega
    · refine ⟨⟨b, 0, none⟩, hA, ?_⟩
      cases rest with
      | nil => simp at hc; omega
      | cons r0 rest =>
        show SetK w1 _ x _
        have : at_ ((⟨b, 0, none⟩ : Addr).add (n * 1)) 0 = ⟨b, n, none⟩ := by simp [at_, add_none]
        rw [this]
        refine h'.write hF (by simp; omega) h1 fun w' hw' => ?_
        have e : (xs ++ r0 :: rest).set n x = xs ++ [x] ++ rest := by
          rw [hnx, List.set_append_right _ _ (Nat.le_refl _)]; simp
        rw [e] at hw'
        refine k _ _ _ w' hw' (.inr ⟨b, rest, upd_self .., hA, by simp [hnx], by rw [hc]; simp; omega⟩)
  · refine h'.make i fun b w' hw' => k _ _ _ w' hw' (.inr ⟨b, _, upd_self .., rfl, by simp [hs.len], by rw [rep_len, hs.len]; simp; rw [hs.len] at hcap; omega⟩)
end Go.Proofs.Ytnkpjlhbojjneaa.VC

/- Owned slices: how they are read, written, made and grown; slices of slices. -/
namespace Go.Proofs.Ytnkpjlhbojjneaa.VC
open Go Go.RowKit

def gb (l : List Bool) (i : Int) : Bool := l.getD i.toNat false
theorem gb_get {l : List Bool} {i : Int} {v : Bool} (h : l[i.toNat]? = some v) : gb l i = v := by simp [gb, List.getD_eq_getElem?_getD, h]
theorem get_gb {l : List Bool} {i : Int} (h0 : 0 ≤ i) (h1 : i < l.length) : l[i.toNat]? = some (gb l i) := by
  have : i.toNat < l.length := by omega
  simp [gb, List.getD_eq_getElem?_getD, List.getElem?_eq_getElem this]
theorem gb_set {l : List Bool} {i j : Int} {v : Bool} (h0 : 0 ≤ i) (h1 : i < l.length) (hj : 0 ≤ j) : gb (l.set i.toNat v) j = if j = i then v else gb l j := by
  unfold gb
  rw [List.getD_eq_getElem?_getD, List.getD_eq_getElem?_getD, List.getElem?_set]
  by_cases h : j = i
  · subst h
    have : j.toNat < l.length := by omega
    simp [this]
  · have : ¬ i.toNat = j.toNat := by omega
    simp [this, h]
theorem gb_out {l : List Bool} {i : Int} (h : (l.length : Int) ≤ i) : gb l i = false := by
  unfold gb; rw [List.getD_eq_getElem?_getD, List.getElem?_eq_none (by omega)]; rfl
theorem gb_rep {n : Nat} {i : Int} : gb (List.replicate n false) i = false := by
  unfold gb; rw [List.getD_eq_getElem?_getD, List.getElem?_replicate]; split <;> rfl
theorem gb_left {l r : List Bool} {j : Int} (h0 : 0 ≤ j) (h : j < l.length) : gb (l ++ r) j = gb l j := by
  unfold gb
  rw [List.getD_eq_getElem?_getD, List.getD_eq_getElem?_getD, List.getElem?_append_left (by omega)]
theorem gb_last {l : List Bool} {v : Bool} : gb (l ++ [v]) l.length = v := by
  unfold gb
  rw [List.getD_eq_getElem?_getD, List.getElem?_append_right (by omega)]
  simp
theorem gi_rep {n : Nat} {i : Int} : gi (List.replicate n 0) i = 0 := by
  unfold gi; rw [List.getD_eq_getElem?_getD, List.getElem?_replicate]; split <;> rfl
def gl (l : List (List Int)) (i : Int) : List Int := l.getD i.toNat []
theorem gl_get {l : List (List Int)} {i : Int} {v : List Int} (h : l[i.toNat]? = some v) : gl l i = v := by simp [gl, List.getD_eq_getElem?_getD, h]
theorem get_gl {l : List (List Int)} {i : Int} (h0 : 0 ≤ i) (h1 : i < l.length) : l[i.toNat]? = some (gl l i) := by
  have : i.toNat < l.length := by omega
  simp [gl, List.getD_eq_getElem?_getD, List.getElem?_eq_getElem this]
theorem gl_set {l : List (List Int)} {i j : Int} {v : List Int} (h0 : 0 ≤ i) (h1 : i < l.length) (hj : 0 ≤ j) : gl (l.set i.toNat v) j = if j = i then v else gl l j := by
  unfold gl
  rw [List.getD_eq_getElem?_getD, List.getD_eq_getElem?_getD, List.getElem?_set]
  by_cases h : j = i
  · subst h
    have : j.toNat < l.length := by omega
    simp [this]
  · have : ¬ i.toNat = j.toNat := by omega
    simp [this, h]
theorem gl_rep {n : Nat} {i : Int} : gl (List.replicate n []) i = [] := by
  unfold gl; rw [List.getD_eq_getElem?_getD, List.getElem?_replicate]; split <;> rfl

@[simp] theorem ints_append (a b : List Int) : ints (a ++ b) = ints a ++ ints b := List.map_append ..
@[simp] theorem bools_append (a b : List Bool) : bools (a ++ b) = bools a ++ bools b := List.map_append ..
@[simp] theorem ints_set (a : List Int) (i : Nat) (x : Int) : ints (a.set i x) = (ints a).set i (.int .i64 x) := List.map_set ..
@[simp] theorem bools_set (a : List Bool) (i : Nat) (x : Bool) : bools (a.set i x) = (bools a).set i (.bool x) := List.map_set ..
@[simp] theorem ints_rep (n : Nat) (x : Int) : ints (List.replicate n x) = List.replicate n (.int .i64 x) := List.map_replicate ..
@[simp] theorem bools_rep (n : Nat) (x : Bool) : bools (List.replicate n x) = List.replicate n (.bool x) := List.map_replicate ..
theorem ints_one (x : Int) : ints [x] = [.int .i64 x] := rfl

/-- Only index i differs. -/
def Only (i : Nat) (F F' : FamF) : Prop := ∀ j, j ≠ i → F' j = F j
theorem upd_only {F : FamF} {i : Nat} {s : Option (Nat × Cont)} : Only i F (upd F i s) := fun _ h => upd_ne h
theorem GSl.keep {F F' : FamF} {i j : Nat} {A : Option Addr} {n c : Nat} {xs : List Value} (h : GSl F i A n c xs) (hs : Only j F F') (hne : i ≠ j) : GSl F' i A n c xs := by
  unfold GSl at *; rw [hs i hne]; exact h
theorem GSl.nil {F : FamF} {i : Nat} (h : F i = none) : GSl F i none 0 0 [] := .inl ⟨h, rfl, rfl, rfl, rfl⟩
section
variable {w0 w : World} {F : FamF} {i : Nat} {A : Option Addr} {n c : Nat}
theorem GSl.ix {xs : List Value} (h : GSl F i A n c xs) (hF : Fam w0 w F) {x : Int} (h0 : 0 ≤ x) (h1 : x < xs.length) {K : Addr → Prop}
    (hk : ∀ b rest v, A = some ⟨b, 0, none⟩ → F i = some (b, .cells (xs ++ rest)) → xs[x.toNat]? = some v → w.cell? ⟨b, x.toNat, none⟩ = some v → K ⟨b, x.toNat, none⟩) : IxV A n 1 x K := by
  have hn := h.len
  rcases h with ⟨_, _, _, _, h2⟩ | ⟨b, rest, h1', h2, h3, _⟩
  · subst h2; simp at h1; omega
  · have hlt : x.toNat < xs.length := by omega
    have e := List.getElem?_eq_getElem hlt
    refine ⟨_, h2, h0, by omega, ?_⟩
    rw [Nat.mul_one, add_none, Nat.zero_add]
    exact hk b rest _ h2 h1' e (cell_holds (hF.own i b _ h1').1 (by rw [List.getElem?_append_left hlt]; exact e))
theorem GSl.get_int {xs : List Int} (h : GSl F i A n c (ints xs)) (hF : Fam w0 w F) {x : Int} (h0 : 0 ≤ x) (h1 : x < xs.length) {K : Int → Prop} (hk : K (gi xs x)) :
    IxV A n 1 x fun a => ∃ t, w.cell? a = some (.int .i64 t) ∧ K t :=
  h.ix hF h0 (by simpa using h1) fun b rest v _ _ hv hc => by
    simp only [ints, List.getElem?_map, get_gi h0 h1, Option.map_some, Option.some.injEq] at hv
    subst hv; exact ⟨_, hc, hk⟩
theorem GSl.get_bool {xs : List Bool} (h : GSl F i A n c (bools xs)) (hF : Fam w0 w F) {x : Int} (h0 : 0 ≤ x) (h1 : x < xs.length) {K : Bool → Prop} (hk : K (gb xs x)) :
    IxV A n 1 x fun a => ∃ t, w.cell? a = some (.bool t) ∧ K t :=
  h.ix hF h0 (by simpa using h1) fun b rest v _ _ hv hc => by
    simp only [bools, List.getElem?_map, get_gb h0 h1, Option.map_some, Option.some.injEq] at hv
    subst hv; exact ⟨_, hc, hk⟩
theorem GSl.set {xs : List Value} (h : GSl F i A n c xs) (hF : Fam w0 w F) {x : Int} {v : Value} (hv : one1 v = true) (h0 : 0 ≤ x) (h1 : x < xs.length) {K : World → Prop}
    (hk : ∀ F' w', Only i F F' → Fam w0 w' F' → GSl F' i A n c (xs.set x.toNat v) → K w') : IxV A n 1 x fun a => SetK w a v K :=
  h.ix hF h0 h1 fun b rest v' hA hi hv' _ => by
    have hn := h.len
    have hc : c = xs.length + rest.length := by
      rcases h with ⟨hn, _⟩ | ⟨b2, rest2, e, _, _, e2⟩
      · rw [hn] at hi; cases hi
      · rw [hi] at e; injection e with e; injection e with e3 e4; injection e4 with e4
        rw [e2, List.append_cancel_left e4]
    refine hF.write hi (by simp; omega) hv fun w' hw' => hk _ w' upd_only hw' (.inr ⟨b, rest, ?_, hA, by simp [hn], by simp [hc]⟩)
    rw [upd_self, List.set_append_left _ _ (by omega)]
theorem GSl.set_int {xs : List Int} (h : GSl F i A n c (ints xs)) (hF : Fam w0 w F) {x v : Int} (h0 : 0 ≤ x) (h1 : x < xs.length) {K : World → Prop}
    (hk : ∀ F' w', Only i F F' → Fam w0 w' F' → GSl F' i A n c (ints (xs.set x.toNat v)) → K w') : IxV A n 1 x fun a => SetK w a (.int .i64 v) K :=
  h.set hF rfl h0 (by simpa using h1) fun F' w' ho hw' hs => hk F' w' ho hw' (by rw [ints_set]; exact hs)
theorem GSl.set_bool {xs : List Bool} (h : GSl F i A n c (bools xs)) (hF : Fam w0 w F) {x : Int} {v : Bool} (h0 : 0 ≤ x) (h1 : x < xs.length) {K : World → Prop}
    (hk : ∀ F' w', Only i F F' → Fam w0 w' F' → GSl F' i A n c (bools (xs.set x.toNat v)) → K w') : IxV A n 1 x fun a => SetK w a (.bool v) K :=
  h.set hF rfl h0 (by simpa using h1) fun F' w' ho hw' hs => hk F' w' ho hw' (by rw [bools_set]; exact hs)
/-- a new row of some length -/
theorem Fam.mkRow (hF : Fam w0 w F) (i : Nat) {xs : List Value} {e : TypeId} {K : Nat → World → Prop}
    (hk : ∀ b F' w', Only i F F' → Fam w0 w' F' → GSl F' i (some ⟨b, 0, none⟩) xs.length xs.length xs → K b w') : NewK w (.cells (Array.mk xs) e (0, 0)) K :=
  hF.make i fun b w' hw' => hk b _ w' upd_only hw' (.inr ⟨b, [], by rw [upd_self, List.append_nil], rfl, rfl, rfl⟩)
theorem GSl.push {x z : Value} {e e2 : TypeId} {xs : List Value} {bytes : Nat} (hs : GSl F i A n c xs) (h : Fam w0 w F) (h1 : one1 x = true) (hlim : (n + 1) * bytes ≤ 140737488355328)
    {K : Option Addr → Nat → Nat → World → Prop} (k : ∀ F' A' c' w', Only i F F' → Fam w0 w' F' → GSl F' i A' (n + 1) c' (xs ++ [x]) → K A' (n + 1) c' w') :
    NewK w (.cells (Array.mk [x]) e (0, 0)) fun bx w1 => AppK bytes 1 [z] e2 A n c (some ⟨bx, 0, none⟩) 1 w1 K :=
  h.push hs hlim h1 fun _ A' c' w' hw' hs' => k _ A' c' w' upd_only hw' hs'
theorem GSl.push_int {x : Int} {z : Value} {e e2 : TypeId} {xs : List Int} (hs : GSl F i A n c (ints xs)) (h : Fam w0 w F) (hlim : n ≤ 17592186044414)
    {K : Option Addr → Nat → Nat → World → Prop} (k : ∀ F' A' c' w', Only i F F' → Fam w0 w' F' → GSl F' i A' (n + 1) c' (ints (xs ++ [x])) → K A' (n + 1) c' w') :
    NewK w (.cells (Array.mk [.int .i64 x]) e (0, 0)) fun bx w1 => AppK 8 1 [z] e2 A n c (some ⟨bx, 0, none⟩) 1 w1 K :=
  hs.push h rfl (by omega) fun F' A' c' w' ho hw' hs' => k F' A' c' w' ho hw' (by rw [ints_append]; exact hs')
theorem GSl.push_bool {x : Bool} {z : Value} {e e2 : TypeId} {xs : List Bool} (hs : GSl F i A n c (bools xs)) (h : Fam w0 w F) (hlim : n ≤ 140737488355320)
    {K : Option Addr → Nat → Nat → World → Prop} (k : ∀ F' A' c' w', Only i F F' → Fam w0 w' F' → GSl F' i A' (n + 1) c' (bools (xs ++ [x])) → K A' (n + 1) c' w') :
    NewK w (.cells (Array.mk [.bool x]) e (0, 0)) fun bx w1 => AppK 1 1 [z] e2 A n c (some ⟨bx, 0, none⟩) 1 w1 K :=
  hs.push h rfl (by omega) fun F' A' c' w' ho hw' hs' => k F' A' c' w' ho hw' (by rw [bools_append]; exact hs')
theorem GSl.sli {xs : List Int} (h : GSl F i A n c (ints xs)) (hF : Fam w0 w F) : SlI w (.slice A n c) xs := by
  have e := h.len
  rw [ints_len] at e; subst e
  exact ⟨A, c, rfl, h.row hF⟩
theorem GSl.slb {xs : List Bool} (h : GSl F i A n c (bools xs)) (hF : Fam w0 w F) : SlB w (.slice A n c) xs := by
  have e := h.len
  rw [bools_len] at e; subst e
  exact ⟨A, c, rfl, h.row hF⟩

/-- A slice of slices: the headers at index i, row t at index g t. -/
def GII (F : FamF) (i : Nat) (g : Nat → Nat) (A : Option Addr) (n c : Nat) (xss : List (List Int)) : Prop :=
  ∃ hs, GSl F i A n c hs ∧ hs.length = xss.length ∧ ∀ (t : Nat) h xs, hs[t]? = some h → xss[t]? = some xs → ∃ A' n' c', h = .slice A' n' c' ∧ GSl F (g t) A' n' c' (ints xs)
theorem GII.len {g : Nat → Nat} {xss : List (List Int)} (h : GII F i g A n c xss) : n = xss.length := by
  obtain ⟨hs, h1, h2, _⟩ := h; rw [h1.len, h2]
theorem GII.keep {F' : FamF} {g : Nat → Nat} {j : Nat} {xss : List (List Int)} (h : GII F i g A n c xss) (hs : Only j F F') (hne : i ≠ j) (hg : ∀ t, t < xss.length → g t ≠ j) : GII F' i g A n c xss := by
  obtain ⟨hs', h1, h2, h3⟩ := h
  refine ⟨hs', h1.keep hs hne, h2, fun t h xs ht hx => ?_⟩
  obtain ⟨A', n', c', e, h4⟩ := h3 t h xs ht hx
  exact ⟨A', n', c', e, h4.keep hs (hg t (List.getElem?_eq_some_iff.1 hx).1)⟩
theorem GSl.same {F' : FamF} {xs : List Value} (h : GSl F i A n c xs) (e : F' i = F i) : GSl F' i A n c xs := by unfold GSl at *; rw [e]; exact h
theorem GII.same {F' : FamF} {g : Nat → Nat} {xss : List (List Int)} (h : GII F i g A n c xss) (e : F' i = F i) (hg : ∀ t, t < xss.length → F' (g t) = F (g t)) : GII F' i g A n c xss := by
  obtain ⟨hs', h1, h2, h3⟩ := h
  refine ⟨hs', h1.same e, h2, fun t h xs ht hx => ?_⟩
  obtain ⟨A', n', c', e, h4⟩ := h3 t h xs ht hx
  exact ⟨A', n', c', e, h4.same (hg t (List.getElem?_eq_some_iff.1 hx).1)⟩
/-- a row, loaded -/
theorem GII.get {g : Nat → Nat} {xss : List (List Int)} (h : GII F i g A n c xss) (hF : Fam w0 w F) {x : Int} (h0 : 0 ≤ x) (h1 : x < xss.length) {K : Option Addr → Nat → Nat → Prop}
    (hk : ∀ A' n' c', GSl F (g x.toNat) A' n' c' (ints (gl xss x)) → K A' n' c') : IxV A n 1 x fun a => ∃ A' n' c', w.cell? a = some (.slice A' n' c') ∧ K A' n' c' := by
  obtain ⟨hs, h3, h4, h5⟩ := h
  refine h3.ix hF h0 (by omega) fun b rest v _ _ hv hc => ?_
  obtain ⟨A', n', c', rfl, h6⟩ := h5 _ _ _ hv (get_gl h0 h1)
  exact ⟨A', n', c', hc, hk _ _ _ h6⟩
/-- append to a row -/
theorem GII.push {g : Nat → Nat} {xss : List (List Int)} (h : GII F i g A n c xss) (hF : Fam w0 w F) {x v : Int} {z : Value} {e e2 : TypeId} (h0 : 0 ≤ x) (h1 : x < xss.length) (hg : ∀ t, t < xss.length → g t ≠ i ∧ (g t = g x.toNat → t = x.toNat))
    (hlim : (gl xss x).length ≤ 17592186044414) {K : World → Prop}
    (hk : ∀ F' w', (∀ j, j ≠ i → j ≠ g x.toNat → F' j = F j) → Fam w0 w' F' → GII F' i g A n c (xss.set x.toNat (gl xss x ++ [v])) → K w') :
    IxV A n 1 x fun a => ∃ A' n' c', w.cell? a = some (.slice A' n' c') ∧ NewK w (.cells (Array.mk [.int .i64 v]) e (0, 0)) fun b w1 => AppK 8 1 [z] e2 A' n' c' (some ⟨b, 0, none⟩) 1 w1 fun A2 n2 c2 w2 =>
      IxV A n 1 x fun a => SetK w2 a (.slice A2 n2 c2) K := by
  have hlt : x.toNat < xss.length := by omega
  refine h.get hF h0 h1 (K := fun A' n' c' => NewK w _ fun b w1 => AppK 8 1 [z] e2 A' n' c' (some ⟨b, 0, none⟩) 1 w1 _) fun A' n' c' hr => ?_
  refine hr.push_int hF (by rw [hr.len, ints_len]; exact hlim) fun F1 A2 c2 w2 ho hF1 hr1 => ?_
  have hgx := hg x.toNat hlt
  obtain ⟨hs, h3, h4, h5⟩ := h
  refine (h3.keep ho (Ne.symm hgx.1)).set hF1 rfl h0 (by omega) fun F2 w3 ho2 hF2 hs2 => ?_
  refine hk F2 w3 (fun j h1 h2 => by rw [ho2 j h1, ho j h2]) hF2 ⟨_, hs2, by simp [h4], fun t hd ys ht hy => ?_⟩
  by_cases e : t = x.toNat
  · subst e
    rw [List.getElem?_set_self (by omega)] at ht hy
    injection ht with ht; injection hy with hy; subst ht hy
    exact ⟨_, _, _, rfl, hr1.keep ho2 hgx.1⟩
  · rw [List.getElem?_set_ne (Ne.symm e)] at ht hy
    obtain ⟨A3, n3, c3, e3, h6⟩ := h5 t hd ys ht hy
    have hgt := hg t (List.getElem?_eq_some_iff.1 hy).1
    exact ⟨A3, n3, c3, e3, (h6.keep ho (fun h => e (hgt.2 h))).keep ho2 hgt.1⟩
/-- rows of nothing -/
theorem GII.make (hF : Fam w0 w F) (i : Nat) (g : Nat → Nat) (n : Nat) {e : TypeId} (hg : ∀ t, t < n → g t ≠ i ∧ F (g t) = none) {K : Nat → World → Prop}
    (hk : ∀ b F' w', Only i F F' → Fam w0 w' F' → GII F' i g (some ⟨b, 0, none⟩) n n (List.replicate n []) → K b w') : NewK w (.cells (Array.mk (List.replicate n (.slice none 0 0))) e (0, 0)) K :=
  hF.mkRow i fun b F' w' ho hF' hs => by
    refine hk b F' w' ho hF' ⟨_, by simpa using hs, by simp, fun t h xs ht hx => ?_⟩
    have hlt : t < n := by simpa using (List.getElem?_eq_some_iff.1 hx).1
    rw [List.getElem?_replicate, if_pos hlt] at ht hx
    injection ht with ht; injection hx with hx; subst ht hx
    exact ⟨none, 0, 0, rfl, .nil (by rw [ho _ (hg t hlt).1]; exact (hg t hlt).2)⟩
end
end Go.Proofs.Ytnkpjlhbojjneaa.VC

/- States that are found from the start, and that lead to one that accepts: what the two searches keep. -/
namespace Go.Proofs.Ytnkpjlhbojjneaa.VC

theorem gi_mem {l : List Int} {k : Int} (h0 : 0 ≤ k) (h1 : k < l.length) : gi l k ∈ l := List.mem_of_getElem? (get_gi h0 h1)
theorem mem_gi {l : List Int} {x : Int} (h : x ∈ l) : ∃ k : Int, 0 ≤ k ∧ k < l.length ∧ gi l k = x := by
  obtain ⟨i, hi⟩ := List.mem_iff_getElem?.1 h
  have := (List.getElem?_eq_some_iff.1 hi).1
  exact ⟨i, by omega, by omega, gi_get (by simpa using hi)⟩
theorem nodup_push {l : List Int} {x : Int} (h : l.Nodup) (hx : x ∉ l) : (l ++ [x]).Nodup := by
  rw [List.nodup_append]
  refine ⟨h, by simp, fun a ha b hb => ?_⟩
  rw [List.mem_singleton] at hb; subst hb; rintro rfl; exact hx ha
theorem Mach.Reach.step {m : Mach} {s : Int} (h : m.Reach s) (x : Int) : m.Reach (m.step s x) := by
  obtain ⟨u, hu⟩ := h
  exact ⟨u ++ [x], by rw [Mach.run_append, hu]; rfl⟩

structure Find (m : Mach) (r : List Bool) (q : List Int) (fr : List (List Int)) (i j : Int) : Prop where
  rl : r.length = m.next.length
  fl : fr.length = m.next.length
  nodup : q.Nodup
  rng : ∀ s ∈ q, 0 ≤ s ∧ s < m.next.length
  mark : ∀ s : Int, 0 ≤ s → s < m.next.length → (gb r s = true ↔ s ∈ q)
  reach : ∀ s ∈ q, m.Reach s
  start : 0 ≤ m.start → m.start ∈ q
  from_ : ∀ t : Int, 0 ≤ t → t < m.next.length → ∀ s ∈ gl fr t, s ∈ q ∧ ∃ x, m.step s x = t
  done : ∀ k x : Int, 0 ≤ k → k < q.length → (k < i ∨ k = i ∧ x < j) → m.Let x → 0 ≤ m.step (gi q k) x → m.step (gi q k) x ∈ q ∧ gi q k ∈ gl fr (m.step (gi q k) x)
theorem Find.count {m : Mach} {r : List Bool} {q : List Int} {fr : List (List Int)} {i j : Int} (h : Find m r q fr i j) : q.length ≤ m.next.length := nodup_bound _ q h.nodup h.rng
theorem Find.none {m : Mach} (h : m.start < 0) : Find m (List.replicate m.next.length false) [] (List.replicate m.next.length []) 0 0 where
  rl := by simp
  fl := by simp
  nodup := by simp
  rng := by simp
  mark := fun s _ _ => by simp [gb_rep]
  reach := by simp
  start := by omega
  from_ := fun t _ _ => by simp [gl_rep]
  done := fun k x _ h => by simp at h; omega
theorem Find.some {m : Mach} (h : 0 ≤ m.start) (h1 : m.start < m.next.length) : Find m ((List.replicate m.next.length false).set m.start.toNat true) ([] ++ [m.start]) (List.replicate m.next.length []) 0 0 where
  rl := by simp
  fl := by simp
  nodup := by simp
  rng := fun s hs => by simp at hs; subst hs; exact ⟨h, h1⟩
  mark := fun s h0 _ => by
    rw [gb_set h (by simpa using h1) h0]
    split
    · rename_i e; simp [e]
    · rename_i e; simp [e, gb_rep]
  reach := fun s hs => by simp at hs; subst hs; exact ⟨[], rfl⟩
  start := by simp
  from_ := fun t _ _ => by simp [gl_rep]
  done := fun k x h0 h1 h2 hx => by unfold Mach.Let at hx; simp at h1; omega
theorem Find.skip {m : Mach} {r : List Bool} {q : List Int} {fr : List (List Int)} {i j : Int} (h : Find m r q fr i j) (ht : m.step (gi q i) j < 0) : Find m r q fr i (j + 1) :=
  ⟨h.rl, h.fl, h.nodup, h.rng, h.mark, h.reach, h.start, h.from_, fun k x h0 h1 h2 hx hs => by
    by_cases e : k = i ∧ x = j
    · obtain ⟨rfl, rfl⟩ := e; omega
    · exact h.done k x h0 h1 (by omega) hx hs⟩
theorem Find.old {m : Mach} {r : List Bool} {q : List Int} {fr : List (List Int)} {i j : Int} (h : Find m r q fr i j) (hi0 : 0 ≤ i) (hi : i < q.length) {t : Int} (ht : m.step (gi q i) j = t) (h0 : 0 ≤ t) (h1 : t < m.next.length) (hr : gb r t = true) :
    Find m r q (fr.set t.toNat (gl fr t ++ [gi q i])) i (j + 1) := by
  have hfl := h.fl
  have hg : ∀ x : Int, 0 ≤ x → gl (fr.set t.toNat (gl fr t ++ [gi q i])) x = if x = t then gl fr t ++ [gi q i] else gl fr x := fun x hx => gl_set h0 (by omega) hx
  refine ⟨h.rl, by simp [h.fl], h.nodup, h.rng, h.mark, h.reach, h.start, fun t' a b s hs => ?_, fun k x a b c hx hs => ?_⟩
  · rw [hg t' a] at hs
    split at hs
    · rename_i e; subst e
      rcases List.mem_append.1 hs with hs | hs
      · exact h.from_ t' a b s hs
      · rw [List.mem_singleton] at hs; subst hs; exact ⟨gi_mem hi0 hi, j, ht⟩
    · exact h.from_ t' a b s hs
  · by_cases e : k = i ∧ x = j
    · obtain ⟨rfl, rfl⟩ := e
      rw [ht, hg t h0, if_pos rfl]
      exact ⟨(h.mark t h0 h1).1 hr, by simp⟩
    · obtain ⟨d1, d2⟩ := h.done k x a b (by omega) hx hs
      refine ⟨d1, ?_⟩
      rw [hg _ hs]
      split
      · rename_i e2; rw [e2] at d2; exact List.mem_append_left _ d2
      · exact d2
theorem Find.fresh {m : Mach} {r : List Bool} {q : List Int} {fr : List (List Int)} {i j : Int} (h : Find m r q fr i j) (hi0 : 0 ≤ i) (hi : i < q.length) {t : Int} (ht : m.step (gi q i) j = t) (h0 : 0 ≤ t) (h1 : t < m.next.length) (hr : gb r t = false) :
    Find m (r.set t.toNat true) (q ++ [t]) (fr.set t.toNat (gl fr t ++ [gi q i])) i (j + 1) := by
  have hn : t ∉ q := fun hq => by rw [(h.mark t h0 h1).2 hq] at hr; cases hr
  have hrl := h.rl; have hfl := h.fl
  have hm : ∀ s : Int, 0 ≤ s → s < m.next.length → (gb (r.set t.toNat true) s = true ↔ s ∈ q ++ [t]) := fun s a b => by
    rw [gb_set h0 (by omega) a, List.mem_append, List.mem_singleton]
    by_cases e : s = t
    · simp [e]
    · rw [if_neg e]; simp [e, h.mark s a b]
  have h' : Find m (r.set t.toNat true) (q ++ [t]) fr i j := ⟨by simp [h.rl], h.fl, nodup_push h.nodup hn, fun s hs => by
      rcases List.mem_append.1 hs with hs | hs
      · exact h.rng s hs
      · rw [List.mem_singleton] at hs; subst hs; exact ⟨h0, h1⟩, hm, fun s hs => by
      rcases List.mem_append.1 hs with hs | hs
      · exact h.reach s hs
      · rw [List.mem_singleton] at hs; subst hs; rw [← ht]; exact (h.reach _ (gi_mem hi0 hi)).step _, fun hs => List.mem_append_left _ (h.start hs), fun t' a b s hs => by
      obtain ⟨c, d⟩ := h.from_ t' a b s hs; exact ⟨List.mem_append_left _ c, d⟩, fun k x a b c hx hs => by
      have hk : k < q.length := by omega
      rw [gi_left a hk] at hs ⊢
      obtain ⟨d1, d2⟩ := h.done k x a hk c hx hs
      exact ⟨List.mem_append_left _ d1, d2⟩⟩
  have e : gi (q ++ [t]) i = gi q i := gi_left hi0 hi
  have := h'.old (t := t) hi0 (by simp; omega) (by rw [e]; exact ht) h0 h1 ((hm t h0 h1).2 (by simp))
  rw [e] at this; exact this
theorem Find.row {m : Mach} {r : List Bool} {q : List Int} {fr : List (List Int)} {i j : Int} (h : Find m r q fr i j) (hj : m.letters ≤ j) : Find m r q fr (i + 1) 0 :=
  ⟨h.rl, h.fl, h.nodup, h.rng, h.mark, h.reach, h.start, h.from_, fun k x h0 h1 h2 hx hs => h.done k x h0 h1 (by unfold Mach.Let at hx; omega) hx hs⟩
theorem Find.all {m : Mach} {r : List Bool} {q : List Int} {fr : List (List Int)} {i j : Int} (h : Find m r q fr i j) (hm : m.Shaped) (hi : q.length ≤ i) : ∀ u : List Int, ∀ s ∈ q, 0 ≤ m.run s u → m.run s u ∈ q := by
  intro u
  induction u with
  | nil => exact fun s hs _ => hs
  | cons x u ih =>
    intro s hs h0
    rcases ilt (m.step s x) 0 with hn | hp
    · have : m.run s (x :: u) < 0 := Mach.run_neg hn u; omega
    · obtain ⟨k, k0, k1, rfl⟩ := mem_gi hs
      exact ih _ (h.done k x k0 k1 (by omega) (hm.step_let hp).2 hp).1 h0
theorem Find.reached {m : Mach} {r : List Bool} {q : List Int} {fr : List (List Int)} {i j : Int} (h : Find m r q fr i j) (hm : m.Shaped) (hi : q.length ≤ i) {s : Int} (h0 : 0 ≤ s) (hs : m.Reach s) : s ∈ q := by
  obtain ⟨u, rfl⟩ := hs
  rcases ilt m.start 0 with hn | hp
  · have := Mach.run_neg (m := m) hn u; omega
  · exact h.all hm hi u _ (h.start hp) h0

/-- those that accept -/
structure Acc (m : Mach) (q : List Int) (l : List Bool) (p : List Int) (i : Int) : Prop where
  ll : l.length = m.next.length
  nodup : p.Nodup
  rng : ∀ s ∈ p, 0 ≤ s ∧ s < m.next.length
  mark : ∀ s : Int, 0 ≤ s → s < m.next.length → (gb l s = true ↔ s ∈ p)
  mem : ∀ s : Int, 0 ≤ s → s < m.next.length → (s ∈ p ↔ s < i ∧ s ∈ q ∧ m.ends s = true)
theorem Acc.init {m : Mach} {q : List Int} : Acc m q (List.replicate m.next.length false) [] 0 := ⟨by simp, by simp, by simp, fun s _ _ => by simp [gb_rep], fun s _ _ => by simp; omega⟩
theorem Acc.skip {m : Mach} {q : List Int} {l : List Bool} {p : List Int} {i : Int} (h : Acc m q l p i) (hn : ¬ (i ∈ q ∧ m.ends i = true)) : Acc m q l p (i + 1) :=
  ⟨h.ll, h.nodup, h.rng, h.mark, fun s h0 h1 => by
    rw [h.mem s h0 h1]
    constructor
    · rintro ⟨a, b⟩; exact ⟨by omega, b⟩
    · rintro ⟨a, b⟩
      refine ⟨?_, b⟩
      rcases ilt s i with h | h
      · exact h
      · have : s = i := by omega
        subst this; exact absurd b hn⟩
theorem Acc.add {m : Mach} {q : List Int} {l : List Bool} {p : List Int} {i : Int} (h : Acc m q l p i) (h0 : 0 ≤ i) (h1 : i < m.next.length) (hq : i ∈ q) (he : m.ends i = true) : Acc m q (l.set i.toNat true) (p ++ [i]) (i + 1) := by
  have hl := h.ll
  refine ⟨by simp [h.ll], nodup_push h.nodup (fun hp => by have := ((h.mem i h0 h1).1 hp).1; omega), fun s hs => ?_, fun s a b => ?_, fun s a b => ?_⟩
  · rcases List.mem_append.1 hs with hs | hs
    · exact h.rng s hs
    · rw [List.mem_singleton] at hs; subst hs; exact ⟨h0, h1⟩
  · rw [gb_set h0 (by omega) a, List.mem_append, List.mem_singleton]
    by_cases e : s = i
    · simp [e]
    · rw [if_neg e]; simp [e, h.mark s a b]
  · rw [List.mem_append, List.mem_singleton, h.mem s a b]
    constructor
    · rintro (⟨c, d⟩ | rfl)
      · exact ⟨by omega, d⟩
      · exact ⟨by omega, hq, he⟩
    · rintro ⟨c, d⟩
      rcases ilt s i with e | e
      · exact .inl ⟨e, d⟩
      · right; omega

/-- those that lead to one that accepts -/
structure Back (m : Mach) (q : List Int) (fr : List (List Int)) (l : List Bool) (p : List Int) (i j : Int) : Prop where
  ll : l.length = m.next.length
  nodup : p.Nodup
  rng : ∀ s ∈ p, 0 ≤ s ∧ s < m.next.length
  mark : ∀ s : Int, 0 ≤ s → s < m.next.length → (gb l s = true ↔ s ∈ p)
  sound : ∀ s ∈ p, s ∈ q ∧ m.Live s
  base : ∀ s ∈ q, m.ends s = true → s ∈ p
  done : ∀ k x : Int, 0 ≤ k → k < p.length → (k < i ∨ k = i ∧ x < j) → 0 ≤ x → x < (gl fr (gi p k)).length → gi (gl fr (gi p k)) x ∈ p
theorem Back.count {m : Mach} {q : List Int} {fr : List (List Int)} {l : List Bool} {p : List Int} {i j : Int} (h : Back m q fr l p i j) : p.length ≤ m.next.length := nodup_bound _ p h.nodup h.rng
theorem Acc.back {m : Mach} {q : List Int} {l : List Bool} {p : List Int} {i : Int} (h : Acc m q l p i) (hq : ∀ s ∈ q, 0 ≤ s ∧ s < m.next.length) (hi : m.next.length ≤ i) (fr : List (List Int)) : Back m q fr l p 0 0 :=
  ⟨h.ll, h.nodup, h.rng, h.mark, fun s hs => by
    have hr := h.rng s hs
    have := (h.mem s hr.1 hr.2).1 hs
    exact ⟨this.2.1, [], this.2.2⟩, fun s hs he => by
    have hr := hq s hs
    exact (h.mem s hr.1 hr.2).2 ⟨by omega, hs, he⟩, fun k x h0 h1 h2 => by omega⟩
theorem Back.old {m : Mach} {q : List Int} {fr : List (List Int)} {l : List Bool} {p : List Int} {i j : Int} (h : Back m q fr l p i j) {s : Int} (hs : gi (gl fr (gi p i)) j = s) (h0 : 0 ≤ s) (h1 : s < m.next.length) (hl : gb l s = true) : Back m q fr l p i (j + 1) :=
  ⟨h.ll, h.nodup, h.rng, h.mark, h.sound, h.base, fun k x a b c d e => by
    by_cases e2 : k = i ∧ x = j
    · obtain ⟨rfl, rfl⟩ := e2; rw [hs]; exact (h.mark s h0 h1).1 hl
    · exact h.done k x a b (by omega) d e⟩
theorem Back.fresh {m : Mach} {q : List Int} {fr : List (List Int)} {l : List Bool} {p : List Int} {i j : Int} (h : Back m q fr l p i j) (hi0 : 0 ≤ i) (hi : i < p.length) {s : Int} (hs : gi (gl fr (gi p i)) j = s) (h0 : 0 ≤ s) (h1 : s < m.next.length) (hl : gb l s = false)
    (hq : s ∈ q) (hlive : m.Live s) : Back m q fr (l.set s.toNat true) (p ++ [s]) i (j + 1) := by
  have hn : s ∉ p := fun hq => by rw [(h.mark s h0 h1).2 hq] at hl; cases hl
  have hll := h.ll
  have hm : ∀ t : Int, 0 ≤ t → t < m.next.length → (gb (l.set s.toNat true) t = true ↔ t ∈ p ++ [s]) := fun t a b => by
    rw [gb_set h0 (by omega) a, List.mem_append, List.mem_singleton]
    by_cases e : t = s
    · simp [e]
    · rw [if_neg e]; simp [e, h.mark t a b]
  have h' : Back m q fr (l.set s.toNat true) (p ++ [s]) i j := ⟨by simp [h.ll], nodup_push h.nodup hn, fun t ht => by
      rcases List.mem_append.1 ht with ht | ht
      · exact h.rng t ht
      · rw [List.mem_singleton] at ht; subst ht; exact ⟨h0, h1⟩, hm, fun t ht => by
      rcases List.mem_append.1 ht with ht | ht
      · exact h.sound t ht
      · rw [List.mem_singleton] at ht; subst ht; exact ⟨hq, hlive⟩, fun t ht he => List.mem_append_left _ (h.base t ht he), fun k x a b c d e => by
      have hk : k < p.length := by omega
      rw [gi_left a hk] at e ⊢
      exact List.mem_append_left _ (h.done k x a hk c d e)⟩
  refine h'.old (s := s) ?_ h0 h1 ((hm s h0 h1).2 (by simp))
  rw [gi_left hi0 hi]; exact hs
theorem Back.row {m : Mach} {q : List Int} {fr : List (List Int)} {l : List Bool} {p : List Int} {i j : Int} (h : Back m q fr l p i j) (hj : (gl fr (gi p i)).length ≤ j) : Back m q fr l p (i + 1) 0 :=
  ⟨h.ll, h.nodup, h.rng, h.mark, h.sound, h.base, fun k x h0 h1 h2 hx hs => by
    by_cases e : k = i
    · subst e; exact h.done k x h0 h1 (by omega) hx hs
    · exact h.done k x h0 h1 (by omega) hx hs⟩
/-- which states are kept -/
structure Keep (m : Mach) (l : List Bool) : Prop where
  len : l.length = m.next.length
  kept : ∀ s : Int, 0 ≤ s → s < m.next.length → (gb l s = true ↔ m.Reach s ∧ m.Live s)
theorem Back.keep {m : Mach} {r : List Bool} {q : List Int} {fr : List (List Int)} {l : List Bool} {p : List Int} {i j k x : Int} (h : Back m q fr l p i j) (hf : Find m r q fr k x) (hm : m.Shaped) (hk : q.length ≤ k) (hi : p.length ≤ i) : Keep m l := by
  refine ⟨h.ll, fun s h0 h1 => ?_⟩
  rw [h.mark s h0 h1]
  constructor
  · intro hs; have := h.sound s hs; exact ⟨hf.reach s this.1, this.2⟩
  · rintro ⟨hr, u, hu⟩
    induction u generalizing s with
    | nil => exact h.base s (hf.reached hm hk h0 hr) hu
    | cons x u ih =>
      rw [Mach.acc_cons] at hu
      rcases ilt (m.step s x) 0 with hn | hp
      · rw [Mach.acc_neg hn] at hu; cases hu
      · have ht := ih (m.step s x) hp (hm.step_range s x).2 (hr.step x) hu
        have hq := hf.reached hm hk h0 hr
        obtain ⟨a, a0, a1, rfl⟩ := mem_gi hq
        have hfr := (hf.done a x a0 a1 (by omega) (hm.step_let hp).2 hp).2
        obtain ⟨b, b0, b1, e⟩ := mem_gi ht
        rw [← e] at hfr
        obtain ⟨c, c0, c1, e2⟩ := mem_gi hfr
        have := h.done b c b0 b1 (by omega) c0 c1
        rw [e2] at this; exact this
end Go.Proofs.Ytnkpjlhbojjneaa.VC

/- Why the blocks are right: what is kept while blocks are parted, one waiting block after another. -/
namespace Go.Proofs.Ytnkpjlhbojjneaa.VC

/-- kept states, as a list tells them -/
def Kept (l : List Bool) (s : Int) : Prop := 0 ≤ s ∧ gb l s = true
/-- what the states that are kept are to be: live, and all live ones behind them -/
structure Keeps (m : Mach) (l : List Bool) : Prop where
  len : l.length = m.next.length
  live : ∀ s, Kept l s → m.Live s
  closed : ∀ s x, Kept l s → m.Live (m.step s x) → Kept l (m.step s x)
theorem Kept.lt {l : List Bool} {s : Int} (h : Kept l s) : 0 ≤ s ∧ s < l.length := by
  refine ⟨h.1, ?_⟩
  rcases ilt s l.length with e | e
  · exact e
  · have := h.2; rw [gb_out e] at this; cases this
theorem Keep.keeps {m : Mach} {l : List Bool} (h : Keep m l) (hm : m.Shaped) : Keeps m l where
  len := h.len
  live := fun s hs => ((h.kept s hs.1 (by rw [← h.len]; exact hs.lt.2)).1 hs.2).2
  closed := fun s x hs hl => by
    have h0 := Mach.live_nonneg hl
    have hr := ((h.kept s hs.1 (by rw [← h.len]; exact hs.lt.2)).1 hs.2).1
    exact ⟨h0, (h.kept _ h0 (hm.step_range s x).2).2 ⟨hr.step x, hl⟩⟩
theorem Keeps.dead {m : Mach} {l : List Bool} (h : Keeps m l) {s x : Int} (hs : Kept l s) (hn : ¬ Kept l (m.step s x)) (u : List Int) : m.acc (m.step s x) u = false := by
  cases e : m.acc (m.step s x) u with
  | false => rfl
  | true => exact absurd (h.closed s x hs ⟨u, e⟩) hn

def Same (m : Mach) (s t : Int) : Prop := ∀ u, m.acc s u = m.acc t u
open Classical in
noncomputable def cls (l : List Bool) (blk : List Int) (s : Int) : Int := if Kept l s then gi blk s else -1
theorem cls_kept {l : List Bool} {blk : List Int} {s : Int} (h : Kept l s) : cls l blk s = gi blk s := if_pos h
theorem cls_not {l : List Bool} {blk : List Int} {s : Int} (h : ¬ Kept l s) : cls l blk s = -1 := if_neg h

/-- what is told of a block that was parted -/
def CB (k b : Int) (wt : List Bool) (wk : List Int) (wt' : List Bool) (wk' : List Int) : Prop :=
  (wt' = wt ++ [true] ∧ wk' = wk ++ [k]) ∨ (gb wt b = false ∧ wt' = (wt ++ [false]).set b.toNat true ∧ wk' = wk ++ [b])

structure Hop (m : Mach) (l : List Bool) (P : Int → Int → Prop) (S : Int → Prop) (x0 c0 : Int) (blk : List Int) (k : Nat) (wt : List Bool) (wk : List Int) : Prop where
  wl : wt.length = k
  rng : ∀ s, Kept l s → 0 ≤ gi blk s ∧ gi blk s < k
  work : ∀ B : Int, B ∈ wk ↔ 0 ≤ B ∧ B < k ∧ gb wt B = true
  nodup : wk.Nodup
  cnt : c0 ≤ 2 * k - wk.length
  same : ∀ s t, Kept l s → Kept l t → Same m s t → gi blk s = gi blk t
  fin : ∀ s t, Kept l s → Kept l t → gi blk s = gi blk t → P s t
  sep : ∀ s t, Kept l s → Kept l t → gi blk s = gi blk t → ∀ y, m.Let y → cls l blk (m.step s y) = cls l blk (m.step t y) ∨
    (∃ B : Int, 0 ≤ B ∧ B < k ∧ gb wt B = true ∧ ¬ (cls l blk (m.step s y) = B ↔ cls l blk (m.step t y) = B)) ∨ (x0 ≤ y ∧ ¬ (S (m.step s y) ↔ S (m.step t y)))

/-- a block is parted -/
theorem Hop.part {m : Mach} {l : List Bool} {P : Int → Int → Prop} {S : Int → Prop} {x0 c0 : Int} {blk blk' : List Int} {k : Nat} {wt wt' : List Bool} {wk wk' : List Int} (h : Hop m l P S x0 c0 blk k wt wk) {M : Int → Prop} {b : Int}
    (hM : ∀ s t, Kept l s → Kept l t → Same m s t → (M s ↔ M t)) (hb0 : 0 ≤ b) (hb1 : b < k) (hp : ∀ s, Kept l s → (gi blk s = b ∧ M s → gi blk' s = k) ∧ (¬ (gi blk s = b ∧ M s) → gi blk' s = gi blk s))
    (hc : CB k b wt wk wt' wk') : Hop m l P S x0 c0 blk' (k + 1) wt' wk' := by
  have hwl := h.wl
  have back : ∀ s t, Kept l s → Kept l t → gi blk' s = gi blk' t → gi blk s = gi blk t := fun s t hs ht e => by
    have ps := hp s hs; have pt := hp t ht; have rs := h.rng s hs; have rt := h.rng t ht
    by_cases e1 : gi blk s = b ∧ M s
    · by_cases e2 : gi blk t = b ∧ M t
      · rw [e1.1, e2.1]
      · rw [ps.1 e1, pt.2 e2] at e; omega
    · by_cases e2 : gi blk t = b ∧ M t
      · rw [ps.2 e1, pt.1 e2] at e; omega
      · rw [ps.2 e1, pt.2 e2] at e; exact e
  -- which blocks wait now
  have wait : (∀ B : Int, 0 ≤ B → B < k → gb wt B = true → gb wt' B = true) ∧ (gb wt b = true → gb wt' k = true) ∧ (gb wt' b = true ∨ gb wt' k = true) ∧ wt'.length = k + 1 := by
    rcases hc with ⟨rfl, rfl⟩ | ⟨h1, rfl, rfl⟩
    · have hk : gb (wt ++ [true]) (k : Int) = true := by rw [← hwl]; exact gb_last
      exact ⟨fun B h0 h1 e => by rw [gb_left h0 (by omega)]; exact e, fun _ => hk, .inr hk, by simp [hwl]⟩
    · have hg : ∀ B : Int, 0 ≤ B → gb ((wt ++ [false]).set b.toNat true) B = if B = b then true else gb (wt ++ [false]) B := fun B h0 => gb_set hb0 (by simp; omega) h0
      refine ⟨fun B h0 h1 e => ?_, fun e => (by rw [h1] at e; cases e), .inl (by rw [hg b hb0]; simp), by simp [hwl]⟩
      rw [hg B h0]
      split
      · rfl
      · rw [gb_left h0 (by omega)]; exact e
  have workk : ∀ B : Int, B ∈ wk' ↔ 0 ≤ B ∧ B < ((k + 1 : Nat) : Int) ∧ gb wt' B = true := by
    intro B
    rcases hc with ⟨rfl, rfl⟩ | ⟨h1, rfl, rfl⟩
    · rw [List.mem_append, List.mem_singleton, h.work B]
      constructor
      · rintro (⟨a, b, c⟩ | rfl)
        · exact ⟨a, by omega, by rw [gb_left a (by omega)]; exact c⟩
        · exact ⟨by omega, by omega, by rw [← hwl]; exact gb_last⟩
      · rintro ⟨a, b, c⟩
        rcases ilt B k with e | e
        · rw [gb_left a (by omega)] at c; exact .inl ⟨a, e, c⟩
        · right; omega
    · rw [List.mem_append, List.mem_singleton, h.work B]
      have hg : 0 ≤ B → gb ((wt ++ [false]).set b.toNat true) B = if B = b then true else gb (wt ++ [false]) B := fun h0 => gb_set hb0 (by simp; omega) h0
      constructor
      · rintro (⟨a, b2, c⟩ | rfl)
        · refine ⟨a, by omega, ?_⟩
          rw [hg a]; split
          · rfl
          · rw [gb_left a (by omega)]; exact c
        · exact ⟨hb0, by omega, by rw [hg hb0]; simp⟩
      · rintro ⟨a, b2, c⟩
        rw [hg a] at c
        split at c
        · rename_i e; exact .inr e
        · rcases ilt B k with e | e
          · rw [gb_left a (by omega)] at c; exact .inl ⟨a, e, c⟩
          · have : B = (wt.length : Int) := by omega
            rw [this, gb_last] at c; cases c
  refine ⟨wait.2.2.2, fun s hs => ?_, workk, ?_, ?_, fun s t hs ht e => ?_, fun s t hs ht e => h.fin s t hs ht (back s t hs ht e), fun s t hs ht e y hy => ?_⟩
  · have ps := hp s hs; have rs := h.rng s hs
    by_cases e1 : gi blk s = b ∧ M s
    · rw [ps.1 e1]; omega
    · rw [ps.2 e1]; omega
  · rcases hc with ⟨_, rfl⟩ | ⟨h1, _, rfl⟩
    · exact nodup_push h.nodup fun hm => by have := (h.work _).1 hm; omega
    · exact nodup_push h.nodup fun hm => by have := ((h.work _).1 hm).2.2; rw [h1] at this; cases this
  · have := h.cnt
    rcases hc with ⟨_, rfl⟩ | ⟨_, _, rfl⟩ <;> simp <;> omega
  · have ps := hp s hs; have pt := hp t ht
    have e1 := h.same s t hs ht e
    have e2 := hM s t hs ht e
    by_cases e3 : gi blk s = b ∧ M s
    · rw [ps.1 e3, pt.1 ⟨by rw [← e1]; exact e3.1, e2.1 e3.2⟩]
    · rw [ps.2 e3, pt.2 (fun e4 => e3 ⟨by rw [e1]; exact e4.1, e2.2 e4.2⟩), e1]
  · have e0 := back s t hs ht e
    -- the class of a state, before and after
    have cl : ∀ r, cls l blk' r = cls l blk r ∨ cls l blk r = b ∧ cls l blk' r = k := fun r => by
      by_cases hr : Kept l r
      · rw [cls_kept hr, cls_kept hr]
        have pr := hp r hr
        by_cases e1 : gi blk r = b ∧ M r
        · exact .inr ⟨e1.1, pr.1 e1⟩
        · exact .inl (pr.2 e1)
      · rw [cls_not hr, cls_not hr]; exact .inl rfl
    have ck : ∀ r, cls l blk r < k := fun r => by
      by_cases hr : Kept l r
      · rw [cls_kept hr]; exact (h.rng r hr).2
      · rw [cls_not hr]; omega
    have cs := cl (m.step s y); have ct := cl (m.step t y)
    have ks := ck (m.step s y); have kt := ck (m.step t y)
    generalize cls l blk' (m.step s y) = s' at *
    generalize cls l blk' (m.step t y) = t' at *
    rcases h.sep s t hs ht e0 y hy with h1 | ⟨B, hB0, hB1, hw, hd⟩ | h3
    · -- of one class before
      rcases cs with rfl | ⟨cs1, rfl⟩
      · rcases ct with rfl | ⟨ct1, rfl⟩
        · exact .inl h1
        · right; left
          rcases wait.2.2.1 with hw | hw
          · exact ⟨b, hb0, by omega, hw, by omega⟩
          · exact ⟨k, by omega, by omega, hw, by omega⟩
      · rcases ct with rfl | ⟨ct1, rfl⟩
        · right; left
          rcases wait.2.2.1 with hw | hw
          · exact ⟨b, hb0, by omega, hw, by omega⟩
          · exact ⟨k, by omega, by omega, hw, by omega⟩
        · exact .inl rfl
    · right; left
      by_cases hBb : B = b
      · subst hBb
        have w1 := wait.1 B hB0 hB1 hw
        have w2 := wait.2.1 hw
        rcases cs with rfl | ⟨cs1, rfl⟩
        · rcases ct with rfl | ⟨ct1, rfl⟩
          · exact ⟨B, hB0, by omega, w1, hd⟩
          · exact ⟨k, by omega, by omega, w2, by omega⟩
        · rcases ct with rfl | ⟨ct1, rfl⟩
          · exact ⟨k, by omega, by omega, w2, by omega⟩
          · exact absurd (by omega) hd
      · refine ⟨B, hB0, by omega, wait.1 B hB0 hB1 hw, ?_⟩
        rcases cs with rfl | ⟨cs1, rfl⟩ <;> rcases ct with rfl | ⟨ct1, rfl⟩ <;> omega
    · exact .inr (.inr h3)
/-- a letter is done -/
theorem Hop.letter {m : Mach} {l : List Bool} {P : Int → Int → Prop} {S : Int → Prop} {x0 c0 : Int} {blk : List Int} {k : Nat} {wt : List Bool} {wk : List Int} (h : Hop m l P S x0 c0 blk k wt wk)
    (hh : ∀ s t, Kept l s → Kept l t → gi blk s = gi blk t → (S (m.step s x0) ↔ S (m.step t x0))) : Hop m l P S (x0 + 1) c0 blk k wt wk :=
  ⟨h.wl, h.rng, h.work, h.nodup, h.cnt, h.same, h.fin, fun s t hs ht e y hy => by
    rcases h.sep s t hs ht e y hy with h1 | h2 | ⟨h3, h4⟩
    · exact .inl h1
    · exact .inr (.inl h2)
    · by_cases e2 : y = x0
      · subst e2; exact absurd (hh s t hs ht e) h4
      · exact .inr (.inr ⟨by omega, h4⟩)⟩
/-- a waiting block is taken -/
theorem Hop.pop {m : Mach} {l : List Bool} {P : Int → Int → Prop} {S : Int → Prop} {x0 c0 : Int} {blk : List Int} {k : Nat} {wt : List Bool} {wk : List Int} {b : Int} (h : Hop m l P S x0 c0 blk k wt (wk ++ [b])) (hx : m.letters ≤ x0) :
    0 ≤ b ∧ b < k ∧ Hop m l P (fun s => cls l blk s = b) 0 (c0 + 1) blk k (wt.set b.toNat false) wk := by
  have hwl := h.wl
  have hb := (h.work b).1 (by simp)
  have hnd := List.nodup_append.1 h.nodup
  have hg : ∀ B : Int, 0 ≤ B → gb (wt.set b.toNat false) B = if B = b then false else gb wt B := fun B h0 => gb_set hb.1 (by omega) h0
  refine ⟨hb.1, hb.2.1, by simp [hwl], h.rng, fun B => ?_, hnd.1, ?_, h.same, h.fin, fun s t hs ht e y hy => ?_⟩
  · constructor
    · intro hB
      have := (h.work B).1 (List.mem_append_left _ hB)
      refine ⟨this.1, this.2.1, ?_⟩
      rw [hg B this.1, if_neg]
      · exact this.2.2
      · exact fun e => hnd.2.2 B hB b (by simp) e
    · rintro ⟨a, c, d⟩
      rw [hg B a] at d
      split at d
      · cases d
      · rename_i hne
        have := (h.work B).2 ⟨a, c, d⟩
        rw [List.mem_append, List.mem_singleton] at this
        rcases this with h1 | h1
        · exact h1
        · exact absurd h1 hne
  · have := h.cnt; simp at this; omega
  · rcases h.sep s t hs ht e y hy with h1 | ⟨B, a, c, d, f⟩ | ⟨h3, h4⟩
    · exact .inl h1
    · by_cases hB : B = b
      · subst hB; exact .inr (.inr ⟨hy.1, f⟩)
      · exact .inr (.inl ⟨B, a, c, by rw [hg B a, if_neg hB]; exact d, f⟩)
    · unfold Mach.Let at hy; omega
/-- all in one block, which waits -/
theorem Hop.init {m : Mach} {l : List Bool} {blk : List Int} (hb : ∀ s, Kept l s → gi blk s = 0) : Hop m l (fun _ _ => True) (fun _ => False) m.letters 1 blk 1 [true] [0] where
  wl := rfl
  rng := fun s hs => by rw [hb s hs]; omega
  work := fun B => by
    rw [List.mem_singleton]
    constructor
    · rintro rfl; exact ⟨by omega, by omega, rfl⟩
    · rintro ⟨a, b, _⟩; omega
  nodup := by simp
  cnt := by simp
  same := fun s t hs ht _ => by rw [hb s hs, hb t ht]
  fin := fun _ _ _ _ _ => trivial
  sep := fun s t hs ht e y hy => by
    have c : ∀ r, cls l blk r = 0 ∨ cls l blk r = -1 := fun r => by
      by_cases hr : Kept l r
      · rw [cls_kept hr]; exact .inl (hb r hr)
      · rw [cls_not hr]; exact .inr rfl
    have c1 := c (m.step s y); have c2 := c (m.step t y)
    by_cases e : cls l blk (m.step s y) = cls l blk (m.step t y)
    · exact .inl e
    · exact .inr (.inl ⟨0, by omega, by omega, rfl, by omega⟩)
theorem Hop.fins {m : Mach} {l : List Bool} {P P' : Int → Int → Prop} {S : Int → Prop} {x0 c0 : Int} {blk : List Int} {k : Nat} {wt : List Bool} {wk : List Int} (h : Hop m l P S x0 c0 blk k wt wk)
    (hp : ∀ s t, Kept l s → Kept l t → gi blk s = gi blk t → P' s t) : Hop m l P' S x0 c0 blk k wt wk := ⟨h.wl, h.rng, h.work, h.nodup, h.cnt, h.same, hp, h.sep⟩
/-- nothing waits: blocks are those of the same words -/
theorem Hop.done {m : Mach} {l : List Bool} {S : Int → Prop} {x0 c0 : Int} {blk : List Int} {k : Nat} {wt : List Bool} (h : Hop m l (fun s t => m.ends s = m.ends t) S x0 c0 blk k wt []) (hx : m.letters ≤ x0) (hm : m.Shaped) (hk : Keeps m l) :
    ∀ s t, Kept l s → Kept l t → (gi blk s = gi blk t ↔ Same m s t) := by
  intro s t hs ht
  refine ⟨fun e u => ?_, fun e => h.same s t hs ht e⟩
  induction u generalizing s t with
  | nil => exact h.fin s t hs ht e
  | cons x u ih =>
    rw [Mach.acc_cons, Mach.acc_cons]
    by_cases hlx : m.Let x
    · have hc : cls l blk (m.step s x) = cls l blk (m.step t x) := by
        rcases h.sep s t hs ht e x hlx with h1 | ⟨B, a, c, d, _⟩ | ⟨h3, _⟩
        · exact h1
        · have := (h.work B).2 ⟨a, c, d⟩; simp at this
        · unfold Mach.Let at hlx; omega
      by_cases h1 : Kept l (m.step s x)
      · by_cases h2 : Kept l (m.step t x)
        · rw [cls_kept h1, cls_kept h2] at hc; exact ih _ _ h1 h2 hc
        · rw [cls_kept h1, cls_not h2] at hc; have := h.rng _ h1; omega
      · by_cases h2 : Kept l (m.step t x)
        · rw [cls_not h1, cls_kept h2] at hc; have := h.rng _ h2; omega
        · rw [hk.dead hs h1, hk.dead ht h2]
    · have out : ∀ r, m.step r x < 0 := fun r => by
        apply Classical.byContradiction; intro hn
        exact hlx (hm.step_let (s := r) (x := x) (by omega)).2
      rw [Mach.acc_neg (out s), Mach.acc_neg (out t)]
/-- states of the same words lead into the same classes -/
theorem Hop.closed {m : Mach} {l : List Bool} {P : Int → Int → Prop} {S : Int → Prop} {x0 c0 : Int} {blk : List Int} {k : Nat} {wt : List Bool} {wk : List Int} (h : Hop m l P S x0 c0 blk k wt wk) (hk : Keeps m l) {b : Int} (_hb : 0 ≤ b) (x : Int) :
    ∀ s t, Kept l s → Kept l t → Same m s t → (cls l blk (m.step s x) = b ↔ cls l blk (m.step t x) = b) := by
  intro s t hs ht e
  have e2 : Same m (m.step s x) (m.step t x) := fun u => e (x :: u)
  by_cases h1 : Kept l (m.step s x)
  · have h2 : Kept l (m.step t x) := by
      obtain ⟨u, hu⟩ := hk.live _ h1
      exact hk.closed t x ht ⟨u, by rw [← e2]; exact hu⟩
    rw [cls_kept h1, cls_kept h2, h.same _ _ h1 h2 e2]
  · have h2 : ¬ Kept l (m.step t x) := fun h2 => h1 (by
      obtain ⟨u, hu⟩ := hk.live _ h2
      exact hk.closed s x hs ⟨u, by rw [e2]; exact hu⟩)
    rw [cls_not h1, cls_not h2]
end Go.Proofs.Ytnkpjlhbojjneaa.VC
