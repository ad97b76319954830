/- Contracts of the functions, part two; readings of a row. -/
import Derived.Test.YtnkpjlhbojjneaaGg
import Derived.Test.YtnkpjlhbojjneaaGe
import Derived.Test.YtnkpjlhbojjneaaGc
import Derived.WalkKit
import Derived.Test.YtnkpjlhbojjneaaRows
import Derived.Test.YtnkpjlhbojjneaaGf
import Derived.ProofKit
import Derived.OpenShut
import Derived.JoinedCond
import Derived.Lib.SmallJoins
import Derived.Deep.Matrix
import Derived.Deep.Grids
import Derived.Deep.SlicePairs
import Derived.SizedLaws
/- Owned slices of pairs. -/
namespace Go.Proofs.Ytnkpjlhbojjneaa.VC
open Go Go.RowKit

abbrev IP := Int × Int
def pcells : List IP → List Value
  | [] => []
  | p :: r => .int .i64 p.1 :: .int .i64 p.2 :: pcells r
@[simp] theorem pcells_len (ps : List IP) : (pcells ps).length = 2 * ps.length := by
  induction ps with
  | nil => rfl
  | cons p r ih => simp only [pcells, List.length_cons, ih]; omega
theorem pcells_append (a b : List IP) : pcells (a ++ b) = pcells a ++ pcells b := by
  induction a with
  | nil => rfl
  | cons p r ih => simp [pcells, ih]
theorem pcells_get {ps : List IP} {i : Nat} {p : IP} (h : ps[i]? = some p) : (pcells ps)[2 * i]? = some (.int .i64 p.1) ∧ (pcells ps)[2 * i + 1]? = some (.int .i64 p.2) := by
  induction ps generalizing i with
  | nil => simp at h
  | cons q r ih =>
    cases i with
    | zero => simp at h; subst h; simp [pcells]
    | succ i =>
      have := ih (i := i) (by simpa using h)
      have e : 2 * (i + 1) = 2 * i + 1 + 1 := by omega
      rw [e]; simp only [pcells, List.getElem?_cons_succ]; exact this
theorem pcells_one1 {ps : List IP} : ∀ v ∈ pcells ps, one1 v = true := by
  induction ps with
  | nil => simp [pcells]
  | cons q r ih =>
    intro v hv
    simp only [pcells, List.mem_cons] at hv
    rcases hv with rfl | rfl | hv
    · rfl
    · rfl
    · exact ih v hv
def gp (l : List IP) (i : Int) : IP := l.getD i.toNat (0, 0)
theorem gp_get {l : List IP} {i : Int} {v : IP} (h : l[i.toNat]? = some v) : gp l i = v := by simp [gp, List.getD_eq_getElem?_getD, h]
theorem get_gp {l : List IP} {i : Int} (h0 : 0 ≤ i) (h1 : i < l.length) : l[i.toNat]? = some (gp l i) := by
  have : i.toNat < l.length := by omega
  simp [gp, List.getD_eq_getElem?_getD, List.getElem?_eq_getElem this]
theorem gp_left {l r : List IP} {j : Int} (h0 : 0 ≤ j) (h : j < l.length) : gp (l ++ r) j = gp l j := by
  unfold gp
  rw [List.getD_eq_getElem?_getD, List.getD_eq_getElem?_getD, List.getElem?_append_left (by omega)]
theorem gp_last {l : List IP} {v : IP} : gp (l ++ [v]) l.length = v := by
  unfold gp
  rw [List.getD_eq_getElem?_getD, List.getElem?_append_right (by omega)]
  simp

def pairV (p : IP) : Value := .agg (Array.mk [.int .i64 p.1, .int .i64 p.2])
theorem keyPair : KeyOf KT.pair pairV where
  eq := fun a b => by
    obtain ⟨a1, a2⟩ := a; obtain ⟨b1, b2⟩ := b
    simp only [KT.eq, pairV, Prod.mk.injEq]
    by_cases h : a1 = b1 <;> by_cases h2 : a2 = b2 <;> simp [h, h2]
  ok := fun v h => by
    unfold KT.ok at h
    split at h
    · rename_i e; cases e
    · rename_i e; cases e
    · split at h
      · rename_i cs _ a b e
        refine ⟨(a, b), ?_⟩
        simp only [pairV]; congr 1
        exact Array.ext' e
      · cases h
    · cases h
  ok' := fun _ => rfl

/-- The slice (A, n, c) of pairs is the family's index i. -/
def GP (F : FamF) (i : Nat) (A : Option Addr) (n c : Nat) (ps : List IP) : Prop :=
  (F i = none ∧ A = none ∧ n = 0 ∧ c = 0 ∧ ps = []) ∨ ∃ b rest, F i = some (b, .cells (pcells ps ++ rest)) ∧ A = some ⟨b, 0, none⟩ ∧ n = ps.length ∧ 2 * c = 2 * ps.length + rest.length
section
variable {w0 w : World} {F F' : FamF} {i : Nat} {A : Option Addr} {n c : Nat} {ps : List IP}
theorem GP.same (h : GP F i A n c ps) (e : F' i = F i) : GP F' i A n c ps := by unfold GP at *; rw [e]; exact h
theorem GP.nil (h : F i = none) : GP F i none 0 0 [] := .inl ⟨h, rfl, rfl, rfl, rfl⟩
theorem GP.len (h : GP F i A n c ps) : n = ps.length := by
  rcases h with ⟨_, _, h, _, h2⟩ | ⟨_, _, _, _, h, _⟩
  · rw [h, h2]; rfl
  · exact h
theorem GP.row (h : GP F i A n c ps) (hF : Fam w0 w F) : Row w A (pcells ps) := fun hne => by
  rcases h with ⟨_, _, _, _, h2⟩ | ⟨b, rest, h1, h2, _, _⟩
  · subst h2; exact absurd rfl hne
  · exact ⟨_, h2, fun j v hj => by rw [add_none, Nat.zero_add]; exact cell_holds (hF.own i b _ h1).1 (by rw [List.getElem?_append_left (List.getElem?_eq_some_iff.1 hj).1]; exact hj)⟩
/-- a pair, loaded -/
theorem rowP_get {w : World} {A : Option Addr} {ps : List IP} (h : Row w A (pcells ps)) {x : Int} (h0 : 0 ≤ x) (h1 : x < ps.length) {K : Addr → Prop}
    (hk : ∀ a, w.cell? a = some (.int .i64 (gp ps x).1) → w.cell? (a.add 1) = some (.int .i64 (gp ps x).2) → K a) : IxV A ps.length 2 x K := by
  have e := get_gp h0 h1
  obtain ⟨e1, e2⟩ := pcells_get e
  obtain ⟨ad, ha, hc⟩ := h (by intro e3; rw [e3] at e1; simp at e1)
  refine ⟨ad, ha, h0, h1, hk _ ?_ ?_⟩
  · rw [Nat.mul_comm]; exact hc _ _ e1
  · have : (ad.add (x.toNat * 2)).add 1 = ad.add (2 * x.toNat + 1) := by
      rw [Nat.mul_comm]; obtain ⟨b, o, r⟩ := ad
      by_cases h0 : 2 * x.toNat = 0
      · rw [h0]; simp [Addr.add]
      · simp only [Addr.add, h0, if_false]
        simp; omega
    rw [this]; exact hc _ _ e2
theorem GP.get (h : GP F i A n c ps) (hF : Fam w0 w F) {x : Int} (h0 : 0 ≤ x) (h1 : x < ps.length) {K : Addr → Prop}
    (hk : ∀ a, w.cell? a = some (.int .i64 (gp ps x).1) → w.cell? (a.add 1) = some (.int .i64 (gp ps x).2) → K a) : IxV A n 2 x K := by
  have := h.len; subst this
  exact rowP_get (h.row hF) h0 h1 hk
theorem rep2_len (k : Nat) (y z : Value) : (rep k [y, z]).length = 2 * k := by simp [rep, Builtin.zeroCells]; omega
theorem GP.push {p : IP} {y z : Value} {e e2 : TypeId} (hs : GP F i A n c ps) (h : Fam w0 w F) (hlim : n ≤ 8796093022206)
    {K : Option Addr → Nat → Nat → World → Prop} (k : ∀ F' A' c' w', Only i F F' → Fam w0 w' F' → GP F' i A' (n + 1) c' (ps ++ [p]) → K A' (n + 1) c' w') :
    NewK w (.cells (Array.mk [.int .i64 p.1, .int .i64 p.2]) e (0, 0)) fun bx w1 => AppK 16 2 [y, z] e2 A n c (some ⟨bx, 0, none⟩) 1 w1 K := by
  intro bx w1 hn
  have h' := h.ext hn.ext
  have hx : Holds w1 bx (.cells [.int .i64 p.1, .int .i64 p.2]) := ⟨e, hn.new⟩
  have hpc : pcells (ps ++ [p]) = pcells ps ++ [.int .i64 p.1, .int .i64 p.2] := by rw [pcells_append]; rfl
  refine ⟨pcells ps, [.int .i64 p.1, .int .i64 p.2], by rw [hs.len, pcells_len]; omega, rfl, hs.row h', fun _ => ⟨_, rfl, fun j v hj => by rw [add_none, Nat.zero_add]; exact cell_holds hx hj⟩, by simp [one1], by omega, fun hle => .inr ?_, fun hlt cap hcap => ?_⟩
  · rcases hs with ⟨_, _, hn0, hc, _⟩ | ⟨b, rest, hF, hA, hnx, hc⟩
    · omega
    · refine ⟨⟨b, 0, none⟩, hA, ?_⟩
      rw [add_none, Nat.zero_add]
      refine h'.stv _ _ _ _ 0 hF (by simp; omega) (by simp [one1]) fun F' w' ho hF' hi' => ?_
      rw [Nat.add_zero, show n * 2 = (pcells ps).length by rw [pcells_len, hnx]; omega, putAll_eq _ _ _ (by simp; omega)] at hi'
      refine k F' A c w' ho hF' (.inr ⟨b, _, by rw [hi', hpc], hA, by simp [hnx], by simp; omega⟩)
  · refine h'.make i fun b w' hw' => k _ _ _ w' upd_only hw' (.inr ⟨b, _, by rw [upd_self, hpc], rfl, by simp [hs.len], by rw [rep2_len]; simp; have := hs.len; omega⟩)
end
/-- A slice of pairs. -/
def SlP (w : World) (v : Value) (ps : List IP) : Prop := ∃ A c, v = .slice A ps.length c ∧ ps.length ≤ c ∧ Row w A (pcells ps)
theorem GP.cap {F : FamF} {i : Nat} {A : Option Addr} {n c : Nat} {ps : List IP} (h : GP F i A n c ps) : ps.length ≤ c := by
  rcases h with ⟨_, _, _, _, h2⟩ | ⟨_, _, _, _, _, h⟩
  · rw [h2]; simp
  · omega
theorem SlP.ext {w w' : World} (h : Ext w w') {v : Value} {ps : List IP} (hs : SlP w v ps) : SlP w' v ps := by
  obtain ⟨A, c, e, hc, hr⟩ := hs; exact ⟨A, c, e, hc, h.row hr⟩
end Go.Proofs.Ytnkpjlhbojjneaa.VC

/- Words by length and order; pairs of states, as they are found; the first word that parts two machines. -/
namespace Go.Proofs.Ytnkpjlhbojjneaa.VC

def lexlt : List Int → List Int → Prop
  | [], _ => False
  | _ :: _, [] => False
  | a :: u, b :: v => a < b ∨ a = b ∧ lexlt u v
def slt (u v : List Int) : Prop := u.length < v.length ∨ u.length = v.length ∧ lexlt u v
def sle (u v : List Int) : Prop := slt u v ∨ u = v
theorem lexlt_irrefl (u : List Int) : ¬ lexlt u u := by
  induction u with
  | nil => exact id
  | cons a u ih => rintro (h | ⟨_, h⟩); exact Int.lt_irrefl _ h; exact ih h
theorem lexlt_trans : ∀ (u v w : List Int), lexlt u v → lexlt v w → lexlt u w
  | [], _, _, h, _ => h.elim
  | _ :: _, [], _, h, _ => h.elim
  | _ :: _, _ :: _, [], _, h => h.elim
  | a :: u, b :: v, c :: w, h, k => by
    rcases h with h | ⟨rfl, h⟩
    · rcases k with k | ⟨rfl, k⟩
      · exact .inl (Int.lt_trans h k)
      · exact .inl h
    · rcases k with k | ⟨rfl, k⟩
      · exact .inl k
      · exact .inr ⟨rfl, lexlt_trans u v w h k⟩
theorem lexlt_append : ∀ (u v : List Int) (a b : Int), u.length = v.length → lexlt u v → lexlt (u ++ [a]) (v ++ [b])
  | [], _, _, _, _, h => h.elim
  | _ :: _, [], _, _, _, h => h.elim
  | x :: u, y :: v, a, b, hl, h => by
    rcases h with h | ⟨rfl, h⟩
    · exact .inl h
    · exact .inr ⟨rfl, lexlt_append u v a b (by simpa using hl) h⟩
theorem lexlt_last : ∀ (u : List Int) (a b : Int), a < b → lexlt (u ++ [a]) (u ++ [b])
  | [], _, _, h => .inl h
  | _ :: u, a, b, h => .inr ⟨rfl, lexlt_last u a b h⟩
theorem slt_irrefl (u : List Int) : ¬ slt u u := by
  rintro (h | ⟨_, h⟩)
  · omega
  · exact lexlt_irrefl u h
theorem slt_trans {u v w : List Int} (h : slt u v) (k : slt v w) : slt u w := by
  rcases h with h | ⟨h, h2⟩
  · rcases k with k | ⟨k, _⟩
    · exact .inl (by omega)
    · exact .inl (by omega)
  · rcases k with k | ⟨k, k2⟩
    · exact .inl (by omega)
    · exact .inr ⟨by omega, lexlt_trans u v w h2 k2⟩
theorem sle_refl (u : List Int) : sle u u := .inr rfl
theorem sle_trans {u v w : List Int} (h : sle u v) (k : sle v w) : sle u w := by
  rcases h with h | rfl
  · rcases k with k | rfl
    · exact .inl (slt_trans h k)
    · exact .inl h
  · exact k
theorem slt_sle {u v w : List Int} (h : slt u v) (k : sle v w) : slt u w := by
  rcases k with k | rfl
  · exact slt_trans h k
  · exact h
theorem sle_antisymm {u v : List Int} (h : sle u v) (k : sle v u) : u = v := by
  rcases h with h | h
  · exact absurd (slt_sle h k) (slt_irrefl u)
  · exact h
theorem slt_append {u v : List Int} (h : slt u v) (a b : Int) : slt (u ++ [a]) (v ++ [b]) := by
  rcases h with h | ⟨h, h2⟩
  · left; simp; exact h
  · right; exact ⟨by simp [h], lexlt_append u v a b h h2⟩
theorem slt_last {u : List Int} {a b : Int} (h : a < b) : slt (u ++ [a]) (u ++ [b]) := .inr ⟨by simp, lexlt_last u a b h⟩
theorem sle_append {u v : List Int} (h : sle u v) (a : Int) : sle (u ++ [a]) (v ++ [a]) := by
  rcases h with h | rfl
  · exact .inl (slt_append h a a)
  · exact .inr rfl
theorem slt_more (u : List Int) (a : Int) : slt u (u ++ [a]) := .inl (by simp)

/-- the word that parts two machines, by length and order the first one -/
structure First (a b : Mach) (u : List Int) : Prop where
  parts : a.acc a.start u ≠ b.acc b.start u
  first : ∀ v, a.acc a.start v ≠ b.acc b.start v → sle u v
theorem First.unique {a b : Mach} {u v : List Int} (hu : First a b u) (hv : First a b v) : u = v := sle_antisymm (hu.first v hv.parts) (hv.first u hu.parts)
theorem First.symm {a b : Mach} {u : List Int} (h : First a b u) : First b a u := ⟨h.parts.symm, fun v hv => h.first v hv.symm⟩

/-- two machines side by side -/
def pstep (a b : Mach) (p : IP) (x : Int) : IP := (a.step p.1 x, b.step p.2 x)
def prun (a b : Mach) (p : IP) (u : List Int) : IP := (a.run p.1 u, b.run p.2 u)
theorem prun_snoc (a b : Mach) (p : IP) (u : List Int) (x : Int) : prun a b p (u ++ [x]) = pstep a b (prun a b p u) x := by
  unfold prun pstep; rw [Mach.run_append, Mach.run_append]; rfl
def nowhere : IP := (-1, -1)
theorem pstep_nowhere (a b : Mach) (x : Int) : pstep a b nowhere x = nowhere := by
  unfold pstep nowhere; rw [Mach.step_neg (by decide), Mach.step_neg (by decide)]

/-- pairs as they are found: the lists cm and bl tell from where, and by which letter -/
structure Walk2 (a b : Mach) (ps : List IP) (ws : List (List Int)) (cm bl : List Int) (i j : Int) : Prop where
  len : ws.length = ps.length
  lens : cm.length = ps.length ∧ bl.length = ps.length
  head : ps[0]? = some (a.start, b.start) ∧ ws[0]? = some [] ∧ gi cm 0 = -1
  nodup : ps.Nodup
  runs : ∀ (k : Nat) p u, ps[k]? = some p → ws[k]? = some u → prun a b (a.start, b.start) u = p
  rng : ∀ p ∈ ps, (-1 ≤ p.1 ∧ p.1 < a.next.length) ∧ (-1 ≤ p.2 ∧ p.2 < b.next.length)
  mono : ∀ (k k' : Nat) u v, k < k' → ws[k]? = some u → ws[k']? = some v → slt u v
  tree : ∀ (k : Nat) u, ws[k]? = some u → (k = 0 ∧ u = []) ∨ ∃ (c : Nat) (v : List Int), ws[c]? = some v ∧ u = v ++ [gi bl k] ∧ gi cm k = c ∧ c < k ∧ ((c : Int) < i ∨ (c : Int) = i ∧ gi bl k < j)
  done : ∀ (k : Nat) (x : Int) p u, ps[k]? = some p → ws[k]? = some u → ((k : Int) < i ∨ (k : Int) = i ∧ x < j) → a.Let x → pstep a b p x = nowhere ∨ ∃ (k' : Nat) (v : List Int), ps[k']? = some (pstep a b p x) ∧ ws[k']? = some v ∧ sle v (u ++ [x])
section
variable {a b : Mach} {ps : List IP} {ws : List (List Int)} {cm bl : List Int} {i j : Int}
theorem Walk2.init (ha : a.Shaped) (hb : b.Shaped) : Walk2 a b [(a.start, b.start)] [[]] [-1] [-1] 0 0 where
  len := rfl
  lens := ⟨rfl, rfl⟩
  head := ⟨rfl, rfl, rfl⟩
  nodup := by simp
  runs := fun k p u hp hu => by
    cases k with
    | zero => simp at hp hu; subst hp hu; rfl
    | succ k => simp at hp
  rng := fun p hp => by rw [List.mem_singleton] at hp; subst hp; exact ⟨ha.start_range, hb.start_range⟩
  mono := fun k k' u v h hu hv => by
    have := (List.getElem?_eq_some_iff.1 hv).1; simp at this; omega
  tree := fun k u hu => by
    cases k with
    | zero => simp at hu; exact .inl ⟨rfl, hu⟩
    | succ k => simp at hu
  done := fun k x p u hp hu h hx => by unfold Mach.Let at hx; omega
theorem Walk2.below (h : Walk2 a b ps ws cm bl i j) (hi : 0 ≤ i) {v : List Int} (hv : ws[i.toNat]? = some v) {k : Nat} {u : List Int} (hu : ws[k]? = some u) {x : Int} (hx : j ≤ x) : slt u (v ++ [x]) := by
  rcases h.tree k u hu with ⟨_, rfl⟩ | ⟨c, v', hc, rfl, _, _, hlt | ⟨he, hlt⟩⟩
  · exact .inl (by simp)
  · exact slt_append (h.mono c i.toNat v' v (by omega) hc hv) _ _
  · have : c = i.toNat := by omega
    subst this
    rw [hv] at hc; injection hc with hc; subst hc
    exact slt_last (by omega)
theorem Walk2.skip (h : Walk2 a b ps ws cm bl i j) {p : IP} (hi : 0 ≤ i) (hp : ps[i.toNat]? = some p) (hn : pstep a b p j = nowhere) : Walk2 a b ps ws cm bl i (j + 1) :=
  ⟨h.len, h.lens, h.head, h.nodup, h.runs, h.rng, h.mono, fun k u hu => by
    rcases h.tree k u hu with h1 | ⟨c, v', hc, h1, h2, h3, h4⟩
    · exact .inl h1
    · exact .inr ⟨c, v', hc, h1, h2, h3, by omega⟩, fun k x q u hq hu hh hx => by
    by_cases e : (k : Int) = i ∧ x = j
    · obtain ⟨e1, rfl⟩ := e
      have : k = i.toNat := by omega
      subst this
      rw [hp] at hq; injection hq with hq; subst hq
      exact .inl hn
    · exact h.done k x q u hq hu (by omega) hx⟩
theorem Walk2.old (h : Walk2 a b ps ws cm bl i j) {p : IP} (hi : 0 ≤ i) (hp : ps[i.toNat]? = some p) {k' : Nat} (hk : ps[k']? = some (pstep a b p j)) : Walk2 a b ps ws cm bl i (j + 1) :=
  ⟨h.len, h.lens, h.head, h.nodup, h.runs, h.rng, h.mono, fun k u hu => by
    rcases h.tree k u hu with h1 | ⟨c, v', hc, h1, h2, h3, h4⟩
    · exact .inl h1
    · exact .inr ⟨c, v', hc, h1, h2, h3, by omega⟩, fun k x q u hq hu hh hx => by
    by_cases e : (k : Int) = i ∧ x = j
    · obtain ⟨e1, rfl⟩ := e
      have : k = i.toNat := by omega
      subst this
      rw [hp] at hq; injection hq with hq; subst hq
      have hlt := (List.getElem?_eq_some_iff.1 hk).1
      have hw := List.getElem?_eq_getElem (l := ws) (i := k') (by rw [h.len]; exact hlt)
      exact .inr ⟨k', _, hk, hw, .inl (h.below hi hu hw (Int.le_refl _))⟩
    · exact h.done k x q u hq hu (by omega) hx⟩
theorem Walk2.fresh (h : Walk2 a b ps ws cm bl i j) (ha : a.Shaped) (hb : b.Shaped) {p : IP} {w : List Int} (hi : 0 ≤ i) (hp : ps[i.toNat]? = some p) (hw : ws[i.toNat]? = some w) (hn : pstep a b p j ∉ ps) :
    Walk2 a b (ps ++ [pstep a b p j]) (ws ++ [w ++ [j]]) (cm ++ [i]) (bl ++ [j]) i (j + 1) := by
  have hl := h.len
  have hl1 := h.lens.1; have hl2 := h.lens.2
  have hip := (List.getElem?_eq_some_iff.1 hp).1
  have up : ∀ {k : Nat} {p : IP}, ps[k]? = some p → (ps ++ [pstep a b ‹IP› j])[k]? = some p := fun hk => by rw [List.getElem?_append_left (List.getElem?_eq_some_iff.1 hk).1]; exact hk
  have upw : ∀ {k : Nat} {u : List Int}, ws[k]? = some u → (ws ++ [w ++ [j]])[k]? = some u := fun hk => by rw [List.getElem?_append_left (List.getElem?_eq_some_iff.1 hk).1]; exact hk
  have back : ∀ {k : Nat} {q : IP} {u : List Int}, (ps ++ [pstep a b p j])[k]? = some q → (ws ++ [w ++ [j]])[k]? = some u → (ps[k]? = some q ∧ ws[k]? = some u) ∨ (k = ps.length ∧ q = pstep a b p j ∧ u = w ++ [j]) := fun {k q u} hq hu => by
    rcases Nat.lt_or_ge k ps.length with hlt | hge
    · rw [List.getElem?_append_left hlt] at hq
      rw [List.getElem?_append_left (by omega)] at hu
      exact .inl ⟨hq, hu⟩
    · have := (List.getElem?_eq_some_iff.1 hq).1
      rw [List.length_append, List.length_singleton] at this
      have : k = ps.length := by omega
      subst this
      rw [List.getElem?_append_right (Nat.le_refl _), Nat.sub_self] at hq
      rw [List.getElem?_append_right (by omega), hl, Nat.sub_self] at hu
      simp at hq hu
      exact .inr ⟨rfl, hq.symm, hu.symm⟩
  have backw : ∀ {k : Nat} {u : List Int}, (ws ++ [w ++ [j]])[k]? = some u → ws[k]? = some u ∨ (k = ps.length ∧ u = w ++ [j]) := fun {k u} hu => by
    rcases Nat.lt_or_ge k ps.length with hlt | hge
    · rw [List.getElem?_append_left (by omega)] at hu; exact .inl hu
    · have := (List.getElem?_eq_some_iff.1 hu).1
      rw [List.length_append, List.length_singleton] at this
      have : k = ps.length := by omega
      subst this
      rw [List.getElem?_append_right (by omega), hl, Nat.sub_self] at hu
      simp at hu
      exact .inr ⟨rfl, hu.symm⟩
  refine ⟨by simp [hl], by simp [hl1, hl2], ⟨?_, upw h.head.2.1, ?_⟩, ?_, fun k q u hq hu => ?_, fun q hq => ?_, fun k k' u v hk hu hv => ?_, fun k u hu => ?_, fun k x q u hq hu hh hx => ?_⟩
  · have := h.head.1
    rw [List.getElem?_append_left (List.getElem?_eq_some_iff.1 this).1]; exact this
  · rw [gi_left (by omega) (by omega)]; exact h.head.2.2
  · rw [List.nodup_append]
    refine ⟨h.nodup, by simp, fun x hx y hy => ?_⟩
    rw [List.mem_singleton] at hy; subst hy; rintro rfl; exact hn hx
  · rcases back hq hu with ⟨h1, h2⟩ | ⟨_, rfl, rfl⟩
    · exact h.runs k q u h1 h2
    · rw [prun_snoc, h.runs _ p w hp hw]
  · rcases List.mem_append.1 hq with hq | hq
    · exact h.rng q hq
    · rw [List.mem_singleton] at hq; subst hq; exact ⟨ha.step_range _ _, hb.step_range _ _⟩
  · rcases backw hu with h1 | ⟨rfl, rfl⟩
    · rcases backw hv with h2 | ⟨rfl, rfl⟩
      · exact h.mono k k' u v hk h1 h2
      · exact h.below hi hw h1 (Int.le_refl _)
    · rcases backw hv with h2 | ⟨rfl, _⟩
      · have := (List.getElem?_eq_some_iff.1 h2).1; omega
      · omega
  · rcases backw hu with h1 | ⟨rfl, rfl⟩
    · have hk := (List.getElem?_eq_some_iff.1 h1).1
      rcases h.tree k u h1 with h2 | ⟨c, v', hc, h2, h3, h4, h5⟩
      · exact .inl h2
      · right
        rw [gi_left (by omega) (by omega), gi_left (by omega) (by omega)]
        exact ⟨c, v', upw hc, h2, h3, h4, by omega⟩
    · right
      refine ⟨i.toNat, w, upw hw, ?_, ?_, hip, ?_⟩
      · rw [← hl2, gi_last]
      · rw [← hl1, gi_last]; omega
      · rw [← hl2, gi_last]; omega
  · rcases back hq hu with ⟨h1, h2⟩ | ⟨rfl, rfl, rfl⟩
    · by_cases e : (k : Int) = i ∧ x = j
      · obtain ⟨e1, rfl⟩ := e
        have : k = i.toNat := by omega
        subst this
        rw [hp] at h1; injection h1 with h1; subst h1
        rw [hw] at h2; injection h2 with h2; subst h2
        exact .inr ⟨ps.length, w ++ [x], by simp, by rw [← hl]; simp, sle_refl _⟩
      · rcases h.done k x q u h1 h2 (by omega) hx with h3 | ⟨k', v, h3, h4, h5⟩
        · exact .inl h3
        · refine .inr ⟨k', v, ?_, upw h4, h5⟩
          rw [List.getElem?_append_left (List.getElem?_eq_some_iff.1 h3).1]; exact h3
    · omega
theorem Walk2.row (h : Walk2 a b ps ws cm bl i j) (hj : a.letters ≤ j) : Walk2 a b ps ws cm bl (i + 1) 0 :=
  ⟨h.len, h.lens, h.head, h.nodup, h.runs, h.rng, h.mono, fun k u hu => by
    rcases h.tree k u hu with h1 | ⟨c, v', hc, h1, h2, h3, h4⟩
    · exact .inl h1
    · exact .inr ⟨c, v', hc, h1, h2, h3, by omega⟩, fun k x q u hq hu hh hx => h.done k x q u hq hu (by unfold Mach.Let at hx; omega) hx⟩
theorem pstep_out (ha : a.Shaped) (hb : b.Shaped) (hl : a.letters = b.letters) {x : Int} (hx : ¬ a.Let x) (p : IP) : pstep a b p x = nowhere := by
  have h1 : a.step p.1 x = -1 := by
    have := ha.step_range p.1 x
    have : ¬ 0 ≤ a.step p.1 x := fun h => hx (ha.step_let h).2
    omega
  have h2 : b.step p.2 x = -1 := by
    have := hb.step_range p.2 x
    have : ¬ 0 ≤ b.step p.2 x := fun h => hx (by have := (hb.step_let h).2; unfold Mach.Let at *; omega)
    omega
  unfold pstep nowhere; rw [h1, h2]
theorem Walk2.reach (h : Walk2 a b ps ws cm bl i 0) (hi : 0 ≤ i) (ha : a.Shaped) (hb : b.Shaped) (hl : a.letters = b.letters) : ∀ (n : Nat) (u : List Int), u.length = n →
    prun a b (a.start, b.start) u = nowhere ∨ (∃ (k : Nat) (v : List Int), ps[k]? = some (prun a b (a.start, b.start) u) ∧ ws[k]? = some v ∧ sle v u) ∨ (∃ w, ws[i.toNat]? = some w ∧ sle w u) := by
  intro n
  induction n with
  | zero =>
    intro u hu
    have : u = [] := List.length_eq_zero_iff.1 hu
    subst this
    exact .inr (.inl ⟨0, [], h.head.1, h.head.2.1, sle_refl _⟩)
  | succ n ih =>
    intro u hu
    obtain rfl | ⟨v, x, rfl⟩ := List.eq_nil_or_concat u
    · simp at hu
    rw [List.concat_eq_append] at hu ⊢
    rcases ih v (by simpa using hu) with h1 | ⟨k, w, h1, h2, h3⟩ | ⟨w, h1, h2⟩
    · left; rw [prun_snoc, h1, pstep_nowhere]
    · rw [prun_snoc]
      rcases ilt (k : Int) i with hk | hk
      · by_cases hx : a.Let x
        · rcases h.done k x _ w h1 h2 (.inl hk) hx with h4 | ⟨k', v', h4, h5, h6⟩
          · exact .inl h4
          · exact .inr (.inl ⟨k', v', h4, h5, sle_trans h6 (sle_append h3 x)⟩)
        · exact .inl (pstep_out ha hb hl hx _)
      · right; right
        have hkl := (List.getElem?_eq_some_iff.1 h2).1
        have hw := List.getElem?_eq_getElem (l := ws) (i := i.toNat) (by omega)
        refine ⟨_, hw, sle_trans (sle_trans ?_ h3) (.inl (slt_more v x))⟩
        by_cases e : k = i.toNat
        · subst e; rw [hw] at h2; injection h2 with h2; rw [h2]; exact sle_refl _
        · exact .inl (h.mono _ k _ w (by omega) hw h2)
    · exact .inr (.inr ⟨w, h1, sle_trans h2 (.inl (slt_more v x))⟩)
theorem acc_prun (u : List Int) : a.acc a.start u = a.ends (prun a b (a.start, b.start) u).1 ∧ b.acc b.start u = b.ends (prun a b (a.start, b.start) u).2 := ⟨rfl, rfl⟩
theorem nowhere_ends : a.ends nowhere.1 = false ∧ b.ends nowhere.2 = false := ⟨Mach.ends_neg (by decide), Mach.ends_neg (by decide)⟩
/-- the first pair that is told apart -/
theorem Walk2.first (h : Walk2 a b ps ws cm bl i 0) (hi : 0 ≤ i) (ha : a.Shaped) (hb : b.Shaped) (hl : a.letters = b.letters) (hs : ∀ (k : Nat) p, (k : Int) < i → ps[k]? = some p → a.ends p.1 = b.ends p.2) {p : IP} {w : List Int}
    (hp : ps[i.toNat]? = some p) (hw : ws[i.toNat]? = some w) (hd : a.ends p.1 ≠ b.ends p.2) : First a b w where
  parts := by rw [(acc_prun (a := a) (b := b) w).1, (acc_prun (a := a) (b := b) w).2, h.runs _ p w hp hw]; exact hd
  first := fun u hu => by
    rw [(acc_prun (a := a) (b := b) u).1, (acc_prun (a := a) (b := b) u).2] at hu
    rcases h.reach hi ha hb hl u.length u rfl with h1 | ⟨k, v, h1, h2, h3⟩ | ⟨w', h1, h2⟩
    · rw [h1, (nowhere_ends (a := a) (b := b)).1, (nowhere_ends (a := a) (b := b)).2] at hu; exact absurd rfl hu
    · rcases ilt (k : Int) i with hk | hk
      · exact absurd (hs k _ hk h1) hu
      · refine sle_trans ?_ h3
        by_cases e : k = i.toNat
        · subst e; rw [hw] at h2; injection h2 with h2; rw [h2]; exact sle_refl _
        · exact .inl (h.mono _ k w v (by omega) hw h2)
    · rw [hw] at h1; injection h1 with h1; subst h1; exact h2
/-- no pair is told apart -/
theorem Walk2.same (h : Walk2 a b ps ws cm bl i 0) (hi : ps.length ≤ i) (ha : a.Shaped) (hb : b.Shaped) (hl : a.letters = b.letters) (hs : ∀ (k : Nat) p, (k : Int) < i → ps[k]? = some p → a.ends p.1 = b.ends p.2) (u : List Int) : a.acc a.start u = b.acc b.start u := by
  rw [(acc_prun (a := a) (b := b) u).1, (acc_prun (a := a) (b := b) u).2]
  rcases h.reach (by omega) ha hb hl u.length u rfl with h1 | ⟨k, v, h1, h2, h3⟩ | ⟨w', h1, h2⟩
  · rw [h1, (nowhere_ends (a := a) (b := b)).1, (nowhere_ends (a := a) (b := b)).2]
  · exact hs k _ (by have := (List.getElem?_eq_some_iff.1 h1).1; omega) h1
  · have := (List.getElem?_eq_some_iff.1 h1).1
    have := h.len; omega
/-- pairs are not too many -/
theorem Walk2.count (h : Walk2 a b ps ws cm bl i j) : (ps.length : Int) ≤ (a.next.length + 1) * (b.next.length + 1) := by
  have := nodup_bound ((a.next.length + 1) * (b.next.length + 1)) (ps.map fun p => (p.1 + 1) * (b.next.length + 1) + (p.2 + 1)) ?_ ?_
  · rw [List.length_map] at this; exact_mod_cast this
  · rw [List.nodup_iff_pairwise_ne, List.pairwise_map]
    refine (List.nodup_iff_pairwise_ne.1 h.nodup).imp_of_mem fun {p q} hp hq hne e => hne ?_
    have h1 := h.rng p hp; have h2 := h.rng q hq
    have hB : (0 : Int) < b.next.length + 1 := by omega
    have d1 : ((p.1 + 1) * (b.next.length + 1) + (p.2 + 1)) / (b.next.length + 1) = p.1 + 1 := by
      rw [Int.add_comm, Int.add_mul_ediv_right _ _ (by omega), Int.ediv_eq_zero_of_lt (by omega) (by omega)]; omega
    have d2 : ((q.1 + 1) * (b.next.length + 1) + (q.2 + 1)) / (b.next.length + 1) = q.1 + 1 := by
      rw [Int.add_comm, Int.add_mul_ediv_right _ _ (by omega), Int.ediv_eq_zero_of_lt (by omega) (by omega)]; omega
    have e1 : p.1 = q.1 := by rw [e, d2] at d1; omega
    rw [e1] at e
    have e2 : p.2 = q.2 := by omega
    exact Prod.ext e1 e2
  · intro x hx
    obtain ⟨p, hp, rfl⟩ := List.mem_map.1 hx
    have h1 := h.rng p hp
    have p0 : 0 ≤ (p.1 + 1) * ((b.next.length : Int) + 1) := Int.mul_nonneg (by omega) (by omega)
    have p1 : (p.1 + 1) * ((b.next.length : Int) + 1) ≤ a.next.length * ((b.next.length : Int) + 1) := Int.mul_le_mul_of_nonneg_right (by omega) (by omega)
    have e : ((a.next.length : Int) + 1) * (b.next.length + 1) = a.next.length * ((b.next.length : Int) + 1) + (b.next.length + 1) := by rw [Int.add_mul, Int.one_mul]
    push_cast
    rw [e]
    omega
end
end Go.Proofs.Ytnkpjlhbojjneaa.VC

/- Two machines are told apart by the first word. -/
namespace Go.Proofs.Ytnkpjlhbojjneaa.VC
open Go Go.RowKit

theorem c57 {w0 w : World} {F : FamF} {b : Nat} {A : Option Addr} {n c : Nat} {r : Option Nat} {xs : List IP} {x : IP} {R : Res} (hF : Fam w0 w F) (hl : GP F 0 A n c xs) (hm : NumMap F 1 KT.pair pairV r xs) (hlim : xs.length ≤ 1099511627776)
    (old : ∀ k : Nat, xs[k]? = some x → R (.int .i64 k) [[.slice A n c, .map r]] w)
    (new : x ∉ xs → ∀ F' w' A' c' r', (∀ j, j ≠ 0 → j ≠ 1 → F' j = F j) → Fam w0 w' F' → GP F' 0 A' (n + 1) c' (xs ++ [x]) → NumMap F' 1 KT.pair pairV r' (xs ++ [x]) → R (.int .i64 xs.length) [[.slice A' (n + 1) c', .map r']] w') :
    CallsI Try.prog 57 [.pointer (some ⟨b, 0, none⟩), pairV x] w [(b, 68, [.slice A n c, .map r])] R := by
  have hn : n = xs.length := hl.len
  subst hn
  obtain ⟨l, h1, h2⟩ := hm.look hF x
  refine s57 _ _ _ _ _ _ _ _ _ fun _ => ⟨l, h1, ?_⟩
  rcases h2 with ⟨k, h3, h4⟩ | ⟨h3, h4⟩
  · rw [show Value.agg (Array.mk [Value.int IntKind.i64 x.1, Value.int IntKind.i64 x.2]) = pairV x from rfl, h3]; exact ⟨k, rfl, old k h4⟩
  · rw [show Value.agg (Array.mk [Value.int IntKind.i64 x.1, Value.int IntKind.i64 x.2]) = pairV x from rfl, h3]
    refine ⟨0, rfl, ?_⟩
    show condK _ _ _
    rcases hm with ⟨rfl, rfl⟩ | ⟨b', f, rfl, h5, h6⟩
    · refine GM.make hF 1 KT.pair pairV fun b1 F1 w1 ho1 hF1 hg1 => ?_
      refine hg1.putS keyPair hF1 fun F2 w2 ho2 hF2 hg2 => ?_
      refine ((hl.same (ho1 0 (by decide))).same (ho2 0 (by decide))).push hF2 (by simp) fun F3 A3 c3 w3 ho3 hF3 hl3 => ?_
      refine new h4 F3 w3 A3 c3 (some b1) (fun j a b => by rw [ho3 j a, ho2 j b, ho1 j b]) hF3 hl3 (.inr ⟨b1, _, rfl, hg2.same (ho3 1 (by decide)), ?_⟩)
      exact (show Num (fun _ : IP => none) [] from fun y => .inr ⟨rfl, by simp⟩).push h4
    · refine h5.putS keyPair hF fun F2 w2 ho2 hF2 hg2 => ?_
      refine (hl.same (ho2 0 (by decide))).push hF2 (by omega) fun F3 A3 c3 w3 ho3 hF3 hl3 => ?_
      exact new h4 F3 w3 A3 c3 (some b') (fun j a b => by rw [ho3 j a, ho2 j b]) hF3 hl3 (.inr ⟨b', _, rfl, hg2.same (ho3 1 (by decide)), h6.push h4⟩)

theorem gi_reverse {xs : List Int} {k : Int} (h0 : 0 ≤ k) (h1 : k < xs.length) : gi xs.reverse k = gi xs (xs.length - 1 - k) := by
  unfold gi
  rw [List.getD_eq_getElem?_getD, List.getD_eq_getElem?_getD, List.getElem?_reverse (by omega)]
  congr 2; omega
theorem c59 {w0 w : World} {F : FamF} {i : Nat} {A : Option Addr} {n c : Nat} {xs : List Int} {R : Res} (hF : Fam w0 w F) (hs : GSl F i A n c (ints xs)) (hl : xs.length ≤ 1099511627776)
    (hR : ∀ F' w', Only i F F' → Fam w0 w' F' → GSl F' i A n c (ints xs.reverse) → R unitV [] w') : CallsI Try.prog 59 [.slice A n c] w [] R := by
  have hn : n = xs.length := by rw [hs.len, ints_len]
  subst hn
  refine s59 _ _ _ _ _ ?_
  rw [wrap_id (by omega) (by omega)]
  refine ⟨fun x2 x3 => ⟨fun w' => ∃ F' ys, Fam w0 w' F' ∧ Only i F F' ∧ GSl F' i A xs.length c (ints ys) ∧ ys.length = xs.length ∧ 0 ≤ x2 ∧ x3 = xs.length - 1 - x2 ∧ x2 ≤ x3 + 1 + 1 ∧ ∀ k : Int, 0 ≤ k → k < xs.length → gi ys k = if k < x2 ∨ x3 < k then gi xs (xs.length - 1 - k) else gi xs k, fun _ => (x3 - x2 + 1).toNat⟩,
    ⟨F, xs, hF, fun _ _ => rfl, hs, rfl, by omega, by omega, by omega, fun k h0 h1 => by rw [if_neg (by omega)]⟩, ?_⟩
  rintro x2 x3 w4 ⟨F', ys, hF', ho, hs', hyl, h20, rfl, h2, hk⟩ k rfl
  refine condK_dec (fun hlt => ?_) fun hge => ?_
  · refine hs'.get_int hF' (by omega) (by omega) (K := fun x7 => IxV A _ 1 x2 _) ?_
    refine hs'.get_int hF' h20 (by omega) (K := fun x9 => IxV A _ 1 x2 _) ?_
    refine hs'.set_int hF' h20 (by omega) fun F1 w1 ho1 hF1 hs1 => ?_
    refine hs1.set_int hF1 (by omega) (by simp; omega) fun F2 w2 ho2 hF2 hs2 => ?_
    rw [wrap_id (by omega) (by omega), wrap_id (by omega) (by omega)]
    refine ⟨⟨F2, _, hF2, fun j hj => by rw [ho2 j hj, ho1 j hj, ho j hj], hs2, by simp [hyl], by omega, by omega, by omega, fun k h0 h1 => ?_⟩, by simp only []; omega⟩
    rw [gi_set (by omega) (by simp; omega) h0, gi_set h20 (by omega) h0]
    have ha := hk ((xs.length : Int) - 1 - x2) (by omega) (by omega)
    have hb := hk x2 h20 (by omega)
    rw [if_neg (by omega)] at ha hb
    by_cases e1 : k = (xs.length : Int) - 1 - x2
    · rw [if_pos e1, if_pos (by omega), hb]; congr 1; omega
    · rw [if_neg e1]
      by_cases e2 : k = x2
      · rw [if_pos e2, if_pos (by omega), ha, e2]
      · rw [if_neg e2, hk k h0 h1]
        by_cases e3 : k < x2 ∨ (xs.length : Int) - 1 - x2 < k
        · rw [if_pos e3, if_pos (by omega)]
        · rw [if_neg e3, if_neg (by omega)]
  · have e : ys = xs.reverse := gi_ext (by simp [hyl]) fun k h0 h1 => by
      rw [hk k h0 (by omega), gi_reverse h0 (by omega)]
      split
      · rfl
      · congr 1; omega
    subst e
    exact hR F' w4 ho hF' hs'

section
variable {w31 : World} {ma mb : Mach} {va vb : Value}
def I46 (w31 : World) (ma mb : Mach) : Int → Option Addr → Nat → Nat → Option Addr → Nat → Nat → Option Addr → Nat → Nat → Option Nat → Lp :=
  fun x47 A48 n49 n50 A51 n52 n53 A54 n55 n56 A57 => ⟨fun w' => ∃ F ps ws cm bl, Fam w31 w' F ∧ GSl F 2 A48 n49 n50 (ints cm) ∧ GSl F 3 A51 n52 n53 (ints bl) ∧ GP F 0 A54 n55 n56 ps ∧ NumMap F 1 KT.pair pairV A57 ps ∧ F 4 = none ∧ Walk2 ma mb ps ws cm bl x47 0 ∧ 0 ≤ x47 ∧ x47 ≤ ps.length ∧
    (∀ (k : Nat) p, (k : Int) < x47 → ps[k]? = some p → ma.ends p.1 = mb.ends p.2), fun _ => ((ma.next.length + 1) * (mb.next.length + 1) - x47 : Int).toNat⟩
def I100 (w31 : World) (ma mb : Mach) (x47 : Int) (p0 : IP) : Int → Option Addr → Nat → Nat → Option Addr → Nat → Nat → Option Addr → Nat → Nat → Option Nat → Lp :=
  fun x101 A48 n49 n50 A51 n52 n53 A54 n55 n56 A57 => ⟨fun w' => ∃ F ps ws cm bl, Fam w31 w' F ∧ GSl F 2 A48 n49 n50 (ints cm) ∧ GSl F 3 A51 n52 n53 (ints bl) ∧ GP F 0 A54 n55 n56 ps ∧ NumMap F 1 KT.pair pairV A57 ps ∧ F 4 = none ∧ Walk2 ma mb ps ws cm bl x47 x101 ∧ x47 < ps.length ∧ gp ps x47 = p0 ∧ 0 ≤ x101 ∧ x101 ≤ ma.letters ∧
    (∀ (k : Nat) p, (k : Int) < x47 + 1 → ps[k]? = some p → ma.ends p.1 = mb.ends p.2), fun _ => (ma.letters - x101).toNat⟩

theorem j26_12 {w70 : World} {F : FamF} {a72 : Addr} {x10 x11 : Int} {A12 : Option Addr} {n13 n14 : Nat} {A15 : Option Addr} {n16 n17 : Nat} {x47 : Int} {A48 : Option Addr} {n49 n50 : Nat} {A51 : Option Addr} {n52 n53 : Nat} {ps : List IP} {ws : List (List Int)} {cm bl : List Int} {w : List Int} {p : IP} {R : Res}
    (hma : MachAt w70 ma (.agg (Array.mk [.int .i64 x10, .int .i64 x11, .slice A12 n13 n14, .slice A15 n16 n17]))) (hF : Fam w31 w70 F) (hcm : GSl F 2 A48 n49 n50 (ints cm)) (hbl : GSl F 3 A51 n52 n53 (ints bl)) (h4 : F 4 = none) (hw : Walk2 ma mb ps ws cm bl x47 0) (h0 : 0 ≤ x47) (h1 : x47 < ps.length)
    (hlim : (ps.length : Int) ≤ 1099511627776) (hp : gp ps x47 = p) (hws : ws[x47.toNat]? = some w) (hsh : ma.Shaped) (hc : w70.cell? a72 = some (.int .i64 p.1))
    (hR : ∀ w' wv, Ext w31 w' → SlI w' wv w → w.length ≤ 1099511627776 → R (.tuple (Array.mk [wv, .bool (ma.ends p.1), .int .i64 0])) [] w') :
    J26_12 w70 a72 x10 x11 A12 n13 n14 A15 n16 n17 x47 A48 n49 A51 n52 R := by
  have hpm := List.mem_of_getElem? (get_gp (l := ps) h0 h1)
  rw [hp] at hpm
  have hrng := hw.rng p hpm
  have hfin := hsh.fin
  refine ⟨p.1, hc, c52 hma (by omega) ⟨_, rfl, rfl, ?_⟩⟩
  have hlens := hw.lens
  have hwl := hw.len
  refine ⟨fun x79 A80 n81 n82 => ⟨fun w83 => ∃ F' wd u, Fam w31 w83 F' ∧ (∀ j, j ≠ 4 → F' j = F j) ∧ GSl F' 4 A80 n81 n82 (ints wd) ∧ ws[x79.toNat]? = some u ∧ w = u ++ wd.reverse ∧ 0 ≤ x79 ∧ x79 < ps.length ∧ (wd.length : Int) + x79 ≤ x47, fun _ => x79.toNat⟩,
    ⟨F, [], w, hF, fun _ _ => rfl, .nil h4, hws, by simp, h0, h1, by simp⟩, ?_⟩
  rintro x79 A80 n81 n82 w83 ⟨F', wd, u, hF', hsm, hwd, hu, hwe, h790, h791, hlen⟩ n84 rfl
  have hcm' := hcm.same (hsm 2 (by decide))
  have hbl' := hbl.same (hsm 3 (by decide))
  refine hcm'.get_int hF' h790 (by omega) (K := fun x86 => condK _ _ _) ?_
  have htree := hw.tree _ u hu
  refine condK_dec (fun hge => ?_) fun hlt => ?_
  · rcases htree with ⟨hz, _⟩ | ⟨c, v, hv, he, hc', hcl, _⟩
    · have : x79 = 0 := by omega
      subst this; rw [hw.head.2.2] at hge; omega
    · have e79 : (x79.toNat : Int) = x79 := by omega
      rw [e79] at he hc'
      refine hbl'.get_int hF' h790 (by omega) (K := fun x88 => NewK _ _ _) ?_
      have hn81 : n81 = wd.length := by rw [hwd.len, ints_len]
      refine hwd.push_int hF' (by omega) fun F2 A2 c2 w94 ho2 hF2 hwd2 => ?_
      refine (hcm'.same (ho2 2 (by decide))).get_int hF2 h790 (by omega) (K := fun x96 => _ ∧ _) ?_
      rw [hc']
      refine ⟨⟨F2, wd ++ [gi bl x79], v, hF2, fun j hj => by rw [ho2 j hj, hsm j hj], hwd2, by simpa using hv, ?_, by omega, by omega, by simp; omega⟩, by simp only []; omega⟩
      · rw [hwe, he]; simp
  · have hz : x79 = 0 ∧ u = [] := by
      rcases htree with ⟨hz, hu'⟩ | ⟨c, v, hv, he, hc', _⟩
      · exact ⟨by omega, hu'⟩
      · have e79 : (x79.toNat : Int) = x79 := by omega
        rw [e79] at hc'; omega
    rw [hz.2, List.nil_append] at hwe
    refine c59 hF' hwd (by omega) fun F3 w99 ho3 hF3 hs3 => ⟨rfl, rfl, ?_⟩
    rw [← hwe] at hs3
    exact hR w99 _ hF3.base (hs3.sli hF3) (by rw [hwe]; simp; omega)
end
theorem IsLeast.shaped {m mm : Mach} (h : IsLeast m mm) : mm.Shaped := h.canon.shaped

set_option maxHeartbeats 4000000 in
theorem c26 {w : World} {a b : Mach} {v u : Value} {R : Res} (ha : MachAt w a v) (hb : MachAt w b u) (la : a.Lim) (lb : b.Lim)
    (bad : fitc a b ≠ 0 → R (.tuple (Array.mk [.slice none 0 0, .bool false, .int .i64 (fitc a b)])) [] w)
    (same : fitc a b = 0 → (∀ u, a.acc a.start u = b.acc b.start u) → ∀ w', Ext w w' → R (.tuple (Array.mk [.slice none 0 0, .bool false, .int .i64 7])) [] w')
    (diff : fitc a b = 0 → ∀ w' wv u, Ext w w' → SlI w' wv u → u.length ≤ 1099511627776 → First a b u → R (.tuple (Array.mk [wv, .bool (a.acc a.start u), .int .i64 0])) [] w') :
    CallsI Try.prog 26 [v, u] w [] R := by
  have ha0 := ha; have hb0 := hb
  obtain ⟨_, _, rfl, ⟨A, c, hs, rfl, hA, hl, hx⟩, ⟨B, d, rfl, hB⟩⟩ := ha
  obtain ⟨_, _, rfl, ⟨A', c', hs', rfl, hA', hl', hx'⟩, ⟨B', d', rfl, hB'⟩⟩ := hb
  refine s26 _ _ _ _ _ _ _ _ _ _ _ _ _ _ _ _ _ _ fun _ _ => c55 ha0 hb0 la lb ⟨_, rfl, rfl, ?_⟩
  refine condK_bne (fun h => bad h) fun hfit => ?_
  obtain ⟨hva, hvb, hlet⟩ := fitc_ok.1 hfit
  have same := same hfit
  have diff := diff hfit
  have hL := hva.letters
  have nA := hva.next; have nB := hvb.next
  refine c54 ha0 hva.shaped (by have := hva.next; omega) (by omega) fun w9 ma va hma hla hna => ?_
  have hma0 := hma.at_
  have hE9 := hma.below
  obtain ⟨Fa, A12, n13, n14, A15, n16, n17, rfl, _⟩ := hma
  refine ⟨_, _, _, _, _, _, _, _, rfl, rfl, ?_⟩
  refine c54 (hb0.ext hE9) hvb.shaped (by have := hvb.next; omega) (by omega) fun w20 mb vb hmb hlb hnb => ?_
  have hmb0 := hmb.at_
  have hE20 := hmb.below
  obtain ⟨Fb, A23, n24, n25, A26, n27, n28, rfl, _⟩ := hmb
  have hma1 := hma0.ext hE20
  refine ⟨_, _, _, _, _, _, _, _, rfl, rfl, ?_⟩
  have hsa := hla.shaped; have hsb := hlb.shaped
  have hletm : ma.letters = mb.letters := by rw [hla.letters, hlb.letters, hlet]
  have hLm : ma.letters ≤ 300 := by rw [hla.letters]; exact hL
  refine c56 hma1 hmb0 (hsa.lim (by omega) (by omega)) fun t32 ht32 => ⟨t32, rfl, rfl, ?_⟩
  have hE : Ext w w20 := hE9.trans' hE20
  refine condK_of (fun ht => ?_) fun hf => ?_
  · have h3 := ht32.1 ht
    have hmm : ma = mb := by
      obtain ⟨_, _, _, _⟩ := ma; obtain ⟨_, _, _, _⟩ := mb
      simp only at h3 hletm; obtain ⟨rfl, rfl, rfl⟩ := h3; subst hletm; rfl
    exact same (fun u => by rw [← hla.words, ← hlb.words, hmm]) w20 hE
  intro n33
  have hne : ¬ ∀ u, ma.acc ma.start u = mb.acc mb.start u := fun h => by
    have := canon_unique hla.canon hlb.canon hletm h
    rw [this, hf] at ht32
    simp at ht32
  have hfirst : ∀ {u}, First ma mb u → First a b u := fun {u} h => ⟨by rw [← hla.words, ← hlb.words]; exact h.parts, fun v hv => h.first v (by rw [hla.words, hlb.words]; exact hv)⟩
  have hN2 : ((ma.next.length : Int) + 1) * (mb.next.length + 1) ≤ 4001 * 4001 := Int.mul_le_mul (by omega) (by omega) (by omega) (by omega)
  refine c57 (x := (ma.start, mb.start)) (Fam.empty w20) (.nil rfl) (.inl ⟨rfl, rfl⟩) (by simp) (fun k h => by simp at h) fun _ F w36 A38 c40 r41 ho hF hlp hmp => ?_
  refine ⟨0, rfl, A38, 1, c40, r41, rfl, ?_⟩
  refine hF.mkRow 2 fun n42 F1 w43 ho1 hF1 hcm => ?_
  refine hF1.mkRow 3 fun n44 F2 w45 ho2 hF2 hbl => ?_
  refine ⟨I46 w20 ma mb, ⟨F2, [(ma.start, mb.start)], [[]], [-1], [-1], hF2, hcm.keep ho2 (by decide), hbl, (hlp.same (ho1 0 (by decide))).same (ho2 0 (by decide)), (hmp.same (ho1 1 (by decide))).same (ho2 1 (by decide)), by rw [ho2 4 (by decide), ho1 4 (by decide), ho 4 (by decide) (by decide)], .init hsa hsb, by omega, by simp, fun k p h => by omega⟩, ?_⟩
  clear hF hlp hmp hcm hbl ho1 ho2 hF1 hF2 ho F F1 F2
  intro x47 A48 n49 n50 A51 n52 n53 A54 n55 n56 A57 w58 hI n59 hk
  obtain ⟨F, ps, ws, cm, bl, hF, hcm, hbl, hlp, hmp, h4, hw, h470, h471, heq⟩ := hI
  subst hk
  have hcount := hw.count
  have n55' : n55 = ps.length := hlp.len
  refine condK_dec (fun hlt => ?_) fun hge => ?_
  rotate_left
  · exact absurd (hw.same (by omega) hsa hsb hletm heq) hne
  have hlt' : x47 < ps.length := by omega
  refine hlp.get hF h470 hlt' fun a60 hc1 hc2 => ?_
  have hget := get_gp (l := ps) h470 hlt'
  generalize hp0 : gp ps x47 = p0 at *
  have hrng := hw.rng p0 (List.mem_of_getElem? hget)
  have hE58 : Ext w20 w58 := hF.base
  have fa := hsa.fin; have fb := hsb.fin
  refine ⟨p0.1, p0.2, hc1, hc2, fun _ => ?_⟩
  refine c52 (hma1.ext hE58) (by omega) ⟨_, rfl, rfl, ?_⟩
  refine c52 (hmb0.ext hE58) (by omega) ⟨_, rfl, rfl, ?_⟩
  have hwl := hw.len
  have hws := List.getElem?_eq_getElem (l := ws) (i := x47.toNat) (by omega)
  refine condK_of (fun hd => ?_) fun hd => ?_
  · refine hlp.get hF h470 hlt' fun a72 hc3 hc4 => ?_
    rw [hp0] at hc3
    have hfi := hw.first h470 hsa hsb hletm heq hget hws (by simpa using hd)
    refine j26_12 (hma1.ext hE58) hF hcm hbl h4 hw h470 hlt' (by omega) hp0 hws hsa hc3 fun w' wv hEw hwv hwlen => ?_
    have := diff w' wv _ (hE.trans' hEw) hwv hwlen (hfirst hfi)
    rw [← hla.words, (acc_prun (a := ma) (b := mb) _).1, hw.runs _ p0 _ hget hws] at this
    exact this
  · have heq' : ∀ (k : Nat) p, (k : Int) < x47 + 1 → ps[k]? = some p → ma.ends p.1 = mb.ends p.2 := fun k p hk hp => by
      by_cases e : (k : Int) = x47
      · have : k = x47.toNat := by omega
        subst this
        rw [hget] at hp; injection hp with hp; subst hp
        simpa using hd
      · exact heq k p (by omega) hp
    refine ⟨I100 w20 ma mb x47 p0, ⟨F, ps, ws, cm, bl, hF, hcm, hbl, hlp, hmp, h4, hw, hlt', hp0, by omega, hsa.letters, heq'⟩, ?_⟩
    clear hcm hbl hlp hmp h4 hw hget hws heq hlt hlt' heq' hp0 hcount n55' h471 hwl hc1 hc2 hd hF hE58 hrng
    intro x101 A102 n103 n104 A105 n106 n107 A108 n109 n110 A111 w112 hI n113 hk
    obtain ⟨F, ps, ws, cm, bl, hF, hcm, hbl, hlp, hmp, h4, hw, hlt', hp0, h1010, h1011, heq⟩ := hI
    subst hk
    have hcount := hw.count
    have hget := get_gp (l := ps) h470 hlt'
    rw [hp0] at hget
    have hrng := hw.rng p0 (List.mem_of_getElem? hget)
    have hE112 : Ext w20 w112 := hF.base
    have hwl := hw.len
    have hlens := hw.lens
    have n103' : n103 = cm.length := by rw [hcm.len, ints_len]
    have n106' : n106 = bl.length := by rw [hbl.len, ints_len]
    have hws := List.getElem?_eq_getElem (l := ws) (i := x47.toNat) (by omega)
    refine condK_dec (fun hlt => ?_) fun hge => ?_
    · have hleta : ma.Let x101 := ⟨h1010, hlt⟩
      have hletb : mb.Let x101 := ⟨h1010, by omega⟩
      have next : ∀ (A102 : Option Addr) (n103 n104 : Nat) (A105 : Option Addr) (n106 n107 : Nat) (A108 : Option Addr) (n109 n110 : Nat) (A111 : Option Nat) (w120 : World) (F : FamF) ps ws cm bl, Fam w20 w120 F → GSl F 2 A102 n103 n104 (ints cm) → GSl F 3 A105 n106 n107 (ints bl) → GP F 0 A108 n109 n110 ps → NumMap F 1 KT.pair pairV A111 ps → F 4 = none → Walk2 ma mb ps ws cm bl x47 (x101 + 1) → x47 < ps.length → gp ps x47 = p0 →
          (∀ (k : Nat) p, (k : Int) < x47 + 1 → ps[k]? = some p → ma.ends p.1 = mb.ends p.2) → J26_13 (I100 w20 ma mb x47 p0) x101 A102 n103 n104 A105 n106 n107 A108 n109 n110 A111 w120 (ma.letters - x101).toNat := by
        intro A102 n103 n104 A105 n106 n107 A108 n109 n110 A111 w120 F ps ws cm bl h1 h2 h3 h4 h5 h6 h7 h8 h9 h10
        rw [J26_13, wrap_id (by omega) (by omega)]
        exact ⟨⟨F, ps, ws, cm, bl, h1, h2, h3, h4, h5, h6, h7, h8, h9, by omega, by omega, h10⟩, by simp only [I100]; omega⟩
      have body : J26_22 (ma.step p0.1 x101) (mb.step p0.2 x101) (I100 w20 ma mb x47 p0) x101 A102 n103 n104 A105 n106 n107 A108 n109 n110 A111 w112 (ma.letters - x101).toNat n33 x47 := by
        have hps : pstep ma mb p0 x101 = (ma.step p0.1 x101, mb.step p0.2 x101) := rfl
        refine condK_of (fun hn => ?_) fun hn => ?_
        · refine next _ _ _ _ _ _ _ _ _ _ _ F ps ws cm bl hF hcm hbl hlp hmp h4 (hw.skip h470 hget ?_) hlt' hp0 heq
          simp only [Bool.and_eq_true, beq_iff_eq] at hn
          rw [hps, hn.1, hn.2]; rfl
        · refine c57 (x := (ma.step p0.1 x101, mb.step p0.2 x101)) hF hlp hmp (by omega) (fun k hk => ?_) fun hnew F2 w2 A2 c2 r2 ho2 hF2 hlp2 hmp2 => ?_
          · refine ⟨k, rfl, _, _, _, _, rfl, ?_⟩
            have := (List.getElem?_eq_some_iff.1 hk).1
            refine condK_beq (fun e => by omega) fun _ => ?_
            exact next _ _ _ _ _ _ _ _ _ _ _ F ps ws cm bl hF hcm hbl hlp hmp h4 (hw.old h470 hget hk) hlt' hp0 heq
          · refine ⟨ps.length, rfl, _, _, _, _, rfl, ?_⟩
            refine condK_beq (fun _ => ?_) fun e => by omega
            refine (hcm.same (ho2 2 (by decide) (by decide))).push_int hF2 (by omega) fun F3 A3 c3 w3 ho3 hF3 hcm3 => ?_
            refine ((hbl.same (ho2 3 (by decide) (by decide))).same (ho3 3 (by decide))).push_int hF3 (by omega) fun F4 A4 c4 w4 ho4 hF4 hbl4 => ?_
            refine next _ _ _ _ _ _ _ _ _ _ _ F4 _ _ _ _ hF4 (hcm3.same (ho4 2 (by decide))) hbl4 ((hlp2.same (ho3 0 (by decide))).same (ho4 0 (by decide))) ((hmp2.same (ho3 1 (by decide))).same (ho4 1 (by decide))) (by rw [ho4 4 (by decide), ho3 4 (by decide), ho2 4 (by decide) (by decide)]; exact h4)
              (hw.fresh hsa hsb h470 hget hws hnew) (by simp; omega) (by rw [gp_left h470 hlt']; exact hp0) fun k p hk hp => ?_
            rw [List.getElem?_append_left (by omega)] at hp
            exact heq k p hk hp
      have m1 := hma1.ext hE112; have m2 := hmb0.ext hE112
      have second : J26_26 mb.letters mb.start A23 n24 n25 A26 n27 n28 p0.2 x101 w112 (ma.step p0.1 x101) (I100 w20 ma mb x47 p0) A102 n103 n104 A105 n106 n107 A108 n109 n110 A111 (ma.letters - x101).toNat n33 x47 :=
        c58 m2 hsb hrng.2.2 hletb ⟨_, rfl, rfl, body⟩
      exact ⟨c58 m1 hsa hrng.1.2 hleta ⟨_, rfl, rfl, c58 m2 hsb hrng.2.2 hletb ⟨_, rfl, rfl, fun _ => body⟩, fun _ => second⟩, fun _ => c58 m1 hsa hrng.1.2 hleta ⟨_, rfl, rfl, second⟩⟩
    · rw [J26_13, wrap_id (by omega) (by omega)]
      exact ⟨⟨F, ps, ws, cm, bl, hF, hcm, hbl, hlp, hmp, h4, hw.row (by omega), by omega, by omega, heq⟩, by simp only [I46]; omega⟩
end Go.Proofs.Ytnkpjlhbojjneaa.VC

/- Pairs in order; pairs that are found from both starts; what a relation has to show. -/
namespace Go.Proofs.Ytnkpjlhbojjneaa.VC
open Go Go.RowKit

def plt (p q : IP) : Prop := p.1 < q.1 ∨ p.1 = q.1 ∧ p.2 < q.2
instance (p q : IP) : Decidable (plt p q) := by unfold plt; infer_instance
theorem plt_irrefl (p : IP) : ¬ plt p p := by unfold plt; omega
theorem plt_trans {p q r : IP} (h : plt p q) (k : plt q r) : plt p r := by unfold plt at *; omega
theorem plt_total (p q : IP) : plt p q ∨ p = q ∨ plt q p := by
  unfold plt
  rcases Int.lt_trichotomy p.1 q.1 with h | h | h
  · exact .inl (.inl h)
  · rcases Int.lt_trichotomy p.2 q.2 with k | k | k
    · exact .inl (.inr ⟨h, k⟩)
    · exact .inr (.inl (Prod.ext h k))
    · exact .inr (.inr (.inr ⟨h.symm, k⟩))
  · exact .inr (.inr (.inl h))
/-- strictly sorted lists with the same members are the same -/
theorem sorted_unique {l r : List IP} (hl : l.Pairwise plt) (hr : r.Pairwise plt) (h : ∀ p, p ∈ l ↔ p ∈ r) : l = r := by
  induction l generalizing r with
  | nil =>
    cases r with
    | nil => rfl
    | cons q r => exact absurd ((h q).2 (List.mem_cons_self ..)) (by simp)
  | cons p l ih =>
    cases r with
    | nil => exact absurd ((h p).1 (List.mem_cons_self ..)) (by simp)
    | cons q r =>
      have h1 := List.pairwise_cons.1 hl; have h2 := List.pairwise_cons.1 hr
      have e : p = q := by
        rcases List.mem_cons.1 ((h p).1 (List.mem_cons_self ..)) with e | hp
        · exact e
        · rcases List.mem_cons.1 ((h q).2 (List.mem_cons_self ..)) with e | hq
          · exact e.symm
          · exact absurd (plt_trans (h2.1 p hp) (h1.1 q hq)) (plt_irrefl q)
      subst e
      congr 1
      refine ih h1.2 h2.2 fun x => ?_
      constructor
      · intro hx
        rcases List.mem_cons.1 ((h x).1 (List.mem_cons_of_mem _ hx)) with rfl | k
        · exact absurd (h1.1 x hx) (plt_irrefl x)
        · exact k
      · intro hx
        rcases List.mem_cons.1 ((h x).2 (List.mem_cons_of_mem _ hx)) with rfl | k
        · exact absurd (h2.1 x hx) (plt_irrefl x)
        · exact k

/-- a pair that is found from both starts -/
def FoundP (a b : Mach) (p : IP) : Prop := p ≠ nowhere ∧ ∃ u, prun a b (a.start, b.start) u = p
theorem Walk2.found {a b : Mach} {ps : List IP} {ws : List (List Int)} {cm bl : List Int} {i : Int} (h : Walk2 a b ps ws cm bl i 0) (hi : ps.length ≤ i) (hn : nowhere ∉ ps) (ha : a.Shaped) (hb : b.Shaped) (hl : a.letters = b.letters) (p : IP) : p ∈ ps ↔ FoundP a b p := by
  constructor
  · intro hp
    obtain ⟨k, hk⟩ := List.mem_iff_getElem?.1 hp
    have hlt := (List.getElem?_eq_some_iff.1 hk).1
    have hw := List.getElem?_eq_getElem (l := ws) (i := k) (by rw [h.len]; exact hlt)
    exact ⟨fun e => hn (e ▸ hp), _, h.runs k p _ hk hw⟩
  · rintro ⟨hne, u, hu⟩
    rcases h.reach (by omega) ha hb hl u.length u rfl with h1 | ⟨k, v, h1, _⟩ | ⟨w', h1, h2⟩
    · rw [hu] at h1; exact absurd h1 hne
    · rw [hu] at h1; exact List.mem_of_getElem? h1
    · have := (List.getElem?_eq_some_iff.1 h1).1
      have := h.len; omega
theorem not_found {a b : Mach} (hs : (a.start, b.start) = nowhere) (p : IP) : ¬ FoundP a b p := by
  rintro ⟨hne, u, hu⟩
  have : prun a b nowhere u = nowhere := by
    have h : ∀ u : List Int, prun a b nowhere u = nowhere := by
      intro u
      induction u with
      | nil => rfl
      | cons x u ih =>
        show prun a b (pstep a b nowhere x) u = nowhere
        rw [pstep_nowhere]; exact ih
    exact h u
  rw [hs, this] at hu
  exact hne hu.symm

/-- a pair that counts as being there -/
def There (ps : List IP) (p : IP) : Prop := p = nowhere ∨ p ∈ ps
structure FormP (a b : Mach) (ps : List IP) : Prop where
  rng : ∀ p ∈ ps, (-1 ≤ p.1 ∧ p.1 < a.next.length) ∧ (-1 ≤ p.2 ∧ p.2 < b.next.length) ∧ p ≠ nowhere
  sorted : ps.Pairwise plt
structure ShownP (a b : Mach) (ps : List IP) : Prop where
  start : There ps (a.start, b.start)
  ends : ∀ p ∈ ps, a.ends p.1 = b.ends p.2
  steps : ∀ p ∈ ps, ∀ x, a.Let x → There ps (pstep a b p x)
open Classical in
noncomputable def checkc (a b : Mach) (ps : List IP) : Int := if fitc a b ≠ 0 then fitc a b else if FormP a b ps then (if ShownP a b ps then 0 else 8) else 2
theorem checkc_ok {a b : Mach} {ps : List IP} : checkc a b ps = 0 ↔ fitc a b = 0 ∧ FormP a b ps ∧ ShownP a b ps := by
  unfold checkc
  constructor
  · intro h
    split at h
    · rename_i h1; exact absurd h h1
    · rename_i h1
      have h1 : fitc a b = 0 := Classical.byContradiction h1
      split at h
      · split at h
        · rename_i h2 h3; exact ⟨h1, h2, h3⟩
        · omega
      · omega
  · rintro ⟨h1, h2, h3⟩; rw [if_neg (by omega), if_pos h2, if_pos h3]
/-- pairs that show it: the words are the same -/
theorem ShownP.words {a b : Mach} {ps : List IP} (h : ShownP a b ps) (ha : a.Shaped) (hb : b.Shaped) (hl : a.letters = b.letters) (u : List Int) : a.acc a.start u = b.acc b.start u := by
  have key : ∀ (u : List Int) (p : IP), There ps p → a.acc p.1 u = b.acc p.2 u := by
    intro u
    induction u with
    | nil =>
      intro p hp
      rcases hp with rfl | hp
      · rw [Mach.acc_nil, Mach.acc_nil, (nowhere_ends (a := a) (b := b)).1, (nowhere_ends (a := a) (b := b)).2]
      · exact h.ends p hp
    | cons x u ih =>
      intro p hp
      have : There ps (pstep a b p x) := by
        rcases hp with rfl | hp
        · left; exact pstep_nowhere a b x
        · by_cases hx : a.Let x
          · exact h.steps p hp x hx
          · left; exact pstep_out ha hb hl hx p
      exact ih _ this
  exact key u _ h.start
/-- the pairs that are found show it, if the words are the same -/
theorem found_shows {a b : Mach} {ps : List IP} (hp : ∀ p, p ∈ ps ↔ FoundP a b p) (hs : ∀ u, a.acc a.start u = b.acc b.start u) : ShownP a b ps where
  start := by
    by_cases e : (a.start, b.start) = nowhere
    · exact .inl e
    · exact .inr ((hp _).2 ⟨e, [], rfl⟩)
  ends := fun p h => by
    obtain ⟨_, u, rfl⟩ := (hp p).1 h
    exact hs u
  steps := fun p h x _ => by
    obtain ⟨_, u, rfl⟩ := (hp p).1 h
    by_cases e : pstep a b (prun a b (a.start, b.start) u) x = nowhere
    · exact .inl e
    · exact .inr ((hp _).2 ⟨e, u ++ [x], prun_snoc a b _ u x⟩)
theorem found_rng {a b : Mach} (ha : a.Shaped) (hb : b.Shaped) {p : IP} (h : FoundP a b p) : (-1 ≤ p.1 ∧ p.1 < a.next.length) ∧ (-1 ≤ p.2 ∧ p.2 < b.next.length) ∧ p ≠ nowhere := by
  obtain ⟨hne, u, rfl⟩ := h
  exact ⟨ha.run_range ha.start_range u, hb.run_range hb.start_range u, hne⟩

/-! how many words -/
def psum (f : Nat → Int) : Nat → Int
  | 0 => 0
  | n + 1 => psum f n + f n
theorem psum_ext {f g : Nat → Int} : ∀ n, (∀ i, i < n → f i = g i) → psum f n = psum g n := by
  intro n
  induction n with
  | zero => intro _; rfl
  | succ n ih => intro h; simp only [psum]; rw [ih fun i hi => h i (by omega), h n (by omega)]
theorem psum_add (f g : Nat → Int) : ∀ n, psum (fun i => f i + g i) n = psum f n + psum g n := by
  intro n
  induction n with
  | zero => rfl
  | succ n ih => simp only [psum]; rw [ih]; omega
theorem psum_mul (c : Int) (f : Nat → Int) : ∀ n, psum (fun i => c * f i) n = c * psum f n := by
  intro n
  induction n with
  | zero => simp [psum]
  | succ n ih => simp only [psum]; rw [ih, Int.mul_add]
theorem psum_zero : ∀ n, psum (fun _ => 0) n = 0 := by
  intro n
  induction n with
  | zero => rfl
  | succ n ih => simp only [psum]; rw [ih]; rfl
theorem psum_one {f : Nat → Int} {n k : Nat} (hk : k < n) (h : ∀ i, i < n → i ≠ k → f i = 0) : psum f n = f k := by
  induction n with
  | zero => omega
  | succ n ih =>
    simp only [psum]
    by_cases e : k = n
    · subst e
      have : psum f k = 0 := by
        rw [psum_ext (f := f) (g := fun _ => 0) k fun i hi => h i (by omega) (by omega)]
        exact psum_zero k
      omega
    · rw [ih (by omega) fun i hi hne => h i (by omega) hne, h n (by omega) (Ne.symm e)]; omega
/-- the number of words of a length that are accepted from a state -/
def cw (m : Mach) : Nat → Int → Int
  | 0, s => if m.ends s then 1 else 0
  | n + 1, s => psum (fun x => cw m n (m.step s x)) m.letters.toNat
theorem cw_neg {m : Mach} : ∀ (n : Nat) {s : Int}, s < 0 → cw m n s = 0 := by
  intro n
  induction n with
  | zero => intro s h; simp [cw, Mach.ends_neg h]
  | succ n ih =>
    intro s h
    simp only [cw]
    have : ∀ k, psum (fun x => cw m n (m.step s x)) k = 0 := by
      intro k
      induction k with
      | zero => rfl
      | succ k ihk => simp only [psum]; rw [ihk, ih (by rw [Mach.step_neg h]; decide)]; rfl
    exact this _
theorem cw_words {a b : Mach} (hl : a.letters = b.letters) : ∀ (n : Nat) (s t : Int), (∀ u : List Int, u.length = n → (∀ x ∈ u, a.Let x) → a.acc s u = b.acc t u) → cw a n s = cw b n t := by
  intro n
  induction n with
  | zero => intro s t h; have := h [] rfl (by simp); rw [Mach.acc_nil, Mach.acc_nil] at this; simp [cw, this]
  | succ n ih =>
    intro s t h
    simp only [cw]
    rw [← hl]
    refine psum_ext _ fun x hx => ih _ _ fun u hu hlet => ?_
    exact h ((x : Int) :: u) (by simp [hu]) fun y hy => by
      rcases List.mem_cons.1 hy with rfl | hy
      · exact ⟨by omega, by omega⟩
      · exact hlet y hy
end Go.Proofs.Ytnkpjlhbojjneaa.VC

/- Pairs are compared, and sorted. -/
namespace Go.Proofs.Ytnkpjlhbojjneaa.VC
open Go Go.RowKit Go.Shelf Go.Lib Go.Sort
def small (p : IP) : Prop := (-1 ≤ p.1 ∧ p.1 ≤ 1048576) ∧ (-1 ≤ p.2 ∧ p.2 ≤ 1048576)
def ordc (p q : IP) : Int := if p.1 ≠ q.1 then IntKind.i64.wrap (p.1 - q.1) else IntKind.i64.wrap (p.2 - q.2)
theorem ordc_small {p q : IP} (hp : small p) (hq : small q) : (0 ≤ ordc p q ↔ ¬ plt p q) ∧ (ordc p q < 0 ↔ plt p q) := by
  unfold small at hp hq
  unfold ordc plt
  split
  · rw [wrap_id (by omega) (by omega)]; omega
  · rw [wrap_id (by omega) (by omega)]; omega
theorem c61 {w : World} {p q : IP} {R : Res} (hR : R (.int .i64 (ordc p q)) [] w) : CallsI Try.prog 61 [pairV p, pairV q] w [] R := by
  unfold ordc at hR
  refine s61 _ _ _ _ _ _ fun _ _ => condK_bne (fun h => ?_) fun h => ?_
  · rw [if_pos h] at hR; exact hR
  · rw [if_neg (fun e => e h)] at hR; exact hR
theorem order61 (x y : IP) (W : World) : Calls Try.prog 61 #[pairV x, pairV y] W fun e w' => e = .returned (.int .i64 (ordc x y)) ∧ ∃ q os', w' = grow (W.drewN q) os' := by
  have e1 : (x.1 != y.1) = true → ordc x y = wrap64 (x.1 - y.1) := fun h => by unfold ordc; rw [if_pos (by simpa using h)]; simp only [wrap64, IntKind.wrap_i64]
  have e2 : (x.1 != y.1) = false → ordc x y = wrap64 (x.2 - y.2) := fun h => by unfold ordc; rw [if_neg (by simpa using h)]; simp only [wrap64, IntKind.wrap_i64]
  generalize ordc x y = r at *
  unfold pairV
  go_enter Try.func61, Try.ntmps61
  go_wp2
  · go_ret
    rename_i h
    rw [e1 h]
    exact ⟨rfl, 0, #[_, _], by rw [alloc_eq_grow, alloc_eq_grow, grow_grow]; rfl⟩
  · go_ret
    rename_i h
    rw [e2 h]
    exact ⟨rfl, 0, #[_, _], by rw [alloc_eq_grow, alloc_eq_grow, grow_grow]; rfl⟩

abbrev SP := {p : IP // small p}
instance : Inhabited SP := ⟨⟨(0, 0), by unfold small; omega⟩⟩
def encP (p : SP) : List Value := [.int .i64 p.1.1, .int .i64 p.1.2]
def cfP (p q : SP) : Int := ordc p.1 q.1
theorem ltP (p q : SP) : ltOf cfP p q = decide (plt p.1 q.1) := by
  unfold ltOf cfP
  exact decide_eq_decide.2 (ordc_small p.2 q.2).2
theorem swoP : SWO (ltOf cfP) where
  irrefl x := by rw [ltP]; simpa using plt_irrefl x.1
  trans x y z h1 h2 := by rw [ltP] at *; simp only [decide_eq_true_eq] at *; exact plt_trans h1 h2
  ntrans x y z h1 h2 := by rw [ltP] at *; simp only [decide_eq_false_iff_not] at *; unfold plt at *; omega
theorem totP (x y : SP) (h1 : ltOf cfP x y = false) (h2 : ltOf cfP y x = false) : x = y := by
  rw [ltP] at *
  simp only [decide_eq_false_iff_not] at *
  rcases plt_total x.1 y.1 with h | h | h
  · exact absurd h h1
  · exact Subtype.ext h
  · exact absurd h h2
theorem flat_pcells (l : List SP) : flatK encP 2 l.toArray = (pcells (l.map Subtype.val)).toArray := by
  refine ext_get! (by simp; omega) fun t ht => ?_
  have ht' : t < l.toArray.size * 2 := by simpa using ht
  rw [get_flatK _ _ _ t ht']
  have hi : t / 2 < l.length := by simp at ht'; omega
  have e := List.getElem?_eq_getElem hi
  have e1 : l.toArray[t / 2]! = l[t / 2] := by simp [hi]
  rw [e1]
  obtain ⟨g1, g2⟩ := pcells_get (ps := l.map Subtype.val) (i := t / 2) (p := (l[t / 2]).1) (by rw [List.getElem?_map, e]; rfl)
  rcases Nat.mod_two_eq_zero_or_one t with h | h
  · have : 2 * (t / 2) = t := by omega
    rw [this] at g1
    rw [h]; simp [encP, g1]
  · have : 2 * (t / 2) + 1 = t := by omega
    rw [this] at g2
    rw [h]; simp [encP, g2]
theorem c60 {w0 w : World} {F : FamF} {i : Nat} {A : Option Addr} {n c : Nat} {ps : List IP} {R : Res} (hF : Fam w0 w F) (hs : GP F i A n c ps) (hnd : ps.Nodup) (hb : ∀ p ∈ ps, (-1 ≤ p.1 ∧ p.1 ≤ 1048576) ∧ (-1 ≤ p.2 ∧ p.2 ≤ 1048576)) (hl : ps.length ≤ 1099511627776)
    (hR : ∀ F' w' qs, Only i F F' → Fam w0 w' F' → GP F' i A n c qs → qs.Pairwise plt → (∀ p, p ∈ qs ↔ p ∈ ps) → qs.length = ps.length → R unitV [] w') : CallsI Try.prog 60 [.slice A n c, .func (.func 61) #[] #[]] w [] R := by
  intro Fp wa hrel
  rcases hs with ⟨hi, rfl, rfl, rfl, rfl⟩ | ⟨b, rest, hi, rfl, rfl, hc⟩
  · have hS := AnyF.slices_SortFunc_none (P := Try.prog) (ρ := sortL_ren) sortL none 0 (.func (.func 61) #[] #[]) wa
    change Calls Try.prog 60 _ _ _ at hS
    refine hS.mono ?_
    rintro e wa' ⟨rfl, rfl⟩
    exact ⟨unitV, [], w, rfl, rfl, hrel, hR F w [] (fun _ _ => rfl) hF (.nil hi) (by simp) (fun _ => Iff.rfl) rfl⟩
  · obtain ⟨⟨e, hw⟩, hlo⟩ := hF.own i b _ hi
    have hwa := hrel.vis b _ hw (cells_ne_hid _ _ _)
    have hval : (ps.attachWith small hb).map Subtype.val = ps := List.attachWith_map_subtype_val hb
    have hd : (ps.attachWith small hb).toArray.size = ps.length := by
      have := congrArg List.length hval
      rw [List.length_map] at this
      rw [List.size_toArray]; exact this
    have eg : ∀ args w, (callFunc 61 args).run Try.prog w = .ok (.enter 61 args) w := enters_of Try.func61 (by kernel_rfl) rfl
    have hH : HoldsK encP 2 wa b 0 (ps.attachWith small hb).toArray := by
      unfold HoldsK
      rw [flat_pcells, hval]
      intro j hj
      simp only [List.size_toArray] at hj
      have e1 : (pcells ps).toArray[j]! = (pcells ps)[j] := by simp [List.getElem?_eq_getElem hj]
      rw [e1, Nat.zero_add]
      constructor
      · simp only [World.cell?, hwa]
        simp [List.getElem?_append_left hj, List.getElem?_eq_getElem hj]
      · simp [World.frozen?, hwa]
    have hcmp : CmpLays Try.prog 61 #[] encP 2 cfP b 0 (ps.attachWith small hb).toArray.size wa := fun m os dk _ x y => order61 x.1 y.1 _
    have hS := AnyQ.slices_SortFunc_total sortL 2 Try.isAgg50 Try.sizeOf50 encP (fun _ => rfl) (by simp [encP, Value.oneCell']) cfP swoP 61 #[] b 0 c (ps.attachWith small hb).toArray wa eg hcmp hH (Array.getElem?_eq_some_iff.1 hwa).1 (by rw [hd]; omega) totP
    rw [hd] at hS
    change Calls Try.prog 60 _ _ _ at hS
    refine hS.mono ?_
    rintro e' wa' ⟨rfl, n', os, rfl⟩
    generalize hms : ((ps.attachWith small hb).toArray.toList.mergeSort fun x y => !(ltOf cfP) y x) = ms
    have hperm : ms.Perm (ps.attachWith small hb) := by rw [← hms]; exact List.mergeSort_perm _ _
    have hsorted : ms.Pairwise fun x y => (!(ltOf cfP) y x) = true := by
      rw [← hms]
      refine List.pairwise_mergeSort (fun x y z h1 h2 => ?_) (fun x y => ?_) _
      · simp only [ltP, Bool.not_eq_true', decide_eq_false_iff_not] at *; unfold plt at *; omega
      · simp only [ltP, Bool.or_eq_true, Bool.not_eq_true', decide_eq_false_iff_not]
        unfold plt; omega
    have hqp : (ms.map Subtype.val).Perm ps := by
      have := hperm.map Subtype.val; rwa [hval] at this
    have hqs : (ms.map Subtype.val).Pairwise plt := by
      have hnq : (ms.map Subtype.val).Nodup := hqp.nodup_iff.2 hnd
      rw [List.pairwise_map]
      rw [List.nodup_iff_pairwise_ne, List.pairwise_map] at hnq
      refine hsorted.imp₂ (fun x y h1 h2 => ?_) hnq
      simp only [ltP, Bool.not_eq_true', decide_eq_false_iff_not] at h1
      rcases plt_total x.1 y.1 with h | h | h
      · exact h
      · exact absurd h h2
      · exact absurd h h1
    have hlen : (ms.map Subtype.val).length = ps.length := hqp.length_eq
    -- the visible world turns alike
    let f : Array Value → Array Value := putCells id 0 (flatK encP 2 ms.toArray)
    have hblk : ∀ (u : World), u.heap[b]? = some (.cells (pcells ps ++ rest).toArray e (0, 0)) → (mapBlock u b f).heap[b]? = some (.cells (pcells (ms.map Subtype.val) ++ rest).toArray e (0, 0)) := fun u hu => by
      simp only [mapBlock, Array.getElem?_modify, if_true, hu, Option.map_some, onCells]
      congr 2
      show putCells id 0 (flatK encP 2 ms.toArray) _ = _
      rw [flat_pcells]
      apply Array.ext_getElem?
      intro k
      simp only [putCells, Array.getElem?_mapIdx, List.getElem?_toArray, id_eq, Nat.zero_le, true_and, Nat.zero_add, Nat.sub_zero, List.size_toArray]
      have hl1 : (pcells (ms.map Subtype.val)).length = (pcells ps).length := by rw [pcells_len, pcells_len, hlen]
      rcases Nat.lt_or_ge k (pcells ps).length with hk | hk
      · rw [List.getElem?_append_left hk, List.getElem?_append_left (by omega), List.getElem?_eq_getElem hk, List.getElem?_eq_getElem (by omega)]
        have e1 : (pcells (ms.map Subtype.val)).toArray[k]! = (pcells (ms.map Subtype.val))[k]'(by omega) := by simp [List.getElem?_eq_getElem (show k < (pcells (ms.map Subtype.val)).length by omega)]
        simp only [Option.map_some]
        rw [if_pos (by omega), e1]
      · rw [List.getElem?_append_right hk, List.getElem?_append_right (by omega), hl1]
        cases h : rest[k - (pcells ps).length]? with
        | none => simp
        | some v => simp only [Option.map_some]; rw [if_neg (by omega)]
    have hoth : ∀ (u : World) (j : Nat), j ≠ b → (mapBlock u b f).heap[j]? = u.heap[j]? := fun u j hj => by
      simp only [mapBlock, Array.getElem?_modify]; rw [if_neg (Ne.symm hj)]
    have hgo : ∀ j, j < wa.heap.size → (sortWorldK encP 2 wa b 0 n' ms.toArray os).heap[j]? = (mapBlock wa b f).heap[j]? := fun j hj => by
      have : (sortWorldK encP 2 wa b 0 n' ms.toArray os).heap = (mapBlock wa b f).heap ++ os := rfl
      rw [this, Array.getElem?_append_left (by simp [mapBlock]; exact hj)]
    have hbw := (Array.getElem?_eq_some_iff.1 hwa).1
    have hbv := (Array.getElem?_eq_some_iff.1 hw).1
    have honly : OnlyB w b (mapBlock w b f) := ⟨rfl, rfl, rfl, by simp [mapBlock], fun j hj _ => hoth w j hj⟩
    have hF' := hF.only (c := .cells (pcells (ms.map Subtype.val) ++ rest)) (i := i) honly ⟨e, hblk w hw⟩ (.inl ⟨_, hi⟩)
    refine ⟨unitV, [], mapBlock w b f, rfl, rfl, ?_, hR _ _ (ms.map Subtype.val) upd_only hF' (.inr ⟨b, rest, upd_self .., rfl, hlen.symm, by rw [hlen]; exact hc⟩) hqs (fun p => hqp.mem_iff) hlen⟩
    refine ⟨hrel.os, hrel.tape, hrel.output, ?_, fun j o hj hne => ?_, fun b' o hm => ?_, fun b' o hm o' ho' => ?_, hrel.nd⟩
    · have : (sortWorldK encP 2 wa b 0 n' ms.toArray os).heap = (mapBlock wa b f).heap ++ os := rfl
      rw [this]; have := hrel.size; simp [mapBlock]; omega
    · by_cases hjb : j = b
      · subst hjb
        rw [hgo j hbw, hblk wa hwa, ← hblk w hw]; exact hj
      · rw [hoth w j hjb] at hj
        have := hrel.vis j o hj hne
        rw [hgo j (Array.getElem?_eq_some_iff.1 this).1, hoth wa j hjb]; exact this
    · have hne : b' ≠ b := fun e => by subst e; exact cells_ne_hid _ _ _ (hrel.cov _ _ hm _ hw)
      have := hrel.loc b' o hm
      rw [hgo b' (Array.getElem?_eq_some_iff.1 this).1, hoth wa b' hne]; exact this
    · have hne : b' ≠ b := fun e => by subst e; exact cells_ne_hid _ _ _ (hrel.cov _ _ hm _ hw)
      rw [hoth w b' hne] at ho'
      exact hrel.cov b' o hm o' ho'
end Go.Proofs.Ytnkpjlhbojjneaa.VC

/- Which pairs are found, in order; whether pairs show that two machines are the same. -/
namespace Go.Proofs.Ytnkpjlhbojjneaa.VC
open Go Go.RowKit

def I52 (w31 : World) (a b : Mach) (x45 : Int) (p0 : IP) : Int → Option Addr → Nat → Nat → Option Nat → Lp :=
  fun x53 A54 n55 n56 A57 => ⟨fun w' => ∃ F ps ws cm bl, Fam w31 w' F ∧ GP F 0 A54 n55 n56 ps ∧ NumMap F 1 KT.pair pairV A57 ps ∧ nowhere ∉ ps ∧ Walk2 a b ps ws cm bl x45 x53 ∧ x45 < ps.length ∧ gp ps x45 = p0 ∧ 0 ≤ x53 ∧ x53 ≤ a.letters, fun _ => (a.letters - x53).toNat⟩
def I44 (w31 : World) (a b : Mach) : Int → Option Addr → Nat → Nat → Option Nat → Lp :=
  fun x45 A46 n47 n48 A49 => ⟨fun w' => ∃ F ps, Fam w31 w' F ∧ GP F 0 A46 n47 n48 ps ∧ NumMap F 1 KT.pair pairV A49 ps ∧ nowhere ∉ ps ∧ ((∃ ws cm bl, Walk2 a b ps ws cm bl x45 0) ∨ (ps = [] ∧ (a.start, b.start) = nowhere)) ∧ 0 ≤ x45 ∧ x45 ≤ ps.length, fun _ => ((a.next.length + 1) * (b.next.length + 1) - x45 : Int).toNat⟩

theorem ne_nowhere {p : IP} : p = nowhere ↔ (p.1 == -1 && p.2 == -1) = true := by
  obtain ⟨x, y⟩ := p
  simp [nowhere]
theorem Walk2.foundIn {a b : Mach} {ps : List IP} {ws : List (List Int)} {cm bl : List Int} {i j : Int} (h : Walk2 a b ps ws cm bl i j) (hn : nowhere ∉ ps) : ∀ p ∈ ps, FoundP a b p := fun p hp => by
  obtain ⟨k, hk⟩ := List.mem_iff_getElem?.1 hp
  have hlt := (List.getElem?_eq_some_iff.1 hk).1
  have hw := List.getElem?_eq_getElem (l := ws) (i := k) (by rw [h.len]; exact hlt)
  exact ⟨fun e => hn (e ▸ hp), _, h.runs k p _ hk hw⟩

set_option maxHeartbeats 4000000 in
theorem c27 {w : World} {a b : Mach} {v u : Value} {R : Res} (ha : MachAt w a v) (hb : MachAt w b u) (la : a.Lim) (lb : b.Lim)
    (bad : fitc a b ≠ 0 → R (.tuple (Array.mk [.slice none 0 0, .int .i64 (fitc a b)])) [] w)
    (apart : fitc a b = 0 → (¬ ∀ u, a.acc a.start u = b.acc b.start u) → ∀ w', Ext w w' → R (.tuple (Array.mk [.slice none 0 0, .int .i64 8])) [] w')
    (full : fitc a b = 0 → (∀ u, a.acc a.start u = b.acc b.start u) → ∀ w' (ps : List IP), Ext w w' → ps.Nodup → (∀ p ∈ ps, FoundP a b p) → 20000 < ps.length → R (.tuple (Array.mk [.slice none 0 0, .int .i64 5])) [] w')
    (ok : fitc a b = 0 → (∀ u, a.acc a.start u = b.acc b.start u) → ∀ w' pv qs, Ext w w' → SlP w' pv qs → qs.Pairwise plt → (∀ p, p ∈ qs ↔ FoundP a b p) → qs.length ≤ 1099511627776 → R (.tuple (Array.mk [pv, .int .i64 0])) [] w') :
    CallsI Try.prog 27 [v, u] w [] R := by
  have ha0 := ha; have hb0 := hb
  obtain ⟨_, _, rfl, ⟨A, c, hs, rfl, hA, hl, hx⟩, ⟨B, d, rfl, hB⟩⟩ := ha
  obtain ⟨_, _, rfl, ⟨A', c', hs', rfl, hA', hl', hx'⟩, ⟨B', d', rfl, hB'⟩⟩ := hb
  refine s27 _ _ _ _ _ _ _ _ _ _ _ _ _ _ _ _ _ _ fun _ _ => c55 ha0 hb0 la lb ⟨_, rfl, rfl, ?_⟩
  refine condK_bne (fun h => bad h) fun hfit => ?_
  obtain ⟨hva, hvb, hlet⟩ := fitc_ok.1 hfit
  have apart := apart hfit
  have full := full hfit
  have ok := ok hfit
  have hL := hva.letters
  have nA := hva.next; have nB := hvb.next
  refine c54 ha0 hva.shaped (by have := hva.next; omega) (by omega) fun w9 ma va hma hla hna => ?_
  have hma0 := hma.at_
  have hE9 := hma.below
  obtain ⟨Fa, A12, n13, n14, A15, n16, n17, rfl, _⟩ := hma
  refine ⟨_, _, _, _, _, _, _, _, rfl, rfl, ?_⟩
  refine c54 (hb0.ext hE9) hvb.shaped (by have := hvb.next; omega) (by omega) fun w20 mb vb hmb hlb hnb => ?_
  have hmb0 := hmb.at_
  have hE20 := hmb.below
  obtain ⟨Fb, A23, n24, n25, A26, n27, n28, rfl, _⟩ := hmb
  have hma1 := hma0.ext hE20
  refine ⟨_, _, _, _, _, _, _, _, rfl, rfl, ?_⟩
  have hletm : ma.letters = mb.letters := by rw [hla.letters, hlb.letters, hlet]
  have hLm : ma.letters ≤ 300 := by rw [hla.letters]; exact hL
  have hE : Ext w w20 := hE9.trans' hE20
  refine c56 hma1 hmb0 (hla.shaped.lim (by omega) (by omega)) fun t32 ht32 => ⟨t32, rfl, rfl, ?_⟩
  have hsame : t32 = true ↔ ∀ u, a.acc a.start u = b.acc b.start u := by
    rw [ht32]
    constructor
    · intro h3
      have hmm : ma = mb := by
        obtain ⟨_, _, _, _⟩ := ma; obtain ⟨_, _, _, _⟩ := mb
        simp only at h3 hletm; obtain ⟨rfl, rfl, rfl⟩ := h3; subst hletm; rfl
      intro u; rw [← hla.words, ← hlb.words, hmm]
    · intro h
      have := canon_unique hla.canon hlb.canon hletm fun u => by rw [hla.words, hlb.words]; exact h u
      rw [this]; exact ⟨rfl, rfl, rfl⟩
  refine condK_of (fun ht => ?_) fun hf => ?_
  · exact apart (fun h => by rw [hsame.2 h] at ht; cases ht) w20 hE
  have hsm := hsame.1 (by simpa using hf)
  have ok := ok hsm
  have full := full hsm
  have sa := hva.shaped; have sb := hvb.shaped
  have ha1 := ha0.ext hE; have hb1 := hb0.ext hE
  clear hma0 hmb0 hma1 hla hlb ht32 hsame hf hletm hLm
  intro _ n34 _
  have hN2 : ((a.next.length : Int) + 1) * (b.next.length + 1) ≤ 4001 * 4001 := Int.mul_le_mul (by omega) (by omega) (by omega) (by omega)
  have main : ∀ (x45 : Int) (A46 : Option Addr) (n47 n48 : Nat) (A49 : Option Nat) (w50 : World), (I44 w20 a b x45 A46 n47 n48 A49).1 w50 → ∀ n51, (I44 w20 a b x45 A46 n47 n48 A49).m w50 = n51 →
      J27_27 x45 n47 A46 n48 A49 w50 a.letters a.start A a.next.length c B a.fin.length d b.letters b.start A' b.next.length c' B' b.fin.length d' n34 R (I44 w20 a b) n51 := by
    intro x45 A46 n47 n48 A49 w50 hI n51 hk
    obtain ⟨F, ps, hF, hlp, hmp, hno, hw, h450, h451⟩ := hI
    subst hk
    have n47' : n47 = ps.length := hlp.len
    refine condK_dec (fun hlt => ?_) fun hge => ?_
    · have hlt' : x45 < ps.length := by omega
      obtain ⟨ws, cm, bl, hw⟩ : ∃ ws cm bl, Walk2 a b ps ws cm bl x45 0 := by
        rcases hw with hw | ⟨rfl, _⟩
        · exact hw
        · simp at hlt'; omega
      refine ⟨I52 w20 a b x45 (gp ps x45), ⟨F, ps, ws, cm, bl, hF, hlp, hmp, hno, hw, hlt', rfl, by omega, sa.letters⟩, ?_⟩
      generalize gp ps x45 = p0
      clear hlp hmp hno hw hlt hlt' n47' h451 hF
      intro x53 A54 n55 n56 A57 w58 hI n59 hk
      obtain ⟨F, ps, ws, cm, bl, hF, hlp, hmp, hno, hw, hlt', hp0, h530, h531⟩ := hI
      subst hk
      have n55' : n55 = ps.length := hlp.len
      have hcount := hw.count
      have hget := get_gp (l := ps) h450 hlt'
      rw [hp0] at hget
      have hrng := hw.rng p0 (List.mem_of_getElem? hget)
      have hwl := hw.len
      have hws := List.getElem?_eq_getElem (l := ws) (i := x45.toNat) (by omega)
      refine condK_dec (fun hlt => ?_) fun hge => ?_
      · have hleta : a.Let x53 := ⟨h530, hlt⟩
        have hletb : b.Let x53 := ⟨h530, by omega⟩
        have hE58 : Ext w20 w58 := hF.base
        have m1 := ha1.ext hE58; have m2 := hb1.ext hE58
        refine hlp.get hF h450 hlt' fun a60 hc1 _ => ?_
        rw [hp0] at hc1
        refine ⟨p0.1, hc1, ?_⟩
        refine hlp.get hF h450 hlt' fun a62 _ hc4 => ?_
        rw [hp0] at hc4
        refine ⟨p0.2, hc4, ?_⟩
        have next : ∀ (A77 : Option Addr) (n78 n79 : Nat) (A80 : Option Nat) (w75 : World) (F : FamF) ps ws cm bl, Fam w20 w75 F → GP F 0 A77 n78 n79 ps → NumMap F 1 KT.pair pairV A80 ps → nowhere ∉ ps → Walk2 a b ps ws cm bl x45 (x53 + 1) → x45 < ps.length → gp ps x45 = p0 →
            J27_2 (I52 w20 a b x45 p0) x53 A77 n78 n79 A80 w75 (a.letters - x53).toNat := by
          intro A77 n78 n79 A80 w75 F ps ws cm bl h1 h2 h3 h4 h5 h6 h7
          rw [J27_2, wrap_id (by omega) (by omega)]
          exact ⟨⟨F, ps, ws, cm, bl, h1, h2, h3, h4, h5, h6, h7, by omega, by omega⟩, by simp only [I52]; omega⟩
        have body : J27_6 (a.step p0.1 x53) (b.step p0.2 x53) n34 w58 A54 n55 n56 A57 (I52 w20 a b x45 p0) x53 (a.letters - x53).toNat := by
          have hps : pstep a b p0 x53 = (a.step p0.1 x53, b.step p0.2 x53) := rfl
          have hnw := ne_nowhere (p := pstep a b p0 x53)
          rw [hps] at hnw
          refine condK_of (fun hn => ?_) fun hn => ?_
          · have hn' : (a.step p0.1 x53, b.step p0.2 x53) ≠ nowhere := fun e => by rw [hnw.1 e] at hn; cases hn
            refine c57 (x := (a.step p0.1 x53, b.step p0.2 x53)) hF hlp hmp (by omega) (fun k hk => ?_) fun hnew F2 w2 A2 c2 r2 ho2 hF2 hlp2 hmp2 => ?_
            · exact ⟨k, rfl, _, _, _, _, rfl, next _ _ _ _ _ F ps ws cm bl hF hlp hmp hno (hw.old h450 hget hk) hlt' hp0⟩
            · refine ⟨ps.length, rfl, _, _, _, _, rfl, next _ _ _ _ _ F2 _ _ _ _ hF2 hlp2 hmp2 ?_ (hw.fresh sa sb h450 hget hws hnew) (by simp; omega) (by rw [gp_left h450 hlt']; exact hp0)⟩
              rw [List.mem_append, List.mem_singleton]
              rintro (h | h)
              · exact hno h
              · exact hn' h.symm
          · refine next _ _ _ _ _ F ps ws cm bl hF hlp hmp hno (hw.skip h450 hget ?_) hlt' hp0
            exact hnw.2 (by simpa using hn)
        have second : J27_10 b.letters b.start A' b.next.length c' B' b.fin.length d' p0.2 x53 w58 (a.step p0.1 x53) n34 A54 n55 n56 A57 (I52 w20 a b x45 p0) (a.letters - x53).toNat :=
          c58 m2 sb hrng.2.2 hletb ⟨_, rfl, rfl, body⟩
        exact ⟨c58 m1 sa hrng.1.2 hleta ⟨_, rfl, rfl, hc4, c58 m2 sb hrng.2.2 hletb ⟨_, rfl, rfl, fun _ => body⟩, fun _ => ⟨hc4, second⟩⟩, fun _ => ⟨hc4, hc1, c58 m1 sa hrng.1.2 hleta ⟨_, rfl, rfl, hc4, second⟩⟩⟩
      · refine condK_dec (fun hgt => ?_) fun hle => ?_
        · exact full w58 ps (hE.trans' hF.base) hw.nodup (hw.foundIn hno) (by omega)
        · rw [J27_2, wrap_id (by omega) (by omega)]
          exact ⟨⟨F, ps, hF, hlp, hmp, hno, .inl ⟨ws, cm, bl, hw.row (by omega)⟩, by omega, by omega⟩, by simp only [I44]; omega⟩
    · have hfound : ∀ p, p ∈ ps ↔ FoundP a b p := by
        rcases hw with ⟨ws, cm, bl, hw⟩ | ⟨rfl, hst⟩
        · exact hw.found (by omega) hno sa sb hlet
        · exact fun p => ⟨fun h => by simp at h, fun h => absurd h (not_found hst p)⟩
      have hnd : ps.Nodup := by
        rcases hw with ⟨ws, cm, bl, hw⟩ | ⟨rfl, hst⟩
        · exact hw.nodup
        · simp
      have hlen : ps.length ≤ 1099511627776 := by
        rcases hw with ⟨ws, cm, bl, hw⟩ | ⟨rfl, hst⟩
        · have := hw.count; omega
        · simp
      refine c60 hF hlp hnd (fun p hp => ?_) hlen fun F' w97 qs ho hF' hs' hsort hmem hql => ⟨rfl, rfl, ?_⟩
      · have := found_rng sa sb ((hfound p).1 hp); omega
      · have e := hs'.len
        subst e
        exact ok w97 _ qs (hE.trans' hF'.base) ⟨_, _, rfl, hs'.cap, hs'.row hF'⟩ hsort (fun p => by rw [hmem p, hfound p]) (by omega)
  refine condK_of (fun hn => ?_) fun hn => ?_
  · have hst : (a.start, b.start) ≠ nowhere := fun e => by rw [ne_nowhere.1 e] at hn; cases hn
    refine c57 (x := (a.start, b.start)) (Fam.empty w20) (.nil rfl) (.inl ⟨rfl, rfl⟩) (by simp) (fun k h => by simp at h) fun _ F w38 A40 c42 r43 ho hF hlp hmp => ?_
    refine ⟨0, rfl, A40, 1, c42, r43, rfl, I44 w20 a b, ⟨F, [(a.start, b.start)], hF, hlp, hmp, by rw [List.mem_singleton]; exact Ne.symm hst, .inl ⟨_, _, _, .init sa sb⟩, by omega, by simp⟩, main⟩
  · have hst : (a.start, b.start) = nowhere := ne_nowhere.2 (by simpa using hn)
    exact ⟨I44 w20 a b, ⟨fun _ => none, [], Fam.empty w20, .nil rfl, .inl ⟨rfl, rfl⟩, by simp, .inr ⟨rfl, hst⟩, by omega, by simp⟩, main⟩
end Go.Proofs.Ytnkpjlhbojjneaa.VC

/- How many words of a length are accepted. -/
namespace Go.Proofs.Ytnkpjlhbojjneaa.VC
open Go Go.RowKit

theorem wrapU (n : Int) : IntKind.u64.wrap n = n % 18446744073709551616 := by
  simp [IntKind.wrap, IntKind.bits, IntKind.signed]
def us (xs : List Int) : List Value := xs.map fun x => .int .u64 (x % 18446744073709551616)
@[simp] theorem us_len (xs : List Int) : (us xs).length = xs.length := List.length_map _
theorem us_set (a : List Int) (i : Nat) (x : Int) : us (a.set i x) = (us a).set i (.int .u64 (x % 18446744073709551616)) := List.map_set ..
theorem us_rep (n : Nat) : us (List.replicate n 0) = List.replicate n (.int .u64 0) := List.map_replicate ..
section
variable {w0 w : World} {F : FamF} {i : Nat} {A : Option Addr} {n c : Nat}
theorem GSl.get_u {xs : List Int} (h : GSl F i A n c (us xs)) (hF : Fam w0 w F) {x : Int} (h0 : 0 ≤ x) (h1 : x < xs.length) {K : Int → Prop} (hk : K (gi xs x % 18446744073709551616)) :
    IxV A n 1 x fun a => ∃ t, w.cell? a = some (.int .u64 t) ∧ K t :=
  h.ix hF h0 (by simpa using h1) fun b rest v _ _ hv hc => by
    simp only [us, List.getElem?_map, get_gi h0 h1, Option.map_some, Option.some.injEq] at hv
    subst hv; exact ⟨_, hc, hk⟩
theorem GSl.set_u {xs : List Int} (h : GSl F i A n c (us xs)) (hF : Fam w0 w F) {x v : Int} (v' : Int) (hv : v = v' % 18446744073709551616) (h0 : 0 ≤ x) (h1 : x < xs.length) {K : World → Prop}
    (hk : ∀ F' w', Only i F F' → Fam w0 w' F' → GSl F' i A n c (us (xs.set x.toNat v')) → K w') : IxV A n 1 x fun a => SetK w a (.int .u64 v) K :=
  h.set hF rfl h0 (by simpa using h1) fun F' w' ho hw' hs => hk F' w' ho hw' (by rw [us_set, ← hv]; exact hs)
/-- what was owned at k is owned at i -/
theorem Fam.moves (h : Fam w0 w F) {i k : Nat} (_hne : i ≠ k) : Fam w0 w (fun j => if j = i then F k else if j = k then none else F j) := by
  refine ⟨h.base, fun j b c e => ?_, fun j j' b c d e e' => ?_⟩
  · split at e
    · exact h.own k b c e
    · split at e
      · cases e
      · exact h.own j b c e
  · split at e
    · split at e'
      · omega
      · split at e'
        · cases e'
        · have := h.inj _ _ _ _ _ e e'; omega
    · split at e
      · cases e
      · split at e'
        · have := h.inj _ _ _ _ _ e e'; omega
        · split at e'
          · cases e'
          · exact h.inj _ _ _ _ _ e e'
theorem GSl.at {F' : FamF} {j : Nat} {xs : List Value} (h : GSl F i A n c xs) (e : F' j = F i) : GSl F' j A n c xs := by
  unfold GSl at *; rw [e]; exact h
end

/-- the sum over edges -/
def esum (h : Int → Int → Int) : List IP → Int
  | [] => 0
  | e :: r => h e.1 e.2 + esum h r
theorem esum_append (h : Int → Int → Int) (l r : List IP) : esum h (l ++ r) = esum h l + esum h r := by
  induction l with
  | nil => simp [esum]
  | cons e l ih => simp only [List.cons_append, esum, ih]; omega
theorem esum_take {h : Int → Int → Int} {l : List IP} {x : Int} (h0 : 0 ≤ x) (h1 : x < l.length) : esum h (l.take (x + 1).toNat) = esum h (l.take x.toNat) + h (gp l x).1 (gp l x).2 := by
  have e : (x + 1).toNat = x.toNat + 1 := by omega
  rw [e, List.take_add_one, get_gp h0 h1, esum_append]; simp [esum]
def dot (n : Nat) (T : List Int) (f : Int → Int) : Int := psum (fun s => gi T s * f s) n
theorem dot_set {n : Nat} {T : List Int} {t : Int} {v : Int} (hl : T.length = n) (h0 : 0 ≤ t) (h1 : t < n) (f : Int → Int) : dot n (T.set t.toNat (gi T t + v)) f = dot n T f + v * f t := by
  unfold dot
  have e : psum (fun s => gi (T.set t.toNat (gi T t + v)) s * f s) n = psum (fun s => gi T s * f s + (if (s : Int) = t then v * f t else 0)) n := psum_ext n fun s hs => by
    rw [gi_set h0 (by omega) (by omega)]
    split
    · rename_i e; rw [e, Int.add_mul]
    · omega
  rw [e, psum_add]
  congr 1
  have := psum_one (f := fun s : Nat => if (s : Int) = t then v * f t else 0) (n := n) (k := t.toNat) (by omega) fun i hi hne => by rw [if_neg (by omega)]
  rw [this, if_pos (by omega)]
theorem dot_zero {n : Nat} (f : Int → Int) : dot n (List.replicate n 0) f = 0 := by
  unfold dot
  rw [psum_ext (g := fun _ => 0) n fun i _ => by rw [gi_rep]; omega]
  exact psum_zero n
theorem dot_one {n : Nat} {s : Int} (h0 : 0 ≤ s) (h1 : s < n) (f : Int → Int) : dot n ((List.replicate n 0).set s.toNat 1) f = f s := by
  have := dot_set (n := n) (T := List.replicate n 0) (t := s) (v := 1) (by simp) h0 h1 f
  rw [gi_rep, dot_zero] at this
  rw [show (0 : Int) + 1 = 1 from rfl] at this
  rw [this]; omega

/-- the number of accepted words of a length, as it is told -/
def cnt (m : Mach) (n : Int) : Int := cw m n.toNat m.start % 18446744073709551616
/-- an edge of all -/
structure Edges (m : Mach) (E : List IP) (i j : Int) : Prop where
  rng : ∀ e ∈ E, (0 ≤ e.1 ∧ e.1 < m.next.length) ∧ (0 ≤ e.2 ∧ e.2 < m.next.length)
  len : (E.length : Int) ≤ i * m.letters + j
  sum : ∀ h : Int → Int → Int, (∀ s t, t < 0 → h s t = 0) → esum h E = psum (fun s => psum (fun x => h s (m.step s x)) m.letters.toNat) i.toNat + psum (fun x => h i (m.step i x)) j.toNat
theorem Edges.init (m : Mach) : Edges m [] 0 0 := ⟨by simp, by simp, fun _ _ => rfl⟩
theorem Edges.skip {m : Mach} {E : List IP} {i j : Int} (h : Edges m E i j) (hj : 0 ≤ j) (hn : m.step i j < 0) : Edges m E i (j + 1) :=
  ⟨h.rng, by have := h.len; omega, fun f hf => by
    have e : (j + 1).toNat = j.toNat + 1 := by omega
    rw [h.sum f hf, e]; simp only [psum]
    rw [show ((j.toNat : Nat) : Int) = j by omega, hf _ _ hn]; omega⟩
theorem Edges.add {m : Mach} {E : List IP} {i j : Int} (h : Edges m E i j) (hm : m.Shaped) (hj : 0 ≤ j) (hi : 0 ≤ i ∧ i < m.next.length) (hn : 0 ≤ m.step i j) : Edges m (E ++ [(i, m.step i j)]) i (j + 1) :=
  ⟨fun e he => by
    rcases List.mem_append.1 he with he | he
    · exact h.rng e he
    · rw [List.mem_singleton] at he; subst he; exact ⟨hi, hn, (hm.step_range _ _).2⟩, by have := h.len; simp; omega, fun f hf => by
    have e : (j + 1).toNat = j.toNat + 1 := by omega
    rw [esum_append, h.sum f hf, e]; simp only [psum, esum]
    rw [show ((j.toNat : Nat) : Int) = j by omega]; omega⟩
theorem Edges.row {m : Mach} {E : List IP} {i j : Int} (h : Edges m E i j) (hi : 0 ≤ i) (hj : j = m.letters) : Edges m E (i + 1) 0 :=
  ⟨h.rng, by have := h.len; rw [Int.add_mul]; omega, fun f hf => by
    have e : (i + 1).toNat = i.toNat + 1 := by omega
    rw [h.sum f hf, e, hj]; simp only [psum]
    rw [show ((i.toNat : Nat) : Int) = i by omega]; simp [psum]⟩

set_option maxHeartbeats 4000000 in
theorem c31 {w : World} {m : Mach} {v : Value} {q : Int} {R : Res} (hm : MachAt w m v) (hlim : m.Lim) (bad : ¬ (m.Valid ∧ 0 ≤ q ∧ q ≤ 1000) → R (.tuple (Array.mk [.int .u64 0, .int .i64 1])) [] w)
    (ok : m.Valid → 0 ≤ q → q ≤ 1000 → ∀ w', Ext w w' → R (.tuple (Array.mk [.int .u64 (cnt m q), .int .i64 0])) [] w') : CallsI Try.prog 31 [v, .int .i64 q] w [] R := by
  have hm0 := hm
  obtain ⟨_, _, rfl, ⟨A, c, hs, rfl, hA, hl, hx⟩, ⟨B, d, rfl, hB⟩⟩ := hm
  refine s31 _ _ _ _ _ _ _ _ _ _ _ fun _ => c18 hm0 hlim ⟨_, rfl, rfl, ?_⟩
  refine condK_bne (fun h => bad fun e => h (Mach.code_ok.2 e.1)) fun h => ?_
  refine condK_dec (fun h => bad fun e => by omega) fun hq0 => condK_dec (fun h => bad fun e => by omega) fun hq1 => ?_
  have hv := Mach.code_ok.1 h
  have ok := ok hv (by omega) (by omega)
  have hL := hv.letters
  have hn := hv.next
  refine c54 hm0 hv.shaped (by have := hv.next; omega) (by omega) fun w8 mm v' hnew hleast hle => ?_
  have hE8 := hnew.below
  have hat := hnew.at_
  obtain ⟨_, _, _, _, _, _, _, rfl, _⟩ := hnew
  obtain ⟨nx, fn, e, hnx, hfn⟩ := hat
  simp only [Value.agg.injEq, Array.mk.injEq, List.cons.injEq, and_true, true_and] at e
  obtain ⟨rfl, rfl⟩ := e
  obtain ⟨A11, c13, gs, e, hA11, hgl, hgx⟩ := hnx
  simp only [Value.slice.injEq] at e
  obtain ⟨rfl, rfl, rfl⟩ := e
  obtain ⟨B14, d16, e, hB14⟩ := hfn
  simp only [Value.slice.injEq] at e
  obtain ⟨rfl, rfl, rfl⟩ := e
  have hsh := hleast.canon.shaped
  have hfin := hsh.fin
  have hlet := hleast.letters
  have hL0 := hsh.letters
  have hcw : cw m q.toNat m.start = cw mm q.toNat mm.start := cw_words hlet.symm _ _ _ fun u _ _ => (hleast.words u).symm
  refine ⟨_, _, _, _, _, _, _, _, rfl, rfl, ?_⟩
  refine condK_dec (fun hneg => ?_) fun hpos => ?_
  · have := ok w8 hE8
    unfold cnt at this
    rw [hcw, cw_neg _ hneg] at this; exact this
  have hstart := hsh.start_range
  -- the edges
  refine ⟨fun x18 A19 n20 n21 => ⟨fun w22 => ∃ F E, Fam w8 w22 F ∧ GP F 0 A19 n20 n21 E ∧ F 1 = none ∧ F 2 = none ∧ F 3 = none ∧ Edges mm E x18 0 ∧ 0 ≤ x18 ∧ x18 ≤ mm.next.length, fun _ => (mm.next.length - x18).toNat⟩,
    ⟨fun _ => none, [], Fam.empty w8, .nil rfl, rfl, rfl, rfl, .init mm, by omega, by omega⟩, ?_⟩
  rintro x18 A19 n20 n21 w22 ⟨F, E, hF, hE, f1, f2, f3, hed, h180, h181⟩ n23 rfl
  refine condK_dec (fun hlt => ?_) fun hge => ?_
  · refine rd_row hF.base hA11 hgl hgx h180 hlt (K := fun A25 n26 _ => ∃ I28 : Int → Option Addr → Nat → Nat → Lp, _) fun A25 c25 row hrow hr => ?_
    have hrl := (hsh.rows row (List.mem_of_getElem? hrow)).len
    refine ⟨fun x29 A30 n31 n32 => ⟨fun w33 => ∃ F E, Fam w8 w33 F ∧ GP F 0 A30 n31 n32 E ∧ F 1 = none ∧ F 2 = none ∧ F 3 = none ∧ Edges mm E x18 x29 ∧ 0 ≤ x29 ∧ x29 ≤ mm.letters, fun _ => (mm.letters - x29).toNat⟩, ⟨F, E, hF, hE, f1, f2, f3, hed, by omega, by omega⟩, ?_⟩
    rintro x29 A30 n31 n32 w33 ⟨F, E, hF, hE, f1, f2, f3, hed, h290, h291⟩ n34 rfl
    have n31' : n31 = E.length := hE.len
    have hel := hed.len
    have hmul : x18 * mm.letters ≤ 1048576 * 300 := Int.mul_le_mul (by omega) (by omega) (by omega) (by omega)
    refine condK_dec (fun hlt2 => ?_) fun hge2 => ?_
    · refine rd_int hF.base hr h290 hlt2 (K := fun x36 => condK _ _ _) ?_
      rw [Mach.step_gi hrow h180 h290 hlt2]
      refine condK_dec (fun hge0 => ?_) fun hlt0 => ?_
      · refine hE.push (p := (x18, mm.step x18 x29)) hF (by omega) fun F1 A39 c41 w42 ho1 hF1 hE1 => ?_
        rw [J31_1, wrap_id (by omega) (by omega)]
        exact ⟨⟨F1, _, hF1, hE1, by rw [ho1 1 (by decide)]; exact f1, by rw [ho1 2 (by decide)]; exact f2, by rw [ho1 3 (by decide)]; exact f3, hed.add hsh h290 ⟨h180, hlt⟩ hge0, by omega, by omega⟩, by simp only []; omega⟩
      · rw [J31_1, wrap_id (by omega) (by omega)]
        exact ⟨⟨F, E, hF, hE, f1, f2, f3, hed.skip h290 (by omega), by omega, by omega⟩, by simp only []; omega⟩
    · rw [J31_1, wrap_id (by omega) (by omega)]
      exact ⟨⟨F, E, hF, hE, f1, f2, f3, hed.row h180 (by omega), by omega, by omega⟩, by simp only []; omega⟩
  · have hx18 : x18 = mm.next.length := by omega
    subst hx18
    have n20' : n20 = E.length := hE.len
    have hel := hed.len
    have hmul : (mm.next.length : Int) * mm.letters ≤ 1048576 * 300 := Int.mul_le_mul (by omega) (by omega) (by omega) (by omega)
    refine ⟨rfl, by omega, by omega, by omega, ?_⟩
    refine hF.mkRow 2 fun n43 F1 w44 ho1 hF1 hT1 => ?_
    have hT1 : GSl F1 2 (some ⟨n43, 0, none⟩) mm.next.length mm.next.length (us (List.replicate mm.next.length 0)) := by rw [us_rep]; rw [List.length_replicate] at hT1; exact hT1
    refine hT1.set_u hF1 1 (by decide) (by omega) (by simp; omega) fun F2 w46 ho2 hF2 hT2 => ?_
    have hE2 := (hE.same (ho1 0 (by decide))).same (ho2 0 (by decide))
    have hed' : ∀ h : Int → Int → Int, (∀ s t, t < 0 → h s t = 0) → esum h E = psum (fun s => psum (fun x => h s (mm.step s x)) mm.letters.toNat) mm.next.length := fun h hh => by
      rw [hed.sum h hh]; simp [psum]
    have herng := hed.rng
    refine ⟨fun x48 A49 n50 n51 => ⟨fun w52 => ∃ F T, Fam w8 w52 F ∧ GP F 0 A19 n20 n21 E ∧ GSl F 2 A49 n50 n51 (us T) ∧ T.length = mm.next.length ∧ (∀ j, dot mm.next.length T (cw mm j) = cw mm (x48.toNat + j) mm.start) ∧ 0 ≤ x48 ∧ x48 ≤ q, fun _ => (q - x48).toNat⟩,
      ⟨F2, _, hF2, hE2, hT2, by simp, fun j => by rw [dot_one (by omega) hstart.2]; simp, by omega, by omega⟩, ?_⟩
    clear hF hE f1 f2 f3 hed hF1 hT1 hF2 hT2 hE2 ho1 ho2
    rintro x48 A49 n50 n51 w52 ⟨F, T, hF, hE, hT, hTl, hdot, h480, h481⟩ n53 rfl
    refine condK_dec (fun hlt => ?_) fun hge2 => ?_
    · refine ⟨rfl, by omega, by omega, by omega, ?_⟩
      refine hF.mkRow 3 fun n54 F1 w55 ho1 hF1 hN1 => ?_
      have hN1 : GSl F1 3 (some ⟨n54, 0, none⟩) mm.next.length mm.next.length (us (List.replicate mm.next.length 0)) := by rw [us_rep]; rw [List.length_replicate] at hN1; exact hN1
      have n50' : n50 = T.length := by rw [hT.len, us_len]
      refine ⟨fun x57 => ⟨fun w58 => ∃ F N, Fam w8 w58 F ∧ GP F 0 A19 n20 n21 E ∧ GSl F 2 A49 n50 n51 (us T) ∧ GSl F 3 (some ⟨n54, 0, none⟩) mm.next.length mm.next.length (us N) ∧ N.length = mm.next.length ∧ (∀ f, dot mm.next.length N f = esum (fun s t => gi T s * f t) (E.take x57.toNat)) ∧ 0 ≤ x57 ∧ x57 ≤ E.length, fun _ => (E.length - x57).toNat⟩,
        ⟨F1, _, hF1, hE.same (ho1 0 (by decide)), hT.keep ho1 (by decide), hN1, by simp, fun f => by rw [dot_zero]; rfl, by omega, by omega⟩, ?_⟩
      clear hF hE hT hF1 hN1 ho1
      rintro x57 w58 ⟨F, N, hF, hE, hT, hN, hNl, hNd, h570, h571⟩ n59 rfl
      refine condK_dec (fun hlt2 => ?_) fun hge3 => ?_
      · have hx : x57 < E.length := by omega
        have he := herng _ (List.mem_of_getElem? (get_gp h570 hx))
        refine hE.get hF h570 hx fun a60 hc1 hc2 => ⟨_, _, hc1, hc2, fun _ => ?_⟩
        refine hN.get_u hF he.2.1 (by omega) (K := fun x65 => IxV A49 n50 1 _ _) ?_
        refine hT.get_u hF he.1.1 (by omega) (K := fun x67 => IxV _ _ 1 _ _) ?_
        refine hN.set_u hF (gi N (gp E x57).2 + gi T (gp E x57).1) (by rw [wrapU]; omega) he.2.1 (by omega) fun F2 w2 ho2 hF2 hN2 => ?_
        rw [wrap_id (by omega) (by omega)]
        refine ⟨⟨F2, _, hF2, hE.same (ho2 0 (by decide)), hT.keep ho2 (by decide), hN2, by simp [hNl], fun f => ?_, by omega, by omega⟩, by simp only []; omega⟩
        rw [dot_set hNl he.2.1 he.2.2, hNd, esum_take h570 hx]
      · rw [wrap_id (by omega) (by omega)]
        have htk : E.take x57.toNat = E := List.take_of_length_le (by omega)
        rw [htk] at hNd
        refine ⟨⟨_, N, hF.moves (i := 2) (k := 3) (by decide), hE.same (by simp), hN.at (by simp), hNl, fun j => ?_, by omega, by omega⟩, by simp only []; omega⟩
        rw [hNd, hed' _ fun s t ht => by rw [cw_neg j ht]; omega]
        have e1 : psum (fun s => psum (fun x => gi T s * cw mm j (mm.step s x)) mm.letters.toNat) mm.next.length = dot mm.next.length T (cw mm (j + 1)) := by
          unfold dot
          refine psum_ext _ fun s _ => ?_
          rw [psum_mul]; rfl
        rw [e1, hdot]
        congr 1; omega
    · have hx48 : x48 = q := by omega
      subst hx48
      have n50' : n50 = T.length := by rw [hT.len, us_len]
      refine ⟨fun x71 x72 => ⟨fun w73 => w73 = w52 ∧ 0 ≤ x71 ∧ x71 ≤ T.length ∧ x72 = psum (fun s => if mm.ends s then gi T s else 0) x71.toNat % 18446744073709551616, fun _ => (T.length - x71).toNat⟩, ⟨rfl, by omega, by omega, rfl⟩, ?_⟩
      rintro x71 x72 w73 ⟨rfl, h710, h711, rfl⟩ n74 rfl
      refine condK_dec (fun hlt2 => ?_) fun hge3 => ?_
      · refine hT.get_u hF h710 (by omega) (K := fun x76 => IxV _ _ 1 x71 _) ?_
        refine rd_end hF.base hB14 h710 (by omega) (K := fun t78 => condK t78 _ _) ?_
        rw [wrap_id (by omega) (by omega)]
        have e1 : (x71 + 1).toNat = x71.toNat + 1 := by omega
        have e2 : ((x71.toNat : Nat) : Int) = x71 := by omega
        refine condK_of (fun he => ?_) fun he => ?_
        · refine ⟨⟨rfl, by omega, by omega, ?_⟩, by simp only []; omega⟩
          rw [wrapU, e1]; simp only [psum]; rw [e2, he]; simp only [if_true]; omega
        · refine ⟨⟨rfl, by omega, by omega, ?_⟩, by simp only []; omega⟩
          rw [e1]; simp only [psum]; rw [e2, he]; simp
      · have hx : x71.toNat = mm.next.length := by omega
        rw [hx]
        have h0 := hdot 0
        have e1 : psum (fun s => if mm.ends s then gi T s else 0) mm.next.length = dot mm.next.length T (cw mm 0) := by
          unfold dot
          refine psum_ext _ fun s _ => ?_
          simp only [cw]; split <;> omega
        rw [e1, h0, Nat.add_zero, ← hcw]
        exact ok w73 (hE8.trans' hF.base)
end Go.Proofs.Ytnkpjlhbojjneaa.VC

/- Whether pairs show that two machines are the same. -/
namespace Go.Proofs.Ytnkpjlhbojjneaa.VC
open Go Go.RowKit

theorem takeP_mem {l : List IP} {i : Int} (h0 : 0 ≤ i) (h1 : i < l.length) (x : IP) : x ∈ l.take (i + 1).toNat ↔ x ∈ l.take i.toNat ∨ x = gp l i := by
  have e : (i + 1).toNat = i.toNat + 1 := by omega
  rw [e, List.take_add_one, get_gp h0 h1, List.mem_append]; simp
instance (ps : List IP) (p : IP) : Decidable (There ps p) := by unfold There; infer_instance
/-- pairs in order, so far -/
structure FormI (a b : Mach) (ps : List IP) (i : Int) : Prop where
  rng : ∀ p ∈ ps.take i.toNat, (-1 ≤ p.1 ∧ p.1 < a.next.length) ∧ (-1 ≤ p.2 ∧ p.2 < b.next.length) ∧ p ≠ nowhere
  sorted : ∀ k k' : Int, 0 ≤ k → k < k' → k' < i → plt (gp ps k) (gp ps k')
theorem FormP.adj {a b : Mach} {ps : List IP} (h : FormP a b ps) {k k' : Int} (h0 : 0 ≤ k) (h1 : k < k') (h2 : k' < ps.length) : plt (gp ps k) (gp ps k') := by
  have := List.pairwise_iff_getElem.1 h.sorted k.toNat k'.toNat (by omega) (by omega) (by omega)
  rw [← gp_get (List.getElem?_eq_getElem (l := ps) (i := k.toNat) (by omega)), ← gp_get (List.getElem?_eq_getElem (l := ps) (i := k'.toNat) (by omega))] at this
  exact this
theorem FormI.form {a b : Mach} {ps : List IP} {i : Int} (h : FormI a b ps i) (hi : ps.length ≤ i) : FormP a b ps where
  rng := fun p hp => h.rng p (by rw [List.take_of_length_le (by omega)]; exact hp)
  sorted := by
    rw [List.pairwise_iff_getElem]
    intro k k' hk hk' hlt
    have := h.sorted k k' (by omega) (by omega) (by omega)
    rw [gp_get (i := (k : Int)) (by rw [Int.toNat_natCast]; exact List.getElem?_eq_getElem hk), gp_get (i := (k' : Int)) (by rw [Int.toNat_natCast]; exact List.getElem?_eq_getElem hk')] at this
    exact this
theorem FormI.next {a b : Mach} {ps : List IP} {i : Int} (h : FormI a b ps i) (h0 : 0 ≤ i) (h1 : i < ps.length) (hr : (-1 ≤ (gp ps i).1 ∧ (gp ps i).1 < a.next.length) ∧ (-1 ≤ (gp ps i).2 ∧ (gp ps i).2 < b.next.length) ∧ gp ps i ≠ nowhere) (hs : 0 < i → plt (gp ps (i - 1)) (gp ps i)) : FormI a b ps (i + 1) where
  rng := fun p hp => by
    rcases (takeP_mem h0 h1 p).1 hp with hp | rfl
    · exact h.rng p hp
    · exact hr
  sorted := fun k k' a1 a2 a3 => by
    by_cases e : k' = i
    · subst e
      by_cases e2 : k = k' - 1
      · subst e2; exact hs (by omega)
      · exact plt_trans (h.sorted k (k' - 1) a1 (by omega) (by omega)) (hs (by omega))
    · exact h.sorted k k' a1 a2 (by omega)

set_option maxHeartbeats 4000000 in
theorem c28 {w : World} {a b : Mach} {v u pv : Value} {ps : List IP} {R : Res} (ha : MachAt w a v) (hb : MachAt w b u) (hp : SlP w pv ps) (la : a.Lim) (lb : b.Lim) (hl : ps.length ≤ 1099511627776)
    (hR : ∀ w', Ext w w' → R (.int .i64 (checkc a b ps)) [] w') : CallsI Try.prog 28 [v, u, pv] w [] R := by
  have ha0 := ha; have hb0 := hb
  obtain ⟨_, _, rfl, ⟨A, c, hs, rfl, hA, hAl, hAx⟩, ⟨B, d, rfl, hB⟩⟩ := ha
  obtain ⟨_, _, rfl, ⟨A', c', hs', rfl, hA', hAl', hAx'⟩, ⟨B', d', rfl, hB'⟩⟩ := hb
  obtain ⟨D, e, rfl, _, hD⟩ := hp
  refine s28 _ _ _ _ _ _ _ _ _ _ _ _ _ _ _ _ _ _ _ _ _ fun _ _ => c55 ha0 hb0 la lb ⟨_, rfl, rfl, ?_⟩
  refine condK_bne (fun h => ?_) fun hfit => ?_
  · have := hR w Ext.rfl'
    unfold checkc at this; rw [if_pos h] at this; exact this
  obtain ⟨hva, hvb, hlet⟩ := fitc_ok.1 hfit
  have sa := hva.shaped; have sb := hvb.shaped
  have nA := hva.next; have nB := hvb.next; have hL := hva.letters
  have fa := sa.fin; have fb := sb.fin
  have bad : ∀ w', Ext w w' → ¬ FormP a b ps → R (.int .i64 2) [] w' := fun w' hE hn => by
    have := hR w' hE
    unfold checkc at this; rw [if_neg (by omega), if_neg hn] at this; exact this
  have apart : ∀ w', Ext w w' → FormP a b ps → ¬ ShownP a b ps → R (.int .i64 8) [] w' := fun w' hE hf hn => by
    have := hR w' hE
    unfold checkc at this; rw [if_neg (by omega), if_pos hf, if_neg hn] at this; exact this
  have good : ∀ w', Ext w w' → FormP a b ps → ShownP a b ps → R (.int .i64 0) [] w' := fun w' hE hf hn => by
    have := hR w' hE
    unfold checkc at this; rw [if_neg (by omega), if_pos hf, if_pos hn] at this; exact this
  clear hR
  intro _
  refine GM.make (Fam.empty w) 0 KT.pair pairV fun n8 F w9 ho hF hg => ?_
  refine hg.putS keyPair hF (a := nowhere) fun F2 w12 ho2 hF2 hg2 => ?_
  refine ⟨fun x14 => ⟨fun w15 => ∃ F f, Fam w w15 F ∧ GM F 0 KT.pair pairV n8 f ∧ (∀ p, (f p).getD (.bool false) = .bool (decide (p = nowhere ∨ p ∈ ps.take x14.toNat))) ∧ FormI a b ps x14 ∧ 0 ≤ x14 ∧ x14 ≤ ps.length, fun _ => (ps.length - x14).toNat⟩,
    ⟨F2, _, hF2, hg2, fun p => by
      by_cases h : p = nowhere
      · simp [h]
      · simp [h], ⟨fun p hp => by simp at hp, fun k k' h0 h1 h2 => by omega⟩, by omega, by omega⟩, ?_⟩
  clear hF hg hF2 hg2 ho ho2
  rintro x14 w15 ⟨F, f, hF, hg, hf, hfo, h140, h141⟩ n16 rfl
  have hE15 : Ext w w15 := hF.base
  refine condK_dec (fun hlt => ?_) fun hge => ?_
  · have hmem := List.mem_of_getElem? (get_gp (l := ps) h140 hlt)
    refine rowP_get (Ext.row hE15 hD) h140 hlt fun a17 hc1 hc2 => ⟨_, _, hc1, hc2, fun _ => ?_⟩
    have no : ¬ ((-1 ≤ (gp ps x14).1 ∧ (gp ps x14).1 < a.next.length) ∧ (-1 ≤ (gp ps x14).2 ∧ (gp ps x14).2 < b.next.length) ∧ gp ps x14 ≠ nowhere) → R (.int .i64 2) [] w15 := fun hn => bad w15 hE15 fun hf => hn (hf.rng _ hmem)
    refine condK_dec (fun h => no fun e => by omega) fun h1 => condK_dec (fun h => no fun e => by omega) fun h2 => condK_dec (fun h => no fun e => by omega) fun h3 => condK_dec (fun h => no fun e => by omega) fun h4 => ?_
    refine condK_of (fun h => no fun e => e.2.2 (ne_nowhere.2 h)) fun h5 => ?_
    have hnn : gp ps x14 ≠ nowhere := fun e => by rw [ne_nowhere.1 e] at h5; cases h5
    have hr : (-1 ≤ (gp ps x14).1 ∧ (gp ps x14).1 < a.next.length) ∧ (-1 ≤ (gp ps x14).2 ∧ (gp ps x14).2 < b.next.length) ∧ gp ps x14 ≠ nowhere := ⟨by omega, by omega, hnn⟩
    have put : (0 < x14 → plt (gp ps (x14 - 1)) (gp ps x14)) → ∃ n28 l29, J28_2 n8 n28 w15 l29 (gp ps x14).1 (gp ps x14).2 (fun x14 => ⟨fun w15 => ∃ F f, Fam w w15 F ∧ GM F 0 KT.pair pairV n8 f ∧ (∀ p, (f p).getD (.bool false) = .bool (decide (p = nowhere ∨ p ∈ ps.take x14.toNat))) ∧ FormI a b ps x14 ∧ 0 ≤ x14 ∧ x14 ≤ ps.length, fun _ => (ps.length - x14).toNat⟩) x14 (ps.length - x14).toNat := fun hs => by
      refine hg.putS keyPair hF (a := gp ps x14) fun F3 w30 ho3 hF3 hg3 => ?_
      rw [J28_1, wrap_id (by omega) (by omega)]
      refine ⟨⟨F3, _, hF3, hg3, fun p => ?_, hfo.next h140 hlt hr hs, by omega, by omega⟩, by simp only []; omega⟩
      by_cases e : p = gp ps x14
      · subst e
        have : gp ps x14 ∈ ps.take (x14 + 1).toNat := (takeP_mem h140 hlt _).2 (.inr rfl)
        simp [this]
      · simp only [e, if_false]
        rw [hf p]
        congr 1
        exact decide_eq_decide.2 (by rw [takeP_mem h140 hlt p]; simp [e])
    refine condK_dec (fun hpos => ?_) fun hz => put fun h => by omega
    rw [wrap_id (by omega) (by omega)]
    refine rowP_get (Ext.row hE15 hD) (x := x14 - 1) (by omega) (by omega) fun a21 hd1 hd2 => ⟨_, _, hd1, hd2, ?_⟩
    have hprev := hfo.rng (gp ps (x14 - 1)) (by
      have e : x14 = (x14 - 1) + 1 := by omega
      rw [e]; exact (takeP_mem (l := ps) (i := x14 - 1) (by omega) (by omega) _).2 (.inr (by congr 1; omega)))
    refine c61 (p := gp ps (x14 - 1)) (q := gp ps x14) ⟨_, rfl, rfl, ?_⟩
    have hord := ordc_small (p := gp ps (x14 - 1)) (q := gp ps x14) (by unfold small; omega) (by unfold small; omega)
    refine condK_dec (fun h => ?_) fun h => put fun _ => hord.2.1 (by omega)
    exact bad w15 hE15 fun hf => hord.1.1 h (hf.adj (by omega) (by omega) hlt)
  · have hx : x14.toNat = ps.length := by omega
    have hform := hfo.form (by omega)
    rw [hx, List.take_length] at hf
    have hrng := hform.rng
    obtain ⟨l34, hl1, hl2⟩ := hg.look hF
    refine ⟨l34, hl1, decide (There ps (a.start, b.start)), ?_, ?_⟩
    · have : assoc KT.pair l34 (pairV (a.start, b.start)) = f (a.start, b.start) := hl2 _
      show (assoc KT.pair l34 (pairV (a.start, b.start))).getD _ = _
      rw [this]; exact hf _
    cases hst : decide (There ps (a.start, b.start)) with
    | false => exact apart w15 hE15 hform fun hs => by rw [decide_eq_true hs.start] at hst; cases hst
    | true =>
    have hstart : There ps (a.start, b.start) := of_decide_eq_true hst
    refine ⟨fun x37 => ⟨fun w38 => w38 = w15 ∧ (∀ p ∈ ps.take x37.toNat, a.ends p.1 = b.ends p.2 ∧ ∀ x, a.Let x → There ps (pstep a b p x)) ∧ 0 ≤ x37 ∧ x37 ≤ ps.length, fun _ => (ps.length - x37).toNat⟩, ⟨rfl, fun p hp => by simp at hp, by omega, by omega⟩, ?_⟩
    rintro x37 w38 ⟨rfl, hI, h370, h371⟩ n39 rfl
    refine condK_dec (fun hlt => ?_) fun hge2 => ?_
    · have hmem := List.mem_of_getElem? (get_gp (l := ps) h370 hlt)
      have hr := hrng _ hmem
      refine rowP_get (Ext.row hE15 hD) h370 hlt fun a40 hc1 hc2 => ⟨_, _, hc1, hc2, fun _ => ?_⟩
      refine c52 (ha0.ext hE15) (by omega) ⟨_, rfl, rfl, ?_⟩
      refine c52 (hb0.ext hE15) (by omega) ⟨_, rfl, rfl, ?_⟩
      refine condK_of (fun hd => apart w38 hE15 hform fun hs => ?_) fun hd => ?_
      · have := hs.ends _ hmem
        rw [this] at hd; simp at hd
      · have hends : a.ends (gp ps x37).1 = b.ends (gp ps x37).2 := by simpa using hd
        refine ⟨fun x53 => ⟨fun w54 => w54 = w38 ∧ (∀ x, 0 ≤ x → x < x53 → There ps (pstep a b (gp ps x37) x)) ∧ 0 ≤ x53 ∧ x53 ≤ a.letters, fun _ => (a.letters - x53).toNat⟩, ⟨rfl, fun x h0 h1 => by omega, by omega, sa.letters⟩, ?_⟩
        rintro x53 w54 ⟨rfl, hJ, h530, h531⟩ n55 rfl
        refine condK_dec (fun hlt2 => ?_) fun hge3 => ?_
        · refine c58 (ha0.ext hE15) sa hr.1.2 ⟨h530, hlt2⟩ ⟨_, rfl, rfl, ?_⟩
          refine c58 (hb0.ext hE15) sb hr.2.1.2 ⟨h530, by omega⟩ ⟨_, rfl, rfl, ?_⟩
          refine ⟨l34, hl1, decide (There ps (pstep a b (gp ps x37) x53)), ?_, ?_⟩
          · have : assoc KT.pair l34 (pairV (pstep a b (gp ps x37) x53)) = f (pstep a b (gp ps x37) x53) := hl2 _
            show (assoc KT.pair l34 (pairV (pstep a b (gp ps x37) x53))).getD _ = _
            rw [this]; exact hf _
          cases hth : decide (There ps (pstep a b (gp ps x37) x53)) with
          | false => exact apart w54 hE15 hform fun hs => by rw [decide_eq_true (hs.steps _ hmem x53 ⟨h530, hlt2⟩)] at hth; cases hth
          | true =>
            refine condK_of (fun h => by simp at h) fun _ => ?_
            rw [J28_1, wrap_id (by omega) (by omega)]
            refine ⟨⟨rfl, fun x h0 h1 => ?_, by omega, by omega⟩, by simp only []; omega⟩
            by_cases e : x = x53
            · subst e; exact of_decide_eq_true hth
            · exact hJ x h0 (by omega)
        · rw [J28_1, wrap_id (by omega) (by omega)]
          refine ⟨⟨rfl, fun p hp => ?_, by omega, by omega⟩, by simp only []; omega⟩
          rcases (takeP_mem h370 hlt p).1 hp with hp | rfl
          · exact hI p hp
          · exact ⟨hends, fun x hx => hJ x hx.1 (by unfold Mach.Let at hx; omega)⟩
    · have htk : ps.take x37.toNat = ps := List.take_of_length_le (by omega)
      rw [htk] at hI
      exact good w38 hE15 hform ⟨hstart, fun p hp => (hI p hp).1, fun p hp => (hI p hp).2⟩
end Go.Proofs.Ytnkpjlhbojjneaa.VC

/- The chapter's examples, as mathematics. -/
namespace Go.Proofs.Ytnkpjlhbojjneaa.VC
open Go Go.RowKit

def evenM : Mach := ⟨1, 0, [[1], [2], [1]], [true, false, true]⟩
def evenL : Mach := ⟨1, 0, [[1], [0]], [true, false]⟩
def allM : Mach := ⟨1, 0, [[0]], [true]⟩
def evenPs : List IP := [(0, 0), (1, 1), (2, 0)]
theorem evenM_valid : evenM.Valid := by
  refine ⟨⟨by decide, by decide, fun row hr => ?_, by decide, by decide⟩, by decide, by decide⟩
  simp only [evenM, List.mem_cons, List.not_mem_nil, or_false] at hr
  rcases hr with rfl | rfl | rfl <;> exact ⟨by decide, by decide⟩
theorem evenL_valid : evenL.Valid := by
  refine ⟨⟨by decide, by decide, fun row hr => ?_, by decide, by decide⟩, by decide, by decide⟩
  simp only [evenL, List.mem_cons, List.not_mem_nil, or_false] at hr
  rcases hr with rfl | rfl <;> exact ⟨by decide, by decide⟩
theorem allM_valid : allM.Valid := by
  refine ⟨⟨by decide, by decide, fun row hr => ?_, by decide, by decide⟩, by decide, by decide⟩
  simp only [allM, List.mem_cons, List.not_mem_nil, or_false] at hr
  rcases hr with rfl; exact ⟨by decide, by decide⟩
theorem even_shown : ShownP evenM evenL evenPs where
  start := .inr (by decide)
  ends := by decide
  steps := fun p hp x hx => by
    have : x = 0 := by unfold Mach.Let evenM at hx; simp at hx; omega
    subst this
    simp only [evenPs, List.mem_cons, List.not_mem_nil, or_false] at hp
    rcases hp with rfl | rfl | rfl <;> exact .inr (by decide)
theorem evenL_canon : evenL.Canon where
  shaped := evenL_valid.shaped
  zero := by decide
  live := fun s h0 h1 => by
    have : s = 0 ∨ s = 1 := by simp [evenL] at h1; omega
    rcases this with rfl | rfl
    · exact ⟨[], by decide⟩
    · exact ⟨[0], by decide⟩
  apart := fun s t h0 h1 h2 h3 e => by
    have e := e []
    have hs : s = 0 ∨ s = 1 := by simp [evenL] at h1; omega
    have ht : t = 0 ∨ t = 1 := by simp [evenL] at h3; omega
    rcases hs with rfl | rfl <;> rcases ht with rfl | rfl
    · rfl
    · exact absurd e (by decide)
    · exact absurd e (by decide)
    · rfl
  numbered := ⟨fun t h0 h1 => ⟨0, 0, by decide, h0, by unfold Mach.Let; decide, by
    have : t = 1 := by simp [evenL] at h1; omega
    subst this; decide⟩, fun i x t' hi hx e t h0 h1 => by
    have := (evenL_valid.shaped.step_range i x).2
    simp [evenL] at this; rw [← e] at h1; simp [evenL] at h1; omega⟩
theorem even_least : IsLeast evenM evenL := ⟨evenL_canon, rfl, fun u => (even_shown.words evenM_valid.shaped evenL_valid.shaped rfl u).symm⟩
theorem even_fit : fitc evenM evenL = 0 := fitc_ok.2 ⟨evenM_valid, evenL_valid, rfl⟩
theorem even_all_fit : fitc evenM allM = 0 := fitc_ok.2 ⟨evenM_valid, allM_valid, rfl⟩
theorem even_first : First evenM allM [0] where
  parts := by decide
  first := fun v hv => by
    cases v with
    | nil => exact absurd hv (by decide)
    | cons x v =>
      cases v with
      | cons y v => exact .inl (.inl (by simp))
      | nil =>
        by_cases h : x = 0
        · subst h; exact .inr rfl
        · exfalso; apply hv
          have hx : ¬ evenM.Let x := by unfold Mach.Let evenM; simp; omega
          have := pstep_out (a := evenM) (b := allM) evenM_valid.shaped allM_valid.shaped rfl hx (evenM.start, allM.start)
          have h1 : evenM.step evenM.start x = -1 := congrArg Prod.fst this
          have h2 : allM.step allM.start x = -1 := congrArg Prod.snd this
          rw [Mach.acc_cons, Mach.acc_cons, h1, h2]; decide
theorem even_found (p : IP) : p ∈ evenPs ↔ FoundP evenM evenL p := by
  constructor
  · intro hp
    simp only [evenPs, List.mem_cons, List.not_mem_nil, or_false] at hp
    rcases hp with rfl | rfl | rfl
    · exact ⟨by decide, [], rfl⟩
    · exact ⟨by decide, [0], rfl⟩
    · exact ⟨by decide, [0, 0], rfl⟩
  · rintro ⟨hne, u, hu⟩
    have key : ∀ (u : List Int) (q : IP), There evenPs q → There evenPs (prun evenM evenL q u) := by
      intro u
      induction u with
      | nil => exact fun q h => h
      | cons x u ih =>
        intro q hq
        refine ih (pstep evenM evenL q x) ?_
        rcases hq with rfl | hq
        · left; exact pstep_nowhere _ _ x
        · by_cases hx : evenM.Let x
          · exact even_shown.steps q hq x hx
          · left; exact pstep_out evenM_valid.shaped evenL_valid.shaped rfl hx q
    rcases key u _ even_shown.start with h | h
    · rw [hu] at h; exact absurd h hne
    · rw [hu] at h; exact h
theorem even_sorted : evenPs.Pairwise plt := by unfold evenPs; simp [plt]
theorem even_check : checkc evenM evenL evenPs = 0 := checkc_ok.2 ⟨even_fit, ⟨fun p hp => found_rng evenM_valid.shaped evenL_valid.shaped ((even_found p).1 hp), even_sorted⟩, even_shown⟩
theorem even_check2 : checkc evenM evenL [(0, 0), (1, 1)] = 8 := by
  unfold checkc
  rw [if_neg (by rw [even_fit]; decide), if_pos ⟨fun p hp => found_rng evenM_valid.shaped evenL_valid.shaped ((even_found p).1 (by simp [evenPs] at hp ⊢; rcases hp with h | h <;> simp [h])), by simp [plt]⟩, if_neg]
  intro h
  have := h.steps (1, 1) (by simp) 0 (by unfold Mach.Let; decide)
  exact absurd this (by unfold There; decide)
theorem even_count : cnt evenM 4 = 1 := by decide
/-- pairs in range are not many -/
theorem pairs_bound {A B : Nat} {ps : List IP} (hn : ps.Nodup) (hr : ∀ p ∈ ps, (-1 ≤ p.1 ∧ p.1 < A) ∧ (-1 ≤ p.2 ∧ p.2 < B)) : (ps.length : Int) ≤ (A + 1) * (B + 1) := by
  have := nodup_bound ((A + 1) * (B + 1)) (ps.map fun p => (p.1 + 1) * (B + 1) + (p.2 + 1)) ?_ ?_
  · rw [List.length_map] at this; exact_mod_cast this
  · rw [List.nodup_iff_pairwise_ne, List.pairwise_map]
    refine (List.nodup_iff_pairwise_ne.1 hn).imp_of_mem fun {p q} hp hq hne e => hne ?_
    have h1 := hr p hp; have h2 := hr q hq
    have d1 : ((p.1 + 1) * (B + 1) + (p.2 + 1)) / (B + 1) = p.1 + 1 := by
      rw [Int.add_comm, Int.add_mul_ediv_right _ _ (by omega), Int.ediv_eq_zero_of_lt (by omega) (by omega)]; omega
    have d2 : ((q.1 + 1) * (B + 1) + (q.2 + 1)) / (B + 1) = q.1 + 1 := by
      rw [Int.add_comm, Int.add_mul_ediv_right _ _ (by omega), Int.ediv_eq_zero_of_lt (by omega) (by omega)]; omega
    have e1 : p.1 = q.1 := by rw [e, d2] at d1; omega
    rw [e1] at e
    have e2 : p.2 = q.2 := by omega
    exact Prod.ext e1 e2
  · intro x hx
    obtain ⟨p, hp, rfl⟩ := List.mem_map.1 hx
    have h1 := hr p hp
    have p0 : 0 ≤ (p.1 + 1) * ((B : Int) + 1) := Int.mul_nonneg (by omega) (by omega)
    have p1 : (p.1 + 1) * ((B : Int) + 1) ≤ A * ((B : Int) + 1) := Int.mul_le_mul_of_nonneg_right (by omega) (by omega)
    have e : ((A : Int) + 1) * (B + 1) = A * ((B : Int) + 1) + (B + 1) := by rw [Int.add_mul, Int.one_mul]
    push_cast
    rw [e]
    omega
end Go.Proofs.Ytnkpjlhbojjneaa.VC

/- The chapter's examples; a copy of a machine; which machines are valid. -/
namespace Go.Proofs.Ytnkpjlhbojjneaa.VC
open Go Go.RowKit

theorem c47 {w : World} {R : Res} (hR : ∀ w' v, Ext w w' → MachAt w' evenM v → R v [] w') : CallsI Try.prog 47 [] w [] R := by
  refine s47 _ _ fun _ => ?_
  refine (Fam.empty w).mkRow 0 fun b0 F0 w0 o0 hF0 g0 => ?_
  refine hF0.mkRow 1 fun b1 F1 w1 o1 hF1 g1 => ?_
  refine hF1.mkRow 2 fun b2 F2 w2 o2 hF2 g2 => ?_
  refine hF2.mkRow 3 fun b3 F3 w3 o3 hF3 g3 => ?_
  refine hF3.mkRow 4 fun b4 F4 w4 o4 hF4 g4 => ?_
  have r0 : GSl F4 0 (some ⟨b0, 0, none⟩) 1 1 (ints [1]) := (((g0.keep o1 (by decide)).keep o2 (by decide)).keep o3 (by decide)).keep o4 (by decide)
  have r1 : GSl F4 1 (some ⟨b1, 0, none⟩) 1 1 (ints [2]) := ((g1.keep o2 (by decide)).keep o3 (by decide)).keep o4 (by decide)
  have r2 : GSl F4 2 (some ⟨b2, 0, none⟩) 1 1 (ints [1]) := (g2.keep o3 (by decide)).keep o4 (by decide)
  have r3 := g3.keep o4 (by decide)
  refine hR w4 _ hF4.base ⟨_, _, rfl, ⟨_, 3, _, rfl, r3.row hF4, rfl, fun i h xs hi hx => ?_⟩, ⟨_, 3, rfl, g4.row hF4⟩⟩
  match i, hi, hx with
  | 0, hi, hx => simp [evenM] at hi hx; subst hi hx; exact r0.sli hF4
  | 1, hi, hx => simp [evenM] at hi hx; subst hi hx; exact r1.sli hF4
  | 2, hi, hx => simp [evenM] at hi hx; subst hi hx; exact r2.sli hF4
  | k + 3, hi, hx => simp at hi

theorem gii_take {m : Mach} {i : Int} {row : List Int} (h0 : 0 ≤ i) (h : m.next[i.toNat]? = some row) : m.next.take (i + 1).toNat = m.next.take i.toNat ++ [row] := by
  have e : (i + 1).toNat = i.toNat + 1 := by omega
  rw [e, List.take_add_one, h]; rfl
theorem c19 {w : World} {m : Mach} {v : Value} {R : Res} (hm : MachAt w m v) (hlim : m.Lim) (hR : ∀ w' v', MachNew w w' m v' → R v' [] w') : CallsI Try.prog 19 [v] w [] R := by
  have hm0 := hm
  obtain ⟨_, _, rfl, ⟨A, c, hs, rfl, hA, hl, hx⟩, ⟨B, d, rfl, hB⟩⟩ := hm
  have hn1 := hlim.next; have hf1 := hlim.fin
  have loop : ∀ (A5 : Option Addr) (n6 n7 : Nat) (w8 : World) (F : FamF), Fam w w8 F → F 2 = none → GSl F 3 A5 n6 n7 (bools m.fin) → J19_10 m.letters m.start A5 n6 n7 w8 m.next.length A R := by
    intro A5 n6 n7 w8 F hF h2 hfin
    refine ⟨fun x11 x12 x13 A14 n15 n16 A17 n18 n19 => ⟨fun w20 => ∃ F, Fam w w20 F ∧ GII F 2 g10 A14 n15 n16 (m.next.take x11.toNat) ∧ GSl F 3 A17 n18 n19 (bools m.fin) ∧ x12 = m.letters ∧ x13 = m.start ∧ 0 ≤ x11 ∧ x11 ≤ m.next.length, fun _ => (m.next.length - x11).toNat⟩,
      ⟨F, hF, GII.nil h2, hfin, rfl, rfl, by omega, by omega⟩, ?_⟩
    clear hF h2 hfin
    rintro x11 x12 x13 A14 n15 n16 A17 n18 n19 w20 ⟨F, hF, hrows, hfin, rfl, rfl, h110, h111⟩ n21 rfl
    refine condK_dec (fun hlt => ?_) fun hge => ?_
    · have hE20 : Ext w w20 := hF.base
      refine ix_row hA hl hx h110 hlt fun a22 row A23 c25 hrow hc hr => ⟨A23, _, c25, hE20.cell hc, ?_⟩
      have hrl := hlim.rows row (List.mem_of_getElem? hrow)
      have htl : (m.next.take x11.toNat).length = x11.toNat := by rw [List.length_take]; omega
      refine hF.mkRowE (g10 x11.toNat) (xs := []) fun n26 F1 w27 hE27 ho1 hF1 hs1 => ⟨hE27.cell (hE20.cell hc), ?_⟩
      have hs1 : GSl F1 (g10 x11.toNat) (some ⟨n26, 0, none⟩) 0 0 (ints []) := hs1
      refine hs1.append_ints hF1 ((hE20.trans' hE27).row hr) rfl (by omega) fun F2 A28 c30 w31 ho2 hF2 hs2 => ?_
      have g2 : ∀ j, j ≠ g10 x11.toNat → F2 j = F j := fun j hj => by rw [ho2 j hj, ho1 j hj]
      have hrows2 : GII F2 2 g10 A14 n15 n16 (m.next.take x11.toNat) := hrows.same (g2 2 (Ne.symm (g10_ne (by decide)))) fun t ht => g2 _ (by unfold g10; omega)
      refine hrows2.pushRow (by rw [htl]; exact hs2) hF2 (fun t => g10_ne (by decide)) (by rw [hrows2.len]; omega) fun F3 A34 c36 w37 ho3 hF3 hrows3 => ?_
      rw [wrap_id (by omega) (by omega)]
      refine ⟨⟨F3, hF3, ?_, (hfin.same (g2 3 (Ne.symm (g10_ne (by decide))))).keep ho3 (by decide), rfl, rfl, by omega, by omega⟩, by simp only []; omega⟩
      rw [gii_take h110 hrow]; exact hrows3
    · have htk : m.next.take x11.toNat = m.next := List.take_of_length_le (by omega)
      rw [htk] at hrows
      exact hR w20 _ ⟨F, _, _, _, _, _, _, rfl, hF, hrows, hfin⟩
  have fin : ∀ (n3 : Nat) (w4 : World) (F : FamF), Ext w w4 → Fam w w4 F → F 2 = none → GSl F 3 (some ⟨n3, 0, none⟩) 0 0 (bools []) → J19_12 n3 B m.fin.length w4 m.letters m.start m.next.length A R := by
    intro n3 w4 F hE hF h2 hs
    exact hs.append_bools hF (hE.row hB) rfl (by omega) fun F2 A2 c2 w2 ho2 hF2 hs2 => loop _ _ _ _ F2 hF2 (by rw [ho2 2 (by decide)]; exact h2) hs2
  refine s19 _ _ _ _ _ _ _ _ _ _ fun _ _ => ⟨?_, fun _ => ?_⟩
  · refine (Fam.empty w).mkRowE 3 (xs := []) fun n3 F w4 hE ho hF hs => ⟨?_, fun _ => fin n3 w4 F hE hF (by rw [ho 2 (by decide)]) hs⟩
    have hs : GSl F 3 (some ⟨n3, 0, none⟩) 0 0 (bools []) := hs
    exact hs.append_bools hF (hE.row hB) rfl (by omega) fun F2 A2 c2 w2 ho2 hF2 hs2 => fun _ => loop _ _ _ _ F2 hF2 (by rw [ho2 2 (by decide), ho 2 (by decide)]) hs2
  · exact (Fam.empty w).mkRowE 3 (xs := []) fun n3 F w4 hE ho hF hs => fin n3 w4 F hE hF (by rw [ho 2 (by decide)]) hs

theorem evenM_lim : evenM.Lim := evenM_valid.shaped.lim (by decide) (by decide)
theorem evenL_lim : evenL.Lim := evenL_valid.shaped.lim (by decide) (by decide)
theorem allM_lim : allM.Lim := allM_valid.shaped.lim (by decide) (by decide)
theorem row_slice {w0 w : World} {F : FamF} {i : Nat} {b : Nat} {xs : List Int} (hF : Fam w0 w F) (h : GSl F i (some ⟨b, 0, none⟩) (ints xs).length (ints xs).length (ints xs)) : SlI w (.slice (some ⟨b, 0, none⟩) xs.length xs.length) xs := by
  rw [ints_len] at h; exact h.sli hF
set_option maxHeartbeats 4000000 in
theorem c15 {w : World} {R : Res} (hR : ∀ w', Ext w w' → R (.bool true) [] w') : CallsI Try.prog 15 [] w [] R := by
  refine s15 _ _ (c47 fun w3 v1 hE3 hm1 => ?_)
  have hm1' := hm1
  obtain ⟨_, _, rfl, ⟨A6, c8, _, rfl, _⟩, ⟨A9, c11, rfl, _⟩⟩ := hm1
  refine ⟨_, _, _, _, _, _, _, _, rfl, rfl, ?_⟩
  refine c23 hm1' evenM_lim (fun h => absurd evenM_valid h) fun _ w14 mm v' hnew hleast _ => ?_
  have hmm := even_least.unique hleast
  subst hmm
  have hE14 : Ext w3 w14 := hnew.below
  have hml := hnew.at_
  clear hnew hleast
  have hml' := hml
  obtain ⟨_, _, rfl, ⟨A17, c19, _, rfl, _⟩, ⟨A20, c22, rfl, _⟩⟩ := hml
  refine ⟨_, _, _, _, _, _, _, _, _, rfl, rfl, fun _ => ?_⟩
  refine (Fam.empty w14).mkRow 0 fun b0 F0 w26 o0 hF0 g0 => ?_
  refine hF0.mkRow 1 fun b1 F1 w28 o1 hF1 g1 => ?_
  refine hF1.mkRow 2 fun b2 F2 w30 o2 hF2 g2 => ?_
  intro _
  have hE30 : Ext w14 w30 := hF2.base
  have hall : MachAt w30 allM (.agg (Array.mk [.int .i64 1, .int .i64 0, .slice (some ⟨b1, 0, none⟩) 1 1, .slice (some ⟨b2, 0, none⟩) 1 1])) := by
    refine ⟨_, _, rfl, ⟨_, 1, _, rfl, (g1.keep o2 (by decide)).row hF2, rfl, fun i h xs hi hx => ?_⟩, ⟨_, 1, rfl, g2.row hF2⟩⟩
    match i, hi, hx with
    | 0, hi, hx =>
      simp [allM] at hi hx; subst hi hx
      have : GSl F2 0 (some ⟨b0, 0, none⟩) 1 1 (ints [0]) := (g0.keep o1 (by decide)).keep o2 (by decide)
      exact this.sli hF2
    | k + 1, hi, hx => simp at hi
  clear g0 g1 g2 o0 o1 o2 hF0 hF1 hF2
  refine c47 fun w34 v32 hE34 hm32 => ?_
  have hm32' := hm32
  obtain ⟨_, _, rfl, ⟨A37, c39, _, rfl, _⟩, ⟨A40, c42, rfl, _⟩⟩ := hm32
  refine ⟨_, _, _, _, _, _, _, _, rfl, rfl, ?_⟩
  refine c26 hm32' (hall.ext hE34) evenM_lim allM_lim (fun h => absurd even_all_fit h) (fun _ h => absurd (h [0]) even_first.parts) fun _ w45 wv u hE45 hwv _ hfirst => ?_
  have hu := even_first.unique hfirst
  subst hu
  obtain ⟨A46, c48, rfl, _⟩ := hwv
  refine ⟨_, _, _, _, _, rfl, rfl, ?_⟩
  refine c47 fun w53 v51 hE53 hm51 => ?_
  have hm51' := hm51
  obtain ⟨_, _, rfl, ⟨A56, c58, _, rfl, _⟩, ⟨A59, c61, rfl, _⟩⟩ := hm51
  refine ⟨_, _, _, _, _, _, _, _, rfl, rfl, ?_⟩
  have hE53' : Ext w14 w53 := ((hE30.trans' hE34).trans' hE45).trans' hE53
  refine c27 hm51' (hml'.ext hE53') evenM_lim evenL_lim (fun h => absurd even_fit h) (fun _ h => absurd (fun u => (even_least.words u).symm) h)
    (fun _ _ w' ps _ hnd hfo hgt => by
      have := pairs_bound (A := 3) (B := 2) hnd fun p hp => by
        have := found_rng evenM_valid.shaped evenL_valid.shaped (hfo p hp)
        exact ⟨this.1, this.2.1⟩
      omega) fun _ _ w64 pv qs hE64 hpv hsort hmem _ => ?_
  have hqs := sorted_unique even_sorted hsort fun p => by rw [even_found, hmem]
  subst hqs
  have hpv' := hpv
  obtain ⟨A65, c67, rfl, hcap, hrow65⟩ := hpv
  refine ⟨_, _, _, _, rfl, rfl, ?_⟩
  refine c47 fun w71 v69 hE71 hm69 => ?_
  have hm69' := hm69
  obtain ⟨_, _, rfl, ⟨A74, c76, _, rfl, _⟩, ⟨A77, c79, rfl, _⟩⟩ := hm69
  refine ⟨_, _, _, _, _, _, _, _, rfl, rfl, ?_⟩
  refine c31 hm69' evenM_lim (fun h => absurd ⟨evenM_valid, by decide, by decide⟩ h) fun _ _ _ w82 hE82 => ⟨_, _, rfl, rfl, ?_⟩
  rw [even_count]
  have hE82' : Ext w14 w82 := ((hE53'.trans' hE64).trans' hE71).trans' hE82
  have hE64' : Ext w64 w82 := hE71.trans' hE82
  have hbase : Ext w w82 := (hE3.trans' hE14).trans' hE82'
  refine condK_bne (fun h => absurd rfl h) fun _ => condK_bne (fun h => absurd rfl h) fun _ => condK_bne (fun h => absurd rfl h) fun _ => condK_bne (fun h => absurd rfl h) fun _ => condK_bne (fun h => absurd rfl h) fun _ => condK_bne (fun h => absurd rfl h) fun _ => ?_
  refine condK_of (fun h => absurd h (by decide)) fun _ => condK_bne (fun h => absurd rfl h) fun _ => condK_bne (fun h => absurd rfl h) fun _ => ?_
  have acc1 : evenM.accepts [0, 0] = true := by rw [Mach.accepts_valid evenM_valid]; decide
  have acc2 : evenM.accepts [0] = false := by rw [Mach.accepts_valid evenM_valid]; decide
  -- the last two relations
  have tail2 : ∀ (A107 : Option Addr) (n109 : Nat) (A110 : Option Addr) (n112 n113 : Nat) (w114 : World), Ext w82 w114 → MachAt w114 evenM (.agg (Array.mk [.int .i64 1, .int .i64 0, .slice A107 3 n109, .slice A110 3 n112])) → SlI w114 (.slice (some ⟨n113, 0, none⟩) 1 1) [0] →
      J15_15 1 0 A107 3 n109 A110 3 n112 n113 w114 1 0 A17 2 c19 A20 2 c22 A65 3 c67 R := by
    intro A107 n109 A110 n112 n113 w114 hE114 hm hs
    refine c20 hm evenM_lim hs (by decide) ⟨_, rfl, rfl, ?_⟩
    rw [acc2]
    refine condK_of (fun _ => ?_) fun h => by simp at h
    refine c47 fun w121 v119 hE121 hm119 => ?_
    have hm119' := hm119
    obtain ⟨_, _, rfl, ⟨A124, c126, _, rfl, _⟩, ⟨A127, c129, rfl, _⟩⟩ := hm119
    refine ⟨_, _, _, _, _, _, _, _, rfl, rfl, ?_⟩
    have e1 : Ext w82 w121 := hE114.trans' hE121
    refine c28 hm119' (hml'.ext (hE82'.trans' e1)) (hpv'.ext (hE64'.trans' e1)) evenM_lim evenL_lim (by decide) fun w132 hE132 => ⟨_, rfl, rfl, ?_⟩
    rw [even_check]
    refine condK_beq (fun _ => ?_) fun h => absurd rfl h
    have hcap3 : 3 ≤ c67 := hcap
    refine ⟨by decide, by omega, ?_⟩
    refine c47 fun w136 v134 hE136 hm134 => ?_
    have hm134' := hm134
    obtain ⟨_, _, rfl, ⟨A139, c141, _, rfl, _⟩, ⟨A142, c144, rfl, _⟩⟩ := hm134
    refine ⟨_, _, _, _, _, _, _, _, rfl, rfl, ?_⟩
    have e2 : Ext w82 w136 := (e1.trans' hE132).trans' hE136
    refine c28 (ps := [(0, 0), (1, 1)]) hm134' (hml'.ext (hE82'.trans' e2)) ?_ evenM_lim evenL_lim (by decide) fun w147 hE147 => ⟨_, rfl, rfl, ?_⟩
    · obtain ⟨ad, rfl, hc⟩ := (Ext.trans' hE64' e2).row hrow65 (by simp [evenPs, pcells])
      rw [if_neg (by omega), Option.map_some, Nat.zero_mul]
      refine ⟨some (ad.add 0), c67, rfl, by simp; omega, fun _ => ⟨_, rfl, fun j v hj => ?_⟩⟩
      have e0 : ad.add 0 = ad := by simp [Addr.add]
      rw [e0]
      refine hc j v ?_
      have : (pcells evenPs) = pcells [(0, 0), (1, 1)] ++ pcells [(2, 0)] := by rw [← pcells_append]; rfl
      rw [this, List.getElem?_append_left (List.getElem?_eq_some_iff.1 hj).1]; exact hj
    · rw [even_check2]
      exact hR w147 (hbase.trans' (e2.trans' hE147))
  -- the words of two letters first
  have tail1 : ∀ (A90 : Option Addr) (n92 : Nat) (A93 : Option Addr) (n95 n96 : Nat) (w97 : World), Ext w82 w97 → MachAt w97 evenM (.agg (Array.mk [.int .i64 1, .int .i64 0, .slice A90 3 n92, .slice A93 3 n95])) → SlI w97 (.slice (some ⟨n96, 0, none⟩) 2 2) [0, 0] →
      J15_27 1 0 A90 3 n92 A93 3 n95 n96 w97 1 0 A17 2 c19 A20 2 c22 A65 3 c67 R := by
    intro A90 n92 A93 n95 n96 w97 hE97 hm hs
    refine c20 hm evenM_lim hs (by decide) ⟨_, rfl, rfl, ?_⟩
    rw [acc1]
    refine condK_of (fun _ => ?_) fun h => by simp at h
    refine ⟨c47 fun w104 v102 hE104 hm102 => ?_, ?_⟩
    · have hm102' := hm102
      obtain ⟨_, _, rfl, ⟨A107, c109, _, rfl, _⟩, ⟨A110, c112, rfl, _⟩⟩ := hm102
      refine ⟨_, _, _, _, _, _, _, _, rfl, rfl, ?_⟩
      refine (Fam.empty w104).mkRow 0 fun b F w114 o hF g => ?_
      exact tail2 _ _ _ _ _ w114 ((hE97.trans' hE104).trans' hF.base) (hm102'.ext hF.base) (row_slice (xs := [0]) hF g)
    · refine (Fam.empty w97).mkRow 0 fun b F w150 o hF g => ?_
      refine c47 fun w153 v151 hE153 hm151 => ?_
      have hm151' := hm151
      obtain ⟨_, _, rfl, ⟨A107, c109, _, rfl, _⟩, ⟨A110, c112, rfl, _⟩⟩ := hm151
      refine ⟨_, _, _, _, _, _, _, _, rfl, rfl, ?_⟩
      exact tail2 _ _ _ _ _ w153 ((hE97.trans' hF.base).trans' hE153) hm151' ((row_slice (xs := [0]) hF g).ext hE153)
  refine ⟨c47 fun w87 v85 hE87 hm85 => ?_, ?_⟩
  · have hm85' := hm85
    obtain ⟨_, _, rfl, ⟨A90, c92, _, rfl, _⟩, ⟨A93, c95, rfl, _⟩⟩ := hm85
    refine ⟨_, _, _, _, _, _, _, _, rfl, rfl, ?_⟩
    refine (Fam.empty w87).mkRow 0 fun b F w97 o hF g => ?_
    exact tail1 _ _ _ _ _ w97 (hE87.trans' hF.base) (hm85'.ext hF.base) (row_slice (xs := [0, 0]) hF g)
  · refine (Fam.empty w82).mkRow 0 fun b F w197 o hF g => ?_
    refine c47 fun w200 v198 hE200 hm198 => ?_
    have hm198' := hm198
    obtain ⟨_, _, rfl, ⟨A107, c109, _, rfl, _⟩, ⟨A110, c112, rfl, _⟩⟩ := hm198
    refine ⟨_, _, _, _, _, _, _, _, rfl, rfl, ?_⟩
    exact tail1 _ _ _ _ _ w200 (Ext.trans' hF.base hE200) hm198' ((row_slice (xs := [0, 0]) hF g).ext hE200)

theorem c3 {w : World} {m : Mach} {v wd : Value} {u : List Int} {R : Res} (hm : MachAt w m v) (hlim : m.Lim) (hu : SlI w wd u) (hul : u.length ≤ 17592186043904) (hR : ∀ w', Ext w w' → R (.bool true) [] w') : CallsI Try.prog 3 [v, wd] w [] R := by
  have hm0 := hm; have hu0 := hu
  obtain ⟨_, _, rfl, ⟨A, c, hs, rfl, hA, hl, hx⟩, ⟨B, d, rfl, hB⟩⟩ := hm
  obtain ⟨D, e, rfl, hD⟩ := hu
  refine s3 _ _ _ _ _ _ _ _ _ _ _ _ _ fun _ => condK_dec (fun _ => c15 fun w' hE => ⟨_, rfl, rfl, hR w' hE⟩) fun _ => ?_
  refine c16 hm0 hlim ⟨_, rfl, rfl, ?_⟩
  refine c17 hm0 hlim hu0 (by omega) ⟨_, rfl, rfl, ?_⟩
  refine c19 hm0 hlim fun w16 v14 hnew => ?_
  have hE16 := hnew.below
  have hat := hnew.at_
  have hat' := hat
  obtain ⟨_, _, rfl, ⟨A19, c21, _, rfl, _⟩, ⟨A22, c24, rfl, _⟩⟩ := hat
  refine ⟨_, _, _, _, _, _, _, _, rfl, rfl, ?_⟩
  refine c18 hat' hlim ⟨_, rfl, rfl, ?_⟩
  refine condK_beq (fun _ => ?_) fun h => absurd rfl h
  refine c19 (hm0.ext hE16) hlim fun w31 v29 hnew2 => ?_
  have hE31 := hnew2.below
  have hat2 := hnew2.at_
  have hat2' := hat2
  obtain ⟨_, _, rfl, ⟨A34, c36, _, rfl, _⟩, ⟨A37, c39, rfl, _⟩⟩ := hat2
  refine ⟨_, _, _, _, _, _, _, _, rfl, rfl, ?_⟩
  have hE : Ext w w31 := hE16.trans' hE31
  refine (Fam.empty w31).mkRowE 0 (xs := []) fun n40 F w41 hE41 ho hF hg => ?_
  have hg : GSl F 0 (some ⟨n40, 0, none⟩) 0 0 (ints []) := hg
  refine hg.append_ints hF ((hE.trans' hE41).row hD) rfl (by omega) fun F2 A42 c44 w45 ho2 hF2 hg2 => ?_
  have hE45 : Ext w31 w45 := hF2.base
  have hsl := hg2.sli hF2
  rw [List.nil_append] at hsl
  refine c20 (hat2'.ext hE45) hlim hsl (by omega) ⟨_, rfl, rfl, ?_⟩
  refine condK_beq (fun _ => ?_) fun h => absurd rfl h
  exact c15 fun w' hE' => ⟨_, rfl, rfl, hR w' ((hE.trans' hE45).trans' hE')⟩
end Go.Proofs.Ytnkpjlhbojjneaa.VC

/- What the arguments of a law read as: machines, words, lists of words, of truths and of pairs, and how great they are; and how a law that answers yes and keeps its arguments meets its row. -/
namespace Go.Proofs.Ytnkpjlhbojjneaa.VC
open Go Go.RowKit Go.ChangeShapes Go.WideShapes Go.Deep Go.Joins

section
variable {H : Type} {enc : TypeId × Value → H} {w : World}

theorem bulk_one (d : DataW H) : 1 ≤ Rows.uptoBulk d := by
  cases d with
  | lit l => cases l <;> simp [Rows.uptoBulk]
  | nil => simp [Rows.uptoBulk]
  | ptr d => simp [Rows.uptoBulk]
  | slice elems spare => simp [Rows.uptoBulk]
  | agg parts => simp [Rows.uptoBulk]
  | iface t d => simp [Rows.uptoBulk]
  | map entries => simp [Rows.uptoBulk]
  | held h => simp [Rows.uptoBulk]
theorem bulk_part {d : DataW H} {l : List (DataW H)} (h : d ∈ l) : Rows.uptoBulk d ≤ Rows.uptoBulkAll l := by
  induction l with
  | nil => cases h
  | cons x r ih =>
    simp only [Rows.uptoBulkAll]
    cases List.mem_cons.1 h with
    | inl e => subst e; omega
    | inr e => have := ih e; omega
theorem bulk_len (l : List (DataW H)) : l.length ≤ Rows.uptoBulkAll l := by
  induction l with
  | nil => simp [Rows.uptoBulkAll]
  | cons x r ih => have := bulk_one x; simp only [Rows.uptoBulkAll, List.length_cons]; omega
theorem bulk_slice (a b : List (DataW H)) : a.length ≤ Rows.uptoBulk (.slice a b) := by
  have := bulk_len a; simp only [Rows.uptoBulk]; omega
theorem bulk_elem {d : DataW H} {a b : List (DataW H)} (h : d ∈ a) : Rows.uptoBulk d ≤ Rows.uptoBulk (.slice a b) := by
  have := bulk_part h; simp only [Rows.uptoBulk]; omega
theorem bulk_agg {d : DataW H} {a : List (DataW H)} (h : d ∈ a) : Rows.uptoBulk d ≤ Rows.uptoBulk (.agg a) := by
  have := bulk_part h; simp only [Rows.uptoBulk]; omega
theorem le_big {a b c : Nat} (h : a ≤ b) (k : b ≤ c) : a ≤ c := Nat.le_trans h k
theorem bulk_top {d : DataW H} {l : List (DataW H)} (hk : Rows.uptoSmall H l = true) (h : d ∈ l) : Rows.uptoBulk d ≤ 1048576 := by
  have h1 : Rows.uptoBulkAll l ≤ 1048576 := of_decide_eq_true hk
  exact Nat.le_trans (bulk_part h) h1

theorem cof3 : Try.prog.cellsOf 3 = 1 := by kernel_rfl
theorem cof4 : Try.prog.cellsOf 4 = 1 := by kernel_rfl
theorem cof25 : Try.prog.cellsOf 25 = 4 := by kernel_rfl
theorem cof26 : Try.prog.cellsOf 26 = 1 := by kernel_rfl
theorem cof50 : Try.prog.cellsOf 50 = 2 := by kernel_rfl

noncomputable abbrev Rd (enc : TypeId × Value → H) (w : World) (n : Nat) (t : TypeId) (cs : List Value) := DataW.trod enc Try.prog w 0 (fun _ => true) true n t cs

theorem rd_ints {n : Nat} {v : Value} {y : DataW H × List MemPlace} (h : Rd enc w n 26 [v] = some y) : ∃ xs : List Int, SlI w v xs ∧ xs.length ≤ Rows.uptoBulk y.1 := by
  rcases open_ints Try.underlying26 Try.underlying3 cof3 h with ⟨hcs, rfl⟩ | ⟨a, len, cap, zs, hcs, _, hl, _, hz, rfl, hcell, _⟩
  · simp only [List.cons.injEq, and_true] at hcs; subst hcs
    exact ⟨[], ⟨none, 0, rfl, fun h => by simp [ints] at h⟩, Nat.zero_le _⟩
  · simp only [List.cons.injEq, and_true] at hcs; subst hcs
    simp only [if_true] at hz
    have e : (zs.take len).length = len := by rw [List.length_take]; omega
    refine ⟨zs.take len, ⟨some a, cap, by rw [e], fun _ => ⟨a, rfl, fun j u hj => ?_⟩⟩, ?_⟩
    · simp only [ints, List.getElem?_map, Option.map_eq_some_iff] at hj
      obtain ⟨x, hx, rfl⟩ := hj
      have hlt := (List.getElem?_eq_some_iff.1 hx).1
      rw [hcell j (by omega)]
      rw [List.getElem?_take_of_lt (by omega)] at hx
      rw [List.getD_eq_getElem?_getD, hx]; rfl
    · have := bulk_slice (H := H) (lits .i64 (zs.take len)) (lits .i64 (zs.drop len))
      simpa [lits] using this
theorem range_get {α : Type} {n j : Nat} {f : Nat → α} {x : α} (h : ((List.range n).map f)[j]? = some x) : j < n ∧ x = f j := by
  rw [List.getElem?_map, Option.map_eq_some_iff] at h
  obtain ⟨i, hi, rfl⟩ := h
  obtain ⟨h1, h2⟩ := List.getElem?_eq_some_iff.1 hi
  simp only [List.length_range] at h1; simp only [List.getElem_range] at h2
  subst h2; exact ⟨h1, rfl⟩
theorem rd_bools {n : Nat} {v : Value} {y : DataW H × List MemPlace} (h : Rd enc w n 23 [v] = some y) : ∃ xs : List Bool, SlB w v xs ∧ xs.length ≤ Rows.uptoBulk y.1 := by
  rcases open_bools Try.underlying23 Try.underlying4 cof4 h with ⟨hcs, rfl⟩ | ⟨a, len, cap, B, hcs, _, hl, _, rfl, hcell⟩
  · simp only [List.cons.injEq, and_true] at hcs; subst hcs
    exact ⟨[], ⟨none, 0, rfl, fun h => by simp [bools] at h⟩, Nat.zero_le _⟩
  · simp only [List.cons.injEq, and_true] at hcs; subst hcs
    refine ⟨(List.range len).map B, ⟨some a, cap, by simp, fun _ => ⟨a, rfl, fun j u hj => ?_⟩⟩, ?_⟩
    · simp only [bools, List.map_map] at hj
      obtain ⟨h1, rfl⟩ := range_get hj
      rw [hcell j (by omega)]; rfl
    · have := bulk_slice (H := H) ((List.range len).map fun i => .lit (.bool (B i))) ((List.range (cap - len)).map fun j => .lit (.bool (B (len + j))))
      simpa [boolRow] using this
theorem rd_rows {n : Nat} {v : Value} {y : DataW H × List MemPlace} (h : Rd enc w n 22 [v] = some y) :
    ∃ xss : List (List Int), SlII w v xss ∧ xss.length ≤ Rows.uptoBulk y.1 ∧ ∀ xs ∈ xss, xs.length ≤ Rows.uptoBulk y.1 := by
  rcases open_int_rows Try.underlying22 Try.underlying26 Try.underlying3 cof26 cof3 h with ⟨hcs, rfl⟩ | ⟨a, len, cap, A, L, C, Z, hcs, _, hl, _, rfl, hx⟩
  · simp only [List.cons.injEq, and_true] at hcs; subst hcs
    exact ⟨[], ⟨none, 0, [], rfl, fun h => absurd rfl h, rfl, fun i h xs hi _ => by simp at hi⟩, Nat.zero_le _, fun _ h => by cases h⟩
  · simp only [List.cons.injEq, and_true] at hcs; subst hcs
    refine ⟨(List.range len).map fun r => (Z r).take (L r), ⟨some a, cap, (List.range len).map fun r => .slice (A r) (L r) (C r), by simp, fun _ => ⟨a, rfl, fun j u hj => ?_⟩, by simp, fun i h xs hi hxs => ?_⟩, ?_, fun xs hxs => ?_⟩
    · obtain ⟨h1, rfl⟩ := range_get hj
      exact (hx j (by omega)).1
    · obtain ⟨h1, rfl⟩ := range_get hi
      obtain ⟨_, rfl⟩ := range_get hxs
      obtain ⟨_, hLC, _, hZ, _, hnil, hA⟩ := hx i (by omega)
      have e : ((Z i).take (L i)).length = L i := by rw [List.length_take]; omega
      refine ⟨A i, C i, by rw [e], fun hne => ?_⟩
      have hL : L i ≠ 0 := fun h0 => hne (by simp [ints, h0])
      cases hAi : A i with
      | none => have := hnil hAi; omega
      | some a' =>
        refine ⟨a', rfl, fun j u hj => ?_⟩
        simp only [ints, List.getElem?_map, Option.map_eq_some_iff] at hj
        obtain ⟨x, hx', rfl⟩ := hj
        have hlt := (List.getElem?_eq_some_iff.1 hx').1
        rw [(hA a' hAi).2 j (by omega)]
        rw [List.getElem?_take_of_lt (by omega)] at hx'
        rw [List.getD_eq_getElem?_getD, hx']; rfl
    · have := bulk_slice (H := H) ((List.range len).map fun r => intRow .i64 (A r) (L r) (Z r)) ((List.range (cap - len)).map fun j => intRow .i64 (A (len + j)) (L (len + j)) (Z (len + j)))
      simpa using this
    · obtain ⟨r, hr, rfl⟩ := List.mem_map.1 hxs
      have hrl : r < len := by simpa using hr
      obtain ⟨_, hLC, _, hZ, _, hnil, hA⟩ := hx r (by omega)
      have h1 : ((Z r).take (L r)).length ≤ Rows.uptoBulk (intRow (H := H) .i64 (A r) (L r) (Z r)) := by
        cases hAi : A r with
        | none => have := hnil hAi; rw [List.length_take]; omega
        | some a' =>
          have := bulk_slice (H := H) (lits .i64 ((Z r).take (L r))) (lits .i64 ((Z r).drop (L r)))
          simpa [intRow, lits] using this
      exact Nat.le_trans h1 (bulk_elem (List.mem_map.2 ⟨r, hr, rfl⟩))

set_option maxRecDepth 100000 in
theorem rd_mach {r : Reach} {b : Nat} {v : Value} {d : DataW H} {p : List MemPlace} (hv : Value.okWide Try.prog w r b 25 v) (h : DataW.Trod enc Try.prog w 0 (fun _ => true) true 25 v d p) (hb : Rows.uptoBulk d ≤ 1048576) :
    ∃ m, MachAt w m v ∧ m.Lim := by
  obtain ⟨v0, v1, v2, v3, y0, y1, y2, y3, n, rfl, rfl, _, h0, h1, h2, h3⟩ := open_agg4 Try.underlying25 (by kernel_rfl) cof25 hv h
  obtain ⟨a, e0, _, _⟩ := DataW.trod_int Try.underlying3 h0
  obtain ⟨s, e1, _, _⟩ := DataW.trod_int Try.underlying3 h1
  simp only [List.cons.injEq, and_true] at e0 e1; subst e0 e1
  obtain ⟨xss, hx, hxl, hxr⟩ := rd_rows h2
  obtain ⟨bs, hbs, hbl⟩ := rd_bools h3
  have k2 : Rows.uptoBulk y2.1 ≤ 1048576 := le_big (bulk_agg (by simp)) hb
  have k3 : Rows.uptoBulk y3.1 ≤ 1048576 := le_big (bulk_agg (by simp)) hb
  exact ⟨⟨a, s, xss, bs⟩, ⟨v2, v3, rfl, hx, hbs⟩, ⟨by have := le_big hxl k2; show xss.length ≤ _; omega, by have := le_big hbl k3; show bs.length ≤ _; omega, fun row hrow => by have := le_big (hxr row hrow) k2; omega⟩⟩

set_option maxRecDepth 100000 in
theorem trod_slice_n {t e : TypeId} {r : Reach} {b : Nat} {v : Value} {d : DataW H} {p : List MemPlace} (ht : Try.prog.underlying t = some (.slice e)) (hv : Value.okWide Try.prog w r b t v)
    (h : DataW.Trod enc Try.prog w 0 (fun _ => true) true t v d p) : ∃ n, Rd enc w n t [v] = some (d, p) := by
  obtain ⟨a0, len, cap, rfl⟩ := okWide_slice ht hv
  exact h
set_option maxRecDepth 100000 in
theorem rd_word {r : Reach} {b : Nat} {v : Value} {d : DataW H} {p : List MemPlace} (hv : Value.okWide Try.prog w r b 26 v) (h : DataW.Trod enc Try.prog w 0 (fun _ => true) true 26 v d p) (hb : Rows.uptoBulk d ≤ 1048576) :
    ∃ u, SlI w v u ∧ u.length ≤ 1048576 := by
  obtain ⟨n, hn⟩ := trod_slice_n Try.underlying26 hv h
  obtain ⟨xs, h1, h2⟩ := rd_ints hn
  exact ⟨xs, h1, le_big h2 hb⟩
set_option maxRecDepth 100000 in
theorem rd_truths {r : Reach} {b : Nat} {v : Value} {d : DataW H} {p : List MemPlace} (hv : Value.okWide Try.prog w r b 23 v) (h : DataW.Trod enc Try.prog w 0 (fun _ => true) true 23 v d p) (hb : Rows.uptoBulk d ≤ 1048576) :
    ∃ u, SlB w v u ∧ u.length ≤ 1048576 := by
  obtain ⟨n, hn⟩ := trod_slice_n Try.underlying23 hv h
  obtain ⟨xs, h1, h2⟩ := rd_bools hn
  exact ⟨xs, h1, le_big h2 hb⟩
set_option maxRecDepth 100000 in
theorem rd_words {r : Reach} {b : Nat} {v : Value} {d : DataW H} {p : List MemPlace} (hv : Value.okWide Try.prog w r b 22 v) (h : DataW.Trod enc Try.prog w 0 (fun _ => true) true 22 v d p) (hb : Rows.uptoBulk d ≤ 1048576) :
    ∃ us, SlII w v us ∧ us.length ≤ 1048576 ∧ ∀ u ∈ us, u.length ≤ 1048576 := by
  obtain ⟨n, hn⟩ := trod_slice_n Try.underlying22 hv h
  obtain ⟨xs, h1, h2, h3⟩ := rd_rows hn
  exact ⟨xs, h1, le_big h2 hb, fun u hu => le_big (h3 u hu) hb⟩

/-- an argument reads as it did -/
theorem stays {t : TypeId} {W W' : World} {sp : Nat → Bool} {v : Value} {d : DataW H} {ps : List MemPlace} (hl : laidOutB Try.prog = true) (hr : Try.prog.readableRec t = true) (hrow : t < Try.prog.types.size)
    (h : DataW.Trod enc Try.prog W 0 (fun _ => true) true t v d ps) (hb : Ext W W') (hlt : ∀ x ∈ ps, x.block < W.heap.size) (hs : ∀ x ∈ ps, sp x.block = true) : DataW.Trod enc Try.prog W' 0 sp true t v d ps :=
  WideElems.Trod_stays hl hr hrow h (fun x hx => hb.same (hlt x hx)) hs
theorem laidOut : laidOutB Try.prog = true := by kernel_rfl

set_option maxRecDepth 100000 in
/-- The law answers yes; the memory that was there is as it was. -/
theorem post_yes {f : Func} {s : ChangeSpec} {apart fresh handsOn again : Bool} {W W' : World} {args : Array Value} {ds gs : List (DataW H)} {before : List MemPlace}
    (hW : DataW.Whole enc Try.prog f.params.toList s.vars apart W args.toList ds gs before) (hv : s.vars = []) (hgs : gs = []) (hrt : f.resultTypes = #[4])
    (hfn : s.fn H (ds ++ gs) = { results := [.lit (.bool true)], args := ds })
    (hE : Ext W W') (hargs : ∀ sp : Nat → Bool, (∀ p ∈ before, sp p.block = true) → DataW.TrodAll enc Try.prog W' 0 sp true f.params.toList args.toList ds before) :
    s.post enc Try.prog f apart fresh handsOn again W args (.bool true) W' := by
  subst hgs
  have hold : ∀ p ∈ before, (fun b => decide (b < W.heap.size)) p.block = true := fun p hp => by simpa using hW.lt p hp
  have hltp : ∀ p ∈ before, p.block < W.heap.size := fun p hp => hW.lt p hp
  have hres : ∀ (b : Nat) (sp : Nat → Bool) (hd : Bool), DataW.TrodAll enc Try.prog W' b sp hd f.resultTypes.toList ((Value.bool true).resultList f.resultTypes.size) (s.fn H (ds ++ [])).results [] := fun b sp hd => by
    rw [hfn, hrt]; exact trodAll_cons_mk (shut_bool Try.underlying4 _) trodAll_mk0
  have hvars : ∀ sp : Nat → Bool, DataW.TrodVars enc Try.prog W' sp s.vars (s.fn H (ds ++ [])).vars [] := fun sp => by
    rw [hfn, hv]; exact rfl
  have ha : ∀ sp : Nat → Bool, (∀ p ∈ before, sp p.block = true) → DataW.TrodAll enc Try.prog W' 0 sp true f.params.toList args.toList (s.fn H (ds ++ [])).args before := fun sp h => by
    rw [hfn]; exact hargs sp h
  have hok : ∀ (j : Nat) (t : TypeId) (r : Value), f.resultTypes[j]? = some t → ((Value.bool true).resultList f.resultTypes.size)[j]? = some r → Value.okWide Try.prog W' .any 0 t r :=
    ok_one hrt rfl (okWide_bool_mk Try.underlying4 _)
  refine ⟨ds, [], before, [], before, [], hW, hres _ _ _, ha _ hold, hvars _, hE.frame _, fun _ => ?_⟩
  obtain ⟨_, _, _, _, _, hz, hn⟩ := hW
  refine ⟨hok, _, _, ([] ++ before) ++ [], ⟨[] ++ before, [], trodAll_append (ha _ (fun _ _ => rfl)) (hres _ _ _), hvars _, rfl, ?_, ?_⟩, ?_⟩
  · intro b off hp
    have hp' : MemPlace.cell b off ∈ before := by simpa using hp
    rw [hE.frozen (hltp _ hp')]
    exact hz b off hp'
  · intro ha
    simpa using hn ha
  · intro p hp _
    simpa using hp

/-- A law's contract, as a call in the row's own world. -/
theorem calls_of {f : FuncId} {args : List Value} {W : World} (h : ∀ R : Res, (∀ w', Ext W w' → R (.bool true) [] w') → CallsI Try.prog f args W [] R) :
    Calls Try.prog f args.toArray W fun e W' => e = .returned (.bool true) ∧ Ext W W' := by
  classical
  have hF : Rel (((List.range W.heap.size).filter fun k => decide (W.heap[k]? = some hid)).map fun k => (k, hid)) W W := by
    refine ⟨rfl, rfl, rfl, Nat.le_refl _, fun _ _ h _ => h, fun b o hb => ?_, fun b o hb o' ho' => ?_, ?_⟩
    · obtain ⟨k, hk, e⟩ := List.mem_map.1 hb
      cases e
      simpa using (List.mem_filter.1 hk).2
    · obtain ⟨k, hk, e⟩ := List.mem_map.1 hb
      cases e
      have h1 : W.heap[b]? = some hid := by simpa using (List.mem_filter.1 hk).2
      rw [h1] at ho'; cases ho'; rfl
    · rw [List.map_map]
      have e : (Prod.fst ∘ fun k => ((k, hid) : Nat × Obj)) = id := rfl
      rw [e, List.map_id]
      exact List.nodup_range.sublist List.filter_sublist
  refine (h (fun v css w' => v = .bool true ∧ Ext W w') (fun w' hw => ⟨rfl, hw⟩) _ W hF).mono fun e W' ⟨v, css, w', he, hl, hrel, hv, hE⟩ => ?_
  subst hv
  have hcss : css = [] := List.eq_nil_of_length_eq_zero hl
  subst hcss
  refine ⟨he, hrel.os.trans hE.os, hrel.tape.trans hE.tape, hrel.output.trans hE.output, Nat.le_trans hE.size hrel.size, fun k hk => ?_⟩
  have hsome := Array.getElem?_eq_getElem hk
  by_cases hh : W.heap[k]? = some hid
  · rw [hh]
    exact hrel.loc k hid (List.mem_append_right _ (List.mem_map.2 ⟨k, List.mem_filter.2 ⟨by simpa using hk, by simpa using hh⟩, rfl⟩))
  · rw [hsome]
    rw [hsome] at hh
    exact hrel.vis k _ (by rw [hE.block k hk, hsome]) fun e => hh (by rw [e])
end
end Go.Proofs.Ytnkpjlhbojjneaa.VC

/- What the arguments of a law read as where nothing is asked of them but that each slice has room: machines, words, lists of words, of truths and of pairs. -/
namespace Go.Proofs.Ytnkpjlhbojjneaa.VC
open Go Go.RowKit Go.ChangeShapes Go.WideShapes Go.Deep Go.Joins

section
variable {H : Type} {enc : TypeId × Value → H} {w : World}

/-- each slice that is read has room -/
def Sz (t : TypeId) (d : DataW H) : Prop := ∀ n ∈ d.weights Try.prog t, n ≤ 140737488351232
theorem sz_cons {t : TypeId} {ts : List TypeId} {d : DataW H} {ds : List (DataW H)} (h : (DataW.weightsEach Try.prog (t :: ts) (d :: ds)).all (· ≤ reachBytes) = true) : Sz t d ∧ (DataW.weightsEach Try.prog ts ds).all (· ≤ reachBytes) = true := by
  rw [DataW.weightsEach, List.all_append, Bool.and_eq_true] at h
  refine ⟨fun n hn => ?_, h.2⟩
  have := List.all_eq_true.1 h.1 n hn
  have e : reachBytes = 140737488351232 := by decide
  rw [e] at this
  simpa using this
theorem weights_all {e : TypeId} {l : List (DataW H)} {n : Nat} {d : DataW H} (hd : d ∈ l) (hn : n ∈ d.weights Try.prog e) : n ∈ DataW.weightsAll Try.prog e l := by
  induction l with
  | nil => cases hd
  | cons x l ih =>
    rw [DataW.weightsAll, List.mem_append]
    rcases List.mem_cons.1 hd with rfl | hd
    · exact .inl hn
    · exact .inr (ih hd)
theorem sz_slice {t e : TypeId} {elems spare : List (DataW H)} (hu : Try.prog.underlying t = some (.slice e)) (h : Sz t (.slice elems spare)) : elems.length * Try.prog.bytesOf e ≤ 140737488351232 ∧ ∀ d ∈ elems, Sz e d := by
  have ew : (DataW.slice elems spare).weights Try.prog t = (elems.length + spare.length) * Try.prog.bytesOf e :: (DataW.weightsAll Try.prog e elems ++ DataW.weightsAll Try.prog e spare) := by
    simp only [DataW.weights, hu]
  unfold Sz at h
  rw [ew] at h
  refine ⟨Nat.le_trans (Nat.mul_le_mul_right _ (Nat.le_add_right ..)) (h _ (List.mem_cons_self ..)), fun d hd n hn => h n (List.mem_cons_of_mem _ (List.mem_append_left _ (weights_all hd hn)))⟩
theorem sz_mach {a b c d : DataW H} (h : Sz 25 (.agg [a, b, c, d])) : Sz 22 c ∧ Sz 23 d := by
  have ew : (DataW.agg [a, b, c, d]).weights Try.prog 25 = DataW.weightsEach Try.prog [3, 3, 22, 23] [a, b, c, d] := by
    simp only [DataW.weights, Try.underlying25]; rfl
  unfold Sz at h
  rw [ew] at h
  simp only [DataW.weightsEach, List.mem_append] at h
  exact ⟨fun n hn => h n (.inr (.inr (.inl hn))), fun n hn => h n (.inr (.inr (.inr (.inl hn))))⟩
theorem by3 : Try.prog.bytesOf 3 = 8 := by kernel_rfl
theorem by4 : Try.prog.bytesOf 4 = 1 := by kernel_rfl
theorem by26 : Try.prog.bytesOf 26 = 24 := by kernel_rfl
theorem by50 : Try.prog.bytesOf 50 = 16 := by kernel_rfl

theorem rz_ints {n : Nat} {v : Value} {y : DataW H × List MemPlace} (h : Rd enc w n 26 [v] = some y) (hz : Sz 26 y.1) : ∃ xs : List Int, SlI w v xs ∧ xs.length ≤ 17592186043904 := by
  rcases open_ints Try.underlying26 Try.underlying3 cof3 h with ⟨hcs, rfl⟩ | ⟨a, len, cap, zs, hcs, _, hl, _, hzl, rfl, hcell, _⟩
  · simp only [List.cons.injEq, and_true] at hcs; subst hcs
    exact ⟨[], ⟨none, 0, rfl, fun h => by simp [ints] at h⟩, Nat.zero_le _⟩
  · simp only [List.cons.injEq, and_true] at hcs; subst hcs
    simp only [if_true] at hzl
    have e : (zs.take len).length = len := by rw [List.length_take]; omega
    refine ⟨zs.take len, ⟨some a, cap, by rw [e], fun _ => ⟨a, rfl, fun j u hj => ?_⟩⟩, ?_⟩
    · simp only [ints, List.getElem?_map, Option.map_eq_some_iff] at hj
      obtain ⟨x, hx, rfl⟩ := hj
      have hlt := (List.getElem?_eq_some_iff.1 hx).1
      rw [hcell j (by omega)]
      rw [List.getElem?_take_of_lt (by omega)] at hx
      rw [List.getD_eq_getElem?_getD, hx]; rfl
    · have := (sz_slice Try.underlying26 hz).1
      rw [by3] at this
      have e2 : (lits (H := H) .i64 (zs.take len)).length = (zs.take len).length := by simp [lits]
      omega
theorem rz_bools {n : Nat} {v : Value} {y : DataW H × List MemPlace} (h : Rd enc w n 23 [v] = some y) (hz : Sz 23 y.1) : ∃ xs : List Bool, SlB w v xs ∧ xs.length ≤ 140737488351232 := by
  rcases open_bools Try.underlying23 Try.underlying4 cof4 h with ⟨hcs, rfl⟩ | ⟨a, len, cap, B, hcs, _, hl, _, rfl, hcell⟩
  · simp only [List.cons.injEq, and_true] at hcs; subst hcs
    exact ⟨[], ⟨none, 0, rfl, fun h => by simp [bools] at h⟩, Nat.zero_le _⟩
  · simp only [List.cons.injEq, and_true] at hcs; subst hcs
    refine ⟨(List.range len).map B, ⟨some a, cap, by simp, fun _ => ⟨a, rfl, fun j u hj => ?_⟩⟩, ?_⟩
    · simp only [bools, List.map_map] at hj
      obtain ⟨h1, rfl⟩ := range_get hj
      rw [hcell j (by omega)]; rfl
    · have := (sz_slice Try.underlying23 hz).1
      rw [by4] at this
      simpa using this
theorem rz_rows {n : Nat} {v : Value} {y : DataW H × List MemPlace} (h : Rd enc w n 22 [v] = some y) (hz : Sz 22 y.1) :
    ∃ xss : List (List Int), SlII w v xss ∧ xss.length ≤ 5864062014634 ∧ ∀ xs ∈ xss, xs.length ≤ 17592186043904 := by
  rcases open_int_rows Try.underlying22 Try.underlying26 Try.underlying3 cof26 cof3 h with ⟨hcs, rfl⟩ | ⟨a, len, cap, A, L, C, Z, hcs, _, hl, _, rfl, hx⟩
  · simp only [List.cons.injEq, and_true] at hcs; subst hcs
    exact ⟨[], ⟨none, 0, [], rfl, fun h => absurd rfl h, rfl, fun i h xs hi _ => by simp at hi⟩, Nat.zero_le _, fun _ h => by cases h⟩
  · simp only [List.cons.injEq, and_true] at hcs; subst hcs
    refine ⟨(List.range len).map fun r => (Z r).take (L r), ⟨some a, cap, (List.range len).map fun r => .slice (A r) (L r) (C r), by simp, fun _ => ⟨a, rfl, fun j u hj => ?_⟩, by simp, fun i h xs hi hxs => ?_⟩, ?_, fun xs hxs => ?_⟩
    · obtain ⟨h1, rfl⟩ := range_get hj
      exact (hx j (by omega)).1
    · obtain ⟨h1, rfl⟩ := range_get hi
      obtain ⟨_, rfl⟩ := range_get hxs
      obtain ⟨_, hLC, _, hZ, _, hnil, hA⟩ := hx i (by omega)
      have e : ((Z i).take (L i)).length = L i := by rw [List.length_take]; omega
      refine ⟨A i, C i, by rw [e], fun hne => ?_⟩
      have hL : L i ≠ 0 := fun h0 => hne (by simp [ints, h0])
      cases hAi : A i with
      | none => have := hnil hAi; omega
      | some a' =>
        refine ⟨a', rfl, fun j u hj => ?_⟩
        simp only [ints, List.getElem?_map, Option.map_eq_some_iff] at hj
        obtain ⟨x, hx', rfl⟩ := hj
        have hlt := (List.getElem?_eq_some_iff.1 hx').1
        rw [(hA a' hAi).2 j (by omega)]
        rw [List.getElem?_take_of_lt (by omega)] at hx'
        rw [List.getD_eq_getElem?_getD, hx']; rfl
    · have := (sz_slice Try.underlying22 hz).1
      rw [by26] at this
      simp only [List.length_map, List.length_range] at this ⊢
      omega
    · obtain ⟨r, hr, rfl⟩ := List.mem_map.1 hxs
      have hrl : r < len := by simpa using hr
      obtain ⟨_, hLC, _, hZ, _, hnil, hA⟩ := hx r (by omega)
      have h1 : Sz 26 (intRow (H := H) .i64 (A r) (L r) (Z r)) := (sz_slice Try.underlying22 hz).2 _ (List.mem_map.2 ⟨r, hr, rfl⟩)
      cases hAi : A r with
      | none => have := hnil hAi; rw [List.length_take]; omega
      | some a' =>
        rw [hAi] at h1
        have := (sz_slice Try.underlying26 (elems := lits .i64 ((Z r).take (L r))) (spare := lits .i64 ((Z r).drop (L r))) h1).1
        rw [by3] at this
        simp only [lits, List.length_map] at this
        omega
set_option maxRecDepth 100000 in
theorem rz_mach {r : Reach} {b : Nat} {v : Value} {d : DataW H} {p : List MemPlace} (hv : Value.okWide Try.prog w r b 25 v) (h : DataW.Trod enc Try.prog w 0 (fun _ => true) true 25 v d p) (hz : Sz 25 d) :
    ∃ m, MachAt w m v ∧ m.Lim := by
  obtain ⟨v0, v1, v2, v3, y0, y1, y2, y3, n, rfl, rfl, _, h0, h1, h2, h3⟩ := open_agg4 Try.underlying25 (by kernel_rfl) cof25 hv h
  obtain ⟨a, e0, _, _⟩ := DataW.trod_int Try.underlying3 h0
  obtain ⟨s, e1, _, _⟩ := DataW.trod_int Try.underlying3 h1
  simp only [List.cons.injEq, and_true] at e0 e1; subst e0 e1
  obtain ⟨z2, z3⟩ := sz_mach hz
  obtain ⟨xss, hx, hxl, hxr⟩ := rz_rows h2 z2
  obtain ⟨bs, hbs, hbl⟩ := rz_bools h3 z3
  exact ⟨⟨a, s, xss, bs⟩, ⟨v2, v3, rfl, hx, hbs⟩, ⟨hxl, hbl, hxr⟩⟩
set_option maxRecDepth 100000 in
theorem rz_word {r : Reach} {b : Nat} {v : Value} {d : DataW H} {p : List MemPlace} (hv : Value.okWide Try.prog w r b 26 v) (h : DataW.Trod enc Try.prog w 0 (fun _ => true) true 26 v d p) (hz : Sz 26 d) :
    ∃ u, SlI w v u ∧ u.length ≤ 17592186043904 := by
  obtain ⟨n, hn⟩ := trod_slice_n Try.underlying26 hv h
  exact rz_ints hn hz
set_option maxRecDepth 100000 in
theorem rz_truths {r : Reach} {b : Nat} {v : Value} {d : DataW H} {p : List MemPlace} (hv : Value.okWide Try.prog w r b 23 v) (h : DataW.Trod enc Try.prog w 0 (fun _ => true) true 23 v d p) (hz : Sz 23 d) :
    ∃ u, SlB w v u ∧ u.length ≤ 140737488351232 := by
  obtain ⟨n, hn⟩ := trod_slice_n Try.underlying23 hv h
  exact rz_bools hn hz
set_option maxRecDepth 100000 in
theorem rz_words {r : Reach} {b : Nat} {v : Value} {d : DataW H} {p : List MemPlace} (hv : Value.okWide Try.prog w r b 22 v) (h : DataW.Trod enc Try.prog w 0 (fun _ => true) true 22 v d p) (hz : Sz 22 d) :
    ∃ us, SlII w v us ∧ us.length ≤ 5864062014634 ∧ ∀ u ∈ us, u.length ≤ 17592186043904 := by
  obtain ⟨n, hn⟩ := trod_slice_n Try.underlying22 hv h
  exact rz_rows hn hz
end
end Go.Proofs.Ytnkpjlhbojjneaa.VC
