/- Rings, lassos and chains; the law of rings. -/
import Derived.Test.YtnkpjlhbojjneaaGh
import Derived.Test.YtnkpjlhbojjneaaGb
import Derived.Test.YtnkpjlhbojjneaaGi
import Derived.Test.YtnkpjlhbojjneaaGs
import Derived.Test.YtnkpjlhbojjneaaGq
/- Rings and lassos: machines of the words over some letters whose lengths are of a kind. -/
namespace Go.Proofs.Ytnkpjlhbojjneaa.VC
open Go Go.RowKit

/-- the letters that lead along -/
def RL (fr mn : Int) (u : List Int) : Bool := u.all fun x => decide (fr ≤ x) && decide (x < fr + mn)
theorem RL_cons {fr mn x : Int} {u : List Int} : RL fr mn (x :: u) = ((decide (fr ≤ x) && decide (x < fr + mn)) && RL fr mn u) := rfl
theorem RL_mem {fr mn : Int} {u : List Int} (h : RL fr mn u = true) : ∀ x ∈ u, fr ≤ x ∧ x < fr + mn := fun x hx => by
  have := List.all_eq_true.1 h x hx; simpa using this
theorem RL_append {fr mn : Int} {u v : List Int} : RL fr mn (u ++ v) = (RL fr mn u && RL fr mn v) := List.all_append ..
def ringRow (ls fr mn t : Int) : List Int := (List.range ls.toNat).map fun (k : Nat) => if fr ≤ k ∧ (k : Int) < fr + mn then t else -1
theorem ringRow_len {ls fr mn t : Int} (h : 0 ≤ ls) : ((ringRow ls fr mn t).length : Int) = ls := by unfold ringRow; rw [List.length_map, List.length_range]; omega
theorem ringRow_get {ls fr mn t x : Int} (h0 : 0 ≤ x) (h1 : x < ls) : (ringRow ls fr mn t)[x.toNat]? = some (if fr ≤ x ∧ x < fr + mn then t else -1) := by
  unfold ringRow
  rw [List.getElem?_map, List.getElem?_range (by omega), Option.map_some, show ((x.toNat : Nat) : Int) = x by omega]
/-- a row of states, at the end of which one comes back -/
def lasso (ls fr mn : Int) (N back : Nat) (e : Nat → Bool) : Mach :=
  ⟨ls, 0, (List.range N).map fun i => ringRow ls fr mn (if i + 1 = N then back else i + 1 : Nat), (List.range N).map e⟩
structure LassoOk (ls fr mn : Int) (N back : Nat) (e : Nat → Bool) : Prop where
  fr0 : 0 ≤ fr
  mn0 : 1 ≤ mn
  fit : fr + mn ≤ ls
  lt : back < N
  per : ∀ l, back ≤ l → e (l + (N - back)) = e l
section
variable {ls fr mn : Int} {N back : Nat} {e : Nat → Bool}
theorem lasso_len : (lasso ls fr mn N back e).next.length = N := by simp [lasso]
theorem lasso_get (_h : LassoOk ls fr mn N back e) {i : Nat} (hi : i < N) : (lasso ls fr mn N back e).next[i]? = some (ringRow ls fr mn (if i + 1 = N then back else i + 1 : Nat)) := by
  show ((List.range N).map _)[i]? = _
  rw [List.getElem?_map, List.getElem?_range hi]; rfl
theorem lasso_shaped (h : LassoOk ls fr mn N back e) : (lasso ls fr mn N back e).Shaped := by
  have hb := h.lt
  refine ⟨by have := h.fr0; have := h.mn0; have := h.fit; show 0 ≤ ls; omega, by simp [lasso], fun row hr => ?_, fun e => by rw [lasso_len] at e; omega, fun _ => by rw [lasso_len]; show (0 : Int) ≤ 0 ∧ (0 : Int) < N; omega⟩
  obtain ⟨i, hi, rfl⟩ := List.mem_map.1 hr
  have hi := List.mem_range.1 hi
  refine ⟨ringRow_len (by have := h.fr0; have := h.mn0; have := h.fit; omega), fun t ht => ?_⟩
  unfold ringRow at ht
  obtain ⟨k, _, rfl⟩ := List.mem_map.1 ht
  rw [lasso_len]
  split
  · split <;> omega
  · omega
theorem lasso_step (h : LassoOk ls fr mn N back e) {i : Nat} (hi : i < N) {x : Int} : (lasso ls fr mn N back e).step i x = if fr ≤ x ∧ x < fr + mn then ((if i + 1 = N then back else i + 1 : Nat) : Int) else -1 := by
  have h0 := h.fr0; have h1 := h.fit
  have hsh := lasso_shaped h
  by_cases hx : 0 ≤ x ∧ x < ls
  · refine Mach.step_in (row := ringRow ls fr mn (if i + 1 = N then back else i + 1 : Nat)) (by rw [Int.toNat_natCast]; exact lasso_get h hi) (by omega) hx.1 ?_
    exact ringRow_get hx.1 hx.2
  · rw [if_neg (by omega)]
    have := hsh.step_range (i : Int) x
    rcases ilt ((lasso ls fr mn N back e).step i x) 0 with hn | hn
    · omega
    · exact absurd (hsh.step_let hn).2 hx
theorem lasso_ends {i : Nat} (hi : i < N) : (lasso ls fr mn N back e).ends i = e i := by
  unfold Mach.ends
  show (decide (0 ≤ (i : Int)) && ((List.range N).map e).getD (i : Int).toNat false) = e i
  rw [Int.toNat_natCast, List.getD_eq_getElem?_getD, List.getElem?_map, List.getElem?_range hi]
  simp
theorem lasso_acc (h : LassoOk ls fr mn N back e) (u : List Int) : ∀ i : Nat, i < N → (lasso ls fr mn N back e).acc i u = (RL fr mn u && e (i + u.length)) := by
  induction u with
  | nil => intro i hi; rw [Mach.acc_nil, lasso_ends hi]; simp [RL]
  | cons x u ih =>
    intro i hi
    rw [Mach.acc_cons, lasso_step h hi, RL_cons]
    by_cases hx : fr ≤ x ∧ x < fr + mn
    · rw [if_pos hx, decide_eq_true hx.1, decide_eq_true hx.2]
      have hb := h.lt
      split
      · rename_i hN
        rw [ih back hb]
        have := h.per (back + u.length) (by omega)
        rw [List.length_cons, show i + (u.length + 1) = back + u.length + (N - back) by omega, this]; simp
      · rename_i hN
        rw [ih (i + 1) (by omega), List.length_cons, show i + (u.length + 1) = i + 1 + u.length by omega]; simp
    · rw [if_neg hx, Mach.acc_neg (by decide)]
      have : (decide (fr ≤ x) && decide (x < fr + mn)) = false := by
        rw [Bool.and_eq_false_iff, decide_eq_false_iff_not, decide_eq_false_iff_not]; omega
      rw [this]; rfl
theorem lasso_start (h : LassoOk ls fr mn N back e) (u : List Int) : (lasso ls fr mn N back e).acc (lasso ls fr mn N back e).start u = (RL fr mn u && e u.length) := by
  have := lasso_acc h u 0 (by have := h.lt; omega)
  rw [Nat.zero_add] at this; exact this
theorem RL_rep (h : LassoOk ls fr mn N back e) (k : Nat) : RL fr mn (List.replicate k fr) = true := by
  rw [RL, List.all_eq_true]
  intro x hx
  have := List.eq_of_mem_replicate hx
  have := h.mn0
  simp; omega
theorem lasso_canon (h : LassoOk ls fr mn N back e) (live : ∀ i, i < N → ∃ k, e (i + k) = true) (apart : ∀ i j, i < j → j < N → ∃ k, e (i + k) ≠ e (j + k)) : (lasso ls fr mn N back e).Canon := by
  have h0 := h.fr0; have h1 := h.mn0; have h2 := h.fit; have hb := h.lt
  have cast : ∀ s : Int, 0 ≤ s → s < (lasso ls fr mn N back e).next.length → ∃ i : Nat, i < N ∧ s = i := fun s a b => ⟨s.toNat, by rw [lasso_len] at b; omega, by omega⟩
  have hlet : (lasso ls fr mn N back e).Let fr := ⟨h0, show fr < ls by omega⟩
  have hstep : ∀ i : Nat, i + 1 < N → (lasso ls fr mn N back e).step i fr = ((i + 1 : Nat) : Int) := fun i hi => by
    rw [lasso_step h (by omega), if_pos ⟨by omega, by omega⟩, if_neg (by omega)]
  refine ⟨lasso_shaped h, Int.le_refl _, fun s a b => ?_, fun s t a b c d heq => ?_, ⟨fun t a b => ?_, fun i x t' hi hx hst t a b => ?_⟩⟩
  · obtain ⟨i, hi, rfl⟩ := cast s a b
    obtain ⟨k, hk⟩ := live i hi
    exact ⟨List.replicate k fr, by rw [lasso_acc h _ i hi, RL_rep h, List.length_replicate, hk]; rfl⟩
  · obtain ⟨i, hi, rfl⟩ := cast s a b
    obtain ⟨j, hj, rfl⟩ := cast t c d
    have key : ∀ k, e (i + k) = e (j + k) := fun k => by
      have := heq (List.replicate k fr)
      rw [lasso_acc h _ i hi, lasso_acc h _ j hj, RL_rep h, List.length_replicate] at this
      simpa using this
    rcases Nat.lt_trichotomy i j with hij | hij | hij
    · obtain ⟨k, hk⟩ := apart i j hij hj; exact absurd (key k) hk
    · rw [hij]
    · obtain ⟨k, hk⟩ := apart j i hij hi; exact absurd (key k).symm hk
  · rw [lasso_len] at b
    refine ⟨t - 1, fr, by omega, by omega, hlet, ?_⟩
    have := hstep (t - 1).toNat (by omega)
    rw [show (((t - 1).toNat : Nat) : Int) = t - 1 by omega] at this
    rw [this]; omega
  · have hpos : 0 ≤ (lasso ls fr mn N back e).step i x := by omega
    have hr := ((lasso_shaped h).step_let hpos).1
    obtain ⟨q, hq, rfl⟩ := cast i hr.1 hr.2
    rw [lasso_step h hq] at hst
    have hlt : t - 1 < q ∧ t - 1 + 1 < N := by
      split at hst
      · split at hst <;> omega
      · omega
    refine ⟨t - 1, fr, by omega, hlet, .inl (by omega), ?_⟩
    have := hstep (t - 1).toNat (by omega)
    rw [show (((t - 1).toNat : Nat) : Int) = t - 1 by omega] at this
    rw [this]; omega
/-- how many words of a length are accepted -/
theorem psum_range (lo hi : Int) (v : Int) (h0 : 0 ≤ lo) : ∀ n : Nat, psum (fun x => if lo ≤ (x : Int) ∧ (x : Int) < hi then v else 0) n = (if (n : Int) ≤ lo then 0 else (min (n : Int) (max hi lo) - lo)) * v := by
  intro n
  induction n with
  | zero => simp only [psum]; rw [if_pos (by omega), Int.zero_mul]
  | succ n ih =>
    simp only [psum]
    rw [ih]
    by_cases h : lo ≤ (n : Int) ∧ (n : Int) < hi
    · rw [if_pos h, if_neg (by omega : ¬ ((n + 1 : Nat) : Int) ≤ lo)]
      by_cases e : (n : Int) ≤ lo
      · rw [if_pos e, show min ((n + 1 : Nat) : Int) (max hi lo) - lo = 1 by omega]; omega
      · rw [if_neg e, show min ((n + 1 : Nat) : Int) (max hi lo) - lo = (min (n : Int) (max hi lo) - lo) + 1 by omega, Int.add_mul]; omega
    · rw [if_neg h, Int.add_zero]
      by_cases e : (n : Int) ≤ lo
      · rw [if_pos e]
        by_cases e2 : ((n + 1 : Nat) : Int) ≤ lo
        · rw [if_pos e2]
        · rw [if_neg e2, show min ((n + 1 : Nat) : Int) (max hi lo) - lo = 0 by omega]
      · rw [if_neg e, if_neg (by omega : ¬ ((n + 1 : Nat) : Int) ≤ lo), show min ((n + 1 : Nat) : Int) (max hi lo) = min (n : Int) (max hi lo) by omega]
theorem lasso_cw (h : LassoOk ls fr mn N back e) : ∀ (q i : Nat), i < N → cw (lasso ls fr mn N back e) q i = if e (i + q) = true then mn ^ q else 0 := by
  have h0 := h.fr0; have h1 := h.mn0; have h2 := h.fit; have hb := h.lt
  intro q
  induction q with
  | zero => intro i hi; simp only [cw]; rw [lasso_ends hi]; simp
  | succ q ih =>
    intro i hi
    simp only [cw]
    obtain ⟨j, hj, hje, hjs⟩ : ∃ j : Nat, j < N ∧ e (j + q) = e (i + (q + 1)) ∧ ∀ x : Int, (lasso ls fr mn N back e).step i x = if fr ≤ x ∧ x < fr + mn then (j : Int) else -1 := by
      by_cases hN : i + 1 = N
      · refine ⟨back, hb, ?_, fun x => by rw [lasso_step h hi, if_pos hN]⟩
        have := h.per (back + q) (by omega)
        rw [← this]; congr 1; omega
      · exact ⟨i + 1, by omega, by congr 1; omega, fun x => by rw [lasso_step h hi, if_neg hN]⟩
    have e1 : psum (fun x => cw (lasso ls fr mn N back e) q ((lasso ls fr mn N back e).step i x)) (lasso ls fr mn N back e).letters.toNat = psum (fun x : Nat => if fr ≤ (x : Int) ∧ (x : Int) < fr + mn then (if e (i + (q + 1)) = true then mn ^ q else 0) else 0) (lasso ls fr mn N back e).letters.toNat := psum_ext _ fun x _ => by
      rw [hjs x]
      split
      · rw [ih j hj, hje]
      · exact cw_neg _ (by decide)
    rw [e1, psum_range fr (fr + mn) _ h0]
    show (if ((ls.toNat : Nat) : Int) ≤ fr then 0 else min ((ls.toNat : Nat) : Int) (max (fr + mn) fr) - fr) * _ = _
    rw [if_neg (by omega), show min ((ls.toNat : Nat) : Int) (max (fr + mn) fr) - fr = mn by omega]
    split
    · rw [Int.pow_succ, Int.mul_comm]
    · rw [Int.mul_zero]
end
end Go.Proofs.Ytnkpjlhbojjneaa.VC

/- Which lasso is the least machine: rings, two rings side by side, sums of two numbers. -/
namespace Go.Proofs.Ytnkpjlhbojjneaa.VC
open Go Go.RowKit

theorem bez (a b : Nat) : ∃ x y : Int, (a : Int) * x + b * y = (Nat.gcd a b : Int) := by
  induction a, b using Nat.gcd.induction with
  | H0 n => exact ⟨0, 1, by simp⟩
  | H1 m n hm ih =>
    obtain ⟨x, y, h⟩ := ih
    refine ⟨y - (n / m : Nat) * x, x, ?_⟩
    rw [Nat.gcd_rec m n, ← h]
    have e : ((n % m : Nat) : Int) = n - m * (n / m : Nat) := by have := Nat.mod_add_div n m; omega
    rw [e, Int.mul_sub, Int.sub_mul, Int.mul_assoc]; omega

section
variable {ls fr mn : Int}
structure RingOk (ls fr mn : Int) : Prop where
  fr0 : 0 ≤ fr
  mn0 : 1 ≤ mn
  fit : fr + mn ≤ ls
def ringM (ls fr mn : Int) (N : Nat) : Mach := lasso ls fr mn N 0 fun l => decide (l % N = 0)
theorem ring_ok (h : RingOk ls fr mn) {N : Nat} (hN : 0 < N) : LassoOk ls fr mn N 0 fun l => decide (l % N = 0) :=
  ⟨h.fr0, h.mn0, h.fit, hN, fun l _ => by simp⟩
theorem ring_canon (h : RingOk ls fr mn) {N : Nat} (hN : 0 < N) : (ringM ls fr mn N).Canon := by
  refine lasso_canon (ring_ok h hN) (fun i hi => ⟨N - i, ?_⟩) fun i j hij hj => ⟨N - j, ?_⟩
  · rw [show i + (N - i) = N by omega]; simp
  · rw [show j + (N - j) = N by omega, show i + (N - j) = N - (j - i) by omega, Nat.mod_eq_of_lt (by omega), Nat.mod_self]
    intro h
    have : decide (N - (j - i) = 0) = false := decide_eq_false (by omega)
    rw [this] at h; simp at h
theorem ring_words (h : RingOk ls fr mn) {N : Nat} (hN : 0 < N) (u : List Int) : (ringM ls fr mn N).acc (ringM ls fr mn N).start u = (RL fr mn u && decide (u.length % N = 0)) := lasso_start (ring_ok h hN) u

/-- the lengths that one of two numbers divides -/
def ev (a b l : Nat) : Bool := decide (l % a = 0) || decide (l % b = 0)
def eitherN (a b : Nat) : Nat := if a % b = 0 then b else if b % a = 0 then a else a / Nat.gcd a b * b
def eitherM (ls fr mn : Int) (a b : Nat) : Mach := lasso ls fr mn (eitherN a b) 0 (ev a b)
theorem lcm_eq (a b : Nat) : a / Nat.gcd a b * b = Nat.lcm a b := by
  rw [Nat.div_mul_right_comm (Nat.gcd_dvd_left a b)]; rfl
theorem mod_dvd {a l : Nat} : l % a = 0 ↔ a ∣ l := (Nat.dvd_iff_mod_eq_zero ..).symm
theorem eitherN_pos {a b : Nat} (ha : 0 < a) (hb : 0 < b) : 0 < eitherN a b := by
  unfold eitherN
  split
  · exact hb
  · split
    · exact ha
    · rw [lcm_eq]; exact Nat.lcm_pos ha hb
theorem ev_per {a b : Nat} (l : Nat) : ev a b (l + eitherN a b) = ev a b l := by
  unfold ev eitherN
  split
  · rename_i h
    have hba := mod_dvd.1 h
    have e : ∀ l, (decide (l % a = 0) || decide (l % b = 0)) = decide (l % b = 0) := fun l => by
      by_cases h1 : l % a = 0
      · have := mod_dvd.2 (Nat.dvd_trans hba (mod_dvd.1 h1)); simp [this]
      · simp [h1]
    rw [e, e]; simp
  · split
    · rename_i h
      have hab := mod_dvd.1 h
      have e : ∀ l, (decide (l % a = 0) || decide (l % b = 0)) = decide (l % a = 0) := fun l => by
        by_cases h1 : l % b = 0
        · have := mod_dvd.2 (Nat.dvd_trans hab (mod_dvd.1 h1)); simp [this]
        · simp [h1]
      rw [e, e]; simp
    · rw [lcm_eq]
      have h1 : (l + Nat.lcm a b) % a = l % a := by
        obtain ⟨c, hc⟩ := Nat.dvd_lcm_left a b; rw [hc, Nat.add_mul_mod_self_left]
      have h2 : (l + Nat.lcm a b) % b = l % b := by
        obtain ⟨c, hc⟩ := Nat.dvd_lcm_right a b; rw [hc, Nat.add_mul_mod_self_left]
      rw [h1, h2]
theorem either_ok (h : RingOk ls fr mn) {a b : Nat} (ha : 0 < a) (hb : 0 < b) : LassoOk ls fr mn (eitherN a b) 0 (ev a b) :=
  ⟨h.fr0, h.mn0, h.fit, eitherN_pos ha hb, fun l _ => by rw [Nat.sub_zero]; exact ev_per l⟩
theorem ev_mul {a b : Nat} (k : Nat) : ∀ l, ev a b (l + eitherN a b * k) = ev a b l := by
  induction k with
  | zero => intro l; rfl
  | succ k ih => intro l; rw [Nat.mul_succ, ← Nat.add_assoc, ev_per, ih]
theorem ev_min {a b p : Nat} (h : ∀ l, ev a b (l + p) = ev a b l) : eitherN a b ∣ p := by
  have h0 : a ∣ p ∨ b ∣ p := by
    have := h 0
    rw [Nat.zero_add] at this
    have e0 : ev a b 0 = true := by simp [ev]
    rw [e0] at this
    unfold ev at this
    rw [Bool.or_eq_true, decide_eq_true_eq, decide_eq_true_eq, mod_dvd, mod_dvd] at this
    exact this
  have ha : a ∣ b + p ∨ b ∣ b + p := by
    have := h b
    have e0 : ev a b b = true := by simp [ev]
    rw [e0] at this
    unfold ev at this
    rw [Bool.or_eq_true, decide_eq_true_eq, decide_eq_true_eq, mod_dvd, mod_dvd] at this
    exact this
  have hb : a ∣ a + p ∨ b ∣ a + p := by
    have := h a
    have e0 : ev a b a = true := by simp [ev]
    rw [e0] at this
    unfold ev at this
    rw [Bool.or_eq_true, decide_eq_true_eq, decide_eq_true_eq, mod_dvd, mod_dvd] at this
    exact this
  unfold eitherN
  split
  · rename_i h1
    have hba := mod_dvd.1 h1
    rcases h0 with h0 | h0
    · exact Nat.dvd_trans hba h0
    · exact h0
  · rename_i h1
    have hba : ¬ b ∣ a := fun e => h1 (mod_dvd.2 e)
    split
    · rename_i h2
      have hab := mod_dvd.1 h2
      rcases h0 with h0 | h0
      · exact h0
      · exact Nat.dvd_trans hab h0
    · rename_i h2
      have hab : ¬ a ∣ b := fun e => h2 (mod_dvd.2 e)
      rw [lcm_eq]
      refine Nat.lcm_dvd ?_ ?_
      · rcases h0 with h0 | h0
        · exact h0
        · rcases hb with hb | hb
          · exact (Nat.dvd_add_right (Nat.dvd_refl a)).1 hb
          · exact absurd ((Nat.dvd_add_left h0).1 hb) hba
      · rcases h0 with h0 | h0
        · rcases ha with ha | ha
          · exact absurd ((Nat.dvd_add_left h0).1 ha) hab
          · exact (Nat.dvd_add_right (Nat.dvd_refl b)).1 ha
        · exact h0
theorem either_canon (h : RingOk ls fr mn) {a b : Nat} (ha : 0 < a) (hb : 0 < b) : (eitherM ls fr mn a b).Canon := by
  have hN := eitherN_pos ha hb
  refine lasso_canon (either_ok h ha hb) (fun i hi => ⟨eitherN a b - i, ?_⟩) fun i j hij hj => ?_
  · rw [show i + (eitherN a b - i) = 0 + eitherN a b by omega, ev_per]; simp [ev]
  · apply Classical.byContradiction
    intro hno
    have hk : ∀ k, ev a b (i + k) = ev a b (j + k) := fun k => Classical.byContradiction fun hc => hno ⟨k, hc⟩
    have hp : ∀ l, ev a b (l + (j - i)) = ev a b l := fun l => by
      have := hk (l + eitherN a b * (i + 1) - i)
      have hge : i ≤ eitherN a b * (i + 1) := Nat.le_trans (by omega) (Nat.le_mul_of_pos_left (i + 1) hN)
      rw [show i + (l + eitherN a b * (i + 1) - i) = l + eitherN a b * (i + 1) by omega, show j + (l + eitherN a b * (i + 1) - i) = l + (j - i) + eitherN a b * (i + 1) by omega, ev_mul, ev_mul] at this
      exact this.symm
    have := Nat.le_of_dvd (by omega) (ev_min hp)
    omega
theorem either_words (h : RingOk ls fr mn) {a b : Nat} (ha : 0 < a) (hb : 0 < b) (u : List Int) : (eitherM ls fr mn a b).acc (eitherM ls fr mn a b).start u = (RL fr mn u && ev a b u.length) := lasso_start (either_ok h ha hb) u

/-! sums of two numbers -/
open Classical in
noncomputable def rep2 (a b l : Nat) : Bool := decide (∃ i j, l = a * i + b * j)
open Classical in
theorem rep2_true {a b l : Nat} : rep2 a b l = true ↔ ∃ i j, l = a * i + b * j := by unfold rep2; exact decide_eq_true_iff
theorem rep2_gcd {a b l : Nat} (h : rep2 a b l = true) : Nat.gcd a b ∣ l := by
  obtain ⟨i, j, rfl⟩ := rep2_true.1 h
  exact Nat.dvd_add (Nat.dvd_mul_right_of_dvd (Nat.gcd_dvd_left a b) i) (Nat.dvd_mul_right_of_dvd (Nat.gcd_dvd_right a b) j)
theorem rep2_step {a b l : Nat} : rep2 a b l = true ↔ l = 0 ∨ (a ≤ l ∧ rep2 a b (l - a) = true) ∨ (b ≤ l ∧ rep2 a b (l - b) = true) := by
  constructor
  · intro h
    obtain ⟨i, j, rfl⟩ := rep2_true.1 h
    cases i with
    | succ i =>
      right; left
      rw [Nat.mul_succ]
      exact ⟨by omega, rep2_true.2 ⟨i, j, by omega⟩⟩
    | zero =>
      cases j with
      | zero => left; simp
      | succ j =>
        right; right
        rw [Nat.mul_succ]
        exact ⟨by omega, rep2_true.2 ⟨0, j, by omega⟩⟩
  · rintro (rfl | ⟨h1, h⟩ | ⟨h1, h⟩)
    · exact rep2_true.2 ⟨0, 0, by simp⟩
    · obtain ⟨i, j, e⟩ := rep2_true.1 h
      exact rep2_true.2 ⟨i + 1, j, by rw [Nat.mul_succ]; omega⟩
    · obtain ⟨i, j, e⟩ := rep2_true.1 h
      exact rep2_true.2 ⟨i, j + 1, by rw [Nat.mul_succ]; omega⟩
theorem rep2_big {a b l : Nat} (hb : 0 < b) (hl : a * b ≤ l) (hg : Nat.gcd a b ∣ l) : rep2 a b l = true := by
  obtain ⟨c, rfl⟩ := hg
  obtain ⟨x, y, h⟩ := bez a b
  have hi0 : 0 ≤ (x * c) % (b : Int) := Int.emod_nonneg _ (by omega)
  have hi1 : (x * c) % (b : Int) < b := Int.emod_lt_of_pos _ (by omega)
  obtain ⟨i, hi⟩ : ∃ i : Nat, (i : Int) = (x * c) % (b : Int) := ⟨((x * c) % (b : Int)).toNat, by omega⟩
  have hd : (b : Int) ∣ (Nat.gcd a b * c : Nat) - a * i := by
    rw [hi]
    have e1 : ((Nat.gcd a b * c : Nat) : Int) = (a * x + b * y) * c := by rw [h]; push_cast; rfl
    rw [e1]
    have e2 : x * c = (b : Int) * (x * c / b) + (x * c) % b := (Int.mul_ediv_add_emod ..).symm
    refine ⟨a * (x * c / b) + y * c, ?_⟩
    have e3 : (a : Int) * (x * c) = a * (b * (x * c / b)) + a * ((x * c) % b) := by rw [← Int.mul_add, ← e2]
    rw [Int.add_mul, Int.mul_assoc, Int.mul_assoc, e3, Int.mul_add, ← Int.mul_assoc (b : Int) a, Int.mul_comm (b : Int) a, Int.mul_assoc (a : Int) b]
    omega
  have hle : (a : Int) * i ≤ (Nat.gcd a b * c : Nat) := by
    have : a * i ≤ a * b := Nat.mul_le_mul (Nat.le_refl a) (by omega)
    have := Nat.le_trans this hl
    exact_mod_cast this
  obtain ⟨q, hq⟩ := hd
  have hq0 : 0 ≤ q := by
    rcases ilt q 0 with hneg | h
    · have : (b : Int) * q ≤ b * (-1) := Int.mul_le_mul_of_nonneg_left (by omega) (by omega)
      omega
    · exact h
  refine rep2_true.2 ⟨i, q.toNat, ?_⟩
  have : ((Nat.gcd a b * c : Nat) : Int) = a * i + b * q := by omega
  have e : ((a * i + b * q.toNat : Nat) : Int) = a * i + b * q := by push_cast; rw [show ((q.toNat : Nat) : Int) = q by omega]
  exact_mod_cast this.trans e.symm
/-- from where on the sums come round -/
structure BeginOk (a b beg : Nat) : Prop where
  per : ∀ l, beg ≤ l → rep2 a b (l + Nat.gcd a b) = rep2 a b l
  first : beg = 0 ∨ rep2 a b (beg - 1) ≠ rep2 a b (beg - 1 + Nat.gcd a b)
noncomputable def summedM (ls fr mn : Int) (a b beg : Nat) : Mach := lasso ls fr mn (beg + Nat.gcd a b) beg (rep2 a b)
theorem summed_ok (h : RingOk ls fr mn) {a b beg : Nat} (ha : 0 < a) (hbeg : BeginOk a b beg) : LassoOk ls fr mn (beg + Nat.gcd a b) beg (rep2 a b) :=
  ⟨h.fr0, h.mn0, h.fit, by have := Nat.gcd_pos_of_pos_left b ha; omega, fun l hl => by rw [show beg + Nat.gcd a b - beg = Nat.gcd a b by omega]; exact hbeg.per l hl⟩
theorem summed_canon (h : RingOk ls fr mn) {a b beg : Nat} (ha : 0 < a) (hbeg : BeginOk a b beg) : (summedM ls fr mn a b beg).Canon := by
  have hg := Nat.gcd_pos_of_pos_left b ha
  have per : ∀ c l, beg ≤ l → rep2 a b (l + Nat.gcd a b * c) = rep2 a b l := by
    intro c
    induction c with
    | zero => intro l _; rfl
    | succ c ih => intro l hl; rw [Nat.mul_succ, ← Nat.add_assoc, hbeg.per _ (by omega), ih l hl]
  refine lasso_canon (summed_ok h ha hbeg) (fun i hi => ⟨a * i - i, ?_⟩) fun i j hij hj => ?_
  · have : i ≤ a * i := Nat.le_mul_of_pos_left i ha
    rw [show i + (a * i - i) = a * i by omega]
    exact rep2_true.2 ⟨i, 0, by simp⟩
  · apply Classical.byContradiction
    intro hno
    have hk : ∀ k, rep2 a b (i + k) = rep2 a b (j + k) := fun k => Classical.byContradiction fun hc => hno ⟨k, hc⟩
    have hp : ∀ l, i ≤ l → rep2 a b l = rep2 a b (l + (j - i)) := fun l hl => by
      have := hk (l - i)
      rw [show i + (l - i) = l by omega, show j + (l - i) = l + (j - i) by omega] at this
      exact this
    have hgp : Nat.gcd a b ∣ j - i := by
      have hi : i ≤ a * i := Nat.le_mul_of_pos_left i ha
      have h1 : rep2 a b (a * i) = true := rep2_true.2 ⟨i, 0, by simp⟩
      have h2 := hp (a * i) hi
      rw [h1] at h2
      exact (Nat.dvd_add_right (rep2_gcd h1)).1 (rep2_gcd h2.symm)
    have hle := Nat.le_of_dvd (by omega) hgp
    rcases hbeg.first with h0 | h0
    · omega
    · by_cases hib : beg ≤ i
      · omega
      · obtain ⟨c, hc⟩ := hgp
        apply h0
        have h1 := hp (beg - 1) (by omega)
        have hc1 : 1 ≤ c := by
          cases c with
          | zero => omega
          | succ c => omega
        have h2 := per (c - 1) (beg - 1 + Nat.gcd a b) (by omega)
        have e : Nat.gcd a b * c = Nat.gcd a b * (c - 1) + Nat.gcd a b := by
          rw [← Nat.mul_succ]; congr 1; omega
        rw [h1, hc, ← h2]; congr 1; omega
theorem summed_words (h : RingOk ls fr mn) {a b beg : Nat} (ha : 0 < a) (hbeg : BeginOk a b beg) (u : List Int) : (summedM ls fr mn a b beg).acc (summedM ls fr mn a b beg).start u = (RL fr mn u && rep2 a b u.length) := lasso_start (summed_ok h ha hbeg) u
/-- beyond the product all that the common divisor divides is a sum -/
theorem rep2_far {a b l : Nat} (hb : 0 < b) (hl : a * b ≤ l) : rep2 a b (l + Nat.gcd a b) = rep2 a b l := by
  have key : ∀ l, a * b ≤ l → (rep2 a b l = true ↔ Nat.gcd a b ∣ l) := fun l hl => ⟨rep2_gcd, rep2_big hb hl⟩
  have h1 := key l hl
  have h2 := key (l + Nat.gcd a b) (by omega)
  have h3 : Nat.gcd a b ∣ l + Nat.gcd a b ↔ Nat.gcd a b ∣ l := Nat.dvd_add_left (Nat.dvd_refl _)
  cases e1 : rep2 a b l <;> cases e2 : rep2 a b (l + Nat.gcd a b)
  · rfl
  · have := h1.2 (h3.1 (h2.1 e2)); rw [e1] at this; cases this
  · have := h2.2 (h3.2 (h1.1 e1)); rw [e2] at this; cases this
  · rfl
end
end Go.Proofs.Ytnkpjlhbojjneaa.VC

/- The conditions of functions, printed by wip/tools/gen.py. -/
namespace Go.Proofs.Ytnkpjlhbojjneaa.VC
open Go Go.RowKit

def J41_2 (A19 : Option Addr) (n20 : Nat) (n21 : Nat) (n24 : Nat) (w25 : World) (I17 : Int → Option Addr → Nat → Nat → Lp) (x18 : Int) (n23 : Nat) : Prop := AppK 8 1 [Value.int IntKind.i64 0] 3 A19
    n20 n21 (some (Addr.mk n24 0 none)) 1 w25 fun (A26 : Option Addr) (n27 n28 : Nat) (w29 : World) => (I17 (IntKind.i64.wrap (x18 + 1)) A26 n27 n28).1 w29 ∧ (I17 (IntKind.i64.wrap (x18 + 1)) A26 n27
    n28).m w29 < n23

def J41_4 (w22 : World) (A19 : Option Addr) (n20 : Nat) (n21 : Nat) (I17 : Int → Option Addr → Nat → Nat → Lp) (x18 : Int) (n23 : Nat) : Prop := NewK w22 (Obj.cells (Array.mk [Value.int IntKind.i64
    (-1)]) 3) fun (n30 : Nat) (w31 : World) => J41_2 A19 n20 n21 n30 w31 I17 x18 n23

set_option maxRecDepth 100000 in
theorem s41 (ls x fr mn : Int) (w : World) (R : Value → List (List Value) → World → Prop) (h :
    ∀ (_n1 _n2 : Nat), ∃ (I3 : Int → Int → Int → Option Addr → Nat → Nat → Option Addr → Nat → Nat → Lp), (I3 0 ls 0 none 0 0 none 0 0).1 w ∧ ∀ (x4 x5 x6 : Int) (A7 : Option Addr) (n8 n9 : Nat) (A10 :
        Option Addr) (n11 n12 : Nat) (w13 : World), (I3 x4 x5 x6 A7 n8 n9 A10 n11 n12).1 w13 → ∀ (n14 : Nat), (I3 x4 x5 x6 A7 n8 n9 A10 n11 n12).m w13 = n14 → condK (decide (x4 < x)) (NewK w13 (Obj.cells
        (Array.mk []) 3) fun (n15 : Nat) (w16 : World) => ∃ (I17 : Int → Option Addr → Nat → Nat → Lp), (I17 0 (some (Addr.mk n15 0 none)) 0 0).1 w16 ∧ ∀ (x18 : Int) (A19 : Option Addr) (n20 n21 : Nat) (w22 :
        World), (I17 x18 A19 n20 n21).1 w22 → ∀ (n23 : Nat), (I17 x18 A19 n20 n21).m w22 = n23 → condK (decide (x18 < ls)) (condK (decide (x18 ≥ fr)) (condK (decide (x18 < IntKind.i64.wrap (fr + mn))) (x ≠ 0
        ∧ NewK w22 (Obj.cells (Array.mk [Value.int IntKind.i64 ((IntKind.i64.wrap (x4 + 1)).tmod x)]) 3) fun (n24 : Nat) (w25 : World) => J41_2 A19 n20 n21 n24 w25 I17 x18 n23) (J41_4 w22 A19 n20 n21 I17 x18
        n23)) (J41_4 w22 A19 n20 n21 I17 x18 n23)) (NewK w22 (Obj.cells (Array.mk [Value.slice A19 n20 n21]) 26) fun (n42 : Nat) (w43 : World) => AppK 24 1 [Value.slice none 0 0] 26 A7 n8 n9 (some (Addr.mk
        n42 0 none)) 1 w43 fun (A44 : Option Addr) (n45 n46 : Nat) (w47 : World) => NewK w47 (Obj.cells (Array.mk [Value.bool (x4 == 0)]) 4) fun (n48 : Nat) (w49 : World) => AppK 1 1 [Value.bool false] 4 A10
        n11 n12 (some (Addr.mk n48 0 none)) 1 w49 fun (A50 : Option Addr) (n51 n52 : Nat) (w53 : World) => (I3 (IntKind.i64.wrap (x4 + 1)) x5 x6 A44 n45 n46 A50 n51 n52).1 w53 ∧ (I3 (IntKind.i64.wrap (x4 +
        1)) x5 x6 A44 n45 n46 A50 n51 n52).m w53 < n14)) (R (Value.agg (Array.mk [Value.int IntKind.i64 x5, Value.int IntKind.i64 x6, Value.slice A7 n8 n9, Value.slice A10 n11 n12])) [] w13)) :
    CallsI Try.prog 41 [(.int .i64 ls), (.int .i64 x), (.int .i64 fr), (.int .i64 mn)] w [] R :=
  vcFun_sound (H := ⟨[], [(0, [(10, .int .i64)], [(25, 1)]), (2, [(12, .int .i64), (11, .slice)], [])]⟩) (args := [.v (.int .i64 ls), .v (.int .i64 x), .v (.int .i64 fr), .v (.int .i64 mn)]) (L := []) goodP Try.func41 (by simp [okp]) (by rw [Try.ntmps41]; simp) (by simp [okp]) (Eq.mp (by kernel_rfl) h)

set_option maxRecDepth 100000 in
theorem s42 (x y : Int) (w : World) (R : Value → List (List Value) → World → Prop) (h :
    ∃ (I1 : Int → Int → Lp), (I1 x y).1 w ∧ ∀ (x2 x3 : Int) (w4 : World), (I1 x2 x3).1 w4 → ∀ (n5 : Nat), (I1 x2 x3).m w4 = n5 → x3 ≠ 0 ∧ condK (x2.tmod x3 != 0) (x3 ≠ 0 ∧ (I1 x3 (x2.tmod x3)).1 w4 ∧ (I1
        x3 (x2.tmod x3)).m w4 < n5) (R (Value.int IntKind.i64 x3) [] w4)) :
    CallsI Try.prog 42 [(.int .i64 x), (.int .i64 y)] w [] R :=
  vcFun_sound (H := ⟨[], [(0, [(0, .int .i64), (1, .int .i64)], [])]⟩) (args := [.v (.int .i64 x), .v (.int .i64 y)]) (L := []) goodP Try.func42 (by simp [okp]) (by rw [Try.ntmps42]; simp) (by simp [okp]) (Eq.mp (by kernel_rfl) h)

set_option maxRecDepth 100000 in
theorem s44 (x y : Int) (w : World) (R : Value → List (List Value) → World → Prop) (h :
    ∃ (I1 : Int → Int → Lp), (I1 0 1).1 w ∧ ∀ (x2 x3 : Int) (w4 : World), (I1 x2 x3).1 w4 → ∀ (n5 : Nat), (I1 x2 x3).m w4 = n5 → condK (decide (x2 < y)) ((I1 (IntKind.i64.wrap (x2 + 1)) (IntKind.u64.wrap
        (x3 * IntKind.u64.wrap x))).1 w4 ∧ (I1 (IntKind.i64.wrap (x2 + 1)) (IntKind.u64.wrap (x3 * IntKind.u64.wrap x))).m w4 < n5) (R (Value.int IntKind.u64 x3) [] w4)) :
    CallsI Try.prog 44 [(.int .i64 x), (.int .i64 y)] w [] R :=
  vcFun_sound (H := ⟨[], [(0, [(6, .int .i64), (5, .int .u64)], [])]⟩) (args := [.v (.int .i64 x), .v (.int .i64 y)]) (L := []) goodP Try.func44 (by simp [okp]) (by rw [Try.ntmps44]; simp) (by simp [okp]) (Eq.mp (by kernel_rfl) h)

end Go.Proofs.Ytnkpjlhbojjneaa.VC

/- Rings; the greatest common divisor; powers. -/
namespace Go.Proofs.Ytnkpjlhbojjneaa.VC
open Go Go.RowKit

theorem takeI_snoc {X : Type} {l : List X} {i : Int} {v : X} (h0 : 0 ≤ i) (h : l[i.toNat]? = some v) : l.take (i + 1).toNat = l.take i.toNat ++ [v] := by
  rw [show (i + 1).toNat = i.toNat + 1 by omega, List.take_add_one, h]; rfl
theorem takeI_len {X : Type} {l : List X} {i : Int} (h : i ≤ l.length) : (l.take i.toNat).length = i.toNat := by rw [List.length_take]; omega

set_option maxHeartbeats 1000000 in
theorem c41 {w : World} {ls fr mn : Int} {N : Nat} {R : Res} (h : RingOk ls fr mn) (hls : ls ≤ 1000000) (hN : 0 < N) (hN1 : N ≤ 1000000) (hR : ∀ w' v', MachNew w w' (ringM ls fr mn N) v' → R v' [] w') :
    CallsI Try.prog 41 [.int .i64 ls, .int .i64 (N : Int), .int .i64 fr, .int .i64 mn] w [] R := by
  have h0 := h.fr0; have h1 := h.mn0; have h2 := h.fit
  obtain ⟨M, hM⟩ : ∃ M, M = ringM ls fr mn N := ⟨_, rfl⟩
  have hnl : M.next.length = N := by rw [hM]; exact lasso_len
  have hfl : M.fin.length = N := by simp [hM, ringM, lasso]
  have hL : M.letters = ls := by rw [hM]; rfl
  have hS : M.start = 0 := by rw [hM]; rfl
  have hrow : ∀ i : Int, 0 ≤ i → i < N → M.next[i.toNat]? = some (ringRow ls fr mn (if i + 1 = N then 0 else i + 1)) := fun i i0 i1 => by
    rw [hM]
    have := lasso_get (ring_ok h hN) (i := i.toNat) (by omega)
    rw [ringM, this]
    congr 2
    by_cases e : i + 1 = N
    · rw [if_pos e, if_pos (by omega)]; rfl
    · rw [if_neg e, if_neg (by omega)]; omega
  have hend : ∀ i : Int, 0 ≤ i → i < N → M.fin[i.toNat]? = some (i == 0) := fun i i0 i1 => by
    rw [hM]
    show ((List.range N).map _)[i.toNat]? = _
    rw [List.getElem?_map, List.getElem?_range (by omega), Option.map_some]
    congr 1
    by_cases e : i = 0
    · subst e; simp
    · rw [beq_eq_false_iff_ne.2 e]
      refine decide_eq_false ?_
      rw [Nat.mod_eq_of_lt (by omega)]; omega
  rw [← hM] at hR
  clear hM
  refine s41 _ _ _ _ _ _ fun _ _ => ?_
  refine ⟨fun x4 x5 x6 A7 n8 n9 A10 n11 n12 => ⟨fun w' => ∃ F, Fam w w' F ∧ GII F 2 g10 A7 n8 n9 (M.next.take x4.toNat) ∧ GSl F 3 A10 n11 n12 (bools (M.fin.take x4.toNat)) ∧ x5 = ls ∧ x6 = 0 ∧ 0 ≤ x4 ∧ x4 ≤ N, fun _ => (N - x4).toNat⟩,
    ⟨_, Fam.empty w, GII.nil rfl, .nil rfl, rfl, rfl, by omega, by omega⟩, ?_⟩
  rintro x4 x5 x6 A7 n8 n9 A10 n11 n12 w13 ⟨F, hF, hrows, hfins, rfl, rfl, h40, h41⟩ n14 rfl
  refine condK_dec (fun hlt => ?_) fun hge => ?_
  · obtain ⟨row, hrw⟩ : ∃ row, row = ringRow x5 fr mn (if x4 + 1 = N then 0 else x4 + 1) := ⟨_, rfl⟩
    have hr := hrow x4 h40 hlt
    have hf := hend x4 h40 hlt
    rw [← hrw] at hr
    have hrl : (row.length : Int) = x5 := by rw [hrw]; exact ringRow_len (by omega)
    have hrg : ∀ y : Int, 0 ≤ y → y < x5 → row[y.toNat]? = some (if fr ≤ y ∧ y < fr + mn then (if x4 + 1 = N then 0 else x4 + 1) else -1) := fun y y0 y1 => by rw [hrw]; exact ringRow_get y0 y1
    have htm : (IntKind.i64.wrap (x4 + 1)).tmod (N : Int) = if x4 + 1 = N then 0 else x4 + 1 := by
      rw [wrap_id (by omega) (by omega), Int.tmod_eq_emod_of_nonneg (by omega)]
      split
      · rename_i e; rw [e]; exact Int.emod_self
      · exact Int.emod_eq_of_lt (by omega) (by omega)
    have htl := takeI_len (l := M.next) (i := x4) (by omega)
    have htf := takeI_len (l := M.fin) (i := x4) (by omega)
    have hne2 : ∀ j, j < 10 → j ≠ g10 x4.toNat := fun j hj => by unfold g10; omega
    refine hF.mkRow (g10 x4.toNat) fun n15 F1 w16 ho1 hF1 hr1 => ?_
    refine ⟨fun x18 A19 n20 n21 => ⟨fun w' => ∃ F, Fam w w' F ∧ GII F 2 g10 A7 n8 n9 (M.next.take x4.toNat) ∧ GSl F 3 A10 n11 n12 (bools (M.fin.take x4.toNat)) ∧ GSl F (g10 x4.toNat) A19 n20 n21 (ints (row.take x18.toNat)) ∧ 0 ≤ x18 ∧ x18 ≤ x5, fun _ => (x5 - x18).toNat⟩,
      ⟨F1, hF1, hrows.keep ho1 (hne2 2 (by decide)) (fun t ht => by rw [htl] at ht; unfold g10; omega), hfins.keep ho1 (hne2 3 (by decide)), hr1, by omega, by omega⟩, ?_⟩
    clear hF hrows hfins hF1 hr1 ho1 F1
    rintro x18 A19 n20 n21 w22 ⟨F, hF, hrows, hfins, hrr, h180, h181⟩ n23 rfl
    refine condK_dec (fun hltx => ?_) fun hgex => ?_
    · have hg := hrg x18 h180 hltx
      have push : ∀ t : Int, t = (if fr ≤ x18 ∧ x18 < fr + mn then (if x4 + 1 = N then 0 else x4 + 1) else -1) → NewK w22 (Obj.cells (Array.mk [Value.int IntKind.i64 t]) 3) fun n24 w25 => J41_2 A19 n20 n21 n24 w25 (fun x18 A19 n20 n21 => ⟨fun w' => ∃ F, Fam w w' F ∧ GII F 2 g10 A7 n8 n9 (M.next.take x4.toNat) ∧ GSl F 3 A10 n11 n12 (bools (M.fin.take x4.toNat)) ∧ GSl F (g10 x4.toNat) A19 n20 n21 (ints (row.take x18.toNat)) ∧ 0 ≤ x18 ∧ x18 ≤ x5, fun _ => (x5 - x18).toNat⟩) x18 (x5 - x18).toNat := by
        rintro t ht
        rw [← ht] at hg
        have hn20 : n20 = x18.toNat := by rw [hrr.len, ints_len, List.length_take]; omega
        refine hrr.push_int hF (by omega) fun F2 A2 c2 w2 ho2 hF2 hr2 => ?_
        rw [wrap_id (by omega) (by omega)]
        exact ⟨⟨F2, hF2, hrows.keep ho2 (hne2 2 (by decide)) (fun t ht => by rw [htl] at ht; unfold g10; omega), hfins.keep ho2 (hne2 3 (by decide)), by rw [takeI_snoc h180 hg]; exact hr2, by omega, by omega⟩, by simp only []; omega⟩
      refine condK_dec (fun ha => ?_) fun ha => ?_
      · rw [wrap_id (x := fr + mn) (by omega) (by omega)]
        refine condK_dec (fun hb => ?_) fun hb => ?_
        · exact ⟨by omega, push _ (by rw [if_pos ⟨ha, hb⟩]; exact htm)⟩
        · exact push _ (by rw [if_neg (fun h => hb h.2)])
      · exact push _ (by rw [if_neg (fun h => ha h.1)])
    · rw [List.take_of_length_le (by omega)] at hrr
      refine hrows.pushRow (by rw [htl]; exact hrr) hF (fun t => g10_ne (by decide)) (by rw [hrows.len]; omega) fun F2 A44 c44 w47 ho2 hF2 hrows2 => ?_
      have n11' : n11 = x4.toNat := by rw [hfins.len, bools_len]; omega
      refine (hfins.keep ho2 (by decide)).push_bool hF2 (by omega) fun F3 A50 c52 w53 ho3 hF3 hfins3 => ?_
      rw [wrap_id (by omega) (by omega)]
      refine ⟨⟨F3, hF3, ?_, ?_, rfl, rfl, by omega, by omega⟩, by simp only []; omega⟩
      · rw [takeI_snoc h40 hr]; exact hrows2.keep ho3 (by decide) fun t _ => g10_ne (by decide)
      · rw [takeI_snoc h40 hf]; exact hfins3
  · rw [List.take_of_length_le (by omega)] at hrows hfins
    exact hR w13 _ ⟨F, _, _, _, _, _, _, by rw [hL, hS], hF, hrows, hfins⟩

theorem c42 {w : World} {a b : Nat} {R : Res} (hb : 0 < b) (hR : R (.int .i64 (Nat.gcd a b : Nat)) [] w) : CallsI Try.prog 42 [.int .i64 (a : Int), .int .i64 (b : Int)] w [] R := by
  refine s42 _ _ _ _ ?_
  refine ⟨fun x2 x3 => ⟨fun w' => w' = w ∧ ∃ p q : Nat, x2 = p ∧ x3 = q ∧ 0 < q ∧ Nat.gcd p q = Nat.gcd a b, fun _ => x3.toNat⟩, ⟨rfl, a, b, rfl, rfl, hb, rfl⟩, ?_⟩
  rintro _ _ w4 ⟨rfl, p, q, rfl, rfl, hq, hg⟩ n5 rfl
  have e : (p : Int).tmod (q : Int) = ((p % q : Nat) : Int) := by rw [Int.tmod_eq_emod_of_nonneg (by omega)]; rfl
  rw [e]
  refine ⟨by omega, condK_bne (fun h => ⟨by omega, ⟨rfl, q, p % q, rfl, rfl, by omega, ?_⟩, ?_⟩) fun h => ?_⟩
  · rw [← hg, Nat.gcd_comm q, Nat.gcd_comm p, Nat.gcd_rec q p]
  · have := Nat.mod_lt p hq
    simp only []; omega
  · have hp : p % q = 0 := by omega
    rw [Nat.gcd_comm, Nat.gcd_rec, hp, Nat.gcd_zero_left] at hg
    rw [hg]; exact hR

theorem c44 {w : World} {x : Int} {k : Nat} {R : Res} (hk : k ≤ 1000000) (hR : R (.int .u64 (IntKind.u64.wrap (x ^ k))) [] w) : CallsI Try.prog 44 [.int .i64 x, .int .i64 (k : Int)] w [] R := by
  refine s44 _ _ _ _ ?_
  refine ⟨fun x2 x3 => ⟨fun w' => w' = w ∧ ∃ p : Nat, x2 = p ∧ p ≤ k ∧ x3 = IntKind.u64.wrap (x ^ p), fun _ => (k - x2).toNat⟩, ⟨rfl, 0, rfl, by omega, by rw [Int.pow_zero]; decide⟩, ?_⟩
  rintro _ _ w4 ⟨rfl, p, rfl, hp, rfl⟩ n5 rfl
  refine condK_dec (fun h => ?_) fun h => ?_
  · rw [wrap_id (by omega) (by omega)]
    refine ⟨⟨rfl, p + 1, by omega, by omega, ?_⟩, by simp only []; omega⟩
    rw [wrapU, wrapU, wrapU, wrapU, Int.pow_succ]
    rw [← Int.mul_emod]
  · have : p = k := by omega
    subst this; exact hR
end Go.Proofs.Ytnkpjlhbojjneaa.VC

/- The conditions of functions, printed by wip/tools/gen.py. -/
namespace Go.Proofs.Ytnkpjlhbojjneaa.VC
open Go Go.RowKit

def J43_1 (I18 : Int → Lp) (x19 : Int) (w23 : World) (n21 : Nat) : Prop := (I18 (IntKind.i64.wrap (x19 + 1))).1 w23 ∧ (I18 (IntKind.i64.wrap (x19 + 1))).m w23 < n21

def J43_3 (x : Int) (x19 : Int) (A14 : Option Addr) (n15 : Nat) (w20 : World) (I18 : Int → Lp) (n21 : Nat) (y : Int) : Prop := x ≠ 0 ∧ condK (x19.tmod x == 0) (IxV A14 n15 1 x19 fun (a22 : Addr) =>
    SetK w20 a22 (Value.bool true) fun (w23 : World) => J43_1 I18 x19 w23 n21) (y ≠ 0 ∧ IxV A14 n15 1 x19 fun (a24 : Addr) => SetK w20 a24 (Value.bool (x19.tmod y == 0)) fun (w25 : World) => J43_1 I18 x19
    w25 n21)

def J43_4 (R : Value → List (List Value) → World → Prop) (x9 : Int) (x10 : Int) (A11 : Option Addr) (n12 : Nat) (n13 : Nat) (A14 : Option Addr) (n15 : Nat) (n16 : Nat) (w20 : World) : Prop := R
    (Value.agg (Array.mk [Value.int IntKind.i64 x9, Value.int IntKind.i64 x10, Value.slice A11 n12 n13, Value.slice A14 n15 n16])) [] w20

set_option maxRecDepth 100000 in
theorem s43 (ls x y fr mn : Int) (w : World) (R : Value → List (List Value) → World → Prop) (h :
    ∀ (_n1 : Nat), CallsI Try.prog 42 [Value.int IntKind.i64 x, Value.int IntKind.i64 y] w [] fun (v2 : Value) (l3 : List (List Value)) (w4 : World) => ∃ (x5 : Int), v2 = Value.int IntKind.i64 x5 ∧ l3 =
        [] ∧ x5 ≠ 0 ∧ y ≠ 0 ∧ condK (x.tmod y == 0) (CallsI Try.prog 41 [Value.int IntKind.i64 ls, Value.int IntKind.i64 y, Value.int IntKind.i64 fr, Value.int IntKind.i64 mn] w4 [] fun (v6 : Value) (l7 :
        List (List Value)) (w8 : World) => ∃ (x9 : Int), ∃ (x10 : Int), ∃ (A11 : Option Addr), ∃ (n12 : Nat), ∃ (n13 : Nat), ∃ (A14 : Option Addr), ∃ (n15 : Nat), ∃ (n16 : Nat), v6 = Value.agg (Array.mk
        [Value.int IntKind.i64 x9, Value.int IntKind.i64 x10, Value.slice A11 n12 n13, Value.slice A14 n15 n16]) ∧ l7 = [] ∧ ∀ (_n17 : Nat), ∃ (I18 : Int → Lp), (I18 0).1 w8 ∧ ∀ (x19 : Int) (w20 : World),
        (I18 x19).1 w20 → ∀ (n21 : Nat), (I18 x19).m w20 = n21 → condK (decide (x19 < y)) (J43_3 x x19 A14 n15 w20 I18 n21 y) (J43_4 R x9 x10 A11 n12 n13 A14 n15 n16 w20)) (x ≠ 0 ∧ condK (y.tmod x == 0)
        (CallsI Try.prog 41 [Value.int IntKind.i64 ls, Value.int IntKind.i64 x, Value.int IntKind.i64 fr, Value.int IntKind.i64 mn] w4 [] fun (v26 : Value) (l27 : List (List Value)) (w28 : World) => ∃ (x29 :
        Int), ∃ (x30 : Int), ∃ (A31 : Option Addr), ∃ (n32 : Nat), ∃ (n33 : Nat), ∃ (A34 : Option Addr), ∃ (n35 : Nat), ∃ (n36 : Nat), v26 = Value.agg (Array.mk [Value.int IntKind.i64 x29, Value.int
        IntKind.i64 x30, Value.slice A31 n32 n33, Value.slice A34 n35 n36]) ∧ l27 = [] ∧ ∀ (_n37 : Nat), ∃ (I38 : Int → Lp), (I38 0).1 w28 ∧ ∀ (x39 : Int) (w40 : World), (I38 x39).1 w40 → ∀ (n41 : Nat), (I38
        x39).m w40 = n41 → condK (decide (x39 < x)) (J43_3 x x39 A34 n35 w40 I38 n41 y) (J43_4 R x29 x30 A31 n32 n33 A34 n35 n36 w40)) (CallsI Try.prog 41 [Value.int IntKind.i64 ls, Value.int IntKind.i64
        (IntKind.i64.wrap (IntKind.i64.wrap (x.tdiv x5) * y)), Value.int IntKind.i64 fr, Value.int IntKind.i64 mn] w4 [] fun (v46 : Value) (l47 : List (List Value)) (w48 : World) => ∃ (x49 : Int), ∃ (x50 :
        Int), ∃ (A51 : Option Addr), ∃ (n52 : Nat), ∃ (n53 : Nat), ∃ (A54 : Option Addr), ∃ (n55 : Nat), ∃ (n56 : Nat), v46 = Value.agg (Array.mk [Value.int IntKind.i64 x49, Value.int IntKind.i64 x50,
        Value.slice A51 n52 n53, Value.slice A54 n55 n56]) ∧ l47 = [] ∧ ∀ (_n57 : Nat), ∃ (I58 : Int → Lp), (I58 0).1 w48 ∧ ∀ (x59 : Int) (w60 : World), (I58 x59).1 w60 → ∀ (n61 : Nat), (I58 x59).m w60 = n61
        → condK (decide (x59 < IntKind.i64.wrap (IntKind.i64.wrap (x.tdiv x5) * y))) (J43_3 x x59 A54 n55 w60 I58 n61 y) (J43_4 R x49 x50 A51 n52 n53 A54 n55 n56 w60)))) :
    CallsI Try.prog 43 [(.int .i64 ls), (.int .i64 x), (.int .i64 y), (.int .i64 fr), (.int .i64 mn)] w [] R :=
  vcFun_sound (H := ⟨[], [(0, [(13, .int .i64)], [])]⟩) (args := [.v (.int .i64 ls), .v (.int .i64 x), .v (.int .i64 y), .v (.int .i64 fr), .v (.int .i64 mn)]) (L := []) goodP Try.func43 (by simp [okp]) (by rw [Try.ntmps43]; simp) (by simp [okp]) (Eq.mp (by kernel_rfl) h)

def J45_2 (A42 : Option Addr) (n43 : Nat) (n44 : Nat) (n53 : Nat) (w54 : World) (I40 : Int → Option Addr → Nat → Nat → Lp) (x41 : Int) (n46 : Nat) : Prop := AppK 8 1 [Value.int IntKind.i64 0] 3 A42
    n43 n44 (some (Addr.mk n53 0 none)) 1 w54 fun (A55 : Option Addr) (n56 n57 : Nat) (w58 : World) => (I40 (IntKind.i64.wrap (x41 + 1)) A55 n56 n57).1 w58 ∧ (I40 (IntKind.i64.wrap (x41 + 1)) A55 n56
    n57).m w58 < n46

set_option maxRecDepth 100000 in
theorem s45 (ls x y fr mn : Int) (w : World) (R : Value → List (List Value) → World → Prop) (h :
    ∀ (_n1 : Nat), CallsI Try.prog 41 [Value.int IntKind.i64 ls, Value.int IntKind.i64 x, Value.int IntKind.i64 fr, Value.int IntKind.i64 mn] w [] fun (v2 : Value) (l3 : List (List Value)) (w4 : World) =>
        ∃ (x5 : Int), ∃ (x6 : Int), ∃ (A7 : Option Addr), ∃ (n8 : Nat), ∃ (n9 : Nat), ∃ (A10 : Option Addr), ∃ (n11 : Nat), ∃ (n12 : Nat), v2 = Value.agg (Array.mk [Value.int IntKind.i64 x5, Value.int
        IntKind.i64 x6, Value.slice A7 n8 n9, Value.slice A10 n11 n12]) ∧ l3 = [] ∧ CallsI Try.prog 41 [Value.int IntKind.i64 ls, Value.int IntKind.i64 y, Value.int IntKind.i64 fr, Value.int IntKind.i64 mn]
        w4 [] fun (v13 : Value) (l14 : List (List Value)) (w15 : World) => ∃ (x16 : Int), ∃ (x17 : Int), ∃ (A18 : Option Addr), ∃ (n19 : Nat), ∃ (n20 : Nat), ∃ (A21 : Option Addr), ∃ (n22 : Nat), ∃ (n23 :
        Nat), v13 = Value.agg (Array.mk [Value.int IntKind.i64 x16, Value.int IntKind.i64 x17, Value.slice A18 n19 n20, Value.slice A21 n22 n23]) ∧ l14 = [] ∧ ∀ (_n24 _n25 : Nat), ∃ (I26 : Int → Int → Int →
        Option Addr → Nat → Nat → Option Addr → Nat → Nat → Lp), (I26 0 x5 x6 A7 n8 n9 A10 n11 n12).1 w15 ∧ ∀ (x27 x28 x29 : Int) (A30 : Option Addr) (n31 n32 : Nat) (A33 : Option Addr) (n34 n35 : Nat) (w36 :
        World), (I26 x27 x28 x29 A30 n31 n32 A33 n34 n35).1 w36 → ∀ (n37 : Nat), (I26 x27 x28 x29 A30 n31 n32 A33 n34 n35).m w36 = n37 → condK (decide (x27 < y)) (NewK w36 (Obj.cells (Array.mk []) 3) fun (n38
        : Nat) (w39 : World) => ∃ (I40 : Int → Option Addr → Nat → Nat → Lp), (I40 0 (some (Addr.mk n38 0 none)) 0 0).1 w39 ∧ ∀ (x41 : Int) (A42 : Option Addr) (n43 n44 : Nat) (w45 : World), (I40 x41 A42 n43
        n44).1 w45 → ∀ (n46 : Nat), (I40 x41 A42 n43 n44).m w45 = n46 → condK (decide (x41 < ls)) (IxV A18 n19 1 x27 fun (a47 : Addr) => ∃ (A48 : Option Addr), ∃ (n49 : Nat), ∃ (n50 : Nat), w45.cell? a47 =
        some (Value.slice A48 n49 n50) ∧ IxV A48 n49 1 x41 fun (a51 : Addr) => ∃ (x52 : Int), w45.cell? a51 = some (Value.int IntKind.i64 x52) ∧ condK (decide (x52 ≥ 0)) (NewK w45 (Obj.cells (Array.mk
        [Value.int IntKind.i64 (IntKind.i64.wrap (x52 + x))]) 3) fun (n53 : Nat) (w54 : World) => J45_2 A42 n43 n44 n53 w54 I40 x41 n46) (NewK w45 (Obj.cells (Array.mk [Value.int IntKind.i64 x52]) 3) fun (n59
        : Nat) (w60 : World) => J45_2 A42 n43 n44 n59 w60 I40 x41 n46)) (NewK w45 (Obj.cells (Array.mk [Value.slice A42 n43 n44]) 26) fun (n65 : Nat) (w66 : World) => AppK 24 1 [Value.slice none 0 0] 26 A30
        n31 n32 (some (Addr.mk n65 0 none)) 1 w66 fun (A67 : Option Addr) (n68 n69 : Nat) (w70 : World) => NewK w70 (Obj.cells (Array.mk [Value.bool (x27 == 0)]) 4) fun (n71 : Nat) (w72 : World) => AppK 1 1
        [Value.bool false] 4 A33 n34 n35 (some (Addr.mk n71 0 none)) 1 w72 fun (A73 : Option Addr) (n74 n75 : Nat) (w76 : World) => (I26 (IntKind.i64.wrap (x27 + 1)) x28 x29 A67 n68 n69 A73 n74 n75).1 w76 ∧
        (I26 (IntKind.i64.wrap (x27 + 1)) x28 x29 A67 n68 n69 A73 n74 n75).m w76 < n37)) (IxV A33 n34 1 0 fun (a77 : Addr) => SetK w36 a77 (Value.bool false) fun (w78 : World) => IxV A30 n31 1 0 fun (a79 :
        Addr) => ∃ (A80 : Option Addr), ∃ (n81 : Nat), ∃ (n82 : Nat), w78.cell? a79 = some (Value.slice A80 n81 n82) ∧ IxV A80 n81 1 (IntKind.i64.wrap (ls - 1)) fun (a83 : Addr) => SetK w78 a83 (Value.int
        IntKind.i64 x) fun (w84 : World) => R (Value.agg (Array.mk [Value.int IntKind.i64 x28, Value.int IntKind.i64 x29, Value.slice A30 n31 n32, Value.slice A33 n34 n35])) [] w84)) :
    CallsI Try.prog 45 [(.int .i64 ls), (.int .i64 x), (.int .i64 y), (.int .i64 fr), (.int .i64 mn)] w [] R :=
  vcFun_sound (H := ⟨[], [(0, [(13, .int .i64)], [(25, 1)]), (2, [(15, .int .i64), (14, .slice)], [])]⟩) (args := [.v (.int .i64 ls), .v (.int .i64 x), .v (.int .i64 y), .v (.int .i64 fr), .v (.int .i64 mn)]) (L := []) goodP Try.func45 (by simp [okp]) (by rw [Try.ntmps45]; simp) (by simp [okp]) (Eq.mp (by kernel_rfl) h)

def J46_2 (A10 : Option Addr) (n11 : Nat) (n12 : Nat) (n15 : Nat) (w16 : World) (I8 : Int → Option Addr → Nat → Nat → Lp) (x9 : Int) (n14 : Nat) : Prop := AppK 1 1 [Value.bool false] 4 A10 n11 n12
    (some (Addr.mk n15 0 none)) 1 w16 fun (A17 : Option Addr) (n18 n19 : Nat) (w20 : World) => (I8 (IntKind.i64.wrap (x9 + 1)) A17 n18 n19).1 w20 ∧ (I8 (IntKind.i64.wrap (x9 + 1)) A17 n18 n19).m w20 < n14

def J46_3 (w13 : World) (A10 : Option Addr) (n11 : Nat) (n12 : Nat) (I8 : Int → Option Addr → Nat → Nat → Lp) (x9 : Int) (n14 : Nat) : Prop := NewK w13 (Obj.cells (Array.mk [Value.bool true]) 4) fun
    (n15 : Nat) (w16 : World) => J46_2 A10 n11 n12 n15 w16 I8 x9 n14

def J46_5 (A10 : Option Addr) (n11 : Nat) (x9 : Int) (y : Int) (w13 : World) (n12 : Nat) (I8 : Int → Option Addr → Nat → Nat → Lp) (n14 : Nat) : Prop := IxV A10 n11 1 (IntKind.i64.wrap (x9 - y)) fun
    (a29 : Addr) => ∃ (t30 : Bool), w13.cell? a29 = some (Value.bool t30) ∧ NewK w13 (Obj.cells (Array.mk [Value.bool t30]) 4) fun (n31 : Nat) (w32 : World) => J46_2 A10 n11 n12 n31 w32 I8 x9 n14

def J46_6 (w13 : World) (A10 : Option Addr) (n11 : Nat) (n12 : Nat) (I8 : Int → Option Addr → Nat → Nat → Lp) (x9 : Int) (n14 : Nat) : Prop := NewK w13 (Obj.cells (Array.mk [Value.bool false]) 4) fun
    (n37 : Nat) (w38 : World) => J46_2 A10 n11 n12 n37 w38 I8 x9 n14

def J46_14 (I78 : Int → Lp) (x79 : Int) (w85 : World) (n81 : Nat) : Prop := (I78 (IntKind.i64.wrap (x79 + 1))).1 w85 ∧ (I78 (IntKind.i64.wrap (x79 + 1))).m w85 < n81

set_option maxRecDepth 100000 in
theorem s46 (ls x y fr mn : Int) (w : World) (R : Value → List (List Value) → World → Prop) (h :
    ∀ (_n1 : Nat), CallsI Try.prog 42 [Value.int IntKind.i64 x, Value.int IntKind.i64 y] w [] fun (v2 : Value) (l3 : List (List Value)) (w4 : World) => ∃ (x5 : Int), v2 = Value.int IntKind.i64 x5 ∧ l3 =
        [] ∧ NewK w4 (Obj.cells (Array.mk []) 4) fun (n6 : Nat) (w7 : World) => ∃ (I8 : Int → Option Addr → Nat → Nat → Lp), (I8 0 (some (Addr.mk n6 0 none)) 0 0).1 w7 ∧ ∀ (x9 : Int) (A10 : Option Addr) (n11
        n12 : Nat) (w13 : World), (I8 x9 A10 n11 n12).1 w13 → ∀ (n14 : Nat), (I8 x9 A10 n11 n12).m w13 = n14 → condK (decide (x9 ≤ IntKind.i64.wrap (IntKind.i64.wrap (x * y) + IntKind.i64.wrap (2 * x5))))
        (condK (x9 == 0) (J46_3 w13 A10 n11 n12 I8 x9 n14) (condK (decide (x9 ≥ x)) (IxV A10 n11 1 (IntKind.i64.wrap (x9 - x)) fun (a21 : Addr) => ∃ (t22 : Bool), w13.cell? a21 = some (Value.bool t22) ∧ condK
        t22 (J46_3 w13 A10 n11 n12 I8 x9 n14) (condK (decide (x9 ≥ y)) (J46_5 A10 n11 x9 y w13 n12 I8 n14) (J46_6 w13 A10 n11 n12 I8 x9 n14))) (condK (decide (x9 ≥ y)) (J46_5 A10 n11 x9 y w13 n12 I8 n14)
        (J46_6 w13 A10 n11 n12 I8 x9 n14)))) (∃ (I57 : Int → Int → Lp), (I57 0 0).1 w13 ∧ ∀ (x58 x59 : Int) (w60 : World), (I57 x58 x59).1 w60 → ∀ (n61 : Nat), (I57 x58 x59).m w60 = n61 → condK (decide
        (IntKind.i64.wrap (x58 + x5) < (↑n11 : Int))) (IxV A10 n11 1 x58 fun (a62 : Addr) => ∃ (t63 : Bool), w60.cell? a62 = some (Value.bool t63) ∧ IxV A10 n11 1 (IntKind.i64.wrap (x58 + x5)) fun (a64 :
        Addr) => ∃ (t65 : Bool), w60.cell? a64 = some (Value.bool t65) ∧ condK (!t63 == t65) ((I57 (IntKind.i64.wrap (x58 + 1)) (IntKind.i64.wrap (x58 + 1))).1 w60 ∧ (I57 (IntKind.i64.wrap (x58 + 1))
        (IntKind.i64.wrap (x58 + 1))).m w60 < n61) ((I57 (IntKind.i64.wrap (x58 + 1)) x59).1 w60 ∧ (I57 (IntKind.i64.wrap (x58 + 1)) x59).m w60 < n61)) (CallsI Try.prog 41 [Value.int IntKind.i64 ls, Value.int
        IntKind.i64 (IntKind.i64.wrap (x59 + x5)), Value.int IntKind.i64 fr, Value.int IntKind.i64 mn] w60 [] fun (v66 : Value) (l67 : List (List Value)) (w68 : World) => ∃ (x69 : Int), ∃ (x70 : Int), ∃ (A71
        : Option Addr), ∃ (n72 : Nat), ∃ (n73 : Nat), ∃ (A74 : Option Addr), ∃ (n75 : Nat), ∃ (n76 : Nat), v66 = Value.agg (Array.mk [Value.int IntKind.i64 x69, Value.int IntKind.i64 x70, Value.slice A71 n72
        n73, Value.slice A74 n75 n76]) ∧ l67 = [] ∧ ∀ (_n77 : Nat), ∃ (I78 : Int → Lp), (I78 0).1 w68 ∧ ∀ (x79 : Int) (w80 : World), (I78 x79).1 w80 → ∀ (n81 : Nat), (I78 x79).m w80 = n81 → condK (decide (x79
        < IntKind.i64.wrap (x59 + x5))) (IxV A10 n11 1 x79 fun (a82 : Addr) => ∃ (t83 : Bool), w80.cell? a82 = some (Value.bool t83) ∧ IxV A74 n75 1 x79 fun (a84 : Addr) => SetK w80 a84 (Value.bool t83) fun
        (w85 : World) => J46_14 I78 x79 w85 n81) (∃ (I86 : Int → Lp), (I86 fr).1 w80 ∧ ∀ (x87 : Int) (w88 : World), (I86 x87).1 w88 → ∀ (n89 : Nat), (I86 x87).m w88 = n89 → condK (decide (x87 <
        IntKind.i64.wrap (fr + mn))) (IxV A71 n72 1 (IntKind.i64.wrap (IntKind.i64.wrap (x59 + x5) - 1)) fun (a90 : Addr) => ∃ (A91 : Option Addr), ∃ (n92 : Nat), ∃ (n93 : Nat), w88.cell? a90 = some
        (Value.slice A91 n92 n93) ∧ IxV A91 n92 1 x87 fun (a94 : Addr) => SetK w88 a94 (Value.int IntKind.i64 x59) fun (w95 : World) => J46_14 I86 x87 w95 n89) (R (Value.agg (Array.mk [Value.int IntKind.i64
        x69, Value.int IntKind.i64 x70, Value.slice A71 n72 n73, Value.slice A74 n75 n76])) [] w88))))) :
    CallsI Try.prog 46 [(.int .i64 ls), (.int .i64 x), (.int .i64 y), (.int .i64 fr), (.int .i64 mn)] w [] R :=
  vcFun_sound (H := ⟨[], [(0, [(13, .int .i64), (12, .slice)], []), (2, [(15, .int .i64), (14, .int .i64)], []), (4, [(17, .int .i64)], []), (6, [(18, .int .i64)], [])]⟩) (args := [.v (.int .i64 ls), .v (.int .i64 x), .v (.int .i64 y), .v (.int .i64 fr), .v (.int .i64 mn)]) (L := []) goodP Try.func46 (by simp [okp]) (by rw [Try.ntmps46]; simp) (by simp [okp]) (Eq.mp (by kernel_rfl) h)

end Go.Proofs.Ytnkpjlhbojjneaa.VC

/- Two rings side by side. -/
namespace Go.Proofs.Ytnkpjlhbojjneaa.VC
open Go Go.RowKit

theorem MachIn.new {w0 w : World} {F : FamF} {e : Nat → Nat} {m : Mach} {v : Value} (h : MachIn F e m v) (hF : Fam w0 w F) (he : ∀ i j, e i = e j → i = j) : MachNew w0 w m v := by
  obtain ⟨A, n, c, B, k, d, rfl, ⟨hs, h1, h2, h3⟩, h4⟩ := h
  exact ⟨fun j => F (e j), A, n, c, B, k, d, rfl, ⟨hF.base, fun _ b c hi => hF.own _ b c hi, fun _ _ _ _ _ hi hj => he _ _ (hF.inj _ _ _ _ _ hi hj)⟩, ⟨hs, h1, h2, h3⟩, h4⟩
theorem GII.even {F1 F2 : FamF} {i : Nat} {g : Nat → Nat} {A : Option Addr} {n c : Nat} {xss : List (List Int)} (h : GII F1 i g A n c xss) : GII (J2 F1 F2) (2 * i) (fun t => 2 * g t) A n c xss := by
  obtain ⟨hs, h1, h2, h3⟩ := h
  refine ⟨hs, h1.even, h2, fun t h xs ht hx => ?_⟩
  obtain ⟨A', n', c', e1, h5⟩ := h3 t h xs ht hx
  exact ⟨A', n', c', e1, h5.even⟩
theorem GII.odd {F1 F2 : FamF} {i : Nat} {g : Nat → Nat} {A : Option Addr} {n c : Nat} {xss : List (List Int)} (h : GII F2 i g A n c xss) : GII (J2 F1 F2) (2 * i + 1) (fun t => 2 * g t + 1) A n c xss := by
  obtain ⟨hs, h1, h2, h3⟩ := h
  refine ⟨hs, h1.odd, h2, fun t h xs ht hx => ?_⟩
  obtain ⟨A', n', c', e1, h5⟩ := h3 t h xs ht hx
  exact ⟨A', n', c', e1, h5.odd⟩
theorem fin_ext {f : List Bool} {N : Nat} {e : Nat → Bool} (hl : f.length = N) (h : ∀ i, i < N → f[i]? = some (e i)) : f = (List.range N).map e := by
  apply List.ext_getElem?
  intro i
  by_cases hi : i < N
  · rw [h i hi, List.getElem?_map, List.getElem?_range hi]; rfl
  · rw [List.getElem?_eq_none (by omega), List.getElem?_eq_none (by simp; omega)]
theorem tmodN {a b : Nat} : (a : Int).tmod (b : Int) = ((a % b : Nat) : Int) := by rw [Int.tmod_eq_emod_of_nonneg (by omega)]; rfl

theorem c43 {w : World} {ls fr mn : Int} {a b : Nat} {R : Res} (h : RingOk ls fr mn) (hls : ls ≤ 1000000) (ha : 0 < a) (hb : 0 < b) (ha1 : a ≤ 1000) (hb1 : b ≤ 1000) (hR : ∀ w' v', MachNew w w' (eitherM ls fr mn a b) v' → R v' [] w') :
    CallsI Try.prog 43 [.int .i64 ls, .int .i64 (a : Int), .int .i64 (b : Int), .int .i64 fr, .int .i64 mn] w [] R := by
  have hfin : (eitherM ls fr mn a b).fin = (List.range (eitherN a b)).map (ev a b) := rfl
  have hg : 0 < Nat.gcd a b := Nat.gcd_pos_of_pos_left b ha
  -- the loop
  have loop : ∀ (w8 : World) (x9 x10 : Int) (A11 : Option Addr) (n12 n13 : Nat) (A14 : Option Addr) (n15 n16 : Nat) (N : Nat), N = eitherN a b → N ≤ 1000000 → MachNew w w8 (ringM ls fr mn N) (.agg (Array.mk [.int .i64 x9, .int .i64 x10, .slice A11 n12 n13, .slice A14 n15 n16])) →
      ∃ (I18 : Int → Lp), (I18 0).1 w8 ∧ ∀ (x19 : Int) (w20 : World), (I18 x19).1 w20 → ∀ (n21 : Nat), (I18 x19).m w20 = n21 → condK (decide (x19 < (N : Int))) (J43_3 (a : Int) x19 A14 n15 w20 I18 n21 (b : Int)) (J43_4 R x9 x10 A11 n12 n13 A14 n15 n16 w20) := by
    intro w8 x9 x10 A11 n12 n13 A14 n15 n16 N hN hN1 hnew
    obtain ⟨F, hF, hin⟩ := hnew.in_
    refine ⟨fun x19 => ⟨fun w' => ∃ F f, Fam w w' F ∧ MachIn F id { ringM ls fr mn N with fin := f } (.agg (Array.mk [.int .i64 x9, .int .i64 x10, .slice A11 n12 n13, .slice A14 n15 n16])) ∧ f.length = N ∧ (∀ i : Nat, (i : Int) < x19 → f[i]? = some (ev a b i)) ∧ 0 ≤ x19 ∧ x19 ≤ N, fun _ => (N - x19).toNat⟩,
      ⟨F, _, hF, hin, by simp, fun i hi => by omega, by omega, by omega⟩, ?_⟩
    clear hF hin F
    rintro x19 w20 ⟨F, f, hF, hin, hl, hf, h0, h1⟩ n21 rfl
    refine condK_dec (fun hlt => ?_) fun hge => ?_
    · obtain ⟨i, rfl⟩ : ∃ i : Nat, x19 = i := ⟨x19.toNat, by omega⟩
      have store : ∀ t : Bool, t = ev a b i → IxV A14 n15 1 (i : Int) fun (a22 : Addr) => SetK w20 a22 (Value.bool t) fun (w23 : World) => J43_1 (fun x19 => ⟨fun w' => ∃ F f, Fam w w' F ∧ MachIn F id { ringM ls fr mn N with fin := f } (.agg (Array.mk [.int .i64 x9, .int .i64 x10, .slice A11 n12 n13, .slice A14 n15 n16])) ∧ f.length = N ∧ (∀ i : Nat, (i : Int) < x19 → f[i]? = some (ev a b i)) ∧ 0 ≤ x19 ∧ x19 ≤ N, fun _ => (N - x19).toNat⟩) i w23 (N - (i : Int)).toNat := by
        rintro t rfl
        refine hin.setFin hF (fun _ _ h => h) h0 (show (i : Int) < f.length by omega) fun F2 w2 ho2 hF2 hin2 => ?_
        rw [J43_1, wrap_id (by omega) (by omega)]
        refine ⟨⟨F2, _, hF2, hin2, by simp [hl], fun j hj => ?_, by omega, by omega⟩, by simp only []; omega⟩
        rw [Int.toNat_natCast]
        show (f.set i _)[j]? = _
        by_cases e : j = i
        · subst e; exact List.getElem?_set_self (by omega)
        · rw [List.getElem?_set_ne (Ne.symm e)]; exact hf j (by omega)
      rw [J43_3, tmodN, tmodN]
      refine ⟨by omega, condK_beq (fun hd => ?_) fun hd => ⟨by omega, ?_⟩⟩
      · refine store true ?_
        have hd : i % a = 0 := by omega
        simp [ev, hd]
      · refine store _ ?_
        have hd : ¬ i % a = 0 := by omega
        by_cases h2 : i % b = 0
        · simp [ev, hd, h2]
        · simp [ev, hd, h2]; omega
    · have e : f = (List.range (eitherN a b)).map (ev a b) := by rw [← hN]; exact fin_ext hl fun i hi => hf i (by omega)
      subst e; subst hN
      exact hR w20 _ (hin.new hF fun _ _ h => h)
  refine s43 _ _ _ _ _ _ _ fun _ => ?_
  refine c42 hb ⟨_, rfl, rfl, by omega, by omega, ?_⟩
  rw [tmodN, tmodN]
  have j : ∀ (N : Nat), N = eitherN a b → N ≤ 1000000 → CallsI Try.prog 41 [Value.int IntKind.i64 ls, Value.int IntKind.i64 (N : Int), Value.int IntKind.i64 fr, Value.int IntKind.i64 mn] w [] fun (v6 : Value) (l7 : List (List Value)) (w8 : World) => ∃ (x9 : Int), ∃ (x10 : Int), ∃ (A11 : Option Addr), ∃ (n12 : Nat), ∃ (n13 : Nat), ∃ (A14 : Option Addr), ∃ (n15 : Nat), ∃ (n16 : Nat), v6 = Value.agg (Array.mk
        [Value.int IntKind.i64 x9, Value.int IntKind.i64 x10, Value.slice A11 n12 n13, Value.slice A14 n15 n16]) ∧ l7 = [] ∧ ∀ (_n17 : Nat), ∃ (I18 : Int → Lp), (I18 0).1 w8 ∧ ∀ (x19 : Int) (w20 : World), (I18 x19).1 w20 → ∀ (n21 : Nat), (I18 x19).m w20 = n21 → condK (decide (x19 < (N : Int))) (J43_3 (a : Int) x19 A14 n15 w20 I18 n21 (b : Int)) (J43_4 R x9 x10 A11 n12 n13 A14 n15 n16 w20) := by
    intro N hN hN1
    refine c41 h hls (by rw [hN]; exact eitherN_pos ha hb) hN1 fun w8 v8 hnew => ?_
    obtain ⟨A, n, c, B, k, d, rfl⟩ := hnew.at_.form
    exact ⟨_, _, _, _, _, _, _, _, rfl, rfl, fun _ => loop w8 _ _ _ _ _ _ _ _ N hN hN1 hnew⟩
  refine condK_beq (fun h1 => ?_) fun h1 => ⟨by omega, condK_beq (fun h2 => ?_) fun h2 => ?_⟩
  · exact j b (by unfold eitherN; rw [if_pos (by omega)]) (by omega)
  · exact j a (by unfold eitherN; rw [if_neg (by omega), if_pos (by omega)]) (by omega)
  · have e1 : (a : Int).tdiv (Nat.gcd a b : Nat) = ((a / Nat.gcd a b : Nat) : Int) := by rw [Int.tdiv_eq_ediv_of_nonneg (by omega)]; rfl
    have hle : a / Nat.gcd a b ≤ a := Nat.div_le_self _ _
    have hj := fun h => j (a / Nat.gcd a b * b) (by unfold eitherN; rw [if_neg (by omega), if_neg (by omega)]) h
    rw [e1]
    clear e1
    generalize a / Nat.gcd a b = q at *
    have hle2 : q * b ≤ 1000 * 1000 := Nat.mul_le_mul (by omega) hb1
    have e2 : IntKind.i64.wrap (IntKind.i64.wrap (q : Int) * b) = ((q * b : Nat) : Int) := by
      rw [wrap_id (x := (q : Int)) (by omega) (by omega), ← Int.natCast_mul, wrap_id (by omega) (by omega)]
    rw [e2]
    exact hj (by omega)

/-! two rings in a chain -/
def cnx (a b i : Nat) : Nat := if i < a then (if i + 1 = a then 0 else i + 1) else if i + 1 = a + b then a else i + 1
def chain0 (ls fr mn : Int) (a b : Nat) : Mach :=
  ⟨ls, 0, (List.range (a + b)).map fun i => ringRow ls fr mn (cnx a b i : Nat), (List.range (a + b)).map fun i => decide (i = 0) || decide (i = a)⟩
def chainM (ls fr mn : Int) (a b : Nat) : Mach :=
  { chain0 ls fr mn a b with fin := (chain0 ls fr mn a b).fin.set 0 false, next := (chain0 ls fr mn a b).next.set 0 ((gl (chain0 ls fr mn a b).next 0).set (ls - 1).toNat a) }
section
variable {ls fr mn : Int} {a b : Nat}
theorem chain0_next {i : Nat} (h : i < a + b) : (chain0 ls fr mn a b).next[i]? = some (ringRow ls fr mn (cnx a b i : Nat)) := by
  show ((List.range (a + b)).map _)[i]? = _
  rw [List.getElem?_map, List.getElem?_range h]; rfl
theorem chain0_fin {i : Nat} (h : i < a + b) : (chain0 ls fr mn a b).fin[i]? = some (decide (i = 0) || decide (i = a)) := by
  show ((List.range (a + b)).map _)[i]? = _
  rw [List.getElem?_map, List.getElem?_range h]; rfl
theorem chain0_len : (chain0 ls fr mn a b).next.length = a + b ∧ (chain0 ls fr mn a b).fin.length = a + b := by simp [chain0]
theorem chain0_ring : (ringM ls fr mn a).next = (chain0 ls fr mn a b).next.take a := by
  apply List.ext_getElem?
  intro i
  by_cases hi : i < a
  · rw [List.getElem?_take_of_lt hi, chain0_next (by omega)]
    show ((List.range a).map _)[i]? = _
    rw [List.getElem?_map, List.getElem?_range hi, Option.map_some, cnx, if_pos hi]
  · rw [List.getElem?_eq_none (by simp [ringM, lasso]; omega), List.getElem?_eq_none (by rw [List.length_take]; omega)]
theorem chain0_ringf : (ringM ls fr mn a).fin = (chain0 ls fr mn a b).fin.take a := by
  apply List.ext_getElem?
  intro i
  by_cases hi : i < a
  · rw [List.getElem?_take_of_lt hi, chain0_fin (by omega)]
    show ((List.range a).map _)[i]? = _
    rw [List.getElem?_map, List.getElem?_range hi, Option.map_some, Nat.mod_eq_of_lt hi, decide_eq_false (show ¬ i = a by omega)]
    simp
  · rw [List.getElem?_eq_none (by simp [ringM, lasso]; omega), List.getElem?_eq_none (by rw [List.length_take]; omega)]
end

set_option maxHeartbeats 1000000 in
theorem c45 {w : World} {ls fr mn : Int} {a b : Nat} {R : Res} (h : RingOk ls fr mn) (hls : ls ≤ 1000000) (ha : 0 < a) (hb : 0 < b) (ha1 : a ≤ 1000) (hb1 : b ≤ 1000) (hR : ∀ w' v', MachNew w w' (chainM ls fr mn a b) v' → R v' [] w') :
    CallsI Try.prog 45 [.int .i64 ls, .int .i64 (a : Int), .int .i64 (b : Int), .int .i64 fr, .int .i64 mn] w [] R := by
  have h0 := h.fr0; have h1 := h.mn0; have h2 := h.fit
  obtain ⟨hl1, hl2⟩ := chain0_len (ls := ls) (fr := fr) (mn := mn) (a := a) (b := b)
  refine s45 _ _ _ _ _ _ _ fun _ => c41 h hls ha (by omega) fun w4 v4 hna => ?_
  obtain ⟨A7, n8, n9, A10, n11, n12, rfl⟩ := hna.at_.form
  refine ⟨_, _, _, _, _, _, _, _, rfl, rfl, ?_⟩
  refine c41 h hls hb (by omega) fun w15 v15 hnb => ?_
  obtain ⟨A18, n19, n20, A21, n22, n23, rfl⟩ := hnb.at_.form
  refine ⟨_, _, _, _, _, _, _, _, rfl, rfl, fun _ _ => ?_⟩
  obtain ⟨Fa, hFa, A7', n8', n9', A10', n11', n12', e1, ga2, ga3⟩ := hna.in_
  simp only [Value.agg.injEq, Array.mk.injEq, List.cons.injEq, Value.slice.injEq, true_and, and_true] at e1
  obtain ⟨⟨rfl, rfl, rfl⟩, rfl, rfl, rfl⟩ := e1
  obtain ⟨Fb, hFb, A18', n19', n20', A21', n22', n23', e1, gb2, gb3⟩ := hnb.in_
  simp only [Value.agg.injEq, Array.mk.injEq, List.cons.injEq, Value.slice.injEq, true_and, and_true] at e1
  obtain ⟨⟨rfl, rfl, rfl⟩, rfl, rfl, rfl⟩ := e1
  have hF0 := hFa.join hFb
  have gA2 := ga2.even (F2 := Fb)
  have gA3 := ga3.even (F2 := Fb)
  have gB2 := gb2.odd (F1 := Fa)
  rw [chain0_ring (b := b)] at gA2
  rw [chain0_ringf (b := b)] at gA3
  clear ga2 ga3 gb2 gb3 hFa hFb hna hnb
  obtain ⟨C, hC⟩ : ∃ C, C = chain0 ls fr mn a b := ⟨_, rfl⟩
  have hnx : ∀ i, i < a + b → C.next[i]? = some (ringRow ls fr mn (cnx a b i : Nat)) := fun i hi => by rw [hC]; exact chain0_next hi
  have hfn : ∀ i, i < a + b → C.fin[i]? = some (decide (i = 0) || decide (i = a)) := fun i hi => by rw [hC]; exact chain0_fin hi
  rw [chainM] at hR
  rw [← hC] at hl1 hl2 gA2 gA3 hR
  have hbl : (ringM ls fr mn b).next.length = b := lasso_len
  obtain ⟨S, hS⟩ : ∃ S, S = (ringM ls fr mn b).next := ⟨_, rfl⟩
  have hSr : ∀ i, i < b → S[i]? = some (ringRow ls fr mn (if i + 1 = b then 0 else i + 1 : Nat)) := fun i hi => by rw [hS]; exact lasso_get (ring_ok h hb) hi
  rw [← hS] at gB2 hbl
  refine ⟨fun x27 x28 x29 A30 n31 n32 A33 n34 n35 => ⟨fun w' => ∃ F, Fam w w' F ∧ GII F 4 (fun t => 2 * g10 t) A30 n31 n32 (C.next.take (a + x27.toNat)) ∧ GSl F 6 A33 n34 n35 (bools (C.fin.take (a + x27.toNat))) ∧ GII F 5 (fun t => 2 * g10 t + 1) A18 n19 n20 S ∧ x28 = ls ∧ x29 = 0 ∧ 0 ≤ x27 ∧ x27 ≤ b, fun _ => (b - x27).toNat⟩,
    ⟨_, hF0, gA2, gA3, gB2, rfl, rfl, by omega, by omega⟩, ?_⟩
  clear hF0 gA2 gA3 gB2 Fa Fb
  rintro x27 x28 x29 A30 n31 n32 A33 n34 n35 w36 ⟨F, hF, hrows, hfins, hS2, rfl, rfl, h270, h271⟩ n37 rfl
  refine condK_dec (fun hlt => ?_) fun hge => ?_
  · obtain ⟨k, rfl⟩ : ∃ k : Nat, x27 = k := ⟨x27.toNat, by omega⟩
    rw [Int.toNat_natCast] at hrows hfins
    have hr := hnx (a + k) (by omega)
    have hf := hfn (a + k) (by omega)
    have hsr := hSr k (by omega)
    obtain ⟨T, hT⟩ : ∃ T, T = cnx a b (a + k) := ⟨_, rfl⟩
    rw [← hT] at hr
    have hT1 : T = a + (if k + 1 = b then 0 else k + 1) := by
      rw [hT, cnx, if_neg (by omega)]
      by_cases e : k + 1 = b
      · rw [if_pos (by omega), if_pos e, Nat.add_zero]
      · rw [if_neg (by omega), if_neg e]; omega
    obtain ⟨U, hU⟩ : ∃ U : Nat, U = if k + 1 = b then 0 else k + 1 := ⟨_, rfl⟩
    rw [← hU] at hsr hT1
    have hUb : U < b := by rw [hU]; split <;> omega
    obtain ⟨row, hrw⟩ : ∃ row, row = ringRow x28 fr mn (T : Nat) := ⟨_, rfl⟩
    rw [← hrw] at hr
    have hrl : (row.length : Int) = x28 := by rw [hrw]; exact ringRow_len (by omega)
    have hrg : ∀ y : Int, 0 ≤ y → y < x28 → row[y.toNat]? = some (if fr ≤ y ∧ y < fr + mn then (T : Int) else -1) := fun y y0 y1 => by rw [hrw]; exact ringRow_get y0 y1
    have hsl : gl S k = ringRow x28 fr mn (U : Nat) := gl_get (by rw [Int.toNat_natCast]; exact hsr)
    have hsg : ∀ y : Int, 0 ≤ y → y < x28 → gi (gl S k) y = if fr ≤ y ∧ y < fr + mn then (U : Int) else -1 := fun y y0 y1 => by rw [hsl]; exact gi_get (ringRow_get y0 y1)
    have hsll : ((gl S k).length : Int) = x28 := by rw [hsl]; exact ringRow_len (by omega)
    have htl : (C.next.take (a + k)).length = a + k := by rw [List.length_take]; omega
    have htf : (C.fin.take (a + k)).length = a + k := by rw [List.length_take]; omega
    have sn : C.next.take (a + (k + 1)) = C.next.take (a + k) ++ [row] := by rw [← Nat.add_assoc, List.take_add_one, hr]; rfl
    have sf : C.fin.take (a + (k + 1)) = C.fin.take (a + k) ++ [decide (a + k = 0) || decide (a + k = a)] := by rw [← Nat.add_assoc, List.take_add_one, hf]; rfl
    have hne4 : (4 : Nat) ≠ 2 * g10 (a + k) := by unfold g10; omega
    have hne5 : (5 : Nat) ≠ 2 * g10 (a + k) := by omega
    have hne6 : (6 : Nat) ≠ 2 * g10 (a + k) := by unfold g10; omega
    have hnel : ∀ t, t < (C.next.take (a + k)).length → 2 * g10 t ≠ 2 * g10 (a + k) := fun t ht => by unfold g10; omega
    have hneo : ∀ t, t < S.length → 2 * g10 t + 1 ≠ 2 * g10 (a + k) := fun t ht => by omega
    refine hF.mkRow (2 * g10 (a + k)) fun n38 F1 w39 ho1 hF1 hr1 => ?_
    refine ⟨fun x41 A42 n43 n44 => ⟨fun w' => ∃ F, Fam w w' F ∧ GII F 4 (fun t => 2 * g10 t) A30 n31 n32 (C.next.take (a + k)) ∧ GSl F 6 A33 n34 n35 (bools (C.fin.take (a + k))) ∧ GII F 5 (fun t => 2 * g10 t + 1) A18 n19 n20 S ∧ GSl F (2 * g10 (a + k)) A42 n43 n44 (ints (row.take x41.toNat)) ∧ 0 ≤ x41 ∧ x41 ≤ x28, fun _ => (x28 - x41).toNat⟩,
      ⟨F1, hF1, hrows.keep ho1 hne4 hnel, hfins.keep ho1 hne6, hS2.keep ho1 hne5 hneo, hr1, by omega, by omega⟩, ?_⟩
    clear hF hrows hfins hS2 hF1 hr1 ho1 F1 F
    rintro x41 A42 n43 n44 w45 ⟨F, hF, hrows, hfins, hS2, hrr, h410, h411⟩ n46 rfl
    refine condK_dec (fun hltx => ?_) fun hgex => ?_
    · have hg := hrg x41 h410 hltx
      have hs := hsg x41 h410 hltx
      have push : ∀ t : Int, t = (if fr ≤ x41 ∧ x41 < fr + mn then (T : Int) else -1) → NewK w45 (Obj.cells (Array.mk [Value.int IntKind.i64 t]) 3) fun n53 w54 => J45_2 A42 n43 n44 n53 w54 (fun x41 A42 n43 n44 => ⟨fun w' => ∃ F, Fam w w' F ∧ GII F 4 (fun t => 2 * g10 t) A30 n31 n32 (C.next.take (a + k)) ∧ GSl F 6 A33 n34 n35 (bools (C.fin.take (a + k))) ∧ GII F 5 (fun t => 2 * g10 t + 1) A18 n19 n20 S ∧ GSl F (2 * g10 (a + k)) A42 n43 n44 (ints (row.take x41.toNat)) ∧ 0 ≤ x41 ∧ x41 ≤ x28, fun _ => (x28 - x41).toNat⟩) x41 (x28 - x41).toNat := by
        rintro t ht
        rw [← ht] at hg
        have hn43 : n43 = x41.toNat := by rw [hrr.len, ints_len, List.length_take]; omega
        refine hrr.push_int hF (by omega) fun F2 A2 c2 w2 ho2 hF2 hr2 => ?_
        rw [wrap_id (by omega) (by omega)]
        exact ⟨⟨F2, hF2, hrows.keep ho2 hne4 hnel, hfins.keep ho2 hne6, hS2.keep ho2 hne5 hneo, by rw [takeI_snoc h410 hg]; exact hr2, by omega, by omega⟩, by simp only []; omega⟩
      refine hS2.get hF h270 (by omega) (K := fun A48 n49 n50 => IxV A48 n49 1 x41 _) fun A48 n49 n50 hsrow => ?_
      rw [Int.toNat_natCast] at hsrow
      refine hsrow.get_int hF h410 (by omega) (K := fun x52 => condK _ _ _) ?_
      rw [hs]
      by_cases hc : fr ≤ x41 ∧ x41 < fr + mn
      · rw [if_pos hc] at push ⊢
        refine condK_dec (fun _ => ?_) fun h => by omega
        rw [wrap_id (by omega) (by omega)]
        exact push _ (by omega)
      · rw [if_neg hc] at push ⊢
        exact condK_dec (fun h => by omega) fun _ => push _ rfl
    · rw [List.take_of_length_le (by omega)] at hrr
      refine hrows.pushRow (by rw [htl]; exact hrr) hF (fun t => by unfold g10; omega) (by rw [hrows.len, htl]; omega) fun F2 A67 c69 w70 ho2 hF2 hrows2 => ?_
      have n34' : n34 = a + k := by rw [hfins.len, bools_len, htf]
      refine (hfins.keep ho2 (by decide)).push_bool hF2 (by omega) fun F3 A73 c75 w76 ho3 hF3 hfins3 => ?_
      rw [wrap_id (by omega) (by omega)]
      refine ⟨⟨F3, hF3, ?_, ?_, (hS2.keep ho2 (by decide) fun t _ => by unfold g10; omega).keep ho3 (by decide) fun t _ => by unfold g10; omega, rfl, rfl, by omega, by omega⟩, by simp only []; omega⟩
      · rw [show ((k : Int) + 1).toNat = k + 1 by omega, sn]; exact hrows2.keep ho3 (by decide) fun t _ => by unfold g10; omega
      · rw [show ((k : Int) + 1).toNat = k + 1 by omega, sf]
        have e : ((k : Int) == 0) = (decide (a + k = 0) || decide (a + k = a)) := by
          rw [decide_eq_false (show ¬ a + k = 0 by omega), Bool.false_or]
          by_cases e : k = 0
          · subst e; simp
          · rw [beq_eq_false_iff_ne.2 (by omega), decide_eq_false (by omega)]
        rw [e] at hfins3; exact hfins3
  · rw [List.take_of_length_le (by omega)] at hrows hfins
    refine hfins.set_bool hF (by omega) (by omega) fun F2 w78 ho2 hF2 hfins2 => ?_
    have hrows2 := hrows.keep ho2 (by decide) fun t _ => by unfold g10; omega
    have hg0 : gl C.next 0 = ringRow x28 fr mn (cnx a b 0 : Nat) := gl_get (hnx 0 (by omega))
    have hgl : ((gl C.next 0).length : Int) = x28 := by rw [hg0]; exact ringRow_len (by omega)
    rw [wrap_id (by omega) (by omega)]
    refine hrows2.setEl hF2 (by omega) (by omega) (by omega) (by omega) (fun t _ => ⟨by unfold g10; omega, fun h => by unfold g10 at h; omega⟩) fun F3 w84 ho3 hF3 hrows3 => ?_
    have hfins3 := hfins2.keep ho3 (show 6 ≠ 2 * g10 (0 : Int).toNat by decide)
    refine hR w84 _ ⟨fun j => F3 (2 * j), _, _, _, _, _, _, ?_, ⟨hF3.base, fun _ b c hi => hF3.own _ b c hi, fun i j _ _ _ hi hj => by have := hF3.inj _ _ _ _ _ hi hj; omega⟩, hrows3, hfins3⟩
    rw [hC]; rfl
end Go.Proofs.Ytnkpjlhbojjneaa.VC

/- Sums of two numbers. -/
namespace Go.Proofs.Ytnkpjlhbojjneaa.VC
open Go Go.RowKit

theorem gb_range {f : Nat → Bool} {p : Nat} {i : Int} (h0 : 0 ≤ i) (h1 : i < p) : gb ((List.range p).map f) i = f i.toNat := by
  refine gb_get ?_
  rw [List.getElem?_map, List.getElem?_range (by omega)]; rfl
/-- the last row, as far as it is written over -/
def midRow (ls fr mn : Int) (beg : Nat) (x : Int) : List Int := (List.range ls.toNat).map fun (k : Nat) => if fr ≤ k ∧ (k : Int) < fr + mn then (if (k : Int) < x then (beg : Int) else 0) else -1
theorem mid_first {ls fr mn : Int} {beg : Nat} : midRow ls fr mn beg fr = ringRow ls fr mn 0 := by
  unfold midRow ringRow
  refine List.map_congr_left fun k _ => ?_
  split
  · rw [if_neg (by omega)]
  · rfl
theorem mid_last {ls fr mn x : Int} {beg : Nat} (h : fr + mn ≤ x) : midRow ls fr mn beg x = ringRow ls fr mn beg := by
  unfold midRow ringRow
  refine List.map_congr_left fun k _ => ?_
  split
  · rw [if_pos (by omega)]
  · rfl
theorem mid_len {ls fr mn x : Int} {beg : Nat} : (midRow ls fr mn beg x).length = ls.toNat := by simp [midRow]
theorem mid_set {ls fr mn x : Int} {beg : Nat} (h0 : 0 ≤ fr) (h1 : fr ≤ x) (h2 : x < fr + mn) : (midRow ls fr mn beg x).set x.toNat (beg : Int) = midRow ls fr mn beg (x + 1) := by
  apply List.ext_getElem?
  intro k
  by_cases hk : k < ls.toNat
  · rw [List.getElem?_set]
    by_cases e : x.toNat = k
    · rw [if_pos e, if_pos (by rw [mid_len]; omega)]
      unfold midRow
      rw [List.getElem?_map, List.getElem?_range hk, Option.map_some, if_pos (by omega), if_pos (by omega)]
    · rw [if_neg e]
      unfold midRow
      rw [List.getElem?_map, List.getElem?_map, List.getElem?_range hk, Option.map_some, Option.map_some]
      congr 1
      split
      · by_cases e2 : (k : Int) < x
        · rw [if_pos e2, if_pos (by omega)]
        · rw [if_neg e2, if_neg (by omega)]
      · rfl
  · rw [List.getElem?_eq_none (by rw [List.length_set, mid_len]; omega), List.getElem?_eq_none (by rw [mid_len]; omega)]

def I46s (w : World) (a b : Nat) (T : Int) : Int → Option Addr → Nat → Nat → Lp := fun x9 A10 n11 n12 => ⟨fun w' => ∃ F, Fam w w' F ∧ GSl F 0 A10 n11 n12 (bools ((List.range x9.toNat).map (rep2 a b))) ∧ 0 ≤ x9 ∧ x9 ≤ T, fun _ => (T - x9).toNat⟩

set_option maxHeartbeats 2000000 in
theorem c46 {w : World} {ls fr mn : Int} {a b : Nat} {R : Res} (h : RingOk ls fr mn) (hls : ls ≤ 1000000) (ha : 0 < a) (hb : 0 < b) (ha1 : a ≤ 100) (hb1 : b ≤ 100) (hR : ∀ w' v' beg, BeginOk a b beg → beg ≤ a * b + Nat.gcd a b + 1 → MachNew w w' (summedM ls fr mn a b beg) v' → R v' [] w') :
    CallsI Try.prog 46 [.int .i64 ls, .int .i64 (a : Int), .int .i64 (b : Int), .int .i64 fr, .int .i64 mn] w [] R := by
  have h0 := h.fr0; have h1 := h.mn0; have h2 := h.fit
  have hg : 0 < Nat.gcd a b := Nat.gcd_pos_of_pos_left b ha
  have hga : Nat.gcd a b ≤ a := Nat.le_of_dvd ha (Nat.gcd_dvd_left a b)
  have hab : a * b ≤ 100 * 100 := Nat.mul_le_mul ha1 hb1
  refine s46 _ _ _ _ _ _ _ fun _ => c42 hb ⟨_, rfl, rfl, ?_⟩
  have far : ∀ l, a * b ≤ l → rep2 a b (l + Nat.gcd a b) = rep2 a b l := fun l hl => rep2_far hb hl
  obtain ⟨g, hge'⟩ : ∃ g, g = Nat.gcd a b := ⟨_, rfl⟩
  obtain ⟨q, hqe⟩ : ∃ q, q = a * b := ⟨_, rfl⟩
  have hqw : IntKind.i64.wrap (IntKind.i64.wrap ((a : Int) * b) + IntKind.i64.wrap (2 * ((Nat.gcd a b : Nat) : Int))) = (q : Int) + 2 * g := by
    rw [← Int.natCast_mul, ← hge', ← hqe, wrap_id (x := (q : Int)) (by omega) (by omega), wrap_id (x := 2 * (g : Int)) (by omega) (by omega), wrap_id (by omega) (by omega)]
  rw [hqw]
  rw [← hge'] at far hR hg hga ⊢
  rw [← hqe] at far hR hab
  clear hqw
  refine (Fam.empty w).mkRow 0 (xs := []) fun n6 F0 w7 ho0 hF0 hs0 => ?_
  refine ⟨I46s w a b (q + 2 * g + 1), ⟨F0, hF0, hs0, by omega, by omega⟩, ?_⟩
  clear hF0 hs0 ho0 F0
  rintro x9 A10 n11 n12 w13 ⟨F, hF, hs, h90, h91⟩ n14 rfl
  have hlen : ((List.range x9.toNat).map (rep2 a b)).length = x9.toNat := by simp
  have hn11 : n11 = x9.toNat := by rw [hs.len, bools_len, hlen]
  refine condK_dec (fun hle => ?_) fun hgt => ?_
  · obtain ⟨p, rfl⟩ : ∃ p : Nat, x9 = p := ⟨x9.toNat, by omega⟩
    rw [Int.toNat_natCast] at hs hlen hn11
    have push : ∀ t : Bool, t = rep2 a b p → NewK w13 (Obj.cells (Array.mk [Value.bool t]) 4) fun n15 w16 => J46_2 A10 n11 n12 n15 w16 (I46s w a b (q + 2 * g + 1)) p ((I46s w a b (q + 2 * g + 1) p A10 n11 n12).m w13) := by
      rintro t rfl
      refine hs.push_bool hF (by omega) fun F2 A2 c2 w2 ho2 hF2 hs2 => ?_
      rw [wrap_id (by omega) (by omega)]
      refine ⟨⟨F2, hF2, ?_, by omega, by omega⟩, by simp only [I46s]; omega⟩
      rw [show ((p : Int) + 1).toNat = p + 1 by omega, List.range_succ, List.map_append]
      exact hs2
    have get : ∀ (c : Nat) (K : Bool → Prop), 0 < c → c ≤ p → K (rep2 a b (p - c)) → IxV A10 n11 1 (IntKind.i64.wrap ((p : Int) - (c : Int))) fun a => ∃ t, w13.cell? a = some (.bool t) ∧ K t := by
      intro c K hc hcp hK
      rw [wrap_id (by omega) (by omega)]
      refine hs.get_bool hF (by omega) (by rw [hlen]; omega) ?_
      rw [gb_range (by omega) (by omega), show ((p : Int) - c).toNat = p - c by omega]; exact hK
    have hst := rep2_step (a := a) (b := b) (l := p)
    have no : ∀ (hno : ¬ rep2 a b p = true), false = rep2 a b p := fun hno => by rw [Bool.not_eq_true] at hno; exact hno.symm
    have tail : p ≠ 0 → ¬ (a ≤ p ∧ rep2 a b (p - a) = true) → condK (decide ((p : Int) ≥ (b : Int))) (J46_5 A10 n11 p b w13 n12 (I46s w a b (q + 2 * g + 1)) ((I46s w a b (q + 2 * g + 1) p A10 n11 n12).m w13)) (J46_6 w13 A10 n11 n12 (I46s w a b (q + 2 * g + 1)) p ((I46s w a b (q + 2 * g + 1) p A10 n11 n12).m w13)) := by
      intro hp0 hna
      refine condK_dec (fun hbp => ?_) fun hbp => ?_
      · rw [J46_5]
        refine get b _ hb (by omega) (push _ ?_)
        cases hr : rep2 a b (p - b) with
        | true => exact (hst.2 (.inr (.inr ⟨by omega, hr⟩))).symm
        | false =>
          refine no fun hh => ?_
          rcases hst.1 hh with hz | hz | hz
          · exact hp0 hz
          · exact hna hz
          · rw [hr] at hz; cases hz.2
      · rw [J46_6]
        refine push _ (no fun hh => ?_)
        rcases hst.1 hh with hz | hz | hz
        · exact hp0 hz
        · exact hna hz
        · omega
    have yes : rep2 a b p = true → J46_3 w13 A10 n11 n12 (I46s w a b (q + 2 * g + 1)) p ((I46s w a b (q + 2 * g + 1) p A10 n11 n12).m w13) := fun hh => by
      rw [J46_3]; exact push _ hh.symm
    refine condK_beq (fun hz => yes (hst.2 (.inl (by omega)))) fun hz => ?_
    refine condK_dec (fun hap => ?_) fun hap => ?_
    · refine get a (fun t22 => condK t22 _ _) ha (by omega) ?_
      refine condK_of (fun hr => yes (hst.2 (.inr (.inl ⟨by omega, hr⟩)))) fun hr => tail (by omega) fun hh => by rw [hr] at hh; cases hh.2
    · exact tail (by omega) fun hh => by omega
  · have hx9 : x9.toNat = q + 2 * g + 1 := by omega
    rw [hx9] at hs hlen hn11
    clear h90 h91 hgt hx9 x9
    have hrow := hs.row hF
    have hEw : Ext w w13 := hF.base
    clear hs hF F
    refine ⟨fun x58 x59 => ⟨fun w' => w' = w13 ∧ 0 ≤ x58 ∧ x58 + g ≤ n11 ∧ ∃ beg : Nat, x59 = beg ∧ x59 ≤ x58 ∧ (∀ l : Nat, beg ≤ l → (l : Int) < x58 → rep2 a b (l + g) = rep2 a b l) ∧ (beg = 0 ∨ rep2 a b (beg - 1) ≠ rep2 a b (beg - 1 + g)), fun _ => (n11 - x58).toNat⟩,
      ⟨rfl, by omega, by omega, 0, rfl, by omega, fun l _ hl => by omega, .inl rfl⟩, ?_⟩
    rintro x58 _ w60 ⟨rfl, h580, h581, beg, rfl, hbx, hper, hfirst⟩ n61 rfl
    rw [wrap_id (x := x58 + g) (by omega) (by omega)]
    refine condK_dec (fun hlt => ?_) fun hge => ?_
    · obtain ⟨l, rfl⟩ : ∃ l : Nat, x58 = l := ⟨x58.toNat, by omega⟩
      subst hn11
      have get : ∀ (c : Nat) (K : Bool → Prop), c < q + 2 * g + 1 → K (rep2 a b c) → IxV A10 (q + 2 * g + 1) 1 (c : Int) fun a => ∃ t, w60.cell? a = some (.bool t) ∧ K t := by
        intro c K hc hK
        have hl := hlen
        have := rd_bool (w := w60) (w' := w60) (A := A10) (i := (c : Int)) (K := K) Ext.rfl' hrow (by omega) (by rw [hlen]; omega) (by rw [gb_range (by omega) (by omega), Int.toNat_natCast]; exact hK)
        rw [hlen] at this; exact this
      refine get l (fun t63 => IxV _ _ _ _ _) (by omega) ?_
      rw [← Int.natCast_add]
      refine get (l + g) (fun t65 => condK _ _ _) (by omega) ?_
      rw [wrap_id (x := (l : Int) + 1) (by omega) (by omega)]
      refine condK_of (fun hne => ?_) fun heq => ?_
      · refine ⟨⟨rfl, by omega, by omega, l + 1, by omega, by omega, fun l' h1 h2 => by omega, .inr ?_⟩, by simp only []; omega⟩
        rw [Nat.add_sub_cancel]; intro e; rw [e] at hne; simp at hne
      · refine ⟨⟨rfl, by omega, by omega, beg, rfl, by omega, fun l' h1 h2 => ?_, hfirst⟩, by simp only []; omega⟩
        by_cases e : l' = l
        · subst e
          cases e1 : rep2 a b l' <;> cases e2 : rep2 a b (l' + g) <;> rw [e1, e2] at heq <;> simp at heq <;> rfl
        · exact hper l' h1 (by omega)
    · have hok : BeginOk a b beg := ⟨fun l hl => by
        rw [← hge']
        by_cases e : (l : Int) < x58
        · exact hper l hl e
        · exact far l (by omega), by rw [← hge']; exact hfirst⟩
      have hN : 0 < beg + g := by omega
      rw [wrap_id (x := (beg : Int) + g) (by omega) (by omega), ← Int.natCast_add]
      refine c41 h hls hN (by omega) fun w68 v68 hnew => ?_
      obtain ⟨A71, n72, n73, A74, n75, n76, rfl⟩ := hnew.at_.form
      refine ⟨_, _, _, _, _, _, _, _, rfl, rfl, fun _ => ?_⟩
      obtain ⟨N, hNe⟩ : ∃ N, N = beg + g := ⟨_, rfl⟩
      rw [← hNe] at hnew hN ⊢
      obtain ⟨F, hF, hin⟩ := hnew.in_
      refine ⟨fun x79 => ⟨fun w' => ∃ F f, Fam w60 w' F ∧ MachIn F id { ringM ls fr mn N with fin := f } (.agg (Array.mk [.int .i64 (ringM ls fr mn N).letters, .int .i64 (ringM ls fr mn N).start, .slice A71 n72 n73, .slice A74 n75 n76])) ∧ f.length = N ∧ (∀ i : Nat, (i : Int) < x79 → f[i]? = some (rep2 a b i)) ∧ 0 ≤ x79 ∧ x79 ≤ N, fun _ => (N - x79).toNat⟩,
        ⟨F, _, hF, hin, by simp, fun i hi => by omega, by omega, by omega⟩, ?_⟩
      clear hF hin hnew F
      rintro x79 w80 ⟨F, f, hF, hin, hl, hf, h790, h791⟩ n81 rfl
      refine condK_dec (fun hlt => ?_) fun hge2 => ?_
      · obtain ⟨i, rfl⟩ : ∃ i : Nat, x79 = i := ⟨x79.toNat, by omega⟩
        rw [hn11, ← hlen]
        refine rd_bool (w := w60) hF.base hrow (by omega) (by rw [hlen]; omega) (K := fun t83 => IxV _ _ _ _ _) ?_
        rw [gb_range (by omega) (by omega), Int.toNat_natCast]
        refine hin.setFin hF (fun _ _ h => h) h790 (show (i : Int) < f.length by omega) fun F2 w2 ho2 hF2 hin2 => ?_
        rw [J46_14, wrap_id (by omega) (by omega)]
        refine ⟨⟨F2, _, hF2, hin2, by simp [hl], fun j hj => ?_, by omega, by omega⟩, by simp only []; omega⟩
        rw [Int.toNat_natCast]
        show (f.set i _)[j]? = _
        by_cases e : j = i
        · subst e; exact List.getElem?_set_self (by omega)
        · rw [List.getElem?_set_ne (Ne.symm e)]; exact hf j (by omega)
      · have hfe : f = (List.range N).map (rep2 a b) := fin_ext hl fun i hi => hf i (by omega)
        subst hfe
        clear hf hl h790 h791 hge2 hper hfirst far
        have hrg : ∀ i : Nat, i < N → (ringM ls fr mn N).next[i]? = some (ringRow ls fr mn (if i + 1 = N then 0 else i + 1 : Nat)) := fun i hi => lasso_get (ring_ok h hN) hi
        have hrl : (ringM ls fr mn N).next.length = N := lasso_len
        rw [wrap_id (x := (N : Int) - 1) (by omega) (by omega), wrap_id (x := fr + mn) (by omega) (by omega)]
        refine ⟨fun x87 => ⟨fun w' => ∃ F nx, Fam w60 w' F ∧ MachIn F id ⟨ls, 0, nx, (List.range N).map (rep2 a b)⟩ (.agg (Array.mk [.int .i64 (ringM ls fr mn N).letters, .int .i64 (ringM ls fr mn N).start, .slice A71 n72 n73, .slice A74 n75 n76])) ∧ nx.length = N ∧ (∀ i : Nat, i + 1 < N → nx[i]? = some (ringRow ls fr mn (i + 1 : Nat))) ∧ nx[N - 1]? = some (midRow ls fr mn beg x87) ∧ fr ≤ x87 ∧ x87 ≤ fr + mn, fun _ => (fr + mn - x87).toNat⟩,
          ⟨F, _, hF, hin, hrl, fun i hi => by rw [hrg i (by omega), if_neg (by omega)], by rw [hrg _ (by omega), if_pos (by omega), mid_first]; rfl, by omega, by omega⟩, ?_⟩
        clear hF hin F
        rintro x87 w88 ⟨F, nx, hF, hin, hnl, hn1, hn2, h870, h871⟩ n89 rfl
        have hgl : gl nx ((N : Int) - 1) = midRow ls fr mn beg x87 := gl_get (by rw [show ((N : Int) - 1).toNat = N - 1 by omega]; exact hn2)
        refine condK_dec (fun hlt => ?_) fun hge3 => ?_
        · refine hin.setEl hF (fun _ _ h => h) (by omega) (show (N : Int) - 1 < nx.length by omega) (by omega) (show x87 < (gl nx ((N : Int) - 1)).length by rw [hgl, mid_len]; omega) fun F2 w2 ho2 hF2 hin2 => ?_
          rw [J46_14, wrap_id (by omega) (by omega)]
          have e1 : ((N : Int) - 1).toNat = N - 1 := by omega
          refine ⟨⟨F2, _, hF2, hin2, by simp [hnl], fun j hj => ?_, ?_, by omega, by omega⟩, by simp only []; omega⟩
          · rw [e1, List.getElem?_set_ne (by omega)]; exact hn1 j hj
          · rw [e1]
            show (nx.set (N - 1) ((gl nx ((N : Int) - 1)).set x87.toNat beg))[N - 1]? = _
            rw [List.getElem?_set_self (by omega), hgl, mid_set h0 h870 hlt]
        · rw [mid_last (by omega)] at hn2
          have hnx : nx = (List.range N).map fun i => ringRow ls fr mn (if i + 1 = N then beg else i + 1 : Nat) := by
            apply List.ext_getElem?
            intro i
            by_cases hi : i < N
            · rw [List.getElem?_map, List.getElem?_range hi, Option.map_some]
              by_cases e : i + 1 = N
              · rw [if_pos e, show i = N - 1 by omega, hn2]
              · rw [if_neg e, hn1 i (by omega)]
            · rw [List.getElem?_eq_none (by omega), List.getElem?_eq_none (by simp; omega)]
          refine hR w88 _ beg hok (by omega) ?_
          have hnew := (hin.new hF fun _ _ h => h).after hEw
          rw [hnx] at hnew
          have hM : summedM ls fr mn a b beg = ⟨ls, 0, (List.range N).map fun i => ringRow ls fr mn (if i + 1 = N then beg else i + 1 : Nat), (List.range N).map (rep2 a b)⟩ := by
            rw [hNe, hge']; rfl
          rw [hM]; exact hnew
end Go.Proofs.Ytnkpjlhbojjneaa.VC

/- Two rings in a chain, and the hidden letter that leads from the one to the other. -/
namespace Go.Proofs.Ytnkpjlhbojjneaa.VC
open Go Go.RowKit

section
variable {ls fr mn : Int} {a b : Nat}
structure ChainOk (ls fr mn : Int) (a b : Nat) : Prop where
  ring : RingOk (ls - 1) fr mn
  a0 : 0 < a
  b0 : 0 < b
theorem ChainOk.full (h : ChainOk ls fr mn a b) : RingOk ls fr mn := ⟨h.ring.fr0, h.ring.mn0, by have := h.ring.fit; omega⟩
def lastL (ls : Int) : List Bool := (List.replicate ls.toNat false).set (ls - 1).toNat true
theorem lastL_len (h : 0 ≤ ls) : ((lastL ls).length : Int) = ls := by simp [lastL]; omega
theorem lastL_gb (h : 1 ≤ ls) {y : Int} (h0 : 0 ≤ y) : gb (lastL ls) y = decide (y = ls - 1) := by
  unfold lastL gb
  rw [List.getD_eq_getElem?_getD, List.getElem?_set]
  by_cases e : y = ls - 1
  · subst e; rw [if_pos rfl, if_pos (by simp; omega), decide_eq_true rfl]; rfl
  · rw [if_neg (by omega), decide_eq_false e, List.getElem?_replicate]
    split <;> rfl
theorem chain_len : (chainM ls fr mn a b).next.length = a + b ∧ (chainM ls fr mn a b).fin.length = a + b := by
  have := chain0_len (ls := ls) (fr := fr) (mn := mn) (a := a) (b := b)
  simp [chainM, this.1, this.2]
theorem chain_row (_h : ChainOk ls fr mn a b) {i : Nat} (hi : i < a + b) : (chainM ls fr mn a b).next[i]? = some (if i = 0 then (ringRow ls fr mn (cnx a b 0 : Nat)).set (ls - 1).toNat a else ringRow ls fr mn (cnx a b i : Nat)) := by
  show ((chain0 ls fr mn a b).next.set 0 _)[i]? = _
  have hl := (chain0_len (ls := ls) (fr := fr) (mn := mn) (a := a) (b := b)).1
  by_cases e : i = 0
  · subst e
    rw [List.getElem?_set_self (by omega), if_pos rfl, show gl (chain0 ls fr mn a b).next 0 = ringRow ls fr mn (cnx a b 0 : Nat) from gl_get (chain0_next (by omega))]
  · rw [List.getElem?_set_ne (Ne.symm e), if_neg e, chain0_next hi]
theorem cnx_lt (h : 0 < a) (hb : 0 < b) {i : Nat} (hi : i < a + b) : cnx a b i < a + b := by
  unfold cnx; split <;> split <;> omega
theorem chain_shaped (h : ChainOk ls fr mn a b) : (chainM ls fr mn a b).Shaped := by
  have h0 := h.ring.fr0; have h1 := h.ring.mn0; have h2 := h.ring.fit; have ha := h.a0; have hb := h.b0
  obtain ⟨hl, hf⟩ := chain_len (ls := ls) (fr := fr) (mn := mn) (a := a) (b := b)
  refine ⟨show 0 ≤ ls by omega, by rw [hl, hf], fun row hr => ?_, fun e => by rw [hl] at e; omega, fun _ => by rw [hl]; show (0 : Int) ≤ 0 ∧ (0 : Int) < (a + b : Nat); omega⟩
  obtain ⟨i, hi, hri⟩ := List.mem_iff_getElem.1 hr
  have hri : (chainM ls fr mn a b).next[i]? = some row := by rw [List.getElem?_eq_getElem hi, hri]
  rw [hl] at hi
  rw [chain_row h hi] at hri
  injection hri with hri
  have rr : ∀ t ∈ ringRow ls fr mn (cnx a b i : Nat), -1 ≤ t ∧ t < ((a + b : Nat) : Int) := fun t ht => by
    unfold ringRow at ht
    obtain ⟨k, _, rfl⟩ := List.mem_map.1 ht
    have := cnx_lt ha hb hi
    split <;> omega
  refine ⟨?_, fun t ht => ?_⟩
  · rw [← hri]
    split
    · rw [List.length_set]; exact ringRow_len (by omega)
    · exact ringRow_len (by omega)
  · rw [hl]
    rw [← hri] at ht
    by_cases e : i = 0
    · rw [if_pos e] at ht
      rcases List.mem_or_eq_of_mem_set ht with ht | rfl
      · subst e; exact rr t ht
      · omega
    · rw [if_neg e] at ht; exact rr t ht
theorem chain_step (h : ChainOk ls fr mn a b) {i : Nat} (hi : i < a + b) {y : Int} : (chainM ls fr mn a b).step i y = if y = ls - 1 then (if i = 0 then (a : Int) else -1) else if fr ≤ y ∧ y < fr + mn then (cnx a b i : Int) else -1 := by
  have h0 := h.ring.fr0; have h1 := h.ring.mn0; have h2 := h.ring.fit
  by_cases hy : 0 ≤ y ∧ y < ls
  · refine Mach.step_in (by rw [Int.toNat_natCast]; exact chain_row h hi) (by omega) hy.1 ?_
    have hg := fun t => ringRow_get (ls := ls) (fr := fr) (mn := mn) (t := t) hy.1 hy.2
    by_cases e : i = 0
    · rw [if_pos e, if_pos e, List.getElem?_set]
      by_cases e2 : y = ls - 1
      · rw [if_pos e2, if_pos (by omega), if_pos (by have := ringRow_len (ls := ls) (fr := fr) (mn := mn) (t := (cnx a b 0 : Nat)) (by omega); omega)]
      · rw [if_neg e2, if_neg (by omega), hg, e]
    · rw [if_neg e, if_neg e, hg]
      by_cases e2 : y = ls - 1
      · rw [if_pos e2, if_neg (by omega)]
      · rw [if_neg e2]
  · rw [if_neg (by omega), if_neg (by omega)]
    have hsh := chain_shaped h
    have := hsh.step_range (i : Int) y
    rcases ilt ((chainM ls fr mn a b).step i y) 0 with hn | hn
    · omega
    · exact absurd (hsh.step_let hn).2 hy
theorem chain_ends (h : ChainOk ls fr mn a b) {i : Nat} (hi : i < a + b) : (chainM ls fr mn a b).ends i = decide (i = a) := by
  have ha := h.a0
  unfold Mach.ends
  show (decide (0 ≤ (i : Int)) && ((chain0 ls fr mn a b).fin.set 0 false).getD (i : Int).toNat false) = _
  rw [Int.toNat_natCast, List.getD_eq_getElem?_getD, List.getElem?_set]
  have hl := (chain0_len (ls := ls) (fr := fr) (mn := mn) (a := a) (b := b)).2
  by_cases e : i = 0
  · subst e
    rw [if_pos rfl, if_pos (by omega), decide_eq_false (show ¬ 0 = a by omega)]; rfl
  · rw [if_neg (Ne.symm e), chain0_fin hi, decide_eq_false e]
    simp
/-- where one may stand after so many letters that are shown -/
def Qs (a b l s : Nat) : Prop := s = l % a ∨ ∃ i, a * i ≤ l ∧ s = a + (l - a * i) % b
theorem hideW_append (hid : List Bool) (u v : List Int) : hideW hid (u ++ v) = hideW hid u ++ hideW hid v := List.filter_append ..
theorem succ_mod {a l : Nat} (ha : 0 < a) : (l + 1) % a = if l % a + 1 = a then 0 else l % a + 1 := by
  have hm := Nat.mod_lt l ha
  rw [Nat.add_mod]
  by_cases e : l % a + 1 = a
  · rw [if_pos e]
    by_cases h1 : a = 1
    · subst h1; omega
    · rw [Nat.mod_eq_of_lt (show 1 < a by omega), e, Nat.mod_self]
  · rw [if_neg e, Nat.mod_eq_of_lt (show 1 < a by omega), Nat.mod_eq_of_lt (by omega)]
theorem cnx_one (ha : 0 < a) (l : Nat) : cnx a b (l % a) = (l + 1) % a := by
  have hm := Nat.mod_lt l ha
  rw [succ_mod ha, cnx, if_pos hm]
theorem cnx_two (hb : 0 < b) (l : Nat) : cnx a b (a + l % b) = a + (l + 1) % b := by
  have hm := Nat.mod_lt l hb
  rw [succ_mod hb, cnx, if_neg (by omega)]
  by_cases e : l % b + 1 = b
  · rw [if_pos (by omega), if_pos e]; rfl
  · rw [if_neg (by omega), if_neg e]; omega
theorem Qs_lt (ha : 0 < a) (hb : 0 < b) {l s : Nat} (h : Qs a b l s) : s < a + b := by
  rcases h with rfl | ⟨i, _, rfl⟩
  · have := Nat.mod_lt l ha; omega
  · have := Nat.mod_lt (l - a * i) hb; omega
theorem snoc_ind {X : Type} {P : List X → Prop} (h0 : P []) (h1 : ∀ l x, P l → P (l ++ [x])) (l : List X) : P l := by
  have : ∀ n, ∀ l : List X, l.length = n → P l := by
    intro n
    induction n with
    | zero => intro l hl; rw [List.length_eq_zero_iff.1 hl]; exact h0
    | succ n ih =>
      intro l hl
      have hne : l ≠ [] := fun e => by rw [e] at hl; simp at hl
      rw [← List.dropLast_concat_getLast hne]
      exact h1 _ _ (ih _ (by rw [List.length_dropLast]; omega))
  exact this _ l rfl
/-- what is found, is found so -/
theorem chain_run (h : ChainOk ls fr mn a b) (v : List Int) : 0 ≤ (chainM ls fr mn a b).run 0 v → RL fr mn (hideW (lastL ls) v) = true ∧ ∃ s : Nat, (chainM ls fr mn a b).run 0 v = s ∧ Qs a b (hideW (lastL ls) v).length s := by
  have h0 := h.ring.fr0; have h1 := h.ring.mn0; have h2 := h.ring.fit; have ha := h.a0; have hb := h.b0
  induction v using snoc_ind with
  | h0 => intro _; exact ⟨rfl, 0, rfl, .inl (by simp [hideW])⟩
  | h1 v y ih =>
    intro hpos
    rw [Mach.run_append] at hpos ⊢
    have e1 : (chainM ls fr mn a b).run ((chainM ls fr mn a b).run 0 v) [y] = (chainM ls fr mn a b).step ((chainM ls fr mn a b).run 0 v) y := rfl
    rw [e1] at hpos ⊢
    obtain ⟨hr, s, hs, hq⟩ := ih ((chain_shaped h).step_let hpos).1.1
    rw [hs] at hpos ⊢
    have hlt := Qs_lt ha hb hq
    rw [chain_step h hlt] at hpos ⊢
    rw [hideW_append]
    by_cases e : y = ls - 1
    · rw [if_pos e] at hpos ⊢
      have hy : hideW (lastL ls) [y] = [] := by
        unfold hideW
        rw [List.filter_cons, lastL_gb (by omega) (by omega), decide_eq_true e]; rfl
      rw [hy, List.append_nil]
      by_cases es : s = 0
      · rw [if_pos es]
        refine ⟨hr, a, rfl, ?_⟩
        subst es
        rcases hq with hq | ⟨i, _, hq⟩
        · refine .inr ⟨(hideW (lastL ls) v).length / a, ?_, ?_⟩
          · exact Nat.mul_div_le _ _
          · have := Nat.div_add_mod (hideW (lastL ls) v).length a
            rw [show (hideW (lastL ls) v).length - a * ((hideW (lastL ls) v).length / a) = 0 by omega, Nat.zero_mod]; rfl
        · omega
      · rw [if_neg es] at hpos; omega
    · rw [if_neg e] at hpos ⊢
      by_cases e2 : fr ≤ y ∧ y < fr + mn
      · rw [if_pos e2]
        have hy : hideW (lastL ls) [y] = [y] := by
          unfold hideW
          rw [List.filter_cons, lastL_gb (by omega) (by omega), decide_eq_false e]; rfl
        rw [hy, RL_append, hr, List.length_append, List.length_singleton]
        refine ⟨by rw [RL_cons]; simp [RL, e2.1, e2.2], _, rfl, ?_⟩
        rcases hq with rfl | ⟨i, hi, rfl⟩
        · exact .inl (cnx_one ha _)
        · refine .inr ⟨i, by omega, ?_⟩
          rw [cnx_two hb, show (hideW (lastL ls) v).length + 1 - a * i = (hideW (lastL ls) v).length - a * i + 1 by omega]
      · rw [if_neg e2] at hpos; omega
theorem RL_shown (h : ChainOk ls fr mn a b) {u : List Int} (hu : RL fr mn u = true) : hideW (lastL ls) u = u := by
  have h0 := h.ring.fr0; have h1 := h.ring.mn0; have h2 := h.ring.fit
  refine List.filter_eq_self.2 fun y hy => ?_
  have := RL_mem hu y hy
  rw [lastL_gb (by omega) (by omega), decide_eq_false (by omega)]; rfl
theorem chain_walk (h : ChainOk ls fr mn a b) {u : List Int} : RL fr mn u = true → (chainM ls fr mn a b).run 0 u = ((u.length % a : Nat) : Int) ∧ ∀ k : Nat, (chainM ls fr mn a b).run ((a + k % b : Nat) : Int) u = ((a + (k + u.length) % b : Nat) : Int) := by
  have h0 := h.ring.fr0; have h1 := h.ring.mn0; have h2 := h.ring.fit; have ha := h.a0; have hb := h.b0
  induction u using snoc_ind with
  | h0 => intro _; exact ⟨by rw [List.length_nil, Nat.zero_mod]; rfl, fun k => rfl⟩
  | h1 u y ih =>
    intro hu
    rw [RL_append, Bool.and_eq_true] at hu
    obtain ⟨i1, i2⟩ := ih hu.1
    have hy := RL_mem hu.2 y (by simp)
    have e1 : ∀ s, (chainM ls fr mn a b).run s [y] = (chainM ls fr mn a b).step s y := fun _ => rfl
    refine ⟨?_, fun k => ?_⟩
    · rw [Mach.run_append, i1, e1, chain_step h (by have := Nat.mod_lt u.length ha; omega), if_neg (by omega), if_pos hy, List.length_append, List.length_singleton, cnx_one ha]
    · rw [Mach.run_append, i2, e1, chain_step h (by have := Nat.mod_lt (k + u.length) hb; omega), if_neg (by omega), if_pos hy, List.length_append, List.length_singleton, cnx_two hb, Nat.add_assoc]
theorem chain_found (h : ChainOk ls fr mn a b) {u : List Int} (hu : RL fr mn u = true) {s : Nat} (hq : Qs a b u.length s) : ∃ v, hideW (lastL ls) v = u ∧ (chainM ls fr mn a b).run 0 v = s := by
  have h0 := h.ring.fr0; have h1 := h.ring.mn0; have h2 := h.ring.fit; have ha := h.a0; have hb := h.b0
  rcases hq with rfl | ⟨i, hi, rfl⟩
  · exact ⟨u, RL_shown h hu, (chain_walk h hu).1⟩
  · have hsp : u.take (a * i) ++ u.drop (a * i) = u := List.take_append_drop ..
    have hu2 := hu
    rw [← hsp, RL_append, Bool.and_eq_true] at hu2
    have hk : hideW (lastL ls) [ls - 1] = [] := by
      unfold hideW
      rw [List.filter_cons, lastL_gb (by omega) (by omega), decide_eq_true rfl]; rfl
    refine ⟨u.take (a * i) ++ ([ls - 1] ++ u.drop (a * i)), ?_, ?_⟩
    · rw [hideW_append, hideW_append, hk, RL_shown h hu2.1, RL_shown h hu2.2, List.nil_append, hsp]
    · have e1 : ∀ s, (chainM ls fr mn a b).run s [ls - 1] = (chainM ls fr mn a b).step s (ls - 1) := fun _ => rfl
      rw [Mach.run_append, (chain_walk h hu2.1).1, List.length_take, Nat.min_eq_left hi, Nat.mul_mod_right, Mach.run_append, e1, chain_step h (by omega), if_pos rfl, if_pos rfl]
      have := (chain_walk h hu2.2).2 0
      rw [Nat.zero_mod, Nat.add_zero, Nat.zero_add, List.length_drop] at this
      exact this
/-- the words without the hidden letter -/
theorem chain_words (h : ChainOk ls fr mn a b) (u : List Int) : HL (chainM ls fr mn a b) (lastL ls) (fun s => s = (chainM ls fr mn a b).start) u ↔ (RL fr mn u && rep2 a b u.length) = true := by
  have ha := h.a0; have hb := h.b0
  have hst : (chainM ls fr mn a b).start = 0 := rfl
  rw [Bool.and_eq_true]
  constructor
  · rintro ⟨s, v, rfl, hv, hacc⟩
    rw [hst] at hacc
    have he : (chainM ls fr mn a b).ends ((chainM ls fr mn a b).run 0 v) = true := hacc
    have hp := (ends_rng (chain_shaped h) he).1
    obtain ⟨hr, s, hs, hq⟩ := chain_run h v hp
    rw [hs, chain_ends h (Qs_lt ha hb hq), decide_eq_true_eq] at he
    rw [hv] at hr hq
    refine ⟨hr, ?_⟩
    subst he
    rcases hq with hq | ⟨i, hi, hq⟩
    · have := Nat.mod_lt u.length ha; omega
    · have hm : (u.length - s * i) % b = 0 := by omega
      have := Nat.div_add_mod (u.length - s * i) b
      exact rep2_true.2 ⟨i, (u.length - s * i) / b, by omega⟩
  · rintro ⟨hr, hrep⟩
    obtain ⟨i, j, hl⟩ := rep2_true.1 hrep
    obtain ⟨v, hv, hs⟩ := chain_found h hr (s := a) (.inr ⟨i, by omega, by rw [show u.length - a * i = b * j by omega, Nat.mul_mod_right]; rfl⟩)
    refine ⟨_, v, rfl, hv, ?_⟩
    rw [hst]
    show (chainM ls fr mn a b).ends ((chainM ls fr mn a b).run 0 v) = true
    rw [hs, chain_ends h (by omega)]; exact decide_eq_true rfl
theorem chain_hide (h : ChainOk ls fr mn a b) {beg : Nat} (hbeg : BeginOk a b beg) : IsHide (chainM ls fr mn a b) (lastL ls) (summedM ls fr mn a b beg) :=
  ⟨summed_canon h.full h.a0 hbeg, rfl, fun u => by rw [summed_words h.full h.a0 hbeg, chain_words h]⟩
end
end Go.Proofs.Ytnkpjlhbojjneaa.VC

/- How many sets are found when the chain's letter is hidden. -/
namespace Go.Proofs.Ytnkpjlhbojjneaa.VC
open Go Go.RowKit

theorem hid_all {hid : List Bool} {v : List Int} : hideW hid v = [] ↔ ∀ y ∈ v, gb hid y = true := by
  unfold hideW
  rw [List.filter_eq_nil_iff]
  constructor
  · intro h y hy; have := h y hy; simpa using this
  · intro h y hy; rw [h y hy]; decide
/-- what is found from the start by words that look alike -/
theorem from_char {x : Mach} {hid : List Bool} (hx : x.Shaped) {S : List Bool} (h : (hideAuto x hid).From (hfirst x hid) S) : S.length = x.next.length ∧ ∃ u : List Int, ∀ t : Int, 0 ≤ t → t < x.next.length → (gb S t = true ↔ ∃ v, hideW hid v = u ∧ x.run x.start v = t) := by
  induction h with
  | here =>
    refine ⟨cloL_len _ _ _, [], fun t h0 h1 => ?_⟩
    rw [hfirst, cloL_gb h0 h1]
    constructor
    · rintro ⟨s, v, rfl, h2, h3, _⟩; exact ⟨v, hid_all.2 h2, h3⟩
    · rintro ⟨v, h2, h3⟩; exact ⟨_, v, rfl, hid_all.1 h2, h3, h0⟩
  | @step S T c _ hc0 hc1 e ih =>
    obtain ⟨hl, u, hu⟩ := ih
    refine ⟨hideNext_len e, u ++ [c], fun t h0 h1 => ?_⟩
    have e : hideNext x hid S c = some T := e
    have hhc : gb hid c = false := by
      cases hh : gb hid c with
      | false => rfl
      | true => rw [hideNext_hid hh] at e; cases e
    have hex : ∃ s, (0 ≤ s ∧ gb S s = true) ∧ 0 ≤ x.step s c := by
      apply Classical.byContradiction
      intro hno; rw [hideNext_none hno] at e; cases e
    rw [hideNext_some hhc hex] at e
    injection e with e
    subst e
    rw [cloL_gb h0 h1]
    constructor
    · rintro ⟨s', v2, ⟨s, ⟨hs0, hs1⟩, rfl⟩, h2, h3, _⟩
      have hlt := gb_true hs1 hs0
      rw [hl] at hlt
      obtain ⟨v1, h4, h5⟩ := (hu s hs0 hlt).1 hs1
      refine ⟨v1 ++ ([c] ++ v2), ?_, ?_⟩
      · rw [hideW_append, hideW_append, h4, hid_all.2 h2, List.append_nil]
        congr 1
        unfold hideW; rw [List.filter_cons, hhc]; rfl
      · rw [Mach.run_append, h5, Mach.run_append]; exact h3
    · rintro ⟨v, h2, h3⟩
      obtain ⟨v1, v2, rfl, h4, h5⟩ := List.filter_eq_append_iff.1 h2
      obtain ⟨v3, v4, rfl, h6, h7, h8⟩ := List.filter_eq_cons_iff.1 h5
      have h6' : hideW hid v3 = [] := List.filter_eq_nil_iff.2 h6
      have h8' : hideW hid v4 = [] := h8
      rw [Mach.run_append, Mach.run_append] at h3
      have e1 : x.run (x.run (x.run x.start v1) v3) (c :: v4) = x.run (x.step (x.run (x.run x.start v1) v3) c) v4 := rfl
      rw [e1] at h3
      have hst : 0 ≤ x.step (x.run (x.run x.start v1) v3) c := by
        rcases ilt (x.step (x.run (x.run x.start v1) v3) c) 0 with hn | hn
        · have := Mach.run_neg hn (m := x) v4; omega
        · exact hn
      have hr := (hx.step_let hst).1
      refine ⟨_, v4, ⟨x.run (x.run x.start v1) v3, ⟨hr.1, (hu _ hr.1 hr.2).2 ⟨v1 ++ v3, ?_, by rw [Mach.run_append]⟩⟩, rfl⟩, hid_all.1 h8', h3, h0⟩
      rw [hideW_append, h6', List.append_nil]; exact h4
/-- states that are one for a machine are one for its least machine -/
theorem IsLeast.run_eq {m x : Mach} (h : IsLeast m x) {v v' : List Int} (he : m.run m.start v = m.run m.start v') (hp : 0 ≤ x.run x.start v) : x.run x.start v' = x.run x.start v := by
  have hs := h.canon.shaped
  have key : ∀ w, x.acc (x.run x.start v) w = x.acc (x.run x.start v') w := fun w => by
    have a := h.words (v ++ w); have b := h.words (v' ++ w)
    rw [acc_run, acc_run] at a b
    rw [a, b, he]
  have r1 := hs.run_range hs.start_range v
  have r2 := hs.run_range hs.start_range v'
  obtain ⟨w, hw⟩ := h.canon.live _ hp r1.2
  have hp' := acc_pos (by rw [← key w]; exact hw)
  exact (h.canon.apart _ _ hp r1.2 hp' r2.2 key).symm
theorem IsLeast.run_pos {m x : Mach} (h : IsLeast m x) {v : List Int} (hp : 0 ≤ x.run x.start v) : 0 ≤ m.run m.start v := by
  have hs := h.canon.shaped
  have r1 := hs.run_range hs.start_range v
  obtain ⟨w, hw⟩ := h.canon.live _ hp r1.2
  have a := h.words (v ++ w)
  rw [acc_run, acc_run, hw] at a
  exact acc_pos a.symm
theorem Qs_per {a b l s : Nat} (hb : 0 < b) (hl : a * b ≤ l) : Qs a b (l + a * b) s ↔ Qs a b l s := by
  have e1 : (l + a * b) % a = l % a := Nat.add_mul_mod_self_left ..
  unfold Qs
  rw [e1]
  refine or_congr Iff.rfl ⟨?_, ?_⟩
  · rintro ⟨i, hi, rfl⟩
    have hib := Nat.mod_lt i hb
    have h1 : a * (i % b) ≤ a * b := Nat.mul_le_mul (Nat.le_refl a) (by omega)
    refine ⟨i % b, by omega, ?_⟩
    -- i = b * k + i % b
    obtain ⟨k, hk⟩ : ∃ k, i = b * k + i % b := ⟨i / b, (Nat.div_add_mod i b).symm⟩
    have e2 : a * i = b * (a * k) + a * (i % b) := by
      have : a * i = a * (b * k + i % b) := by rw [← hk]
      rw [this, Nat.mul_add, ← Nat.mul_assoc, ← Nat.mul_assoc, Nat.mul_comm a b]
    have e3 : (l - a * (i % b)) + b * a = (l + a * b - a * i) + b * (a * k) := by
      have := Nat.mul_comm a b
      omega
    have e4 := congrArg (· % b) e3
    simp only [Nat.add_mul_mod_self_left] at e4
    rw [e4]
  · rintro ⟨i, hi, rfl⟩
    refine ⟨i, by omega, ?_⟩
    rw [show l + a * b - a * i = (l - a * i) + b * a by rw [Nat.mul_comm b a]; omega, Nat.add_mul_mod_self_left]
section
variable {ls fr mn : Int} {a b : Nat} {x : Mach}
open Classical in
noncomputable def setL (fr mn ls : Int) (x : Mach) (l : Nat) : List Bool := (List.range x.next.length).map fun (t : Nat) => decide (∃ v, RL fr mn (hideW (lastL ls) v) = true ∧ (hideW (lastL ls) v).length = l ∧ x.run x.start v = t)
theorem setL_gb {l : Nat} {t : Int} (h0 : 0 ≤ t) (h1 : t < x.next.length) : gb (setL fr mn ls x l) t = true ↔ ∃ v, RL fr mn (hideW (lastL ls) v) = true ∧ (hideW (lastL ls) v).length = l ∧ x.run x.start v = t := by
  unfold gb setL
  rw [List.getD_eq_getElem?_getD, List.getElem?_map, List.getElem?_range (by omega)]
  simp only [Option.map_some, Option.getD_some, decide_eq_true_eq]
  rw [show ((t.toNat : Nat) : Int) = t by omega]
theorem gb_ext2 {S T : List Bool} (hl : S.length = T.length) (h : ∀ t : Int, 0 ≤ t → t < S.length → (gb S t = true ↔ gb T t = true)) : S = T := gb_ext hl fun t h0 h1 => by
  have := h t h0 h1
  cases e : gb S t <;> cases e2 : gb T t
  · rfl
  · rw [this.2 e2] at e; cases e
  · rw [this.1 e] at e2; cases e2
  · rfl
theorem setL_per (h : ChainOk ls fr mn a b) (hx : IsLeast (chainM ls fr mn a b) x) {l : Nat} (hl : a * b ≤ l) : setL fr mn ls x (l + a * b) = setL fr mn ls x l := by
  have hst : (chainM ls fr mn a b).start = 0 := rfl
  have go : ∀ l l' : Nat, (∀ s, Qs a b l s → Qs a b l' s) → ∀ t : Int, 0 ≤ t → (∃ v, RL fr mn (hideW (lastL ls) v) = true ∧ (hideW (lastL ls) v).length = l ∧ x.run x.start v = t) → ∃ v, RL fr mn (hideW (lastL ls) v) = true ∧ (hideW (lastL ls) v).length = l' ∧ x.run x.start v = t := by
    rintro l l' hq t h0 ⟨v, hv, hvl, rfl⟩
    have hp := hx.run_pos h0
    rw [hst] at hp
    obtain ⟨_, s, hs, hqs⟩ := chain_run h v hp
    rw [hvl] at hqs
    have hrep : RL fr mn (List.replicate l' fr) = true := by
      rw [RL, List.all_eq_true]
      intro y hy
      have := List.eq_of_mem_replicate hy
      have := h.ring.mn0
      simp; omega
    obtain ⟨v', hv', hs'⟩ := chain_found h hrep (s := s) (by rw [List.length_replicate]; exact hq s hqs)
    exact ⟨v', by rw [hv']; exact hrep, by rw [hv', List.length_replicate], hx.run_eq (by rw [hst, hs, hs']) h0⟩
  refine gb_ext2 (by simp [setL]) fun t h0 h1 => ?_
  have h1 : t < x.next.length := by simpa [setL] using h1
  rw [setL_gb h0 h1, setL_gb h0 h1]
  exact ⟨go _ _ (fun s => (Qs_per h.b0 hl).1) t h0, go _ _ (fun s => (Qs_per h.b0 hl).2) t h0⟩
theorem setL_low (h : ChainOk ls fr mn a b) (hx : IsLeast (chainM ls fr mn a b) x) : ∀ n l : Nat, l ≤ n → ∃ l', l' < 2 * (a * b) ∧ setL fr mn ls x l = setL fr mn ls x l' := by
  have hab : 0 < a * b := Nat.mul_pos h.a0 h.b0
  intro n
  induction n with
  | zero => intro l hl; exact ⟨l, by omega, rfl⟩
  | succ n ih =>
    intro l hl
    by_cases hlt : l < 2 * (a * b)
    · exact ⟨l, hlt, rfl⟩
    · obtain ⟨l', h1, h2⟩ := ih (l - a * b) (by omega)
      refine ⟨l', h1, ?_⟩
      rw [← h2, ← setL_per h hx (l := l - a * b) (by omega), show l - a * b + a * b = l by omega]
theorem chain_few (h : ChainOk ls fr mn a b) (hx : IsLeast (chainM ls fr mn a b) x) (hn : x.next.length ≤ 65536) {ys : List ByteArray} (h1 : ys.Nodup) (h2 : ∀ y ∈ ys, (hideAutoB x (lastL ls)).From (name (hfirst x (lastL ls))) y) : ys.length ≤ 2 * (a * b) + 1 := by
  have hst : (chainM ls fr mn a b).start = 0 := rfl
  have sx := hx.canon.shaped
  have := nodup_le ys (name (List.replicate x.next.length false) :: (List.range (2 * (a * b))).map fun l => name (setL fr mn ls x l)) h1 fun y hy => ?_
  · simpa using this
  · obtain ⟨S, rfl, hS, hf⟩ := fromB' hn (cloL_len _ _ _) (h2 y hy)
    obtain ⟨_, u, hu⟩ := from_char sx hf
    by_cases hr : RL fr mn u = true
    · obtain ⟨l', hl', he⟩ := setL_low h hx u.length u.length (Nat.le_refl _)
      refine List.mem_cons_of_mem _ (List.mem_map.2 ⟨l', List.mem_range.2 hl', ?_⟩)
      rw [← he]
      congr 1
      refine gb_ext2 (by simp [setL, hS]) fun t h0 h1 => ?_
      have h1 : t < x.next.length := by simpa [setL] using h1
      rw [setL_gb h0 h1, hu t h0 h1]
      constructor
      · rintro ⟨v, hv, hvl, rfl⟩
        have hp := hx.run_pos h0
        rw [hst] at hp
        obtain ⟨_, s, hs, hqs⟩ := chain_run h v hp
        rw [hvl] at hqs
        obtain ⟨v', hv', hs'⟩ := chain_found h hr hqs
        exact ⟨v', hv', hx.run_eq (by rw [hst, hs, hs']) h0⟩
      · rintro ⟨v, rfl, e⟩; exact ⟨v, hr, rfl, e⟩
    · have e : S = List.replicate x.next.length false := gb_ext2 (by simp [hS]) fun t h0 h1 => by
        rw [gb_rep, hu t h0 (by omega)]
        simp only [Bool.false_eq_true, iff_false]
        rintro ⟨v, rfl, rfl⟩
        have hp := hx.run_pos h0
        rw [hst] at hp
        exact hr (chain_run h v hp).1
      rw [e]; exact List.mem_cons_self ..
end
end Go.Proofs.Ytnkpjlhbojjneaa.VC

/- What is told of rings: the first word that parts two, both, either, how many words. -/
namespace Go.Proofs.Ytnkpjlhbojjneaa.VC
open Go Go.RowKit

section
variable {ls fr mn : Int} {a b : Nat}
theorem RL_repl (h : RingOk ls fr mn) (k : Nat) : RL fr mn (List.replicate k fr) = true := by
  have := h.mn0
  rw [RL, List.all_eq_true]
  intro y hy
  have := List.eq_of_mem_replicate hy
  simp; omega
theorem rep_lex {v : List Int} (hv : RL fr mn v = true) : lexlt (List.replicate v.length fr) v ∨ List.replicate v.length fr = v := by
  induction v with
  | nil => exact .inr rfl
  | cons y v ih =>
    rw [RL_cons, Bool.and_eq_true] at hv
    have hy : fr ≤ y ∧ y < fr + mn := by simpa using hv.1
    rw [List.length_cons, List.replicate_succ]
    by_cases e : fr = y
    · subst e
      rcases ih hv.2 with h | h
      · exact .inl (.inr ⟨rfl, h⟩)
      · exact .inr (by rw [h])
    · exact .inl (.inl (by omega))
theorem ring_least (h : RingOk ls fr mn) {N : Nat} (hN : 0 < N) : IsLeast (ringM ls fr mn N) (ringM ls fr mn N) := ⟨ring_canon h hN, rfl, fun _ => rfl⟩
theorem ring_len {N : Nat} : (ringM ls fr mn N).next.length = N := lasso_len
theorem ring_valid (h : RingOk ls fr mn) {N : Nat} (hN : 0 < N) (hl : ls ≤ 300) (hN1 : N ≤ 4000) : (ringM ls fr mn N).Valid := ⟨(ring_canon h hN).shaped, hl, by rw [ring_len]; omega⟩
theorem ring_first (h : RingOk ls fr mn) (ha : 0 < a) (hb : 0 < b) (hab : a ≠ b) : First (ringM ls fr mn a) (ringM ls fr mn b) (List.replicate (min a b) fr) := by
  have key : ∀ u, (ringM ls fr mn a).acc (ringM ls fr mn a).start u ≠ (ringM ls fr mn b).acc (ringM ls fr mn b).start u → RL fr mn u = true ∧ min a b ≤ u.length := fun u hu => by
    rw [ring_words h ha, ring_words h hb] at hu
    cases hr : RL fr mn u with
    | false => rw [hr] at hu; exact absurd rfl hu
    | true =>
      rw [hr, Bool.true_and, Bool.true_and] at hu
      refine ⟨rfl, ?_⟩
      by_cases h0 : u.length < min a b
      · rw [Nat.mod_eq_of_lt (by omega), Nat.mod_eq_of_lt (by omega)] at hu; exact absurd rfl hu
      · omega
  refine ⟨?_, fun v hv => ?_⟩
  · rw [ring_words h ha, ring_words h hb, RL_repl h, List.length_replicate, Bool.true_and, Bool.true_and]
    rcases Nat.lt_or_ge a b with hlt | hge
    · rw [Nat.min_eq_left (by omega), Nat.mod_self, Nat.mod_eq_of_lt hlt, decide_eq_true rfl, decide_eq_false (by omega)]; decide
    · rw [Nat.min_eq_right hge, Nat.mod_self, Nat.mod_eq_of_lt (show b < a by omega), decide_eq_true (p := 0 = 0) rfl, decide_eq_false (by omega)]; decide
  · obtain ⟨hr, hl⟩ := key v hv
    rcases Nat.lt_or_ge (min a b) v.length with hlt | hge
    · exact .inl (.inl (by rw [List.length_replicate]; exact hlt))
    · have e : min a b = v.length := by omega
      rw [e]
      rcases rep_lex hr with h1 | h1
      · exact .inl (.inr ⟨by rw [List.length_replicate], h1⟩)
      · exact .inr h1
theorem ring_tells (h : RingOk ls fr mn) (ha : 0 < a) (hb : 0 < b) (hab : a ≠ b) : (ringM ls fr mn a).acc (ringM ls fr mn a).start (List.replicate (min a b) fr) = decide (a < b) := by
  rw [ring_words h ha, RL_repl h, List.length_replicate, Bool.true_and]
  rcases Nat.lt_or_ge a b with hlt | hge
  · rw [Nat.min_eq_left (by omega), Nat.mod_self, decide_eq_true rfl, decide_eq_true hlt]
  · rw [Nat.min_eq_right hge, Nat.mod_eq_of_lt (show b < a by omega), decide_eq_false (by omega), decide_eq_false (by omega)]
theorem ring_both (h : RingOk ls fr mn) (ha : 0 < a) (hb : 0 < b) : IsJoin true (ringM ls fr mn a) (ringM ls fr mn b) (ringM ls fr mn (Nat.lcm a b)) :=
  ⟨ring_canon h (Nat.lcm_pos ha hb), rfl, fun u => by
    rw [ring_words h ha, ring_words h hb, ring_words h (Nat.lcm_pos ha hb)]
    show _ = ((_ && _) && (_ && _))
    cases RL fr mn u with
    | false => rfl
    | true =>
      rw [Bool.true_and, Bool.true_and, Bool.true_and]
      have : u.length % Nat.lcm a b = 0 ↔ u.length % a = 0 ∧ u.length % b = 0 := by
        rw [mod_dvd, mod_dvd, mod_dvd]
        exact ⟨fun h => ⟨Nat.dvd_trans (Nat.dvd_lcm_left a b) h, Nat.dvd_trans (Nat.dvd_lcm_right a b) h⟩, fun ⟨h1, h2⟩ => Nat.lcm_dvd h1 h2⟩
      by_cases h1 : u.length % a = 0 <;> by_cases h2 : u.length % b = 0 <;> simp [this, h1, h2]⟩
theorem ring_either (h : RingOk ls fr mn) (ha : 0 < a) (hb : 0 < b) : IsJoin false (ringM ls fr mn a) (ringM ls fr mn b) (eitherM ls fr mn a b) :=
  ⟨either_canon h ha hb, rfl, fun u => by
    rw [ring_words h ha, ring_words h hb, either_words h ha hb]
    show _ = ((_ && _) || (_ && _))
    unfold ev
    cases RL fr mn u <;> rfl⟩
theorem ring_cnt (h : RingOk ls fr mn) (ha : 0 < a) (k : Nat) : cnt (ringM ls fr mn a) ((a * k : Nat) : Int) = mn ^ (a * k) % 18446744073709551616 := by
  unfold cnt
  rw [Int.toNat_natCast]
  have := lasso_cw (ring_ok h ha) (a * k) 0 ha
  rw [Nat.zero_add, Nat.mul_mod_right, decide_eq_true rfl, if_pos rfl] at this
  rw [show cw (ringM ls fr mn a) (a * k) (ringM ls fr mn a).start = mn ^ (a * k) from this]
theorem ring_cnt1 (h : RingOk ls fr mn) (ha : 2 ≤ a) (k : Nat) : cnt (ringM ls fr mn a) ((a * k + 1 : Nat) : Int) = 0 := by
  unfold cnt
  rw [Int.toNat_natCast]
  have := lasso_cw (ring_ok h (show 0 < a by omega)) (a * k + 1) 0 (by omega)
  rw [Nat.zero_add, Nat.mul_add_mod, Nat.mod_eq_of_lt (show 1 < a by omega), decide_eq_false (by omega), if_neg (by decide)] at this
  rw [show cw (ringM ls fr mn a) (a * k + 1) (ringM ls fr mn a).start = 0 from this]; rfl
end
end Go.Proofs.Ytnkpjlhbojjneaa.VC

/- The conditions of functions, printed by wip/tools/gen.py. -/
namespace Go.Proofs.Ytnkpjlhbojjneaa.VC
open Go Go.RowKit

def J14_21 (I179 : Int → Lp) (w173 : World) (n175 : Nat) (A174 : Option Addr) (q3 : Int) (q2 : Int) (R : Value → List (List Value) → World → Prop) (q0 : Int) (q1 : Int) : Prop := (I179 0).1 w173 ∧ ∀
    (x180 : Int) (w181 : World), (I179 x180).1 w181 → ∀ (n182 : Nat), (I179 x180).m w181 = n182 → condK (decide (x180 < (↑n175 : Int))) (IxV A174 n175 1 x180 fun (a183 : Addr) => ∃ (x184 : Int),
    w181.cell? a183 = some (Value.int IntKind.i64 x184) ∧ condK (x184 != (IntKind.i64.wrap q3).tmod (IntKind.i64.wrap (IntKind.i64.wrap (9 + (IntKind.i64.wrap q2).tmod 120) - 4))) (R (Value.bool false) []
    w181) ((I179 (IntKind.i64.wrap (x180 + 1))).1 w181 ∧ (I179 (IntKind.i64.wrap (x180 + 1))).m w181 < n182)) (IntKind.i64.wrap (9 + (IntKind.i64.wrap q2).tmod 120) = IntKind.i64.wrap (9 +
    (IntKind.i64.wrap q2).tmod 120) ∧ 0 ≤ IntKind.i64.wrap (9 + (IntKind.i64.wrap q2).tmod 120) ∧ IntKind.i64.wrap (9 + (IntKind.i64.wrap q2).tmod 120) * (↑1 : Int) ≤ 281474976710656 ∧ IntKind.i64.wrap (9
    + (IntKind.i64.wrap q2).tmod 120) ≤ 9223372036854775807 ∧ NewK w181 (Obj.cells (Array.mk (List.replicate (IntKind.i64.wrap (9 + (IntKind.i64.wrap q2).tmod 120)).toNat (Value.bool false))) 4) fun (n185
    : Nat) (w186 : World) => IxV (some (Addr.mk n185 0 none)) (IntKind.i64.wrap (9 + (IntKind.i64.wrap q2).tmod 120)).toNat 1 (IntKind.i64.wrap (IntKind.i64.wrap (9 + (IntKind.i64.wrap q2).tmod 120) - 1))
    fun (a187 : Addr) => SetK w186 a187 (Value.bool true) fun (w188 : World) => CallsI Try.prog 45 [Value.int IntKind.i64 (IntKind.i64.wrap (9 + (IntKind.i64.wrap q2).tmod 120)), Value.int IntKind.i64
    (IntKind.i64.wrap (2 + (IntKind.i64.wrap q0).tmod 40)), Value.int IntKind.i64 (IntKind.i64.wrap (2 + (IntKind.i64.wrap q1).tmod 40)), Value.int IntKind.i64 ((IntKind.i64.wrap q3).tmod
    (IntKind.i64.wrap (IntKind.i64.wrap (9 + (IntKind.i64.wrap q2).tmod 120) - 4))), Value.int IntKind.i64 (IntKind.i64.wrap (1 + (IntKind.i64.wrap q3).tmod 3))] w188 [] fun (v189 : Value) (l190 : List
    (List Value)) (w191 : World) => ∃ (x192 : Int), ∃ (x193 : Int), ∃ (A194 : Option Addr), ∃ (n195 : Nat), ∃ (n196 : Nat), ∃ (A197 : Option Addr), ∃ (n198 : Nat), ∃ (n199 : Nat), v189 = Value.agg
    (Array.mk [Value.int IntKind.i64 x192, Value.int IntKind.i64 x193, Value.slice A194 n195 n196, Value.slice A197 n198 n199]) ∧ l190 = [] ∧ CallsI Try.prog 40 [Value.agg (Array.mk [Value.int IntKind.i64
    x192, Value.int IntKind.i64 x193, Value.slice A194 n195 n196, Value.slice A197 n198 n199]), Value.slice (some (Addr.mk n185 0 none)) (IntKind.i64.wrap (9 + (IntKind.i64.wrap q2).tmod 120)).toNat
    (IntKind.i64.wrap (9 + (IntKind.i64.wrap q2).tmod 120)).toNat] w191 [] fun (v200 : Value) (l201 : List (List Value)) (w202 : World) => ∃ (x203 : Int), ∃ (x204 : Int), ∃ (A205 : Option Addr), ∃ (n206 :
    Nat), ∃ (n207 : Nat), ∃ (A208 : Option Addr), ∃ (n209 : Nat), ∃ (n210 : Nat), ∃ (x211 : Int), v200 = Value.tuple (Array.mk [Value.agg (Array.mk [Value.int IntKind.i64 x203, Value.int IntKind.i64 x204,
    Value.slice A205 n206 n207, Value.slice A208 n209 n210]), Value.int IntKind.i64 x211]) ∧ l201 = [] ∧ ∀ (_n212 : Nat), condK (x211 == 0) (CallsI Try.prog 46 [Value.int IntKind.i64 (IntKind.i64.wrap (9
    + (IntKind.i64.wrap q2).tmod 120)), Value.int IntKind.i64 (IntKind.i64.wrap (2 + (IntKind.i64.wrap q0).tmod 40)), Value.int IntKind.i64 (IntKind.i64.wrap (2 + (IntKind.i64.wrap q1).tmod 40)),
    Value.int IntKind.i64 ((IntKind.i64.wrap q3).tmod (IntKind.i64.wrap (IntKind.i64.wrap (9 + (IntKind.i64.wrap q2).tmod 120) - 4))), Value.int IntKind.i64 (IntKind.i64.wrap (1 + (IntKind.i64.wrap
    q3).tmod 3))] w202 [] fun (v213 : Value) (l214 : List (List Value)) (w215 : World) => ∃ (x216 : Int), ∃ (x217 : Int), ∃ (A218 : Option Addr), ∃ (n219 : Nat), ∃ (n220 : Nat), ∃ (A221 : Option Addr), ∃
    (n222 : Nat), ∃ (n223 : Nat), v213 = Value.agg (Array.mk [Value.int IntKind.i64 x216, Value.int IntKind.i64 x217, Value.slice A218 n219 n220, Value.slice A221 n222 n223]) ∧ l214 = [] ∧ CallsI Try.prog
    24 [Value.agg (Array.mk [Value.int IntKind.i64 x203, Value.int IntKind.i64 x204, Value.slice A205 n206 n207, Value.slice A208 n209 n210]), Value.agg (Array.mk [Value.int IntKind.i64 x216, Value.int
    IntKind.i64 x217, Value.slice A218 n219 n220, Value.slice A221 n222 n223])] w215 [] fun (v224 : Value) (l225 : List (List Value)) (w226 : World) => ∃ (t227 : Bool), v224 = Value.bool t227 ∧ l225 = []
    ∧ condK t227 (CallsI Try.prog 15 [] w226 [] fun (v228 : Value) (l229 : List (List Value)) (w230 : World) => ∃ (t231 : Bool), v228 = Value.bool t231 ∧ l229 = [] ∧ R (Value.bool t231) [] w230) (R
    (Value.bool false) [] w226)) (R (Value.bool false) [] w202))

def J14_24 (q0 : Int) (q1 : Int) (x178 : Int) (R : Value → List (List Value) → World → Prop) (w173 : World) (t177 : Bool) (n175 : Nat) (A174 : Option Addr) (q3 : Int) (q2 : Int) : Prop := condK
    (IntKind.i64.wrap (2 + (IntKind.i64.wrap q0).tmod 40) != IntKind.i64.wrap (2 + (IntKind.i64.wrap q1).tmod 40)) (condK (x178 != 0) (R (Value.bool false) [] w173) (condK (!t177 == decide
    (IntKind.i64.wrap (2 + (IntKind.i64.wrap q0).tmod 40) < IntKind.i64.wrap (2 + (IntKind.i64.wrap q1).tmod 40))) (R (Value.bool false) [] w173) (condK ((↑n175 : Int) != if IntKind.i64.wrap (2 +
    (IntKind.i64.wrap q1).tmod 40) < IntKind.i64.wrap (2 + (IntKind.i64.wrap q0).tmod 40) then IntKind.i64.wrap (2 + (IntKind.i64.wrap q1).tmod 40) else IntKind.i64.wrap (2 + (IntKind.i64.wrap q0).tmod
    40)) (R (Value.bool false) [] w173) (∃ (I179 : Int → Lp), J14_21 I179 w173 n175 A174 q3 q2 R q0 q1)))) (∃ (I179 : Int → Lp), J14_21 I179 w173 n175 A174 q3 q2 R q0 q1)

def J14_81 (x47 : Int) (R : Value → List (List Value) → World → Prop) (w108 : World) (x82 : Int) (x117 : Int) (x39 : Int) (x40 : Int) (A41 : Option Addr) (n42 : Nat) (n43 : Nat) (A44 : Option Addr)
    (n45 : Nat) (n46 : Nat) (x4 : Int) (x5 : Int) (A6 : Option Addr) (n7 : Nat) (n8 : Nat) (A9 : Option Addr) (n10 : Nat) (n11 : Nat) (q0 : Int) (q1 : Int) (q2 : Int) (q3 : Int) (x74 : Int) (x75 : Int)
    (A76 : Option Addr) (n77 : Nat) (n78 : Nat) (A79 : Option Addr) (n80 : Nat) (n81 : Nat) (x109 : Int) (x110 : Int) (A111 : Option Addr) (n112 : Nat) (n113 : Nat) (A114 : Option Addr) (n115 : Nat) (n116
    : Nat) (x15 : Int) (x16 : Int) (A17 : Option Addr) (n18 : Nat) (n19 : Nat) (A20 : Option Addr) (n21 : Nat) (n22 : Nat) : Prop := condK (x47 != 0) (R (Value.bool false) [] w108) (condK (x82 != 0) (R
    (Value.bool false) [] w108) (condK (x117 != 0) (R (Value.bool false) [] w108) (CallsI Try.prog 24 [Value.agg (Array.mk [Value.int IntKind.i64 x39, Value.int IntKind.i64 x40, Value.slice A41 n42 n43,
    Value.slice A44 n45 n46]), Value.agg (Array.mk [Value.int IntKind.i64 x4, Value.int IntKind.i64 x5, Value.slice A6 n7 n8, Value.slice A9 n10 n11])] w108 [] fun (v119 : Value) (l120 : List (List
    Value)) (w121 : World) => ∃ (t122 : Bool), v119 = Value.bool t122 ∧ l120 = [] ∧ condK (!t122) (R (Value.bool false) [] w121) (CallsI Try.prog 42 [Value.int IntKind.i64 (IntKind.i64.wrap (2 +
    (IntKind.i64.wrap q0).tmod 40)), Value.int IntKind.i64 (IntKind.i64.wrap (2 + (IntKind.i64.wrap q1).tmod 40))] w121 [] fun (v123 : Value) (l124 : List (List Value)) (w125 : World) => ∃ (x126 : Int),
    v123 = Value.int IntKind.i64 x126 ∧ l124 = [] ∧ x126 ≠ 0 ∧ CallsI Try.prog 41 [Value.int IntKind.i64 (IntKind.i64.wrap (9 + (IntKind.i64.wrap q2).tmod 120)), Value.int IntKind.i64 (IntKind.i64.wrap
    (IntKind.i64.wrap ((IntKind.i64.wrap (2 + (IntKind.i64.wrap q0).tmod 40)).tdiv x126) * IntKind.i64.wrap (2 + (IntKind.i64.wrap q1).tmod 40))), Value.int IntKind.i64 ((IntKind.i64.wrap q3).tmod
    (IntKind.i64.wrap (IntKind.i64.wrap (9 + (IntKind.i64.wrap q2).tmod 120) - 4))), Value.int IntKind.i64 (IntKind.i64.wrap (1 + (IntKind.i64.wrap q3).tmod 3))] w125 [] fun (v127 : Value) (l128 : List
    (List Value)) (w129 : World) => ∃ (x130 : Int), ∃ (x131 : Int), ∃ (A132 : Option Addr), ∃ (n133 : Nat), ∃ (n134 : Nat), ∃ (A135 : Option Addr), ∃ (n136 : Nat), ∃ (n137 : Nat), v127 = Value.agg
    (Array.mk [Value.int IntKind.i64 x130, Value.int IntKind.i64 x131, Value.slice A132 n133 n134, Value.slice A135 n136 n137]) ∧ l128 = [] ∧ CallsI Try.prog 24 [Value.agg (Array.mk [Value.int IntKind.i64
    x74, Value.int IntKind.i64 x75, Value.slice A76 n77 n78, Value.slice A79 n80 n81]), Value.agg (Array.mk [Value.int IntKind.i64 x130, Value.int IntKind.i64 x131, Value.slice A132 n133 n134, Value.slice
    A135 n136 n137])] w129 [] fun (v138 : Value) (l139 : List (List Value)) (w140 : World) => ∃ (t141 : Bool), v138 = Value.bool t141 ∧ l139 = [] ∧ condK (!t141) (R (Value.bool false) [] w140) (CallsI
    Try.prog 43 [Value.int IntKind.i64 (IntKind.i64.wrap (9 + (IntKind.i64.wrap q2).tmod 120)), Value.int IntKind.i64 (IntKind.i64.wrap (2 + (IntKind.i64.wrap q0).tmod 40)), Value.int IntKind.i64
    (IntKind.i64.wrap (2 + (IntKind.i64.wrap q1).tmod 40)), Value.int IntKind.i64 ((IntKind.i64.wrap q3).tmod (IntKind.i64.wrap (IntKind.i64.wrap (9 + (IntKind.i64.wrap q2).tmod 120) - 4))), Value.int
    IntKind.i64 (IntKind.i64.wrap (1 + (IntKind.i64.wrap q3).tmod 3))] w140 [] fun (v142 : Value) (l143 : List (List Value)) (w144 : World) => ∃ (x145 : Int), ∃ (x146 : Int), ∃ (A147 : Option Addr), ∃
    (n148 : Nat), ∃ (n149 : Nat), ∃ (A150 : Option Addr), ∃ (n151 : Nat), ∃ (n152 : Nat), v142 = Value.agg (Array.mk [Value.int IntKind.i64 x145, Value.int IntKind.i64 x146, Value.slice A147 n148 n149,
    Value.slice A150 n151 n152]) ∧ l143 = [] ∧ CallsI Try.prog 24 [Value.agg (Array.mk [Value.int IntKind.i64 x109, Value.int IntKind.i64 x110, Value.slice A111 n112 n113, Value.slice A114 n115 n116]),
    Value.agg (Array.mk [Value.int IntKind.i64 x145, Value.int IntKind.i64 x146, Value.slice A147 n148 n149, Value.slice A150 n151 n152])] w144 [] fun (v153 : Value) (l154 : List (List Value)) (w155 :
    World) => ∃ (t156 : Bool), v153 = Value.bool t156 ∧ l154 = [] ∧ condK (!t156) (R (Value.bool false) [] w155) ((20 : Int) ≠ 0 ∧ CallsI Try.prog 31 [Value.agg (Array.mk [Value.int IntKind.i64 x4, Value.int
    IntKind.i64 x5, Value.slice A6 n7 n8, Value.slice A9 n10 n11]), Value.int IntKind.i64 (IntKind.i64.wrap (IntKind.i64.wrap (2 + (IntKind.i64.wrap q0).tmod 40) * IntKind.i64.wrap (1 + (IntKind.i64.wrap
    q2).tmod 20)))] w155 [] fun (v157 : Value) (l158 : List (List Value)) (w159 : World) => ∃ (x160 : Int), ∃ (x161 : Int), v157 = Value.tuple (Array.mk [Value.int IntKind.u64 x160, Value.int IntKind.i64
    x161]) ∧ l158 = [] ∧ CallsI Try.prog 31 [Value.agg (Array.mk [Value.int IntKind.i64 x4, Value.int IntKind.i64 x5, Value.slice A6 n7 n8, Value.slice A9 n10 n11]), Value.int IntKind.i64
    (IntKind.i64.wrap (IntKind.i64.wrap (IntKind.i64.wrap (2 + (IntKind.i64.wrap q0).tmod 40) * IntKind.i64.wrap (1 + (IntKind.i64.wrap q2).tmod 20)) + 1))] w159 [] fun (v162 : Value) (l163 : List (List
    Value)) (w164 : World) => ∃ (x165 : Int), ∃ (x166 : Int), v162 = Value.tuple (Array.mk [Value.int IntKind.u64 x165, Value.int IntKind.i64 x166]) ∧ l163 = [] ∧ condK (x161 != 0) (R (Value.bool false)
    [] w164) (condK (x166 != 0) (R (Value.bool false) [] w164) (CallsI Try.prog 44 [Value.int IntKind.i64 (IntKind.i64.wrap (1 + (IntKind.i64.wrap q3).tmod 3)), Value.int IntKind.i64 (IntKind.i64.wrap
    (IntKind.i64.wrap (2 + (IntKind.i64.wrap q0).tmod 40) * IntKind.i64.wrap (1 + (IntKind.i64.wrap q2).tmod 20)))] w164 [] fun (v167 : Value) (l168 : List (List Value)) (w169 : World) => ∃ (x170 : Int),
    v167 = Value.int IntKind.u64 x170 ∧ l168 = [] ∧ condK (x160 != x170) (R (Value.bool false) [] w169) (condK (x165 != 0) (R (Value.bool false) [] w169) (CallsI Try.prog 26 [Value.agg (Array.mk
    [Value.int IntKind.i64 x4, Value.int IntKind.i64 x5, Value.slice A6 n7 n8, Value.slice A9 n10 n11]), Value.agg (Array.mk [Value.int IntKind.i64 x15, Value.int IntKind.i64 x16, Value.slice A17 n18 n19,
    Value.slice A20 n21 n22])] w169 [] fun (v171 : Value) (l172 : List (List Value)) (w173 : World) => ∃ (A174 : Option Addr), ∃ (n175 : Nat), ∃ (n176 : Nat), ∃ (t177 : Bool), ∃ (x178 : Int), v171 =
    Value.tuple (Array.mk [Value.slice A174 n175 n176, Value.bool t177, Value.int IntKind.i64 x178]) ∧ l172 = [] ∧ condK (IntKind.i64.wrap (2 + (IntKind.i64.wrap q0).tmod 40) == IntKind.i64.wrap (2 +
    (IntKind.i64.wrap q1).tmod 40)) (condK (x178 != 7) (R (Value.bool false) [] w173) (condK ((↑n175 : Int) != 0) (R (Value.bool false) [] w173) (condK t177 (R (Value.bool false) [] w173) (J14_24 q0 q1
    x178 R w173 t177 n175 A174 q3 q2)))) (J14_24 q0 q1 x178 R w173 t177 n175 A174 q3 q2)))))))))))

def J14_103 (x87 : Int) (x88 : Int) (A89 : Option Addr) (n90 : Nat) (n91 : Nat) (A92 : Option Addr) (n93 : Nat) (n94 : Nat) (x98 : Int) (x99 : Int) (A100 : Option Addr) (n101 : Nat) (n102 : Nat) (A103
    : Option Addr) (n104 : Nat) (n105 : Nat) (w97 : World) (x47 : Int) (R : Value → List (List Value) → World → Prop) (x82 : Int) (x39 : Int) (x40 : Int) (A41 : Option Addr) (n42 : Nat) (n43 : Nat) (A44 :
    Option Addr) (n45 : Nat) (n46 : Nat) (x4 : Int) (x5 : Int) (A6 : Option Addr) (n7 : Nat) (n8 : Nat) (A9 : Option Addr) (n10 : Nat) (n11 : Nat) (q0 : Int) (q1 : Int) (q2 : Int) (q3 : Int) (x74 : Int)
    (x75 : Int) (A76 : Option Addr) (n77 : Nat) (n78 : Nat) (A79 : Option Addr) (n80 : Nat) (n81 : Nat) (x15 : Int) (x16 : Int) (A17 : Option Addr) (n18 : Nat) (n19 : Nat) (A20 : Option Addr) (n21 : Nat)
    (n22 : Nat) : Prop := CallsI Try.prog 34 [Value.agg (Array.mk [Value.int IntKind.i64 x87, Value.int IntKind.i64 x88, Value.slice A89 n90 n91, Value.slice A92 n93 n94]), Value.agg (Array.mk [Value.int
    IntKind.i64 x98, Value.int IntKind.i64 x99, Value.slice A100 n101 n102, Value.slice A103 n104 n105])] w97 [] fun (v233 : Value) (l234 : List (List Value)) (w235 : World) => ∃ (x236 : Int), ∃ (x237 :
    Int), ∃ (A238 : Option Addr), ∃ (n239 : Nat), ∃ (n240 : Nat), ∃ (A241 : Option Addr), ∃ (n242 : Nat), ∃ (n243 : Nat), ∃ (x244 : Int), v233 = Value.tuple (Array.mk [Value.agg (Array.mk [Value.int
    IntKind.i64 x236, Value.int IntKind.i64 x237, Value.slice A238 n239 n240, Value.slice A241 n242 n243]), Value.int IntKind.i64 x244]) ∧ l234 = [] ∧ J14_81 x47 R w235 x82 x244 x39 x40 A41 n42 n43 A44
    n45 n46 x4 x5 A6 n7 n8 A9 n10 n11 q0 q1 q2 q3 x74 x75 A76 n77 n78 A79 n80 n81 x236 x237 A238 n239 n240 A241 n242 n243 x15 x16 A17 n18 n19 A20 n21 n22

def J14_123 (x15 : Int) (x16 : Int) (A17 : Option Addr) (n18 : Nat) (n19 : Nat) (A20 : Option Addr) (n21 : Nat) (n22 : Nat) (w86 : World) (x87 : Int) (x88 : Int) (A89 : Option Addr) (n90 : Nat) (n91 :
    Nat) (A92 : Option Addr) (n93 : Nat) (n94 : Nat) (x47 : Int) (R : Value → List (List Value) → World → Prop) (x82 : Int) (x39 : Int) (x40 : Int) (A41 : Option Addr) (n42 : Nat) (n43 : Nat) (A44 :
    Option Addr) (n45 : Nat) (n46 : Nat) (x4 : Int) (x5 : Int) (A6 : Option Addr) (n7 : Nat) (n8 : Nat) (A9 : Option Addr) (n10 : Nat) (n11 : Nat) (q0 : Int) (q1 : Int) (q2 : Int) (q3 : Int) (x74 : Int)
    (x75 : Int) (A76 : Option Addr) (n77 : Nat) (n78 : Nat) (A79 : Option Addr) (n80 : Nat) (n81 : Nat) : Prop := CallsI Try.prog 19 [Value.agg (Array.mk [Value.int IntKind.i64 x15, Value.int IntKind.i64
    x16, Value.slice A17 n18 n19, Value.slice A20 n21 n22])] w86 [] fun (v246 : Value) (l247 : List (List Value)) (w248 : World) => ∃ (x249 : Int), ∃ (x250 : Int), ∃ (A251 : Option Addr), ∃ (n252 : Nat),
    ∃ (n253 : Nat), ∃ (A254 : Option Addr), ∃ (n255 : Nat), ∃ (n256 : Nat), v246 = Value.agg (Array.mk [Value.int IntKind.i64 x249, Value.int IntKind.i64 x250, Value.slice A251 n252 n253, Value.slice A254
    n255 n256]) ∧ l247 = [] ∧ J14_103 x87 x88 A89 n90 n91 A92 n93 n94 x249 x250 A251 n252 n253 A254 n255 n256 w248 x47 R x82 x39 x40 A41 n42 n43 A44 n45 n46 x4 x5 A6 n7 n8 A9 n10 n11 q0 q1 q2 q3 x74 x75
    A76 n77 n78 A79 n80 n81 x15 x16 A17 n18 n19 A20 n21 n22

def J14_144 (x4 : Int) (x5 : Int) (A6 : Option Addr) (n7 : Nat) (n8 : Nat) (A9 : Option Addr) (n10 : Nat) (n11 : Nat) (w73 : World) (x15 : Int) (x16 : Int) (A17 : Option Addr) (n18 : Nat) (n19 : Nat)
    (A20 : Option Addr) (n21 : Nat) (n22 : Nat) (x47 : Int) (R : Value → List (List Value) → World → Prop) (x82 : Int) (x39 : Int) (x40 : Int) (A41 : Option Addr) (n42 : Nat) (n43 : Nat) (A44 : Option
    Addr) (n45 : Nat) (n46 : Nat) (q0 : Int) (q1 : Int) (q2 : Int) (q3 : Int) (x74 : Int) (x75 : Int) (A76 : Option Addr) (n77 : Nat) (n78 : Nat) (A79 : Option Addr) (n80 : Nat) (n81 : Nat) : Prop :=
    (CallsI Try.prog 19 [Value.agg (Array.mk [Value.int IntKind.i64 x4, Value.int IntKind.i64 x5, Value.slice A6 n7 n8, Value.slice A9 n10 n11])] w73 [] fun (v84 : Value) (l85 : List (List Value)) (w86 :
    World) => ∃ (x87 : Int), ∃ (x88 : Int), ∃ (A89 : Option Addr), ∃ (n90 : Nat), ∃ (n91 : Nat), ∃ (A92 : Option Addr), ∃ (n93 : Nat), ∃ (n94 : Nat), v84 = Value.agg (Array.mk [Value.int IntKind.i64 x87,
    Value.int IntKind.i64 x88, Value.slice A89 n90 n91, Value.slice A92 n93 n94]) ∧ l85 = [] ∧ (CallsI Try.prog 19 [Value.agg (Array.mk [Value.int IntKind.i64 x15, Value.int IntKind.i64 x16, Value.slice
    A17 n18 n19, Value.slice A20 n21 n22])] w86 [] fun (v95 : Value) (l96 : List (List Value)) (w97 : World) => ∃ (x98 : Int), ∃ (x99 : Int), ∃ (A100 : Option Addr), ∃ (n101 : Nat), ∃ (n102 : Nat), ∃
    (A103 : Option Addr), ∃ (n104 : Nat), ∃ (n105 : Nat), v95 = Value.agg (Array.mk [Value.int IntKind.i64 x98, Value.int IntKind.i64 x99, Value.slice A100 n101 n102, Value.slice A103 n104 n105]) ∧ l96 =
    [] ∧ (CallsI Try.prog 34 [Value.agg (Array.mk [Value.int IntKind.i64 x87, Value.int IntKind.i64 x88, Value.slice A89 n90 n91, Value.slice A92 n93 n94]), Value.agg (Array.mk [Value.int IntKind.i64 x98,
    Value.int IntKind.i64 x99, Value.slice A100 n101 n102, Value.slice A103 n104 n105])] w97 [] fun (v106 : Value) (l107 : List (List Value)) (w108 : World) => ∃ (x109 : Int), ∃ (x110 : Int), ∃ (A111 :
    Option Addr), ∃ (n112 : Nat), ∃ (n113 : Nat), ∃ (A114 : Option Addr), ∃ (n115 : Nat), ∃ (n116 : Nat), ∃ (x117 : Int), v106 = Value.tuple (Array.mk [Value.agg (Array.mk [Value.int IntKind.i64 x109,
    Value.int IntKind.i64 x110, Value.slice A111 n112 n113, Value.slice A114 n115 n116]), Value.int IntKind.i64 x117]) ∧ l107 = [] ∧ (Nat → J14_81 x47 R w108 x82 x117 x39 x40 A41 n42 n43 A44 n45 n46 x4 x5
    A6 n7 n8 A9 n10 n11 q0 q1 q2 q3 x74 x75 A76 n77 n78 A79 n80 n81 x109 x110 A111 n112 n113 A114 n115 n116 x15 x16 A17 n18 n19 A20 n21 n22)) ∧ (Nat → J14_103 x87 x88 A89 n90 n91 A92 n93 n94 x98 x99 A100
    n101 n102 A103 n104 n105 w97 x47 R x82 x39 x40 A41 n42 n43 A44 n45 n46 x4 x5 A6 n7 n8 A9 n10 n11 q0 q1 q2 q3 x74 x75 A76 n77 n78 A79 n80 n81 x15 x16 A17 n18 n19 A20 n21 n22)) ∧ (Nat → J14_123 x15 x16
    A17 n18 n19 A20 n21 n22 w86 x87 x88 A89 n90 n91 A92 n93 n94 x47 R x82 x39 x40 A41 n42 n43 A44 n45 n46 x4 x5 A6 n7 n8 A9 n10 n11 q0 q1 q2 q3 x74 x75 A76 n77 n78 A79 n80 n81)) ∧ ∀ (_n269 : Nat), CallsI
    Try.prog 19 [Value.agg (Array.mk [Value.int IntKind.i64 x4, Value.int IntKind.i64 x5, Value.slice A6 n7 n8, Value.slice A9 n10 n11])] w73 [] fun (v270 : Value) (l271 : List (List Value)) (w272 :
    World) => ∃ (x273 : Int), ∃ (x274 : Int), ∃ (A275 : Option Addr), ∃ (n276 : Nat), ∃ (n277 : Nat), ∃ (A278 : Option Addr), ∃ (n279 : Nat), ∃ (n280 : Nat), v270 = Value.agg (Array.mk [Value.int
    IntKind.i64 x273, Value.int IntKind.i64 x274, Value.slice A275 n276 n277, Value.slice A278 n279 n280]) ∧ l271 = [] ∧ J14_123 x15 x16 A17 n18 n19 A20 n21 n22 w272 x273 x274 A275 n276 n277 A278 n279
    n280 x47 R x82 x39 x40 A41 n42 n43 A44 n45 n46 x4 x5 A6 n7 n8 A9 n10 n11 q0 q1 q2 q3 x74 x75 A76 n77 n78 A79 n80 n81

def J14_166 (x52 : Int) (x53 : Int) (A54 : Option Addr) (n55 : Nat) (n56 : Nat) (A57 : Option Addr) (n58 : Nat) (n59 : Nat) (x63 : Int) (x64 : Int) (A65 : Option Addr) (n66 : Nat) (n67 : Nat) (A68 :
    Option Addr) (n69 : Nat) (n70 : Nat) (w62 : World) (x4 : Int) (x5 : Int) (A6 : Option Addr) (n7 : Nat) (n8 : Nat) (A9 : Option Addr) (n10 : Nat) (n11 : Nat) (x15 : Int) (x16 : Int) (A17 : Option Addr)
    (n18 : Nat) (n19 : Nat) (A20 : Option Addr) (n21 : Nat) (n22 : Nat) (x47 : Int) (R : Value → List (List Value) → World → Prop) (x39 : Int) (x40 : Int) (A41 : Option Addr) (n42 : Nat) (n43 : Nat) (A44
    : Option Addr) (n45 : Nat) (n46 : Nat) (q0 : Int) (q1 : Int) (q2 : Int) (q3 : Int) : Prop := CallsI Try.prog 37 [Value.agg (Array.mk [Value.int IntKind.i64 x52, Value.int IntKind.i64 x53, Value.slice
    A54 n55 n56, Value.slice A57 n58 n59]), Value.agg (Array.mk [Value.int IntKind.i64 x63, Value.int IntKind.i64 x64, Value.slice A65 n66 n67, Value.slice A68 n69 n70])] w62 [] fun (v305 : Value) (l306 :
    List (List Value)) (w307 : World) => ∃ (x308 : Int), ∃ (x309 : Int), ∃ (A310 : Option Addr), ∃ (n311 : Nat), ∃ (n312 : Nat), ∃ (A313 : Option Addr), ∃ (n314 : Nat), ∃ (n315 : Nat), ∃ (x316 : Int),
    v305 = Value.tuple (Array.mk [Value.agg (Array.mk [Value.int IntKind.i64 x308, Value.int IntKind.i64 x309, Value.slice A310 n311 n312, Value.slice A313 n314 n315]), Value.int IntKind.i64 x316]) ∧ l306
    = [] ∧ J14_144 x4 x5 A6 n7 n8 A9 n10 n11 w307 x15 x16 A17 n18 n19 A20 n21 n22 x47 R x316 x39 x40 A41 n42 n43 A44 n45 n46 q0 q1 q2 q3 x308 x309 A310 n311 n312 A313 n314 n315

def J14_186 (x15 : Int) (x16 : Int) (A17 : Option Addr) (n18 : Nat) (n19 : Nat) (A20 : Option Addr) (n21 : Nat) (n22 : Nat) (w51 : World) (x52 : Int) (x53 : Int) (A54 : Option Addr) (n55 : Nat) (n56 :
    Nat) (A57 : Option Addr) (n58 : Nat) (n59 : Nat) (x4 : Int) (x5 : Int) (A6 : Option Addr) (n7 : Nat) (n8 : Nat) (A9 : Option Addr) (n10 : Nat) (n11 : Nat) (x47 : Int) (R : Value → List (List Value) →
    World → Prop) (x39 : Int) (x40 : Int) (A41 : Option Addr) (n42 : Nat) (n43 : Nat) (A44 : Option Addr) (n45 : Nat) (n46 : Nat) (q0 : Int) (q1 : Int) (q2 : Int) (q3 : Int) : Prop := CallsI Try.prog 19
    [Value.agg (Array.mk [Value.int IntKind.i64 x15, Value.int IntKind.i64 x16, Value.slice A17 n18 n19, Value.slice A20 n21 n22])] w51 [] fun (v318 : Value) (l319 : List (List Value)) (w320 : World) => ∃
    (x321 : Int), ∃ (x322 : Int), ∃ (A323 : Option Addr), ∃ (n324 : Nat), ∃ (n325 : Nat), ∃ (A326 : Option Addr), ∃ (n327 : Nat), ∃ (n328 : Nat), v318 = Value.agg (Array.mk [Value.int IntKind.i64 x321,
    Value.int IntKind.i64 x322, Value.slice A323 n324 n325, Value.slice A326 n327 n328]) ∧ l319 = [] ∧ J14_166 x52 x53 A54 n55 n56 A57 n58 n59 x321 x322 A323 n324 n325 A326 n327 n328 w320 x4 x5 A6 n7 n8
    A9 n10 n11 x15 x16 A17 n18 n19 A20 n21 n22 x47 R x39 x40 A41 n42 n43 A44 n45 n46 q0 q1 q2 q3

set_option maxRecDepth 100000 in
theorem s14 (q0 q1 q2 q3 : Int) (w : World) (R : Value → List (List Value) → World → Prop) (h :
    (40 : Int) ≠ 0 ∧ (40 : Int) ≠ 0 ∧ (3 : Int) ≠ 0 ∧ (120 : Int) ≠ 0 ∧ IntKind.i64.wrap (IntKind.i64.wrap (9 + (IntKind.i64.wrap q2).tmod 120) - 4) ≠ 0 ∧ CallsI Try.prog 41 [Value.int IntKind.i64 (IntKind.i64.wrap (9 +
        (IntKind.i64.wrap q2).tmod 120)), Value.int IntKind.i64 (IntKind.i64.wrap (2 + (IntKind.i64.wrap q0).tmod 40)), Value.int IntKind.i64 ((IntKind.i64.wrap q3).tmod (IntKind.i64.wrap (IntKind.i64.wrap (9
        + (IntKind.i64.wrap q2).tmod 120) - 4))), Value.int IntKind.i64 (IntKind.i64.wrap (1 + (IntKind.i64.wrap q3).tmod 3))] w [] fun (v1 : Value) (l2 : List (List Value)) (w3 : World) => ∃ (x4 : Int), ∃
        (x5 : Int), ∃ (A6 : Option Addr), ∃ (n7 : Nat), ∃ (n8 : Nat), ∃ (A9 : Option Addr), ∃ (n10 : Nat), ∃ (n11 : Nat), v1 = Value.agg (Array.mk [Value.int IntKind.i64 x4, Value.int IntKind.i64 x5,
        Value.slice A6 n7 n8, Value.slice A9 n10 n11]) ∧ l2 = [] ∧ CallsI Try.prog 41 [Value.int IntKind.i64 (IntKind.i64.wrap (9 + (IntKind.i64.wrap q2).tmod 120)), Value.int IntKind.i64 (IntKind.i64.wrap (2
        + (IntKind.i64.wrap q1).tmod 40)), Value.int IntKind.i64 ((IntKind.i64.wrap q3).tmod (IntKind.i64.wrap (IntKind.i64.wrap (9 + (IntKind.i64.wrap q2).tmod 120) - 4))), Value.int IntKind.i64
        (IntKind.i64.wrap (1 + (IntKind.i64.wrap q3).tmod 3))] w3 [] fun (v12 : Value) (l13 : List (List Value)) (w14 : World) => ∃ (x15 : Int), ∃ (x16 : Int), ∃ (A17 : Option Addr), ∃ (n18 : Nat), ∃ (n19 :
        Nat), ∃ (A20 : Option Addr), ∃ (n21 : Nat), ∃ (n22 : Nat), v12 = Value.agg (Array.mk [Value.int IntKind.i64 x15, Value.int IntKind.i64 x16, Value.slice A17 n18 n19, Value.slice A20 n21 n22]) ∧ l13 =
        [] ∧ ∀ (_n23 _n24 : Nat), CallsI Try.prog 25 [Value.agg (Array.mk [Value.int IntKind.i64 x4, Value.int IntKind.i64 x5, Value.slice A6 n7 n8, Value.slice A9 n10 n11]), Value.int IntKind.u8 q3,
        Value.slice none 0 0] w14 [] fun (v25 : Value) (l26 : List (List Value)) (w27 : World) => ∃ (x28 : Int), ∃ (x29 : Int), ∃ (A30 : Option Addr), ∃ (n31 : Nat), ∃ (n32 : Nat), ∃ (A33 : Option Addr), ∃
        (n34 : Nat), ∃ (n35 : Nat), v25 = Value.agg (Array.mk [Value.int IntKind.i64 x28, Value.int IntKind.i64 x29, Value.slice A30 n31 n32, Value.slice A33 n34 n35]) ∧ l26 = [] ∧ CallsI Try.prog 23
        [Value.agg (Array.mk [Value.int IntKind.i64 x28, Value.int IntKind.i64 x29, Value.slice A30 n31 n32, Value.slice A33 n34 n35])] w27 [] fun (v36 : Value) (l37 : List (List Value)) (w38 : World) => ∃
        (x39 : Int), ∃ (x40 : Int), ∃ (A41 : Option Addr), ∃ (n42 : Nat), ∃ (n43 : Nat), ∃ (A44 : Option Addr), ∃ (n45 : Nat), ∃ (n46 : Nat), ∃ (x47 : Int), v36 = Value.tuple (Array.mk [Value.agg (Array.mk
        [Value.int IntKind.i64 x39, Value.int IntKind.i64 x40, Value.slice A41 n42 n43, Value.slice A44 n45 n46]), Value.int IntKind.i64 x47]) ∧ l37 = [] ∧ ∀ (_n48 : Nat), (CallsI Try.prog 19 [Value.agg
        (Array.mk [Value.int IntKind.i64 x4, Value.int IntKind.i64 x5, Value.slice A6 n7 n8, Value.slice A9 n10 n11])] w38 [] fun (v49 : Value) (l50 : List (List Value)) (w51 : World) => ∃ (x52 : Int), ∃ (x53
        : Int), ∃ (A54 : Option Addr), ∃ (n55 : Nat), ∃ (n56 : Nat), ∃ (A57 : Option Addr), ∃ (n58 : Nat), ∃ (n59 : Nat), v49 = Value.agg (Array.mk [Value.int IntKind.i64 x52, Value.int IntKind.i64 x53,
        Value.slice A54 n55 n56, Value.slice A57 n58 n59]) ∧ l50 = [] ∧ (CallsI Try.prog 19 [Value.agg (Array.mk [Value.int IntKind.i64 x15, Value.int IntKind.i64 x16, Value.slice A17 n18 n19, Value.slice A20
        n21 n22])] w51 [] fun (v60 : Value) (l61 : List (List Value)) (w62 : World) => ∃ (x63 : Int), ∃ (x64 : Int), ∃ (A65 : Option Addr), ∃ (n66 : Nat), ∃ (n67 : Nat), ∃ (A68 : Option Addr), ∃ (n69 : Nat),
        ∃ (n70 : Nat), v60 = Value.agg (Array.mk [Value.int IntKind.i64 x63, Value.int IntKind.i64 x64, Value.slice A65 n66 n67, Value.slice A68 n69 n70]) ∧ l61 = [] ∧ (CallsI Try.prog 37 [Value.agg (Array.mk
        [Value.int IntKind.i64 x52, Value.int IntKind.i64 x53, Value.slice A54 n55 n56, Value.slice A57 n58 n59]), Value.agg (Array.mk [Value.int IntKind.i64 x63, Value.int IntKind.i64 x64, Value.slice A65
        n66 n67, Value.slice A68 n69 n70])] w62 [] fun (v71 : Value) (l72 : List (List Value)) (w73 : World) => ∃ (x74 : Int), ∃ (x75 : Int), ∃ (A76 : Option Addr), ∃ (n77 : Nat), ∃ (n78 : Nat), ∃ (A79 :
        Option Addr), ∃ (n80 : Nat), ∃ (n81 : Nat), ∃ (x82 : Int), v71 = Value.tuple (Array.mk [Value.agg (Array.mk [Value.int IntKind.i64 x74, Value.int IntKind.i64 x75, Value.slice A76 n77 n78, Value.slice
        A79 n80 n81]), Value.int IntKind.i64 x82]) ∧ l72 = [] ∧ (Nat → J14_144 x4 x5 A6 n7 n8 A9 n10 n11 w73 x15 x16 A17 n18 n19 A20 n21 n22 x47 R x82 x39 x40 A41 n42 n43 A44 n45 n46 q0 q1 q2 q3 x74 x75 A76
        n77 n78 A79 n80 n81)) ∧ (Nat → J14_166 x52 x53 A54 n55 n56 A57 n58 n59 x63 x64 A65 n66 n67 A68 n69 n70 w62 x4 x5 A6 n7 n8 A9 n10 n11 x15 x16 A17 n18 n19 A20 n21 n22 x47 R x39 x40 A41 n42 n43 A44 n45
        n46 q0 q1 q2 q3)) ∧ (Nat → J14_186 x15 x16 A17 n18 n19 A20 n21 n22 w51 x52 x53 A54 n55 n56 A57 n58 n59 x4 x5 A6 n7 n8 A9 n10 n11 x47 R x39 x40 A41 n42 n43 A44 n45 n46 q0 q1 q2 q3)) ∧ ∀ (_n341 : Nat),
        CallsI Try.prog 19 [Value.agg (Array.mk [Value.int IntKind.i64 x4, Value.int IntKind.i64 x5, Value.slice A6 n7 n8, Value.slice A9 n10 n11])] w38 [] fun (v342 : Value) (l343 : List (List Value)) (w344
        : World) => ∃ (x345 : Int), ∃ (x346 : Int), ∃ (A347 : Option Addr), ∃ (n348 : Nat), ∃ (n349 : Nat), ∃ (A350 : Option Addr), ∃ (n351 : Nat), ∃ (n352 : Nat), v342 = Value.agg (Array.mk [Value.int
        IntKind.i64 x345, Value.int IntKind.i64 x346, Value.slice A347 n348 n349, Value.slice A350 n351 n352]) ∧ l343 = [] ∧ J14_186 x15 x16 A17 n18 n19 A20 n21 n22 w344 x345 x346 A347 n348 n349 A350 n351
        n352 x4 x5 A6 n7 n8 A9 n10 n11 x47 R x39 x40 A41 n42 n43 A44 n45 n46 q0 q1 q2 q3) :
    CallsI Try.prog 14 [(.int .u8 q0), (.int .u8 q1), (.int .u8 q2), (.int .u8 q3)] w [] R :=
  vcFun_sound (H := ⟨[], [(0, [(30, .int .i64)], [])]⟩) (args := [.v (.int .u8 q0), .v (.int .u8 q1), .v (.int .u8 q2), .v (.int .u8 q3)]) (L := []) goodP Try.func14 (by simp [okp]) (by rw [Try.ntmps14]; simp) (by simp [okp]) (Eq.mp (by kernel_rfl) h)

end Go.Proofs.Ytnkpjlhbojjneaa.VC

/- The law of rings. -/
namespace Go.Proofs.Ytnkpjlhbojjneaa.VC
open Go Go.RowKit

theorem prm {c q d : Int} (h0 : 0 ≤ q) (h1 : q ≤ 255) (c0 : 0 ≤ c) (c1 : c ≤ 100) (d0 : 0 < d) (d1 : d ≤ 1000) : IntKind.i64.wrap (c + (IntKind.i64.wrap q).tmod d) = c + q % d := by
  have a := Int.emod_nonneg q (b := d) (by omega)
  have b := Int.emod_lt_of_pos q (b := d) d0
  rw [wrap_id (x := q) (by omega) (by omega), Int.tmod_eq_emod_of_nonneg h0, wrap_id (by omega) (by omega)]
/-- what the numbers are that a law of rings reads -/
structure Prm (q0 q1 q2 q3 : Int) (a b k : Nat) (ls fr mn : Int) : Prop where
  ok : ChainOk ls fr mn a b
  a2 : 2 ≤ a
  a41 : a ≤ 41
  b41 : b ≤ 41
  k20 : k ≤ 20
  ls0 : 9 ≤ ls
  ls1 : ls ≤ 128
  mn3 : mn ≤ 3
  ea : IntKind.i64.wrap (2 + (IntKind.i64.wrap q0).tmod 40) = (a : Int)
  eb : IntKind.i64.wrap (2 + (IntKind.i64.wrap q1).tmod 40) = (b : Int)
  es : IntKind.i64.wrap (9 + (IntKind.i64.wrap q2).tmod 120) = ls
  ef : (IntKind.i64.wrap q3).tmod (IntKind.i64.wrap (ls - 4)) = fr
  em : IntKind.i64.wrap (1 + (IntKind.i64.wrap q3).tmod 3) = mn
  ek : IntKind.i64.wrap (1 + (IntKind.i64.wrap q2).tmod 20) = (k : Int)
theorem prm_make {q0 q1 q2 q3 : Int} (h0 : 0 ≤ q0 ∧ q0 ≤ 255) (h1 : 0 ≤ q1 ∧ q1 ≤ 255) (h2 : 0 ≤ q2 ∧ q2 ≤ 255) (h3 : 0 ≤ q3 ∧ q3 ≤ 255) : ∃ a b k ls fr mn, Prm q0 q1 q2 q3 a b k ls fr mn := by
  have f0 := Int.emod_nonneg q3 (b := 9 + q2 % 120 - 4) (by omega)
  have f1 := Int.emod_lt_of_pos q3 (b := 9 + q2 % 120 - 4) (by omega)
  obtain ⟨ls, hls⟩ : ∃ ls : Int, ls = 9 + q2 % 120 := ⟨_, rfl⟩
  rw [← hls] at f0 f1
  refine ⟨(2 + q0 % 40).toNat, (2 + q1 % 40).toNat, (1 + q2 % 20).toNat, ls, q3 % (ls - 4), 1 + q3 % 3, ⟨⟨⟨f0, by omega, by omega⟩, by omega, by omega⟩, by omega, by omega, by omega, by omega, by omega, by omega, by omega, ?_, ?_, ?_, ?_, ?_, ?_⟩⟩
  · rw [prm h0.1 h0.2 (by decide) (by decide) (by decide) (by decide)]; omega
  · rw [prm h1.1 h1.2 (by decide) (by decide) (by decide) (by decide)]; omega
  · rw [prm h2.1 h2.2 (by decide) (by decide) (by decide) (by decide)]; omega
  · rw [wrap_id (x := q3) (by omega) (by omega), wrap_id (x := ls - 4) (by omega) (by omega), Int.tmod_eq_emod_of_nonneg h3.1]
  · rw [prm h3.1 h3.2 (by decide) (by decide) (by decide) (by decide)]
  · rw [prm h2.1 h2.2 (by decide) (by decide) (by decide) (by decide)]; omega

section
variable {w : World} {q0 q1 q2 q3 : Int} {a b k : Nat} {ls fr mn : Int} {R : Res}
theorem j21 (p : Prm q0 q1 q2 q3 a b k ls fr mn) (hR : ∀ w', Ext w w' → R (.bool true) [] w') {w173 : World} {A174 : Option Addr} {u : List Int} (hE : Ext w w173) (hrow : Row w173 A174 (ints u)) (hul : u.length ≤ 1099511627776) (hall : ∀ y ∈ u, y = fr) :
    ∃ I179, J14_21 I179 w173 u.length A174 q3 q2 R q0 q1 := by
  have ok := p.ok; have rg := ok.full
  have h0 := ok.ring.fr0; have h1 := ok.ring.mn0; have h2 := ok.ring.fit; have a0 := ok.a0; have b0 := ok.b0; have a1 := p.a41; have b1 := p.b41; have l0 := p.ls0; have l1 := p.ls1
  refine ⟨fun x => ⟨fun w' => w' = w173 ∧ 0 ≤ x ∧ x ≤ u.length, fun _ => (u.length - x).toNat⟩, ?_⟩
  rw [J14_21, p.ea, p.eb, p.es, p.ef, p.em]
  refine ⟨⟨rfl, by omega, by omega⟩, ?_⟩
  rintro x180 w181 ⟨rfl, h180, h181⟩ n182 rfl
  refine condK_dec (fun hlt => ?_) fun hge => ?_
  · refine rd_int Ext.rfl' hrow h180 hlt (K := fun x184 => condK _ _ _) ?_
    rw [hall _ (gi_mem h180 hlt)]
    refine condK_bne (fun h => absurd rfl h) fun _ => ?_
    rw [wrap_id (by omega) (by omega)]
    exact ⟨⟨rfl, by omega, by omega⟩, by simp only []; omega⟩
  · refine ⟨rfl, by omega, by omega, by omega, ?_⟩
    refine (Fam.empty w181).mkRow 0 fun n185 F w186 ho hF hs => ?_
    rw [List.length_replicate, ← bools_rep] at hs
    rw [wrap_id (x := ls - 1) (by omega) (by omega)]
    refine hs.set_bool hF (by omega) (by rw [List.length_replicate]; omega) fun F2 w188 ho2 hF2 hs2 => ?_
    have hE188 : Ext w w188 := hE.trans' hF2.base
    have hhid : SlB w188 (.slice (some ⟨n185, 0, none⟩) ls.toNat ls.toNat) (lastL ls) := hs2.slb hF2
    refine c45 rg (by omega) a0 b0 (by omega) (by omega) fun w191 vc hnc => ?_
    have hatc := hnc.at_
    obtain ⟨A194, n195, n196, A197, n198, n199, rfl⟩ := hatc.form
    refine ⟨_, _, _, _, _, _, _, _, rfl, rfl, ?_⟩
    have hcs := chain_shaped ok
    obtain ⟨hcl, hcf⟩ := chain_len (ls := ls) (fr := fr) (mn := mn) (a := a) (b := b)
    have hcL : (chainM ls fr mn a b).letters = ls := rfl
    have hll : ((lastL ls).length : Int) = ls := lastL_len (by omega)
    refine c40 hatc (hcs.lim (by omega) (by omega)) (hhid.ext hnc.below) (fun hbad => absurd ⟨⟨hcs, by omega, by omega⟩, hll⟩ hbad) (fun _ _ w' x ys hE' hlx hxn hnd hfr hgt hst => ?_) fun _ _ w202 mm v' hnm hok hmn => ?_
    · have e1 := chain_few ok hlx (by omega) hnd hfr
      have e2 : a * b ≤ 41 * 41 := Nat.mul_le_mul a1 b1
      omega
    · obtain ⟨x, hlx, _, hhide, _⟩ := hok
      have hatm := hnm.at_
      obtain ⟨A205, n206, n207, A208, n209, n210, rfl⟩ := hatm.form
      refine ⟨_, _, _, _, _, _, _, _, _, rfl, rfl, fun _ => ?_⟩
      refine condK_beq (fun _ => ?_) fun h => absurd rfl h
      refine c46 rg (by omega) a0 b0 (by omega) (by omega) fun w215 vs beg hbeg hbl hns => ?_
      have hats := hns.at_
      obtain ⟨A218, n219, n220, A221, n222, n223, rfl⟩ := hats.form
      refine ⟨_, _, _, _, _, _, _, _, rfl, rfl, ?_⟩
      have e : mm = summedM ls fr mn a b beg := (IsHide.of hlx hhide).unique (chain_hide ok hbeg)
      have hml : mm.letters = ls := by rw [e]; rfl
      have hms : mm.Shaped := hhide.canon.shaped
      refine c24 (hatm.ext hns.below) hats (hms.lim (by omega) (by omega)) (fun _ => ⟨_, rfl, rfl, condK_of (fun _ => ?_) fun h => by cases h⟩) fun hne => absurd e hne
      exact c15 fun w230 hE230 => ⟨_, rfl, rfl, hR w230 (hE188.trans' (hnc.below.trans' (hnm.below.trans' (hns.below.trans' hE230))))⟩
theorem j24 (p : Prm q0 q1 q2 q3 a b k ls fr mn) (hR : ∀ w', Ext w w' → R (.bool true) [] w') {w173 : World} {A174 : Option Addr} {u : List Int} {t177 : Bool} {x178 : Int} (hE : Ext w w173) (hrow : Row w173 A174 (ints u)) (hul : u.length ≤ 1099511627776) (hall : ∀ y ∈ u, y = fr)
    (hd : a ≠ b → x178 = 0 ∧ t177 = decide (a < b) ∧ u.length = min a b) : J14_24 q0 q1 x178 R w173 t177 u.length A174 q3 q2 := by
  have hj := j21 p hR hE hrow hul hall
  rw [J14_24, p.ea, p.eb]
  refine condK_bne (fun hne => ?_) fun _ => hj
  obtain ⟨rfl, rfl, hl⟩ := hd (by omega)
  refine condK_bne (fun h => absurd rfl h) fun _ => ?_
  refine condK_of (fun h => ?_) fun _ => ?_
  · have e : decide ((a : Int) < (b : Int)) = decide (a < b) := by
      by_cases h : a < b
      · rw [decide_eq_true h, decide_eq_true (by omega)]
      · rw [decide_eq_false h, decide_eq_false (by omega)]
    rw [e] at h; simp at h
  · refine condK_bne (fun h => ?_) fun _ => hj
    exfalso; apply h; split <;> omega

abbrev av (m : Mach) (A : Option Addr) (n c : Nat) (B : Option Addr) (k d : Nat) : Value := .agg (Array.mk [.int .i64 m.letters, .int .i64 m.start, .slice A n c, .slice B k d])
set_option maxHeartbeats 2000000 in
theorem j81 (p : Prm q0 q1 q2 q3 a b k ls fr mn) (hR : ∀ w', Ext w w' → R (.bool true) [] w') {w108 : World} {A41 : Option Addr} {n42 n43 : Nat} {A44 : Option Addr} {n45 n46 : Nat} {A6 : Option Addr} {n7 n8 : Nat} {A9 : Option Addr} {n10 n11 : Nat} {A76 : Option Addr} {n77 n78 : Nat} {A79 : Option Addr} {n80 n81 : Nat} {A111 : Option Addr} {n112 n113 : Nat} {A114 : Option Addr} {n115 n116 : Nat} {A17 : Option Addr} {n18 n19 : Nat} {A20 : Option Addr} {n21 n22 : Nat}
    {ml mb mo : Mach} (el : ml = ringM ls fr mn a) (ebo : mb = ringM ls fr mn (Nat.lcm a b)) (eo : mo = eitherM ls fr mn a b)
    (hE : Ext w w108) (hl : MachAt w108 ml (av ml A41 n42 n43 A44 n45 n46)) (hx : MachAt w108 (ringM ls fr mn a) (av (ringM ls fr mn a) A6 n7 n8 A9 n10 n11)) (hb : MachAt w108 mb (av mb A76 n77 n78 A79 n80 n81)) (ho : MachAt w108 mo (av mo A111 n112 n113 A114 n115 n116)) (hy : MachAt w108 (ringM ls fr mn b) (av (ringM ls fr mn b) A17 n18 n19 A20 n21 n22)) :
    J14_81 0 R w108 0 0 ml.letters ml.start A41 n42 n43 A44 n45 n46 (ringM ls fr mn a).letters (ringM ls fr mn a).start A6 n7 n8 A9 n10 n11 q0 q1 q2 q3 mb.letters mb.start A76 n77 n78 A79 n80 n81 mo.letters mo.start A111 n112 n113 A114 n115 n116 (ringM ls fr mn b).letters (ringM ls fr mn b).start A17 n18 n19 A20 n21 n22 := by
  have ok := p.ok; have rg := ok.full
  have h0 := ok.ring.fr0; have h1 := ok.ring.mn0; have h2 := ok.ring.fit; have a0 := ok.a0; have b0 := ok.b0; have a1 := p.a41; have b1 := p.b41; have l0 := p.ls0; have l1 := p.ls1
  have hab : a * b ≤ 41 * 41 := Nat.mul_le_mul a1 b1
  have hlcm : 0 < Nat.lcm a b := Nat.lcm_pos a0 b0
  have hlle : Nat.lcm a b ≤ a * b := Nat.le_of_dvd (Nat.mul_pos a0 b0) (Nat.lcm_dvd (Nat.dvd_mul_right a b) (Nat.dvd_mul_left b a))
  have va := ring_valid rg a0 (by omega) (show a ≤ 4000 by omega)
  have vb := ring_valid rg b0 (by omega) (show b ≤ 4000 by omega)
  have vl := ring_valid rg hlcm (by omega) (show Nat.lcm a b ≤ 4000 by omega)
  have la : (ringM ls fr mn a).Lim := va.shaped.lim (by rw [ring_len]; omega) (show ls ≤ _ by omega)
  have lb : (ringM ls fr mn b).Lim := vb.shaped.lim (by rw [ring_len]; omega) (show ls ≤ _ by omega)
  have ll : (ringM ls fr mn (Nat.lcm a b)).Lim := vl.shaped.lim (by rw [ring_len]; omega) (show ls ≤ _ by omega)
  have hol : (eitherM ls fr mn a b).next.length = eitherN a b := lasso_len
  have hoN : eitherN a b ≤ 41 * 41 := by
    unfold eitherN
    split
    · omega
    · split
      · omega
      · rw [lcm_eq]; omega
  have lo : (eitherM ls fr mn a b).Lim := (either_canon rg a0 b0).shaped.lim (by rw [hol]; omega) (show ls ≤ _ by omega)
  have hg : 0 < Nat.gcd a b := Nat.gcd_pos_of_pos_left b a0
  rw [J14_81, p.ea, p.eb, p.es, p.ef, p.em, p.ek]
  refine condK_bne (fun h => absurd rfl h) fun _ => condK_bne (fun h => absurd rfl h) fun _ => condK_bne (fun h => absurd rfl h) fun _ => ?_
  refine c24 hl hx (by rw [el]; exact la) (fun _ => ⟨_, rfl, rfl, condK_of (fun h => by cases h) fun _ => ?_⟩) fun h => absurd el h
  refine c42 b0 ⟨_, rfl, rfl, by omega, ?_⟩
  have e1 : IntKind.i64.wrap (IntKind.i64.wrap ((a : Int).tdiv (Nat.gcd a b : Nat)) * (b : Int)) = ((Nat.lcm a b : Nat) : Int) := by
    have hle : a / Nat.gcd a b ≤ a := Nat.div_le_self _ _
    have e := lcm_eq a b
    rw [show (a : Int).tdiv (Nat.gcd a b : Nat) = ((a / Nat.gcd a b : Nat) : Int) by rw [Int.tdiv_eq_ediv_of_nonneg (by omega)]; rfl]
    generalize a / Nat.gcd a b = q at *
    rw [wrap_id (x := (q : Int)) (by omega) (by omega), ← Int.natCast_mul, e, wrap_id (by omega) (by omega)]
  rw [e1]
  refine c41 rg (by omega) hlcm (by omega) fun w129 vr hnr => ?_
  have hatr := hnr.at_
  obtain ⟨A132, n133, n134, A135, n136, n137, rfl⟩ := hatr.form
  refine ⟨_, _, _, _, _, _, _, _, rfl, rfl, ?_⟩
  have hE129 := hnr.below
  refine c24 (hb.ext hE129) hatr (by rw [ebo]; exact ll) (fun _ => ⟨_, rfl, rfl, condK_of (fun h => by cases h) fun _ => ?_⟩) fun h => absurd ebo h
  refine c43 rg (by omega) a0 b0 (by omega) (by omega) fun w144 ve hne => ?_
  have hate := hne.at_
  obtain ⟨A147, n148, n149, A150, n151, n152, rfl⟩ := hate.form
  refine ⟨_, _, _, _, _, _, _, _, rfl, rfl, ?_⟩
  have hE144 := hE129.trans' hne.below
  refine c24 (ho.ext hE144) hate (by rw [eo]; exact lo) (fun _ => ⟨_, rfl, rfl, condK_of (fun h => by cases h) fun _ => ?_⟩) fun h => absurd eo h
  refine ⟨by decide, ?_⟩
  have hak : a * k ≤ 41 * 20 := Nat.mul_le_mul a1 p.k20
  have e2 : IntKind.i64.wrap ((a : Int) * (k : Int)) = ((a * k : Nat) : Int) := by rw [← Int.natCast_mul, wrap_id (by omega) (by omega)]
  have e3 : IntKind.i64.wrap (((a * k : Nat) : Int) + 1) = ((a * k + 1 : Nat) : Int) := by rw [wrap_id (by omega) (by omega)]; rfl
  rw [e2, e3]
  refine c31 (hx.ext hE144) la (fun h => absurd ⟨va, by omega, by omega⟩ h) fun _ _ _ w159 hE159 => ⟨_, _, rfl, rfl, ?_⟩
  refine c31 (hx.ext (hE144.trans' hE159)) la (fun h => absurd ⟨va, by omega, by omega⟩ h) fun _ _ _ w164 hE164 => ⟨_, _, rfl, rfl, ?_⟩
  refine condK_bne (fun h => absurd rfl h) fun _ => condK_bne (fun h => absurd rfl h) fun _ => ?_
  refine c44 (by omega) ⟨_, rfl, rfl, ?_⟩
  refine condK_bne (fun h => absurd (by rw [ring_cnt rg a0, wrapU]) h) fun _ => condK_bne (fun h => absurd (ring_cnt1 rg p.a2 k) h) fun _ => ?_
  have hE164' := (hE144.trans' hE159).trans' hE164
  have hfit : fitc (ringM ls fr mn a) (ringM ls fr mn b) = 0 := fitc_ok.2 ⟨va, vb, rfl⟩
  refine c26 (hx.ext hE164') (hy.ext hE164') la lb (fun h => absurd hfit h) (fun _ hsame w173 hE173 => ?_) fun _ w173 wv u hE173 hu hul hf => ?_
  · have hEw := hE.trans' (hE164'.trans' hE173)
    have hno : ¬ a ≠ b := fun hne => (ring_first rg a0 b0 hne).parts (hsame _)
    refine ⟨_, _, _, _, _, rfl, rfl, ?_⟩
    have hj := j24 p hR (t177 := false) (x178 := 7) (A174 := none) (u := []) hEw (fun h => absurd rfl h) (by simp) (by simp) fun h => absurd h hno
    refine condK_beq (fun _ => ?_) fun h => absurd (by omega) h
    exact condK_bne (fun h => absurd rfl h) fun _ => condK_bne (fun h => absurd rfl h) fun _ => condK_of (fun h => by cases h) fun _ => hj
  · have hEw := hE.trans' (hE164'.trans' hE173)
    have hne : a ≠ b := fun e => by
      have := hf.parts
      rw [e] at this; exact this rfl
    have hue := hf.unique (ring_first rg a0 b0 hne)
    obtain ⟨A174, c176, rfl, hrow⟩ := hu
    refine ⟨_, _, _, _, _, rfl, rfl, ?_⟩
    refine condK_beq (fun h => absurd (by omega) hne) fun _ => ?_
    refine j24 p hR hEw hrow hul (fun y hy => ?_) fun _ => ⟨rfl, ?_, by rw [hue, List.length_replicate]⟩
    · rw [hue] at hy; exact List.eq_of_mem_replicate hy
    · rw [hue]; exact ring_tells rg a0 b0 hne
end

set_option maxHeartbeats 4000000 in
theorem c14 {w : World} {q0 q1 q2 q3 : Int} {R : Res} (h0 : (Lit.int .u8 q0).wf = true) (h1 : (Lit.int .u8 q1).wf = true) (h2 : (Lit.int .u8 q2).wf = true) (h3 : (Lit.int .u8 q3).wf = true) (hR : ∀ w', Ext w w' → R (.bool true) [] w') :
    CallsI Try.prog 14 [.int .u8 q0, .int .u8 q1, .int .u8 q2, .int .u8 q3] w [] R := by
  have r0 : 0 ≤ q0 ∧ q0 ≤ 255 := by simpa [Lit.wf, IntKind.min, IntKind.max, IntKind.signed, IntKind.bits] using h0
  have r1 : 0 ≤ q1 ∧ q1 ≤ 255 := by simpa [Lit.wf, IntKind.min, IntKind.max, IntKind.signed, IntKind.bits] using h1
  have r2 : 0 ≤ q2 ∧ q2 ≤ 255 := by simpa [Lit.wf, IntKind.min, IntKind.max, IntKind.signed, IntKind.bits] using h2
  have r3 : 0 ≤ q3 ∧ q3 ≤ 255 := by simpa [Lit.wf, IntKind.min, IntKind.max, IntKind.signed, IntKind.bits] using h3
  obtain ⟨a, b, k, ls, fr, mn, p⟩ := prm_make r0 r1 r2 r3
  have ok := p.ok; have rg := ok.full
  have g0 := ok.ring.fr0; have g1 := ok.ring.mn0; have g2 := ok.ring.fit; have a0 := ok.a0; have b0 := ok.b0; have a1 := p.a41; have b1 := p.b41; have l0 := p.ls0; have l1 := p.ls1
  have va := ring_valid rg a0 (by omega) (show a ≤ 4000 by omega)
  have vb := ring_valid rg b0 (by omega) (show b ≤ 4000 by omega)
  have la : (ringM ls fr mn a).Lim := va.shaped.lim (by rw [ring_len]; omega) (show ls ≤ _ by omega)
  have lb : (ringM ls fr mn b).Lim := vb.shaped.lim (by rw [ring_len]; omega) (show ls ≤ _ by omega)
  have hfit : fitc (ringM ls fr mn a) (ringM ls fr mn b) = 0 := fitc_ok.2 ⟨va, vb, rfl⟩
  have few : (((ringM ls fr mn a).next.length : Int) + 1) * ((ringM ls fr mn b).next.length + 1) ≤ 4000 := by
    rw [ring_len, ring_len]
    have : ((a : Int) + 1) * (b + 1) ≤ 42 * 42 := Int.mul_le_mul (by omega) (by omega) (by omega) (by omega)
    omega
  refine s14 _ _ _ _ _ _ ?_
  rw [p.ea, p.eb, p.es, p.ef, p.em]
  refine ⟨by decide, by decide, by decide, by decide, by rw [wrap_id (by omega) (by omega)]; omega, ?_⟩
  refine c41 rg (by omega) a0 (by omega) fun w3 vx hnx => ?_
  have hx3 := hnx.at_
  obtain ⟨A6, n7, n8, A9, n10, n11, rfl⟩ := hx3.form
  refine ⟨_, _, _, _, _, _, _, _, rfl, rfl, ?_⟩
  refine c41 rg (by omega) b0 (by omega) fun w14 vy hny => ?_
  have hy14 := hny.at_
  obtain ⟨A17, n18, n19, A20, n21, n22, rfl⟩ := hy14.form
  refine ⟨_, _, _, _, _, _, _, _, rfl, rfl, fun _ _ => ?_⟩
  refine c25g (hx3.ext hny.below) va.shaped (by rw [ring_len]; omega) (show ls ≤ 300 by omega) r3.1 r3.2 (cs := []) ⟨none, 0, rfl, fun h => absurd rfl h⟩ fun w27 r vr hnr hrs hrl hrn hrw => ?_
  have hatr := hnr.at_
  obtain ⟨A30, n31, n32, A33, n34, n35, rfl⟩ := hatr.form
  refine ⟨_, _, _, _, _, _, _, _, rfl, rfl, ?_⟩
  rw [ring_len] at hrn
  have hrL : r.letters = ls := hrl
  have hrv : r.Valid := ⟨hrs, by omega, by omega⟩
  refine c23 hatr (hrs.lim (by omega) (by omega)) (fun h => absurd hrv h) fun _ w38 ml vl hnl hll _ => ?_
  have el : ml = ringM ls fr mn a := IsLeast.unique (m := ringM ls fr mn a) ⟨hll.canon, by rw [hll.letters, hrL]; rfl, fun u => by rw [hll.words, hrw]⟩ (ring_least rg a0)
  have hl38 := hnl.at_
  obtain ⟨A41, n42, n43, A44, n45, n46, rfl⟩ := hl38.form
  refine ⟨_, _, _, _, _, _, _, _, _, rfl, rfl, fun _ => ?_⟩
  have hE38 : Ext w w38 := hnx.below.trans' (hny.below.trans' (hnr.below.trans' hnl.below))
  have hx38 := hx3.ext (hny.below.trans' (hnr.below.trans' hnl.below))
  have hy38 := hy14.ext (hnr.below.trans' hnl.below)
  clear hnx hny hnr hnl hx3 hy14 hatr hll hrw
  -- a copy of a ring
  have copy : ∀ (m : Mach) (A : Option Addr) (n c : Nat) (B : Option Addr) (d e : Nat) (w12 : World) (K : Int → Int → Option Addr → Nat → Nat → Option Addr → Nat → Nat → World → Prop), m.Lim → MachAt w12 m (av m A n c B d e) → (∀ w20 A23 n24 n25 A26 n27 n28, Ext w12 w20 → MachAt w20 m (av m A23 n24 n25 A26 n27 n28) → K m.letters m.start A23 n24 n25 A26 n27 n28 w20) →
      CallsI Try.prog 19 [av m A n c B d e] w12 [] fun (v19 : Value) (l20 : List (List Value)) (w21 : World) => ∃ (x22 : Int), ∃ (x23 : Int), ∃ (A24 : Option Addr), ∃ (n25 : Nat), ∃ (n26 : Nat), ∃ (A27 : Option Addr), ∃ (n28 : Nat), ∃ (n29 : Nat), v19 = Value.agg (Array.mk [Value.int IntKind.i64 x22, Value.int IntKind.i64 x23, Value.slice A24 n25 n26, Value.slice A27 n28 n29]) ∧ l20 = [] ∧ K x22 x23 A24 n25 n26 A27 n28 n29 w21 := by
    intro m A n c B d e w12 K hlim hat hK
    refine c19 hat hlim fun w20 v18 hna => ?_
    have hat2 := hna.at_
    obtain ⟨A23, n24, n25, A26, n27, n28, rfl⟩ := hat2.form
    exact ⟨_, _, _, _, _, _, _, _, rfl, rfl, hK w20 _ _ _ _ _ _ hna.below hat2⟩
  -- either, and what follows
  have j103 : ∀ (w97 w73 : World) (mb : Mach) (A76 : Option Addr) (n77 n78 : Nat) (A79 : Option Addr) (n80 n81 : Nat) (A89 : Option Addr) (n90 n91 : Nat) (A92 : Option Addr) (n93 n94 : Nat) (A100 : Option Addr) (n101 n102 : Nat) (A103 : Option Addr) (n104 n105 : Nat), mb = ringM ls fr mn (Nat.lcm a b) → Ext w38 w73 → Ext w73 w97 → MachAt w73 mb (av mb A76 n77 n78 A79 n80 n81) → MachAt w97 (ringM ls fr mn a) (av (ringM ls fr mn a) A89 n90 n91 A92 n93 n94) → MachAt w97 (ringM ls fr mn b) (av (ringM ls fr mn b) A100 n101 n102 A103 n104 n105) →
      ∀ (K : Int → Int → Option Addr → Nat → Nat → Option Addr → Nat → Nat → Int → World → Prop), (∀ (x236 x237 : Int) (A238 : Option Addr) (n239 n240 : Nat) (A241 : Option Addr) (n242 n243 : Nat) (x244 : Int) (w235 : World), J14_81 0 R w235 0 x244 ml.letters ml.start A41 n42 n43 A44 n45 n46 (ringM ls fr mn a).letters (ringM ls fr mn a).start A6 n7 n8 A9 n10 n11 q0 q1 q2 q3 mb.letters mb.start A76 n77 n78 A79 n80 n81 x236 x237 A238 n239 n240 A241 n242 n243 (ringM ls fr mn b).letters (ringM ls fr mn b).start A17 n18 n19 A20 n21 n22 → K x236 x237 A238 n239 n240 A241 n242 n243 x244 w235) →
      CallsI Try.prog 34 [av (ringM ls fr mn a) A89 n90 n91 A92 n93 n94, av (ringM ls fr mn b) A100 n101 n102 A103 n104 n105] w97 [] fun (v233 : Value) (l234 : List (List Value)) (w235 : World) => ∃ (x236 : Int), ∃ (x237 : Int), ∃ (A238 : Option Addr), ∃ (n239 : Nat), ∃ (n240 : Nat), ∃ (A241 : Option Addr), ∃ (n242 : Nat), ∃ (n243 : Nat), ∃ (x244 : Int), v233 = Value.tuple (Array.mk [Value.agg (Array.mk [Value.int IntKind.i64 x236, Value.int IntKind.i64 x237, Value.slice A238 n239 n240, Value.slice A241 n242 n243]), Value.int IntKind.i64 x244]) ∧ l234 = [] ∧ K x236 x237 A238 n239 n240 A241 n242 n243 x244 w235 := by
    intro w97 w73 mb A76 n77 n78 A79 n80 n81 A89 n90 n91 A92 n93 n94 A100 n101 n102 A103 n104 n105 ebo hE73 hE97 hb ha1 hb1 K hK
    refine c34 ha1 hb1 la lb few (fun h => absurd hfit h) fun _ w108 mo vo hno hjo _ => ?_
    have ho := hno.at_
    obtain ⟨A111, n112, n113, A114, n115, n116, rfl⟩ := ho.form
    have hE := hE97.trans' hno.below
    have hE2 := hE73.trans' hE
    exact ⟨_, _, _, _, _, _, _, _, _, rfl, rfl, hK _ _ _ _ _ _ _ _ _ _ (j81 p hR el ebo (hjo.unique (ring_either rg a0 b0)) (hE38.trans' hE2) (hl38.ext hE2) (hx38.ext hE2) (hb.ext hE) ho (hy38.ext hE2))⟩
  have j144 : ∀ (w73 : World) (mb : Mach) (A76 : Option Addr) (n77 n78 : Nat) (A79 : Option Addr) (n80 n81 : Nat), mb = ringM ls fr mn (Nat.lcm a b) → Ext w38 w73 → MachAt w73 mb (av mb A76 n77 n78 A79 n80 n81) →
      J14_144 (ringM ls fr mn a).letters (ringM ls fr mn a).start A6 n7 n8 A9 n10 n11 w73 (ringM ls fr mn b).letters (ringM ls fr mn b).start A17 n18 n19 A20 n21 n22 0 R 0 ml.letters ml.start A41 n42 n43 A44 n45 n46 q0 q1 q2 q3 mb.letters mb.start A76 n77 n78 A79 n80 n81 := by
    intro w73 mb A76 n77 n78 A79 n80 n81 ebo hE73 hb
    have hx73 := hx38.ext hE73
    have hy73 := hy38.ext hE73
    have k103 : ∀ (w86 w97 : World) (A89 : Option Addr) (n90 n91 : Nat) (A92 : Option Addr) (n93 n94 : Nat) (A100 : Option Addr) (n101 n102 : Nat) (A103 : Option Addr) (n104 n105 : Nat), Ext w73 w86 → Ext w86 w97 → MachAt w86 (ringM ls fr mn a) (av (ringM ls fr mn a) A89 n90 n91 A92 n93 n94) → MachAt w97 (ringM ls fr mn b) (av (ringM ls fr mn b) A100 n101 n102 A103 n104 n105) →
        J14_103 (ringM ls fr mn a).letters (ringM ls fr mn a).start A89 n90 n91 A92 n93 n94 (ringM ls fr mn b).letters (ringM ls fr mn b).start A100 n101 n102 A103 n104 n105 w97 0 R 0 ml.letters ml.start A41 n42 n43 A44 n45 n46 (ringM ls fr mn a).letters (ringM ls fr mn a).start A6 n7 n8 A9 n10 n11 q0 q1 q2 q3 mb.letters mb.start A76 n77 n78 A79 n80 n81 (ringM ls fr mn b).letters (ringM ls fr mn b).start A17 n18 n19 A20 n21 n22 := by
      intro w86 w97 A89 n90 n91 A92 n93 n94 A100 n101 n102 A103 n104 n105 hE86 hE97 ha hb'
      rw [J14_103]
      exact j103 w97 w73 mb A76 n77 n78 A79 n80 n81 A89 n90 n91 A92 n93 n94 A100 n101 n102 A103 n104 n105 ebo hE73 (hE86.trans' hE97) hb (ha.ext hE97) hb' _ fun _ _ _ _ _ _ _ _ _ _ h => h
    have k123 : ∀ (w86 : World) (A89 : Option Addr) (n90 n91 : Nat) (A92 : Option Addr) (n93 n94 : Nat), Ext w73 w86 → MachAt w86 (ringM ls fr mn a) (av (ringM ls fr mn a) A89 n90 n91 A92 n93 n94) →
        J14_123 (ringM ls fr mn b).letters (ringM ls fr mn b).start A17 n18 n19 A20 n21 n22 w86 (ringM ls fr mn a).letters (ringM ls fr mn a).start A89 n90 n91 A92 n93 n94 0 R 0 ml.letters ml.start A41 n42 n43 A44 n45 n46 (ringM ls fr mn a).letters (ringM ls fr mn a).start A6 n7 n8 A9 n10 n11 q0 q1 q2 q3 mb.letters mb.start A76 n77 n78 A79 n80 n81 := by
      intro w86 A89 n90 n91 A92 n93 n94 hE86 ha
      rw [J14_123]
      exact copy _ _ _ _ _ _ _ w86 _ lb (hy73.ext hE86) fun w97 _ _ _ _ _ _ hE97 hb' => k103 w86 w97 _ _ _ _ _ _ _ _ _ _ _ _ hE86 hE97 ha hb'
    rw [J14_144]
    refine ⟨copy _ _ _ _ _ _ _ w73 _ la hx73 fun w86 _ _ _ _ _ _ hE86 ha => ⟨copy _ _ _ _ _ _ _ w86 _ lb (hy73.ext hE86) fun w97 _ _ _ _ _ _ hE97 hb' => ⟨?_, fun _ => k103 w86 w97 _ _ _ _ _ _ _ _ _ _ _ _ hE86 hE97 ha hb'⟩, fun _ => k123 w86 _ _ _ _ _ _ hE86 ha⟩, fun _ => copy _ _ _ _ _ _ _ w73 _ la hx73 fun w86 _ _ _ _ _ _ hE86 ha => k123 w86 _ _ _ _ _ _ hE86 ha⟩
    exact j103 w97 w73 mb A76 n77 n78 A79 n80 n81 _ _ _ _ _ _ _ _ _ _ _ _ ebo hE73 (hE86.trans' hE97) hb (ha.ext hE97) hb' _ fun _ _ _ _ _ _ _ _ _ _ h _ => h
  -- both, and what follows
  have j166 : ∀ (w51 w62 : World) (A54 : Option Addr) (n55 n56 : Nat) (A57 : Option Addr) (n58 n59 : Nat) (A65 : Option Addr) (n66 n67 : Nat) (A68 : Option Addr) (n69 n70 : Nat), Ext w38 w51 → Ext w51 w62 → MachAt w51 (ringM ls fr mn a) (av (ringM ls fr mn a) A54 n55 n56 A57 n58 n59) → MachAt w62 (ringM ls fr mn b) (av (ringM ls fr mn b) A65 n66 n67 A68 n69 n70) →
      ∀ (K : Int → Int → Option Addr → Nat → Nat → Option Addr → Nat → Nat → Int → World → Prop), (∀ (x74 x75 : Int) (A76 : Option Addr) (n77 n78 : Nat) (A79 : Option Addr) (n80 n81 : Nat) (x82 : Int) (w73 : World), J14_144 (ringM ls fr mn a).letters (ringM ls fr mn a).start A6 n7 n8 A9 n10 n11 w73 (ringM ls fr mn b).letters (ringM ls fr mn b).start A17 n18 n19 A20 n21 n22 0 R x82 ml.letters ml.start A41 n42 n43 A44 n45 n46 q0 q1 q2 q3 x74 x75 A76 n77 n78 A79 n80 n81 → K x74 x75 A76 n77 n78 A79 n80 n81 x82 w73) →
      CallsI Try.prog 37 [av (ringM ls fr mn a) A54 n55 n56 A57 n58 n59, av (ringM ls fr mn b) A65 n66 n67 A68 n69 n70] w62 [] fun (v233 : Value) (l234 : List (List Value)) (w235 : World) => ∃ (x236 : Int), ∃ (x237 : Int), ∃ (A238 : Option Addr), ∃ (n239 : Nat), ∃ (n240 : Nat), ∃ (A241 : Option Addr), ∃ (n242 : Nat), ∃ (n243 : Nat), ∃ (x244 : Int), v233 = Value.tuple (Array.mk [Value.agg (Array.mk [Value.int IntKind.i64 x236, Value.int IntKind.i64 x237, Value.slice A238 n239 n240, Value.slice A241 n242 n243]), Value.int IntKind.i64 x244]) ∧ l234 = [] ∧ K x236 x237 A238 n239 n240 A241 n242 n243 x244 w235 := by
    intro w51 w62 A54 n55 n56 A57 n58 n59 A65 n66 n67 A68 n69 n70 hE51 hE62 ha1 hb1 K hK
    refine c37 (ha1.ext hE62) hb1 la lb few (fun h => absurd hfit h) fun _ w73 mb vo hno hjo _ => ?_
    have hb := hno.at_
    obtain ⟨A76, n77, n78, A79, n80, n81, rfl⟩ := hb.form
    exact ⟨_, _, _, _, _, _, _, _, _, rfl, rfl, hK _ _ _ _ _ _ _ _ _ _ (j144 w73 mb _ _ _ _ _ _ (hjo.unique (ring_both rg a0 b0)) (hE51.trans' (hE62.trans' hno.below)) hb)⟩
  have k166 : ∀ (w51 w62 : World) (A54 : Option Addr) (n55 n56 : Nat) (A57 : Option Addr) (n58 n59 : Nat) (A65 : Option Addr) (n66 n67 : Nat) (A68 : Option Addr) (n69 n70 : Nat), Ext w38 w51 → Ext w51 w62 → MachAt w51 (ringM ls fr mn a) (av (ringM ls fr mn a) A54 n55 n56 A57 n58 n59) → MachAt w62 (ringM ls fr mn b) (av (ringM ls fr mn b) A65 n66 n67 A68 n69 n70) →
      J14_166 (ringM ls fr mn a).letters (ringM ls fr mn a).start A54 n55 n56 A57 n58 n59 (ringM ls fr mn b).letters (ringM ls fr mn b).start A65 n66 n67 A68 n69 n70 w62 (ringM ls fr mn a).letters (ringM ls fr mn a).start A6 n7 n8 A9 n10 n11 (ringM ls fr mn b).letters (ringM ls fr mn b).start A17 n18 n19 A20 n21 n22 0 R ml.letters ml.start A41 n42 n43 A44 n45 n46 q0 q1 q2 q3 := by
    intro w51 w62 A54 n55 n56 A57 n58 n59 A65 n66 n67 A68 n69 n70 hE51 hE62 ha hb
    rw [J14_166]
    exact j166 w51 w62 _ _ _ _ _ _ _ _ _ _ _ _ hE51 hE62 ha hb _ fun _ _ _ _ _ _ _ _ _ _ h => h
  have k186 : ∀ (w51 : World) (A54 : Option Addr) (n55 n56 : Nat) (A57 : Option Addr) (n58 n59 : Nat), Ext w38 w51 → MachAt w51 (ringM ls fr mn a) (av (ringM ls fr mn a) A54 n55 n56 A57 n58 n59) →
      J14_186 (ringM ls fr mn b).letters (ringM ls fr mn b).start A17 n18 n19 A20 n21 n22 w51 (ringM ls fr mn a).letters (ringM ls fr mn a).start A54 n55 n56 A57 n58 n59 (ringM ls fr mn a).letters (ringM ls fr mn a).start A6 n7 n8 A9 n10 n11 0 R ml.letters ml.start A41 n42 n43 A44 n45 n46 q0 q1 q2 q3 := by
    intro w51 A54 n55 n56 A57 n58 n59 hE51 ha
    rw [J14_186]
    exact copy _ _ _ _ _ _ _ w51 _ lb (hy38.ext hE51) fun w62 _ _ _ _ _ _ hE62 hb' => k166 w51 w62 _ _ _ _ _ _ _ _ _ _ _ _ hE51 hE62 ha hb'
  refine ⟨copy _ _ _ _ _ _ _ w38 _ la hx38 fun w51 _ _ _ _ _ _ hE51 ha => ⟨copy _ _ _ _ _ _ _ w51 _ lb (hy38.ext hE51) fun w62 _ _ _ _ _ _ hE62 hb' => ⟨?_, fun _ => k166 w51 w62 _ _ _ _ _ _ _ _ _ _ _ _ hE51 hE62 ha hb'⟩, fun _ => k186 w51 _ _ _ _ _ _ hE51 ha⟩, fun _ => copy _ _ _ _ _ _ _ w38 _ la hx38 fun w51 _ _ _ _ _ _ hE51 ha => k186 w51 _ _ _ _ _ _ hE51 ha⟩
  exact j166 w51 w62 _ _ _ _ _ _ _ _ _ _ _ _ hE51 hE62 ha hb' _ fun _ _ _ _ _ _ _ _ _ _ h _ => h
end Go.Proofs.Ytnkpjlhbojjneaa.VC
