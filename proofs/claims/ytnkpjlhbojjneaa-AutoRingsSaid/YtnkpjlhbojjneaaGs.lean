/- A machine written otherwise; both and either. -/
import Derived.Test.YtnkpjlhbojjneaaGi
import Derived.Test.YtnkpjlhbojjneaaGh
import Derived.Test.YtnkpjlhbojjneaaGb
/- A machine whose states stand in another order, each of them twice: it has the same words. -/
namespace Go.Proofs.Ytnkpjlhbojjneaa.VC
open Go Go.RowKit

def tau (N b i : Int) : Int := (i + b) % N
theorem tau_rng {N b i : Int} (h : 0 < N) : 0 ≤ tau N b i ∧ tau N b i < N := ⟨Int.emod_nonneg _ (by omega), Int.emod_lt_of_pos _ h⟩
theorem tau_inj {N b i j : Int} (hi0 : 0 ≤ i) (hi : i < N) (hj0 : 0 ≤ j) (hj : j < N) (e : tau N b i = tau N b j) : i = j := by
  unfold tau at e
  have h := Int.emod_emod_of_dvd (i + b) (Int.dvd_refl N)
  have e2 : (i - j) % N = 0 := by
    have := Int.emod_eq_emod_iff_emod_sub_eq_zero.1 e
    rwa [show i + b - (j + b) = i - j by omega] at this
  have e3 : (j - i) % N = 0 := by
    have := Int.emod_eq_emod_iff_emod_sub_eq_zero.1 e.symm
    rwa [show j + b - (i + b) = j - i by omega] at this
  rcases ilt i j with h | h
  · rw [Int.emod_eq_of_lt (by omega) (by omega)] at e3; omega
  · rw [Int.emod_eq_of_lt (by omega) (by omega)] at e2; omega
theorem tau_sur {N b t : Int} (h0 : 0 ≤ t) (h1 : t < N) : ∃ i, 0 ≤ i ∧ i < N ∧ tau N b i = t := by
  refine ⟨(t - b) % N, Int.emod_nonneg _ (by omega), Int.emod_lt_of_pos _ (by omega), ?_⟩
  unfold tau
  rw [Int.emod_add_emod, show t - b + b = t by omega]
  exact Int.emod_eq_of_lt h0 h1
/-- an entry of the other machine -/
def EntR (m : Mach) (b i k e : Int) : Prop := (m.step (i % m.next.length) k < 0 ∧ e = -1) ∨ (0 ≤ m.step (i % m.next.length) k ∧ (e = tau (2 * m.next.length) b (m.step (i % m.next.length) k) ∨ e = tau (2 * m.next.length) b (m.step (i % m.next.length) k + m.next.length)))
structure Ren (m r : Mach) (b : Int) : Prop where
  letters : r.letters = m.letters
  n : (r.next.length : Int) = 2 * m.next.length
  fin : r.fin.length = r.next.length
  start : r.start = tau (2 * m.next.length) b m.start
  len : ∀ i : Int, 0 ≤ i → i < 2 * m.next.length → ((gl r.next (tau (2 * m.next.length) b i)).length : Int) = m.letters
  ent : ∀ i k : Int, 0 ≤ i → i < 2 * m.next.length → m.Let k → EntR m b i k (gi (gl r.next (tau (2 * m.next.length) b i)) k)
  ends : ∀ i : Int, 0 ≤ i → i < 2 * m.next.length → gb r.fin (tau (2 * m.next.length) b i) = m.ends (i % m.next.length)
section
variable {m r : Mach} {b : Int}
theorem Ren.shaped (h : Ren m r b) (hm : m.Shaped) (hn : 0 < m.next.length) : r.Shaped := by
  have hN : (0 : Int) < 2 * m.next.length := by omega
  have e1 := h.n
  refine ⟨by rw [h.letters]; exact hm.letters, h.fin.symm, fun row hr => ?_, fun e => by omega, fun _ => ?_⟩
  · obtain ⟨k, hk⟩ := List.mem_iff_getElem?.1 hr
    have hk1 := (List.getElem?_eq_some_iff.1 hk).1
    obtain ⟨i, i0, i1, e⟩ := tau_sur (N := 2 * m.next.length) (b := b) (t := k) (by omega) (by omega)
    have hg : gl r.next k = row := gl_get (by simpa using hk)
    have hl := h.len i i0 i1
    rw [e, hg] at hl
    refine ⟨by rw [h.letters]; exact hl, fun t ht => ?_⟩
    obtain ⟨j, hj⟩ := List.mem_iff_getElem?.1 ht
    have hj1 := (List.getElem?_eq_some_iff.1 hj).1
    have := h.ent i j i0 i1 ⟨by omega, by omega⟩
    rw [e, hg, gi_get (by simpa using hj)] at this
    have t1 := tau_rng (N := 2 * m.next.length) (b := b) (i := m.step (i % m.next.length) j) hN
    have t2 := tau_rng (N := 2 * m.next.length) (b := b) (i := m.step (i % m.next.length) j + m.next.length) hN
    rcases this with ⟨_, rfl⟩ | ⟨_, rfl | rfl⟩ <;> omega
  · have := tau_rng (N := 2 * m.next.length) (b := b) (i := m.start) hN
    rw [h.start]; omega
theorem Ren.acc (h : Ren m r b) (hm : m.Shaped) (hn : 0 < m.next.length) (u : List Int) : ∀ i : Int, 0 ≤ i → i < 2 * m.next.length → r.acc (tau (2 * m.next.length) b i) u = m.acc (i % m.next.length) u := by
  have hN : (0 : Int) < 2 * m.next.length := by omega
  have hs := h.shaped hm hn
  have e1 := h.n
  induction u with
  | nil =>
    intro i i0 i1
    have t := tau_rng (N := 2 * m.next.length) (b := b) (i := i) hN
    rw [Mach.acc_nil, Mach.acc_nil, ← h.ends i i0 i1]
    unfold Mach.ends; rw [decide_eq_true t.1, Bool.true_and]; rfl
  | cons k u ih =>
    intro i i0 i1
    have t := tau_rng (N := 2 * m.next.length) (b := b) (i := i) hN
    rw [Mach.acc_cons, Mach.acc_cons]
    by_cases hk : m.Let k
    · have hl := h.len i i0 i1
      have hst : r.step (tau (2 * m.next.length) b i) k = gi (gl r.next (tau (2 * m.next.length) b i)) k := by
        unfold Mach.Let at hk
        exact Mach.step_in (row := gl r.next (tau (2 * m.next.length) b i)) (get_gl (l := r.next) t.1 (by omega)) t.1 hk.1 (get_gi (l := gl r.next (tau (2 * m.next.length) b i)) hk.1 (by omega))
      have hr := hm.step_range (i % m.next.length) k
      rw [hst]
      rcases h.ent i k i0 i1 hk with ⟨a, e⟩ | ⟨a, e | e⟩
      · rw [e, Mach.acc_neg (by decide), Mach.acc_neg a]
      · rw [e, ih _ a (by omega), Int.emod_eq_of_lt a hr.2]
      · rw [e, ih _ (by omega) (by omega), Int.add_emod_right, Int.emod_eq_of_lt a hr.2]
    · have n1 : m.step (i % m.next.length) k < 0 := Classical.byContradiction fun hh => hk (hm.step_let (s := i % m.next.length) (x := k) (by omega)).2
      have n2 : r.step (tau (2 * m.next.length) b i) k < 0 := Classical.byContradiction fun hh => hk (by
        have := (hs.step_let (s := tau (2 * m.next.length) b i) (x := k) (by omega)).2
        unfold Mach.Let at *; rw [h.letters] at this; exact this)
      rw [Mach.acc_neg n1, Mach.acc_neg n2]
theorem Ren.words (h : Ren m r b) (hm : m.Shaped) (hn : 0 < m.next.length) (u : List Int) : r.acc r.start u = m.acc m.start u := by
  have := hm.start.2 (by omega)
  rw [h.start, h.acc hm hn u m.start (by omega) (by omega), Int.emod_eq_of_lt (by omega) (by omega)]
end
section
variable {w0 w : World} {F : FamF} {i : Nat} {A : Option Addr} {n c : Nat}
/-- an entry of a row is set -/
theorem GII.setEl {g : Nat → Nat} {xss : List (List Int)} (h : GII F i g A n c xss) (hF : Fam w0 w F) {x y v : Int} (h0 : 0 ≤ x) (h1 : x < xss.length) (y0 : 0 ≤ y) (y1 : y < (gl xss x).length) (hg : ∀ t, t < xss.length → g t ≠ i ∧ (g t = g x.toNat → t = x.toNat)) {K : World → Prop}
    (hk : ∀ F' w', Only (g x.toNat) F F' → Fam w0 w' F' → GII F' i g A n c (xss.set x.toNat ((gl xss x).set y.toNat v)) → K w') :
    IxV A n 1 x fun a => ∃ A' n' c', w.cell? a = some (.slice A' n' c') ∧ IxV A' n' 1 y fun a => SetK w a (.int .i64 v) K := by
  have hlt : x.toNat < xss.length := by omega
  refine h.get hF h0 h1 (K := fun A' n' c' => IxV A' n' 1 y fun a => SetK w a (.int .i64 v) K) fun A' n' c' hr => ?_
  have hgx := hg x.toNat hlt
  refine hr.set_int hF y0 y1 fun F1 w1 ho hF1 hr1 => ?_
  obtain ⟨hs, h3, h4, h5⟩ := h
  refine hk F1 w1 ho hF1 ⟨hs, h3.keep ho (Ne.symm hgx.1), by rw [List.length_set]; exact h4, fun t hd zs ht hz => ?_⟩
  by_cases e : t = x.toNat
  · subst e
    rw [List.getElem?_set_self (by omega)] at hz
    injection hz with hz; subst hz
    obtain ⟨A3, n3, c3, e3, h6⟩ := h5 _ _ _ ht (get_gl h0 h1)
    refine ⟨A3, n3, c3, e3, ?_⟩
    have e4 : A3 = A' ∧ n3 = n' ∧ c3 = c' := by
      rcases h6 with ⟨f1, f2, f3, f4, f5⟩ | ⟨b, rest, f1, f2, f3, f4⟩
      · have h9 : (ints (gl xss x)).length = 0 := by rw [f5]; rfl
        rw [ints_len] at h9; omega
      · rcases hr with ⟨g1, _⟩ | ⟨b', rest', g1, g2, g3, g4⟩
        · rw [f1] at g1; cases g1
        · rw [f1] at g1; injection g1 with g1; injection g1 with ga gb; injection gb with gb
          have := List.append_cancel_left gb
          subst ga this; exact ⟨by rw [f2, g2], by rw [f3, g3], by rw [f4, g4]⟩
    obtain ⟨rfl, rfl, rfl⟩ := e4
    exact hr1
  · rw [List.getElem?_set_ne (Ne.symm e)] at hz
    obtain ⟨A3, n3, c3, e3, h6⟩ := h5 t hd zs ht hz
    have hgt := hg t (List.getElem?_eq_some_iff.1 hz).1
    exact ⟨A3, n3, c3, e3, h6.keep ho fun h => e (hgt.2 h)⟩
end
end Go.Proofs.Ytnkpjlhbojjneaa.VC

/- Pairs of states, found side by side. -/
namespace Go.Proofs.Ytnkpjlhbojjneaa.VC
open Go Go.RowKit

/-- pairs that are kept: with two states, or with one at the least -/
def okP (st : Bool) (p : IP) : Prop := if st = true then 0 ≤ p.1 ∧ 0 ≤ p.2 else 0 ≤ p.1 ∨ 0 ≤ p.2
theorem okP_or {st : Bool} {p : IP} (h : okP st p) : 0 ≤ p.1 ∨ 0 ≤ p.2 := by
  cases st with
  | true => exact .inl h.1
  | false => exact h
open Classical in
/-- pairs as things to be found -/
noncomputable def pairAuto (st : Bool) (a b : Mach) (fin : IP → Bool) : Auto IP := ⟨a.letters, fun p x => if okP st (pstep a b p x) then some (pstep a b p x) else none, fin⟩
theorem pairAuto_some {st : Bool} {a b : Mach} {fin : IP → Bool} {p : IP} {x : Int} (h : okP st (pstep a b p x)) : (pairAuto st a b fin).next p x = some (pstep a b p x) := if_pos h
theorem pairAuto_none {st : Bool} {a b : Mach} {fin : IP → Bool} {p : IP} {x : Int} (h : ¬ okP st (pstep a b p x)) : (pairAuto st a b fin).next p x = none := if_neg h
theorem not_okP {p : IP} (h : ¬ okP false p) (h1 : -1 ≤ p.1) (h2 : -1 ≤ p.2) : p = nowhere := by
  have : ¬ (0 ≤ p.1 ∨ 0 ≤ p.2) := h
  exact Prod.ext (show p.1 = -1 by omega) (show p.2 = -1 by omega)

structure WS (st : Bool) (a b : Mach) (ps : List IP) (cm bl : List Int) (rs : List (List Int)) (i j : Int) : Prop where
  part : ∀ fin, Part (pairAuto st a b fin) (a.start, b.start) ps rs
  lens : cm.length = ps.length ∧ bl.length = ps.length
  rng : ∀ p ∈ ps, ((-1 ≤ p.1 ∧ p.1 < a.next.length) ∧ (-1 ≤ p.2 ∧ p.2 < b.next.length)) ∧ okP st p
  walk : st = false → ∃ ws, Walk2 a b ps ws cm bl i j
section
variable {st : Bool} {a b : Mach} {ps : List IP} {cm bl : List Int} {rs : List (List Int)} {cur : List Int} {i j : Int}
theorem WS.init (ha : a.Shaped) (hb : b.Shaped) (h : okP st (a.start, b.start)) : WS st a b [(a.start, b.start)] [-1] [-1] [] 0 0 :=
  ⟨fun fin => Part.init _ _, ⟨rfl, rfl⟩, fun p hp => by rw [List.mem_singleton] at hp; subst hp; exact ⟨⟨ha.start_range, hb.start_range⟩, h⟩, fun _ => ⟨_, Walk2.init ha hb⟩⟩
theorem WS.open_ (h : WS st a b ps cm bl rs i j) : WS st a b ps cm bl (rs ++ [[]]) i j := ⟨fun fin => Part.empty.2 (h.part fin), h.lens, h.rng, h.walk⟩
theorem WS.count (h : WS st a b ps cm bl rs i j) : (ps.length : Int) ≤ (a.next.length + 1) * (b.next.length + 1) :=
  pairs_bound (h.part fun _ => false).nodup fun p hp => (h.rng p hp).1
theorem WS.skip (h : WS st a b ps cm bl (rs ++ [cur]) i j) (ha : a.Shaped) (hb : b.Shaped) (hi : (rs.length : Int) = i) (hj : (cur.length : Int) = j) {p : IP} (hp : ps[rs.length]? = some p) (hn : ¬ okP st (pstep a b p j)) :
    WS st a b ps cm bl (rs ++ [cur ++ [-1]]) i (j + 1) := by
  subst hi hj
  refine ⟨fun fin => (h.part fin).none hp (pairAuto_none hn), h.lens, h.rng, fun e => ?_⟩
  obtain ⟨ws, hw⟩ := h.walk e
  subst e
  exact ⟨ws, hw.skip (by omega) (by simpa using hp) (not_okP hn (ha.step_range _ _).1 (hb.step_range _ _).1)⟩
theorem WS.old (h : WS st a b ps cm bl (rs ++ [cur]) i j) (hi : (rs.length : Int) = i) (hj : (cur.length : Int) = j) {p : IP} (hp : ps[rs.length]? = some p) (hok : okP st (pstep a b p j)) (hm : pstep a b p j ∈ ps) :
    ∃ t : Int, WS st a b ps cm bl (rs ++ [cur ++ [t]]) i (j + 1) := by
  subst hi hj
  obtain ⟨k, hk⟩ := List.mem_iff_getElem?.1 hm
  refine ⟨k, fun fin => (h.part fin).old hp (pairAuto_some hok) hk, h.lens, h.rng, fun e => ?_⟩
  obtain ⟨ws, hw⟩ := h.walk e
  exact ⟨ws, hw.old (by omega) (by simpa using hp) hk⟩
theorem WS.fresh (h : WS st a b ps cm bl (rs ++ [cur]) i j) (ha : a.Shaped) (hb : b.Shaped) (hi : (rs.length : Int) = i) (hj : (cur.length : Int) = j) {p : IP} (hp : ps[rs.length]? = some p) (hlet : j < a.letters) (hok : okP st (pstep a b p j)) (hm : pstep a b p j ∉ ps) :
    WS st a b (ps ++ [pstep a b p j]) (cm ++ [i]) (bl ++ [j]) (rs ++ [cur ++ [(ps.length : Int)]]) i (j + 1) := by
  subst hi hj
  refine ⟨fun fin => (h.part fin).fresh hp (pairAuto_some hok) hlet hm, by simp [h.lens.1, h.lens.2], fun q hq => ?_, fun e => ?_⟩
  · rcases List.mem_append.1 hq with hq | hq
    · exact h.rng q hq
    · rw [List.mem_singleton] at hq; subst hq; exact ⟨⟨ha.step_range _ _, hb.step_range _ _⟩, hok⟩
  · obtain ⟨ws, hw⟩ := h.walk e
    have hlt := (List.getElem?_eq_some_iff.1 hp).1
    have hwg := List.getElem?_eq_getElem (l := ws) (i := rs.length) (by rw [hw.len]; exact hlt)
    exact ⟨_, hw.fresh ha hb (by omega) (by rw [Int.toNat_natCast]; exact hp) (by rw [Int.toNat_natCast]; exact hwg) hm⟩
theorem WS.row (h : WS st a b ps cm bl rs i j) (hj : a.letters ≤ j) : WS st a b ps cm bl rs (i + 1) 0 := ⟨h.part, h.lens, h.rng, fun e => by
  obtain ⟨ws, hw⟩ := h.walk e
  exact ⟨ws, hw.row hj⟩⟩
end
/-- all pairs are found -/
def WD (st : Bool) (a b : Mach) (ps : List IP) (cm bl : List Int) : Prop :=
  (okP st (a.start, b.start) ∧ ∃ rs, WS st a b ps cm bl rs ps.length 0 ∧ rs.length = ps.length ∧ ∀ row ∈ rs, (row.length : Int) = a.letters) ∨ (¬ okP st (a.start, b.start) ∧ ps = [] ∧ cm = [] ∧ bl = [])
end Go.Proofs.Ytnkpjlhbojjneaa.VC

/- The words of both machines, and of one of both. -/
namespace Go.Proofs.Ytnkpjlhbojjneaa.VC
open Go Go.RowKit

/-- what is asked of two things: both, or one at the least -/
def kf (st x y : Bool) : Bool := if st then x && y else x || y
theorem okP_kf {st : Bool} {p : IP} : okP st p ↔ kf st (decide (0 ≤ p.1)) (decide (0 ≤ p.2)) = true := by
  cases st <;> simp [okP, kf]
theorem kf_none {st : Bool} {a b : Mach} {p : IP} (h : ¬ okP st p) (u : List Int) : kf st (a.acc p.1 u) (b.acc p.2 u) = false := by
  cases st with
  | true =>
    have h : ¬ (0 ≤ p.1 ∧ 0 ≤ p.2) := h
    by_cases h1 : 0 ≤ p.1
    · rw [Mach.acc_neg (m := b) (s := p.2) (by omega)]; simp [kf]
    · rw [Mach.acc_neg (m := a) (s := p.1) (by omega)]; simp [kf]
  | false =>
    have h : ¬ (0 ≤ p.1 ∨ 0 ≤ p.2) := h
    rw [Mach.acc_neg (m := b) (s := p.2) (by omega), Mach.acc_neg (m := a) (s := p.1) (by omega)]; rfl
def finP (st : Bool) (a b : Mach) (p : IP) : Bool := kf st (a.ends p.1) (b.ends p.2)
theorem pair_acc {st : Bool} {a b : Mach} (ha : a.Shaped) (hb : b.Shaped) (hl : a.letters = b.letters) (u : List Int) : ∀ p : IP, (pairAuto st a b (finP st a b)).acc p u = kf st (a.acc p.1 u) (b.acc p.2 u) := by
  induction u with
  | nil => intro p; rfl
  | cons x u ih =>
    intro p
    rw [Auto.acc, Mach.acc_cons, Mach.acc_cons]
    by_cases hx : 0 ≤ x ∧ x < (pairAuto st a b (finP st a b)).letters
    · rw [if_pos hx]
      by_cases hok : okP st (pstep a b p x)
      · rw [pairAuto_some hok]; exact ih _
      · rw [pairAuto_none hok]; exact (kf_none (p := pstep a b p x) hok u).symm
    · rw [if_neg hx]
      have := pstep_out ha hb hl (x := x) hx p
      refine (kf_none (p := pstep a b p x) ?_ u).symm
      rw [this]
      cases st <;> simp [okP, nowhere]
/-- the least machine of both, or of either -/
structure IsJoin (st : Bool) (a b mm : Mach) : Prop where
  canon : mm.Canon
  letters : mm.letters = a.letters
  words : ∀ u, mm.acc mm.start u = kf st (a.acc a.start u) (b.acc b.start u)
theorem IsJoin.unique {st : Bool} {a b x y : Mach} (hx : IsJoin st a b x) (hy : IsJoin st a b y) : x = y :=
  canon_unique hx.canon hy.canon (by rw [hx.letters, hy.letters]) fun u => by rw [hx.words, hy.words]
theorem IsJoin.of {st : Bool} {a b x y mm : Mach} (ha : IsLeast a x) (hb : IsLeast b y) (h : IsJoin st x y mm) : IsJoin st a b mm :=
  ⟨h.canon, by rw [h.letters, ha.letters], fun u => by rw [h.words, ha.words, hb.words]⟩
theorem Made.join {st : Bool} {a b m mm : Mach} {xs : List IP} (h : Made (pairAuto st a b (finP st a b)) (a.start, b.start) m xs) (ha : a.Shaped) (hb : b.Shaped) (hl : a.letters = b.letters) (hm : IsLeast m mm) : IsJoin st a b mm :=
  ⟨hm.canon, by rw [hm.letters, h.letters]; rfl, fun u => by rw [hm.words, h.acc_start, pair_acc ha hb hl]⟩
theorem none_join {st : Bool} {a b mm : Mach} (h : ¬ okP st (a.start, b.start)) (hm : IsLeast (noneM a.letters) mm) : IsJoin st a b mm :=
  ⟨hm.canon, hm.letters, fun u => by rw [hm.words, noneM_acc]; exact (kf_none (p := (a.start, b.start)) h u).symm⟩
theorem noneM_least {l : Int} (h : 0 ≤ l) : IsLeast (noneM l) (noneM l) := ⟨noneM_canon h, rfl, fun _ => rfl⟩
theorem IsJoin.same {a mm : Mach} (h : IsLeast a mm) (st : Bool) : IsJoin st a a mm := ⟨h.canon, h.letters, fun u => by rw [h.words]; cases st <;> simp [kf]⟩
theorem from_rng {st : Bool} {a b : Mach} {f : IP → Bool} (ha : a.Shaped) (hb : b.Shaped) {p : IP} (h : (pairAuto st a b f).From (a.start, b.start) p) : (-1 ≤ p.1 ∧ p.1 < a.next.length) ∧ (-1 ≤ p.2 ∧ p.2 < b.next.length) := by
  induction h with
  | here => exact ⟨ha.start_range, hb.start_range⟩
  | @step y z c _ _ _ e _ =>
    by_cases hok : okP st (pstep a b y c)
    · rw [pairAuto_some hok] at e; injection e with e; subst e
      exact ⟨ha.step_range _ _, hb.step_range _ _⟩
    · rw [pairAuto_none hok] at e; cases e
/-- how many pairs a made machine has -/
theorem Made.pairs {st : Bool} {a b m : Mach} {f : IP → Bool} {xs : List IP} (h : Made (pairAuto st a b f) (a.start, b.start) m xs) (ha : a.Shaped) (hb : b.Shaped) : (m.next.length : Int) ≤ (a.next.length + 1) * (b.next.length + 1) := by
  rw [h.len]
  exact pairs_bound h.part.nodup fun p hp => from_rng ha hb (h.part.from_ p hp)
/-- the rows of a walk -/
theorem WS.entry {st : Bool} {a b : Mach} {ps : List IP} {cm bl : List Int} {rs : List (List Int)} {i j : Int} (h : WS st a b ps cm bl rs i j) {k x : Nat} {row : List Int} {t : Int} {p : IP} (hr : rs[k]? = some row) (ht : row[x]? = some t) (hp : ps[k]? = some p) :
    (∀ y : Nat, ps[y]? = some (pstep a b p x) → t = y) ∧ (pstep a b p x ∉ ps → t = -1) := by
  have hpt := h.part (fun _ => false)
  obtain ⟨X, hX, hcase⟩ := hpt.ent k x t ⟨row, hr, ht⟩
  rw [hp] at hX; injection hX with hX; subst hX
  refine ⟨fun y hy => ?_, fun hn => ?_⟩
  · rcases hcase with ⟨e, _⟩ | ⟨Y, e, h0, hY⟩
    · have hok := (h.rng _ (List.mem_of_getElem? hy)).2
      rw [pairAuto_some hok] at e; cases e
    · have hok := (h.rng _ (List.mem_of_getElem? hy)).2
      rw [pairAuto_some hok] at e; injection e with e; subst e
      obtain ⟨l1, e1⟩ := List.getElem?_eq_some_iff.1 hy
      obtain ⟨l2, e2⟩ := List.getElem?_eq_some_iff.1 hY
      have := (List.getElem_inj hpt.nodup (h₀ := l1) (h₁ := l2)).1 (by rw [e1, e2])
      omega
  · rcases hcase with ⟨_, rfl⟩ | ⟨Y, e, h0, hY⟩
    · rfl
    · exfalso
      by_cases hok : okP st (pstep a b p x)
      · rw [pairAuto_some hok] at e; injection e with e; subst e
        exact hn (List.mem_of_getElem? hY)
      · rw [pairAuto_none hok] at e; cases e
end Go.Proofs.Ytnkpjlhbojjneaa.VC

/- The conditions of functions, printed by wip/tools/gen.py. -/
namespace Go.Proofs.Ytnkpjlhbojjneaa.VC
open Go Go.RowKit

def J25_2 (I21 : Int → Int → Lp) (x22 : Int) (x23 : Int) (w39 : World) (n25 : Nat) : Prop := (I21 (IntKind.i64.wrap (x22 + 1)) (IntKind.i64.wrap (x23 + 1))).1 w39 ∧ (I21 (IntKind.i64.wrap (x22 + 1))
    (IntKind.i64.wrap (x23 + 1))).m w39 < n25

def J25_16 (x31 : Int) (n : Nat) (n3 : Nat) (x9 : Int) (by_ : Int) (w24 : World) (x22 : Int) (I21 : Int → Int → Lp) (x23 : Int) (n25 : Nat) : Prop := condK (decide (x31 ≥ 0)) (IntKind.i64.wrap (2 *
    (↑n : Int)) ≠ 0 ∧ IxV (some (Addr.mk n3 0 none)) (IntKind.i64.wrap (2 * (↑n : Int))).toNat 1 ((IntKind.i64.wrap (x9 + IntKind.i64.wrap by_)).tmod (IntKind.i64.wrap (2 * (↑n : Int)))) fun (a46 : Addr)
    => ∃ (A47 : Option Addr), ∃ (n48 : Nat), ∃ (n49 : Nat), w24.cell? a46 = some (Value.slice A47 n48 n49) ∧ IxV A47 n48 1 x22 fun (a50 : Addr) => SetK w24 a50 (Value.int IntKind.i64 ((IntKind.i64.wrap
    (x31 + IntKind.i64.wrap by_)).tmod (IntKind.i64.wrap (2 * (↑n : Int))))) fun (w51 : World) => J25_2 I21 x22 x23 w51 n25) (IxV (some (Addr.mk n3 0 none)) (IntKind.i64.wrap (2 * (↑n : Int))).toNat 1
    ((IntKind.i64.wrap (x9 + IntKind.i64.wrap by_)).tmod (IntKind.i64.wrap (2 * (↑n : Int)))) fun (a52 : Addr) => ∃ (A53 : Option Addr), ∃ (n54 : Nat), ∃ (n55 : Nat), w24.cell? a52 = some (Value.slice A53
    n54 n55) ∧ IxV A53 n54 1 x22 fun (a56 : Addr) => SetK w24 a56 (Value.int IntKind.i64 x31) fun (w57 : World) => J25_2 I21 x22 x23 w57 n25)

def J25_34 (n : Nat) (R : Value → List (List Value) → World → Prop) (l : Int) (w6 : World) (n3 : Nat) (by_ : Int) (B : Option Addr) (m : Nat) (n5 : Nat) (A : Option Addr) (k0 : Nat) (K : Option Addr)
    (s : Int) : Prop := condK ((↑n : Int) == 0) (R (Value.agg (Array.mk [Value.int IntKind.i64 l, Value.int IntKind.i64 (-1), Value.slice none 0 0, Value.slice none 0 0])) [] w6) (∃ (I8 : Int → Int → Lp),
    (I8 0 0).1 w6 ∧ ∀ (x9 x10 : Int) (w11 : World), (I8 x9 x10).1 w11 → ∀ (n12 : Nat), (I8 x9 x10).m w11 = n12 → condK (decide (x9 < IntKind.i64.wrap (2 * (↑n : Int)))) (IntKind.i64.wrap (2 * (↑n : Int))
    ≠ 0 ∧ l = l ∧ 0 ≤ l ∧ l * (↑8 : Int) ≤ 281474976710656 ∧ l ≤ 9223372036854775807 ∧ NewK w11 (Obj.cells (Array.mk (List.replicate l.toNat (Value.int IntKind.i64 0))) 3) fun (n13 : Nat) (w14 : World) =>
    IxV (some (Addr.mk n3 0 none)) (IntKind.i64.wrap (2 * (↑n : Int))).toNat 1 ((IntKind.i64.wrap (x9 + IntKind.i64.wrap by_)).tmod (IntKind.i64.wrap (2 * (↑n : Int)))) fun (a15 : Addr) => SetK w14 a15
    (Value.slice (some (Addr.mk n13 0 none)) l.toNat l.toNat) fun (w16 : World) => (↑n : Int) ≠ 0 ∧ IxV B m 1 (x9.tmod (↑n : Int)) fun (a17 : Addr) => ∃ (t18 : Bool), w16.cell? a17 = some (Value.bool t18)
    ∧ IxV (some (Addr.mk n5 0 none)) (IntKind.i64.wrap (2 * (↑n : Int))).toNat 1 ((IntKind.i64.wrap (x9 + IntKind.i64.wrap by_)).tmod (IntKind.i64.wrap (2 * (↑n : Int)))) fun (a19 : Addr) => SetK w16 a19
    (Value.bool t18) fun (w20 : World) => ∃ (I21 : Int → Int → Lp), (I21 0 x10).1 w20 ∧ ∀ (x22 x23 : Int) (w24 : World), (I21 x22 x23).1 w24 → ∀ (n25 : Nat), (I21 x22 x23).m w24 = n25 → condK (decide (x22
    < l)) ((↑n : Int) ≠ 0 ∧ IxV A n 1 (x9.tmod (↑n : Int)) fun (a26 : Addr) => ∃ (A27 : Option Addr), ∃ (n28 : Nat), ∃ (n29 : Nat), w24.cell? a26 = some (Value.slice A27 n28 n29) ∧ IxV A27 n28 1 x22 fun
    (a30 : Addr) => ∃ (x31 : Int), w24.cell? a30 = some (Value.int IntKind.i64 x31) ∧ condK (decide (x31 ≥ 0)) (condK (decide (x23 < (↑k0 : Int))) (IxV K k0 1 x23 fun (a32 : Addr) => ∃ (t33 : Bool),
    w24.cell? a32 = some (Value.bool t33) ∧ condK t33 (condK (decide (IntKind.i64.wrap (x31 + (↑n : Int)) ≥ 0)) (IntKind.i64.wrap (2 * (↑n : Int)) ≠ 0 ∧ IxV (some (Addr.mk n3 0 none)) (IntKind.i64.wrap (2
    * (↑n : Int))).toNat 1 ((IntKind.i64.wrap (x9 + IntKind.i64.wrap by_)).tmod (IntKind.i64.wrap (2 * (↑n : Int)))) fun (a34 : Addr) => ∃ (A35 : Option Addr), ∃ (n36 : Nat), ∃ (n37 : Nat), w24.cell? a34
    = some (Value.slice A35 n36 n37) ∧ IxV A35 n36 1 x22 fun (a38 : Addr) => SetK w24 a38 (Value.int IntKind.i64 ((IntKind.i64.wrap (IntKind.i64.wrap (x31 + (↑n : Int)) + IntKind.i64.wrap by_)).tmod
    (IntKind.i64.wrap (2 * (↑n : Int))))) fun (w39 : World) => J25_2 I21 x22 x23 w39 n25) (IxV (some (Addr.mk n3 0 none)) (IntKind.i64.wrap (2 * (↑n : Int))).toNat 1 ((IntKind.i64.wrap (x9 +
    IntKind.i64.wrap by_)).tmod (IntKind.i64.wrap (2 * (↑n : Int)))) fun (a40 : Addr) => ∃ (A41 : Option Addr), ∃ (n42 : Nat), ∃ (n43 : Nat), w24.cell? a40 = some (Value.slice A41 n42 n43) ∧ IxV A41 n42 1
    x22 fun (a44 : Addr) => SetK w24 a44 (Value.int IntKind.i64 (IntKind.i64.wrap (x31 + (↑n : Int)))) fun (w45 : World) => J25_2 I21 x22 x23 w45 n25)) (J25_16 x31 n n3 x9 by_ w24 x22 I21 x23 n25))
    (J25_16 x31 n n3 x9 by_ w24 x22 I21 x23 n25)) (J25_16 x31 n n3 x9 by_ w24 x22 I21 x23 n25)) ((I8 (IntKind.i64.wrap (x9 + 1)) x23).1 w24 ∧ (I8 (IntKind.i64.wrap (x9 + 1)) x23).m w24 < n12))
    (IntKind.i64.wrap (2 * (↑n : Int)) ≠ 0 ∧ R (Value.agg (Array.mk [Value.int IntKind.i64 l, Value.int IntKind.i64 ((IntKind.i64.wrap (s + IntKind.i64.wrap by_)).tmod (IntKind.i64.wrap (2 * (↑n :
    Int)))), Value.slice (some (Addr.mk n3 0 none)) (IntKind.i64.wrap (2 * (↑n : Int))).toNat (IntKind.i64.wrap (2 * (↑n : Int))).toNat, Value.slice (some (Addr.mk n5 0 none)) (IntKind.i64.wrap (2 * (↑n :
    Int))).toNat (IntKind.i64.wrap (2 * (↑n : Int))).toNat])) [] w11))

set_option maxRecDepth 100000 in
theorem s25 (l s : Int) (A : Option Addr) (n c : Nat) (B : Option Addr) (m d : Nat) (by_ : Int) (K : Option Addr) (k0 k1 : Nat) (w : World) (R : Value → List (List Value) → World → Prop) (h :
    ∀ (_n1 _n2 : Nat), (IntKind.i64.wrap (2 * (↑n : Int)) = IntKind.i64.wrap (2 * (↑n : Int)) ∧ 0 ≤ IntKind.i64.wrap (2 * (↑n : Int)) ∧ IntKind.i64.wrap (2 * (↑n : Int)) * (↑24 : Int) ≤ 281474976710656 ∧
        IntKind.i64.wrap (2 * (↑n : Int)) ≤ 9223372036854775807 ∧ NewK w (Obj.cells (Array.mk (List.replicate (IntKind.i64.wrap (2 * (↑n : Int))).toNat (Value.slice none 0 0))) 26) fun (n3 : Nat) (w4 : World)
        => (IntKind.i64.wrap (2 * (↑n : Int)) = IntKind.i64.wrap (2 * (↑n : Int)) ∧ 0 ≤ IntKind.i64.wrap (2 * (↑n : Int)) ∧ IntKind.i64.wrap (2 * (↑n : Int)) * (↑1 : Int) ≤ 281474976710656 ∧ IntKind.i64.wrap
        (2 * (↑n : Int)) ≤ 9223372036854775807 ∧ NewK w4 (Obj.cells (Array.mk (List.replicate (IntKind.i64.wrap (2 * (↑n : Int))).toNat (Value.bool false))) 4) fun (n5 : Nat) (w6 : World) => Nat → J25_34 n R
        l w6 n3 by_ B m n5 A k0 K s) ∧ ∀ (_n82 : Nat), IntKind.i64.wrap (2 * (↑n : Int)) = IntKind.i64.wrap (2 * (↑n : Int)) ∧ 0 ≤ IntKind.i64.wrap (2 * (↑n : Int)) ∧ IntKind.i64.wrap (2 * (↑n : Int)) * (↑1 :
        Int) ≤ 281474976710656 ∧ IntKind.i64.wrap (2 * (↑n : Int)) ≤ 9223372036854775807 ∧ NewK w4 (Obj.cells (Array.mk (List.replicate (IntKind.i64.wrap (2 * (↑n : Int))).toNat (Value.bool false))) 4) fun
        (n83 : Nat) (w84 : World) => J25_34 n R l w84 n3 by_ B m n83 A k0 K s) ∧ (IntKind.i64.wrap (2 * (↑n : Int)) = IntKind.i64.wrap (2 * (↑n : Int)) ∧ 0 ≤ IntKind.i64.wrap (2 * (↑n : Int)) ∧
        IntKind.i64.wrap (2 * (↑n : Int)) * (↑1 : Int) ≤ 281474976710656 ∧ IntKind.i64.wrap (2 * (↑n : Int)) ≤ 9223372036854775807 ∧ NewK w (Obj.cells (Array.mk (List.replicate (IntKind.i64.wrap (2 * (↑n :
        Int))).toNat (Value.bool false))) 4) fun (n85 : Nat) (w86 : World) => (IntKind.i64.wrap (2 * (↑n : Int)) = IntKind.i64.wrap (2 * (↑n : Int)) ∧ 0 ≤ IntKind.i64.wrap (2 * (↑n : Int)) ∧ IntKind.i64.wrap
        (2 * (↑n : Int)) * (↑24 : Int) ≤ 281474976710656 ∧ IntKind.i64.wrap (2 * (↑n : Int)) ≤ 9223372036854775807 ∧ NewK w86 (Obj.cells (Array.mk (List.replicate (IntKind.i64.wrap (2 * (↑n : Int))).toNat
        (Value.slice none 0 0))) 26) fun (n87 : Nat) (w88 : World) => Nat → J25_34 n R l w88 n87 by_ B m n85 A k0 K s) ∧ ∀ (_n90 : Nat), IntKind.i64.wrap (2 * (↑n : Int)) = IntKind.i64.wrap (2 * (↑n : Int)) ∧
        0 ≤ IntKind.i64.wrap (2 * (↑n : Int)) ∧ IntKind.i64.wrap (2 * (↑n : Int)) * (↑24 : Int) ≤ 281474976710656 ∧ IntKind.i64.wrap (2 * (↑n : Int)) ≤ 9223372036854775807 ∧ NewK w86 (Obj.cells (Array.mk
        (List.replicate (IntKind.i64.wrap (2 * (↑n : Int))).toNat (Value.slice none 0 0))) 26) fun (n91 : Nat) (w92 : World) => J25_34 n R l w92 n91 by_ B m n85 A k0 K s) ∧ ∀ (_n93 : Nat), (IntKind.i64.wrap
        (2 * (↑n : Int)) = IntKind.i64.wrap (2 * (↑n : Int)) ∧ 0 ≤ IntKind.i64.wrap (2 * (↑n : Int)) ∧ IntKind.i64.wrap (2 * (↑n : Int)) * (↑24 : Int) ≤ 281474976710656 ∧ IntKind.i64.wrap (2 * (↑n : Int)) ≤
        9223372036854775807 ∧ NewK w (Obj.cells (Array.mk (List.replicate (IntKind.i64.wrap (2 * (↑n : Int))).toNat (Value.slice none 0 0))) 26) fun (n94 : Nat) (w95 : World) => IntKind.i64.wrap (2 * (↑n :
        Int)) = IntKind.i64.wrap (2 * (↑n : Int)) ∧ 0 ≤ IntKind.i64.wrap (2 * (↑n : Int)) ∧ IntKind.i64.wrap (2 * (↑n : Int)) * (↑1 : Int) ≤ 281474976710656 ∧ IntKind.i64.wrap (2 * (↑n : Int)) ≤
        9223372036854775807 ∧ NewK w95 (Obj.cells (Array.mk (List.replicate (IntKind.i64.wrap (2 * (↑n : Int))).toNat (Value.bool false))) 4) fun (n96 : Nat) (w97 : World) => J25_34 n R l w97 n94 by_ B m n96
        A k0 K s) ∧ IntKind.i64.wrap (2 * (↑n : Int)) = IntKind.i64.wrap (2 * (↑n : Int)) ∧ 0 ≤ IntKind.i64.wrap (2 * (↑n : Int)) ∧ IntKind.i64.wrap (2 * (↑n : Int)) * (↑1 : Int) ≤ 281474976710656 ∧
        IntKind.i64.wrap (2 * (↑n : Int)) ≤ 9223372036854775807 ∧ NewK w (Obj.cells (Array.mk (List.replicate (IntKind.i64.wrap (2 * (↑n : Int))).toNat (Value.bool false))) 4) fun (n98 : Nat) (w99 : World) =>
        IntKind.i64.wrap (2 * (↑n : Int)) = IntKind.i64.wrap (2 * (↑n : Int)) ∧ 0 ≤ IntKind.i64.wrap (2 * (↑n : Int)) ∧ IntKind.i64.wrap (2 * (↑n : Int)) * (↑24 : Int) ≤ 281474976710656 ∧ IntKind.i64.wrap (2
        * (↑n : Int)) ≤ 9223372036854775807 ∧ NewK w99 (Obj.cells (Array.mk (List.replicate (IntKind.i64.wrap (2 * (↑n : Int))).toNat (Value.slice none 0 0))) 26) fun (n100 : Nat) (w101 : World) => J25_34 n R
        l w101 n100 by_ B m n98 A k0 K s) :
    CallsI Try.prog 25 [(.agg #[.int .i64 l, .int .i64 s, .slice A n c, .slice B m d]), (.int .u8 by_), (.slice K k0 k1)] w [] R :=
  vcFun_sound (H := ⟨[], [(0, [(10, .int .i64), (9, .int .i64)], []), (2, [(12, .int .i64), (9, .int .i64)], [])]⟩) (args := [.v (.agg #[.int .i64 l, .int .i64 s, .slice A n c, .slice B m d]), .v (.int .u8 by_), .v (.slice K k0 k1)]) (L := []) goodP Try.func25 (by simp [okp]) (by rw [Try.ntmps25]; simp) (by simp [okp]) (Eq.mp (by kernel_rfl) h)

def J5_1 (w4 : World) (R : Value → List (List Value) → World → Prop) : Prop := CallsI Try.prog 15 [] w4 [] fun (v6 : Value) (l7 : List (List Value)) (w8 : World) => ∃ (t9 : Bool), v6 = Value.bool t9 ∧
    l7 = [] ∧ R (Value.bool t9) [] w8

set_option maxRecDepth 100000 in
theorem s5 (l s : Int) (A : Option Addr) (n c : Nat) (B : Option Addr) (m d : Nat) (by_ : Int) (K : Option Addr) (k0 k1 : Nat) (w : World) (R : Value → List (List Value) → World → Prop) (h :
    ∀ (_n1 : Nat), CallsI Try.prog 21 [Value.agg (Array.mk [Value.int IntKind.i64 l, Value.int IntKind.i64 s, Value.slice A n c, Value.slice B m d])] w [] fun (v2 : Value) (l3 : List (List Value)) (w4 :
        World) => ∃ (t5 : Bool), v2 = Value.bool t5 ∧ l3 = [] ∧ condK (!t5) (J5_1 w4 R) (CallsI Try.prog 16 [Value.agg (Array.mk [Value.int IntKind.i64 l, Value.int IntKind.i64 s, Value.slice A n c,
        Value.slice B m d])] w4 [] fun (v10 : Value) (l11 : List (List Value)) (w12 : World) => ∃ (x13 : Int), v10 = Value.int IntKind.i64 x13 ∧ l11 = [] ∧ condK (x13 != 0) (J5_1 w12 R) (CallsI Try.prog 25
        [Value.agg (Array.mk [Value.int IntKind.i64 l, Value.int IntKind.i64 s, Value.slice A n c, Value.slice B m d]), Value.int IntKind.u8 by_, Value.slice K k0 k1] w12 [] fun (v18 : Value) (l19 : List
        (List Value)) (w20 : World) => ∃ (x21 : Int), ∃ (x22 : Int), ∃ (A23 : Option Addr), ∃ (n24 : Nat), ∃ (n25 : Nat), ∃ (A26 : Option Addr), ∃ (n27 : Nat), ∃ (n28 : Nat), v18 = Value.agg (Array.mk
        [Value.int IntKind.i64 x21, Value.int IntKind.i64 x22, Value.slice A23 n24 n25, Value.slice A26 n27 n28]) ∧ l19 = [] ∧ ∀ (_n29 : Nat), CallsI Try.prog 19 [Value.agg (Array.mk [Value.int IntKind.i64 l,
        Value.int IntKind.i64 s, Value.slice A n c, Value.slice B m d])] w20 [] fun (v30 : Value) (l31 : List (List Value)) (w32 : World) => ∃ (x33 : Int), ∃ (x34 : Int), ∃ (A35 : Option Addr), ∃ (n36 : Nat),
        ∃ (n37 : Nat), ∃ (A38 : Option Addr), ∃ (n39 : Nat), ∃ (n40 : Nat), v30 = Value.agg (Array.mk [Value.int IntKind.i64 x33, Value.int IntKind.i64 x34, Value.slice A35 n36 n37, Value.slice A38 n39 n40])
        ∧ l31 = [] ∧ CallsI Try.prog 23 [Value.agg (Array.mk [Value.int IntKind.i64 x33, Value.int IntKind.i64 x34, Value.slice A35 n36 n37, Value.slice A38 n39 n40])] w32 [] fun (v41 : Value) (l42 : List
        (List Value)) (w43 : World) => ∃ (x44 : Int), ∃ (x45 : Int), ∃ (A46 : Option Addr), ∃ (n47 : Nat), ∃ (n48 : Nat), ∃ (A49 : Option Addr), ∃ (n50 : Nat), ∃ (n51 : Nat), ∃ (x52 : Int), v41 = Value.tuple
        (Array.mk [Value.agg (Array.mk [Value.int IntKind.i64 x44, Value.int IntKind.i64 x45, Value.slice A46 n47 n48, Value.slice A49 n50 n51]), Value.int IntKind.i64 x52]) ∧ l42 = [] ∧ ∀ (_n53 : Nat),
        CallsI Try.prog 23 [Value.agg (Array.mk [Value.int IntKind.i64 x21, Value.int IntKind.i64 x22, Value.slice A23 n24 n25, Value.slice A26 n27 n28])] w43 [] fun (v54 : Value) (l55 : List (List Value))
        (w56 : World) => ∃ (x57 : Int), ∃ (x58 : Int), ∃ (A59 : Option Addr), ∃ (n60 : Nat), ∃ (n61 : Nat), ∃ (A62 : Option Addr), ∃ (n63 : Nat), ∃ (n64 : Nat), ∃ (x65 : Int), v54 = Value.tuple (Array.mk
        [Value.agg (Array.mk [Value.int IntKind.i64 x57, Value.int IntKind.i64 x58, Value.slice A59 n60 n61, Value.slice A62 n63 n64]), Value.int IntKind.i64 x65]) ∧ l55 = [] ∧ ∀ (_n66 : Nat), CallsI Try.prog
        19 [Value.agg (Array.mk [Value.int IntKind.i64 x44, Value.int IntKind.i64 x45, Value.slice A46 n47 n48, Value.slice A49 n50 n51])] w56 [] fun (v67 : Value) (l68 : List (List Value)) (w69 : World) => ∃
        (x70 : Int), ∃ (x71 : Int), ∃ (A72 : Option Addr), ∃ (n73 : Nat), ∃ (n74 : Nat), ∃ (A75 : Option Addr), ∃ (n76 : Nat), ∃ (n77 : Nat), v67 = Value.agg (Array.mk [Value.int IntKind.i64 x70, Value.int
        IntKind.i64 x71, Value.slice A72 n73 n74, Value.slice A75 n76 n77]) ∧ l68 = [] ∧ CallsI Try.prog 23 [Value.agg (Array.mk [Value.int IntKind.i64 x70, Value.int IntKind.i64 x71, Value.slice A72 n73 n74,
        Value.slice A75 n76 n77])] w69 [] fun (v78 : Value) (l79 : List (List Value)) (w80 : World) => ∃ (x81 : Int), ∃ (x82 : Int), ∃ (A83 : Option Addr), ∃ (n84 : Nat), ∃ (n85 : Nat), ∃ (A86 : Option Addr),
        ∃ (n87 : Nat), ∃ (n88 : Nat), ∃ (x89 : Int), v78 = Value.tuple (Array.mk [Value.agg (Array.mk [Value.int IntKind.i64 x81, Value.int IntKind.i64 x82, Value.slice A83 n84 n85, Value.slice A86 n87 n88]),
        Value.int IntKind.i64 x89]) ∧ l79 = [] ∧ ∀ (_n90 : Nat), CallsI Try.prog 26 [Value.agg (Array.mk [Value.int IntKind.i64 l, Value.int IntKind.i64 s, Value.slice A n c, Value.slice B m d]), Value.agg
        (Array.mk [Value.int IntKind.i64 x21, Value.int IntKind.i64 x22, Value.slice A23 n24 n25, Value.slice A26 n27 n28])] w80 [] fun (v91 : Value) (l92 : List (List Value)) (w93 : World) => ∃ (A94 : Option
        Addr), ∃ (n95 : Nat), ∃ (n96 : Nat), ∃ (t97 : Bool), ∃ (x98 : Int), v91 = Value.tuple (Array.mk [Value.slice A94 n95 n96, Value.bool t97, Value.int IntKind.i64 x98]) ∧ l92 = [] ∧ CallsI Try.prog 27
        [Value.agg (Array.mk [Value.int IntKind.i64 l, Value.int IntKind.i64 s, Value.slice A n c, Value.slice B m d]), Value.agg (Array.mk [Value.int IntKind.i64 x21, Value.int IntKind.i64 x22, Value.slice
        A23 n24 n25, Value.slice A26 n27 n28])] w93 [] fun (v99 : Value) (l100 : List (List Value)) (w101 : World) => ∃ (A102 : Option Addr), ∃ (n103 : Nat), ∃ (n104 : Nat), ∃ (x105 : Int), v99 = Value.tuple
        (Array.mk [Value.slice A102 n103 n104, Value.int IntKind.i64 x105]) ∧ l100 = [] ∧ condK (x52 != 0) (R (Value.bool false) [] w101) (condK (x65 != 0) (R (Value.bool false) [] w101) (condK (x89 != 0) (R
        (Value.bool false) [] w101) (condK (x98 != 7) (R (Value.bool false) [] w101) (condK (x105 != 0) (R (Value.bool false) [] w101) (CallsI Try.prog 24 [Value.agg (Array.mk [Value.int IntKind.i64 x44,
        Value.int IntKind.i64 x45, Value.slice A46 n47 n48, Value.slice A49 n50 n51]), Value.agg (Array.mk [Value.int IntKind.i64 x57, Value.int IntKind.i64 x58, Value.slice A59 n60 n61, Value.slice A62 n63
        n64])] w101 [] fun (v106 : Value) (l107 : List (List Value)) (w108 : World) => ∃ (t109 : Bool), v106 = Value.bool t109 ∧ l107 = [] ∧ condK t109 (CallsI Try.prog 24 [Value.agg (Array.mk [Value.int
        IntKind.i64 x44, Value.int IntKind.i64 x45, Value.slice A46 n47 n48, Value.slice A49 n50 n51]), Value.agg (Array.mk [Value.int IntKind.i64 x81, Value.int IntKind.i64 x82, Value.slice A83 n84 n85,
        Value.slice A86 n87 n88])] w108 [] fun (v110 : Value) (l111 : List (List Value)) (w112 : World) => ∃ (t113 : Bool), v110 = Value.bool t113 ∧ l111 = [] ∧ condK t113 (condK (decide ((↑n47 : Int) ≤ (↑n :
        Int))) (CallsI Try.prog 28 [Value.agg (Array.mk [Value.int IntKind.i64 l, Value.int IntKind.i64 s, Value.slice A n c, Value.slice B m d]), Value.agg (Array.mk [Value.int IntKind.i64 x21, Value.int
        IntKind.i64 x22, Value.slice A23 n24 n25, Value.slice A26 n27 n28]), Value.slice A102 n103 n104] w112 [] fun (v114 : Value) (l115 : List (List Value)) (w116 : World) => ∃ (x117 : Int), v114 =
        Value.int IntKind.i64 x117 ∧ l115 = [] ∧ condK (x117 == 0) (J5_1 w116 R) (R (Value.bool false) [] w116)) (R (Value.bool false) [] w112)) (R (Value.bool false) [] w112)) (R (Value.bool false) []
        w108))))))))) :
    CallsI Try.prog 5 [(.agg #[.int .i64 l, .int .i64 s, .slice A n c, .slice B m d]), (.int .u8 by_), (.slice K k0 k1)] w [] R :=
  vcFun_sound (H := ⟨[], []⟩) (args := [.v (.agg #[.int .i64 l, .int .i64 s, .slice A n c, .slice B m d]), .v (.int .u8 by_), .v (.slice K k0 k1)]) (L := []) goodP Try.func5 (by simp [okp]) (by rw [Try.ntmps5]; simp) (by simp [okp]) (Eq.mp (by kernel_rfl) h)

end Go.Proofs.Ytnkpjlhbojjneaa.VC

/- The conditions of functions, printed by wip/tools/gen.py. -/
namespace Go.Proofs.Ytnkpjlhbojjneaa.VC
open Go Go.RowKit

set_option maxRecDepth 100000 in
theorem s67 (x y : Bool) (w : World) (R : Value → List (List Value) → World → Prop) (h :
    condK x (R (Value.bool true) [] w) (R (Value.bool y) [] w)) :
    CallsI Try.prog 67 [(.bool x), (.bool y)] w [] R :=
  vcFun_sound (H := ⟨[], []⟩) (args := [.v (.bool x), .v (.bool y)]) (L := []) goodP Try.func67 (by simp [okp]) (by rw [Try.ntmps67]; simp) (by simp [okp]) (Eq.mp (by kernel_rfl) h)

set_option maxRecDepth 100000 in
theorem s69 (x y : Bool) (w : World) (R : Value → List (List Value) → World → Prop) (h :
    condK x (R (Value.bool y) [] w) (R (Value.bool false) [] w)) :
    CallsI Try.prog 69 [(.bool x), (.bool y)] w [] R :=
  vcFun_sound (H := ⟨[], []⟩) (args := [.v (.bool x), .v (.bool y)]) (L := []) goodP Try.func69 (by simp [okp]) (by rw [Try.ntmps69]; simp) (by simp [okp]) (Eq.mp (by kernel_rfl) h)

def J97_3 (g : Nat) (x6 : Int) (x10 : Int) (w9 : World) (R : Value → List (List Value) → World → Prop) (l : Int) (s : Int) (A : Option Addr) (n : Nat) (c : Nat) (B : Option Addr) (m : Nat) (d : Nat)
    (lb : Int) (sb : Int) (Ab : Option Addr) (nb : Nat) (cb : Nat) (Bb : Option Addr) (mb : Nat) (db : Nat) : Prop := CallsI Try.prog g [Value.bool (decide (x6 ≥ 0)), Value.bool (decide (x10 ≥ 0))] w9 []
    fun (v12 : Value) (l13 : List (List Value)) (w14 : World) => ∃ (t15 : Bool), v12 = Value.bool t15 ∧ l13 = [] ∧ R (Value.tuple (Array.mk [Value.agg (Array.mk [Value.int IntKind.i64 x6, Value.int
    IntKind.i64 x10]), Value.bool t15])) [[Value.int IntKind.i64 l, Value.int IntKind.i64 s, Value.slice A n c, Value.slice B m d], [Value.int IntKind.i64 lb, Value.int IntKind.i64 sb, Value.slice Ab nb
    cb, Value.slice Bb mb db], [Value.func (Fn.func g) (Array.mk []) (Array.mk [])]] w14

def J97_7 (lb : Int) (sb : Int) (Ab : Option Addr) (nb : Nat) (cb : Nat) (Bb : Option Addr) (mb : Nat) (db : Nat) (q : Int) (x : Int) (w5 : World) (g : Nat) (x6 : Int) (R : Value → List (List Value) →
    World → Prop) (l : Int) (s : Int) (A : Option Addr) (n : Nat) (c : Nat) (B : Option Addr) (m : Nat) (d : Nat) : Prop := CallsI Try.prog 58 [Value.agg (Array.mk [Value.int IntKind.i64 lb, Value.int
    IntKind.i64 sb, Value.slice Ab nb cb, Value.slice Bb mb db]), Value.int IntKind.i64 q, Value.int IntKind.i64 x] w5 [] fun (v17 : Value) (l18 : List (List Value)) (w19 : World) => ∃ (x20 : Int), v17 =
    Value.int IntKind.i64 x20 ∧ l18 = [] ∧ J97_3 g x6 x20 w19 R l s A n c B m d lb sb Ab nb cb Bb mb db

set_option maxRecDepth 100000 in
theorem s97 (ba bb bk : Nat) (l s : Int) (A : Option Addr) (n c : Nat) (B : Option Addr) (m d : Nat) (lb sb : Int) (Ab : Option Addr) (nb cb : Nat) (Bb : Option Addr) (mb db : Nat) (g : Nat) (p q x : Int) (w : World) (R : Value → List (List Value) → World → Prop) (h :
    ∀ (_n1 _n2 : Nat), (CallsI Try.prog 58 [Value.agg (Array.mk [Value.int IntKind.i64 l, Value.int IntKind.i64 s, Value.slice A n c, Value.slice B m d]), Value.int IntKind.i64 p, Value.int IntKind.i64 x]
        w [] fun (v3 : Value) (l4 : List (List Value)) (w5 : World) => ∃ (x6 : Int), v3 = Value.int IntKind.i64 x6 ∧ l4 = [] ∧ (CallsI Try.prog 58 [Value.agg (Array.mk [Value.int IntKind.i64 lb, Value.int
        IntKind.i64 sb, Value.slice Ab nb cb, Value.slice Bb mb db]), Value.int IntKind.i64 q, Value.int IntKind.i64 x] w5 [] fun (v7 : Value) (l8 : List (List Value)) (w9 : World) => ∃ (x10 : Int), v7 =
        Value.int IntKind.i64 x10 ∧ l8 = [] ∧ (Nat → J97_3 g x6 x10 w9 R l s A n c B m d lb sb Ab nb cb Bb mb db)) ∧ (Nat → J97_7 lb sb Ab nb cb Bb mb db q x w5 g x6 R l s A n c B m d)) ∧ ∀ (_n21 : Nat),
        CallsI Try.prog 58 [Value.agg (Array.mk [Value.int IntKind.i64 l, Value.int IntKind.i64 s, Value.slice A n c, Value.slice B m d]), Value.int IntKind.i64 p, Value.int IntKind.i64 x] w [] fun (v22 :
        Value) (l23 : List (List Value)) (w24 : World) => ∃ (x25 : Int), v22 = Value.int IntKind.i64 x25 ∧ l23 = [] ∧ J97_7 lb sb Ab nb cb Bb mb db q x w24 g x25 R l s A n c B m d) :
    CallsI Try.prog 97 [(.agg #[.int .i64 p, .int .i64 q]), (.int .i64 x), .pointer (some ⟨ba, 0, none⟩), .pointer (some ⟨bb, 0, none⟩), .pointer (some ⟨bk, 0, none⟩)] w [(ba, 25, [.int .i64 l, .int .i64 s, .slice A n c, .slice B m d]), (bb, 25, [.int .i64 lb, .int .i64 sb, .slice Ab nb cb, .slice Bb mb db]), (bk, 83, [.func (.func g) #[] #[]])] R :=
  vcFun_sound (H := ⟨[], []⟩) (args := [.v (.agg #[.int .i64 p, .int .i64 q]), .v (.int .i64 x), .p 0 ba 0, .p 1 bb 0, .p 2 bk 0]) (L := [⟨ba, 25, [.v (.int .i64 l), .v (.int .i64 s), .v (.slice A n c), .v (.slice B m d)]⟩, ⟨bb, 25, [.v (.int .i64 lb), .v (.int .i64 sb), .v (.slice Ab nb cb), .v (.slice Bb mb db)]⟩, ⟨bk, 83, [.v (.func (.func g) #[] #[])]⟩]) goodP Try.func97 (by simp [okp]) (by rw [Try.ntmps97]; simp) (by simp [okp]) (Eq.mp (by kernel_rfl) h)

set_option maxRecDepth 100000 in
theorem s98 (bx ba bb : Nat) (l s : Int) (A : Option Addr) (n c : Nat) (B : Option Addr) (m d : Nat) (lb sb : Int) (Ab : Option Addr) (nb cb : Nat) (Bb : Option Addr) (mb db : Nat) (gx : Nat) (p q : Int) (w : World) (R : Value → List (List Value) → World → Prop) (h :
    ∀ (_n1 : Nat), CallsI Try.prog 52 [Value.agg (Array.mk [Value.int IntKind.i64 l, Value.int IntKind.i64 s, Value.slice A n c, Value.slice B m d]), Value.int IntKind.i64 p] w [] fun (v2 : Value) (l3 :
        List (List Value)) (w4 : World) => ∃ (t5 : Bool), v2 = Value.bool t5 ∧ l3 = [] ∧ CallsI Try.prog 52 [Value.agg (Array.mk [Value.int IntKind.i64 lb, Value.int IntKind.i64 sb, Value.slice Ab nb cb,
        Value.slice Bb mb db]), Value.int IntKind.i64 q] w4 [] fun (v6 : Value) (l7 : List (List Value)) (w8 : World) => ∃ (t9 : Bool), v6 = Value.bool t9 ∧ l7 = [] ∧ CallsI Try.prog gx [Value.bool t5,
        Value.bool t9] w8 [] fun (v10 : Value) (l11 : List (List Value)) (w12 : World) => ∃ (t13 : Bool), v10 = Value.bool t13 ∧ l11 = [] ∧ R (Value.bool t13) [[Value.func (Fn.func gx) (Array.mk []) (Array.mk
        [])], [Value.int IntKind.i64 l, Value.int IntKind.i64 s, Value.slice A n c, Value.slice B m d], [Value.int IntKind.i64 lb, Value.int IntKind.i64 sb, Value.slice Ab nb cb, Value.slice Bb mb db]] w12) :
    CallsI Try.prog 98 [(.agg #[.int .i64 p, .int .i64 q]), .pointer (some ⟨bx, 0, none⟩), .pointer (some ⟨ba, 0, none⟩), .pointer (some ⟨bb, 0, none⟩)] w [(bx, 83, [.func (.func gx) #[] #[]]), (ba, 25, [.int .i64 l, .int .i64 s, .slice A n c, .slice B m d]), (bb, 25, [.int .i64 lb, .int .i64 sb, .slice Ab nb cb, .slice Bb mb db])] R :=
  vcFun_sound (H := ⟨[], []⟩) (args := [.v (.agg #[.int .i64 p, .int .i64 q]), .p 0 bx 0, .p 1 ba 0, .p 2 bb 0]) (L := [⟨bx, 83, [.v (.func (.func gx) #[] #[])]⟩, ⟨ba, 25, [.v (.int .i64 l), .v (.int .i64 s), .v (.slice A n c), .v (.slice B m d)]⟩, ⟨bb, 25, [.v (.int .i64 lb), .v (.int .i64 sb), .v (.slice Ab nb cb), .v (.slice Bb mb db)]⟩]) goodP Try.func98 (by simp [okp]) (by rw [Try.ntmps98]; simp) (by simp [okp]) (Eq.mp (by kernel_rfl) h)

set_option maxRecDepth 100000 in
theorem s34 (l s : Int) (A : Option Addr) (n c : Nat) (B : Option Addr) (m d : Nat) (lb sb : Int) (Ab : Option Addr) (nb cb : Nat) (Bb : Option Addr) (mb db : Nat) (w : World) (R : Value → List (List Value) → World → Prop) (h :
    ∀ (_n1 _n2 _n3 : Nat), CallsI Try.prog 66 [Value.agg (Array.mk [Value.int IntKind.i64 l, Value.int IntKind.i64 s, Value.slice A n c, Value.slice B m d]), Value.agg (Array.mk [Value.int IntKind.i64 lb,
        Value.int IntKind.i64 sb, Value.slice Ab nb cb, Value.slice Bb mb db]), Value.func (Fn.func 67) (Array.mk []) (Array.mk []), Value.func (Fn.func 67) (Array.mk []) (Array.mk [])] w [] fun (v4 : Value)
        (l5 : List (List Value)) (w6 : World) => ∃ (x7 : Int), ∃ (x8 : Int), ∃ (A9 : Option Addr), ∃ (n10 : Nat), ∃ (n11 : Nat), ∃ (A12 : Option Addr), ∃ (n13 : Nat), ∃ (n14 : Nat), ∃ (x15 : Int), v4 =
        Value.tuple (Array.mk [Value.agg (Array.mk [Value.int IntKind.i64 x7, Value.int IntKind.i64 x8, Value.slice A9 n10 n11, Value.slice A12 n13 n14]), Value.int IntKind.i64 x15]) ∧ l5 = [] ∧ R
        (Value.tuple (Array.mk [Value.agg (Array.mk [Value.int IntKind.i64 x7, Value.int IntKind.i64 x8, Value.slice A9 n10 n11, Value.slice A12 n13 n14]), Value.int IntKind.i64 x15])) [] w6) :
    CallsI Try.prog 34 [(.agg #[.int .i64 l, .int .i64 s, .slice A n c, .slice B m d]), (.agg #[.int .i64 lb, .int .i64 sb, .slice Ab nb cb, .slice Bb mb db])] w [] R :=
  vcFun_sound (H := ⟨[], []⟩) (args := [.v (.agg #[.int .i64 l, .int .i64 s, .slice A n c, .slice B m d]), .v (.agg #[.int .i64 lb, .int .i64 sb, .slice Ab nb cb, .slice Bb mb db])]) (L := []) goodP Try.func34 (by simp [okp]) (by rw [Try.ntmps34]; simp) (by simp [okp]) (Eq.mp (by kernel_rfl) h)

set_option maxRecDepth 100000 in
theorem s35 (l s : Int) (A : Option Addr) (n c : Nat) (B : Option Addr) (m d : Nat) (lb sb : Int) (Ab : Option Addr) (nb cb : Nat) (Bb : Option Addr) (mb db : Nat) (w : World) (R : Value → List (List Value) → World → Prop) (h :
    ∀ (_n1 _n2 _n3 : Nat), CallsI Try.prog 68 [Value.agg (Array.mk [Value.int IntKind.i64 l, Value.int IntKind.i64 s, Value.slice A n c, Value.slice B m d]), Value.agg (Array.mk [Value.int IntKind.i64 lb,
        Value.int IntKind.i64 sb, Value.slice Ab nb cb, Value.slice Bb mb db]), Value.bool true] w [] fun (v4 : Value) (l5 : List (List Value)) (w6 : World) => ∃ (x7 : Int), ∃ (x8 : Int), ∃ (A9 : Option
        Addr), ∃ (n10 : Nat), ∃ (n11 : Nat), ∃ (A12 : Option Addr), ∃ (n13 : Nat), ∃ (n14 : Nat), ∃ (x15 : Int), v4 = Value.tuple (Array.mk [Value.agg (Array.mk [Value.int IntKind.i64 x7, Value.int
        IntKind.i64 x8, Value.slice A9 n10 n11, Value.slice A12 n13 n14]), Value.int IntKind.i64 x15]) ∧ l5 = [] ∧ R (Value.tuple (Array.mk [Value.agg (Array.mk [Value.int IntKind.i64 x7, Value.int
        IntKind.i64 x8, Value.slice A9 n10 n11, Value.slice A12 n13 n14]), Value.int IntKind.i64 x15])) [] w6) :
    CallsI Try.prog 35 [(.agg #[.int .i64 l, .int .i64 s, .slice A n c, .slice B m d]), (.agg #[.int .i64 lb, .int .i64 sb, .slice Ab nb cb, .slice Bb mb db])] w [] R :=
  vcFun_sound (H := ⟨[], []⟩) (args := [.v (.agg #[.int .i64 l, .int .i64 s, .slice A n c, .slice B m d]), .v (.agg #[.int .i64 lb, .int .i64 sb, .slice Ab nb cb, .slice Bb mb db])]) (L := []) goodP Try.func35 (by simp [okp]) (by rw [Try.ntmps35]; simp) (by simp [okp]) (Eq.mp (by kernel_rfl) h)

set_option maxRecDepth 100000 in
theorem s36 (l s : Int) (A : Option Addr) (n c : Nat) (B : Option Addr) (m d : Nat) (lb sb : Int) (Ab : Option Addr) (nb cb : Nat) (Bb : Option Addr) (mb db : Nat) (w : World) (R : Value → List (List Value) → World → Prop) (h :
    ∀ (_n1 _n2 _n3 : Nat), CallsI Try.prog 68 [Value.agg (Array.mk [Value.int IntKind.i64 l, Value.int IntKind.i64 s, Value.slice A n c, Value.slice B m d]), Value.agg (Array.mk [Value.int IntKind.i64 lb,
        Value.int IntKind.i64 sb, Value.slice Ab nb cb, Value.slice Bb mb db]), Value.bool false] w [] fun (v4 : Value) (l5 : List (List Value)) (w6 : World) => ∃ (x7 : Int), ∃ (x8 : Int), ∃ (A9 : Option
        Addr), ∃ (n10 : Nat), ∃ (n11 : Nat), ∃ (A12 : Option Addr), ∃ (n13 : Nat), ∃ (n14 : Nat), ∃ (x15 : Int), v4 = Value.tuple (Array.mk [Value.agg (Array.mk [Value.int IntKind.i64 x7, Value.int
        IntKind.i64 x8, Value.slice A9 n10 n11, Value.slice A12 n13 n14]), Value.int IntKind.i64 x15]) ∧ l5 = [] ∧ R (Value.tuple (Array.mk [Value.agg (Array.mk [Value.int IntKind.i64 x7, Value.int
        IntKind.i64 x8, Value.slice A9 n10 n11, Value.slice A12 n13 n14]), Value.int IntKind.i64 x15])) [] w6) :
    CallsI Try.prog 36 [(.agg #[.int .i64 l, .int .i64 s, .slice A n c, .slice B m d]), (.agg #[.int .i64 lb, .int .i64 sb, .slice Ab nb cb, .slice Bb mb db])] w [] R :=
  vcFun_sound (H := ⟨[], []⟩) (args := [.v (.agg #[.int .i64 l, .int .i64 s, .slice A n c, .slice B m d]), .v (.agg #[.int .i64 lb, .int .i64 sb, .slice Ab nb cb, .slice Bb mb db])]) (L := []) goodP Try.func36 (by simp [okp]) (by rw [Try.ntmps36]; simp) (by simp [okp]) (Eq.mp (by kernel_rfl) h)

set_option maxRecDepth 100000 in
theorem s37 (l s : Int) (A : Option Addr) (n c : Nat) (B : Option Addr) (m d : Nat) (lb sb : Int) (Ab : Option Addr) (nb cb : Nat) (Bb : Option Addr) (mb db : Nat) (w : World) (R : Value → List (List Value) → World → Prop) (h :
    ∀ (_n1 _n2 _n3 : Nat), CallsI Try.prog 66 [Value.agg (Array.mk [Value.int IntKind.i64 l, Value.int IntKind.i64 s, Value.slice A n c, Value.slice B m d]), Value.agg (Array.mk [Value.int IntKind.i64 lb,
        Value.int IntKind.i64 sb, Value.slice Ab nb cb, Value.slice Bb mb db]), Value.func (Fn.func 69) (Array.mk []) (Array.mk []), Value.func (Fn.func 69) (Array.mk []) (Array.mk [])] w [] fun (v4 : Value)
        (l5 : List (List Value)) (w6 : World) => ∃ (x7 : Int), ∃ (x8 : Int), ∃ (A9 : Option Addr), ∃ (n10 : Nat), ∃ (n11 : Nat), ∃ (A12 : Option Addr), ∃ (n13 : Nat), ∃ (n14 : Nat), ∃ (x15 : Int), v4 =
        Value.tuple (Array.mk [Value.agg (Array.mk [Value.int IntKind.i64 x7, Value.int IntKind.i64 x8, Value.slice A9 n10 n11, Value.slice A12 n13 n14]), Value.int IntKind.i64 x15]) ∧ l5 = [] ∧ R
        (Value.tuple (Array.mk [Value.agg (Array.mk [Value.int IntKind.i64 x7, Value.int IntKind.i64 x8, Value.slice A9 n10 n11, Value.slice A12 n13 n14]), Value.int IntKind.i64 x15])) [] w6) :
    CallsI Try.prog 37 [(.agg #[.int .i64 l, .int .i64 s, .slice A n c, .slice B m d]), (.agg #[.int .i64 lb, .int .i64 sb, .slice Ab nb cb, .slice Bb mb db])] w [] R :=
  vcFun_sound (H := ⟨[], []⟩) (args := [.v (.agg #[.int .i64 l, .int .i64 s, .slice A n c, .slice B m d]), .v (.agg #[.int .i64 lb, .int .i64 sb, .slice Ab nb cb, .slice Bb mb db])]) (L := []) goodP Try.func37 (by simp [okp]) (by rw [Try.ntmps37]; simp) (by simp [okp]) (Eq.mp (by kernel_rfl) h)

end Go.Proofs.Ytnkpjlhbojjneaa.VC

/- The conditions of functions, printed by wip/tools/gen.py. -/
namespace Go.Proofs.Ytnkpjlhbojjneaa.VC
open Go Go.RowKit

def J66_2 (R : Value → List (List Value) → World → Prop) (x39 : Int) (x40 : Int) (A41 : Option Addr) (n42 : Nat) (n43 : Nat) (A44 : Option Addr) (n45 : Nat) (n46 : Nat) (w38 : World) : Prop := R
    (Value.tuple (Array.mk [Value.agg (Array.mk [Value.int IntKind.i64 x39, Value.int IntKind.i64 x40, Value.slice A41 n42 n43, Value.slice A44 n45 n46]), Value.int IntKind.i64 0])) [] w38

def J66_6 (R : Value → List (List Value) → World → Prop) (w49 : World) : Prop := R (Value.tuple (Array.mk [Value.agg (Array.mk [Value.int IntKind.i64 0, Value.int IntKind.i64 0, Value.slice none 0 0,
    Value.slice none 0 0]), Value.int IntKind.i64 5])) [] w49

set_option maxRecDepth 100000 in
theorem s66 (l s : Int) (A : Option Addr) (n c : Nat) (B : Option Addr) (m d : Nat) (lb sb : Int) (Ab : Option Addr) (nb cb : Nat) (Bb : Option Addr) (mb db : Nat) (g gx : Nat) (w : World) (R : Value → List (List Value) → World → Prop) (h :
    ∀ (n1 n2 n3 n4 _n5 : Nat), CallsI Try.prog 55 [Value.agg (Array.mk [Value.int IntKind.i64 l, Value.int IntKind.i64 s, Value.slice A n c, Value.slice B m d]), Value.agg (Array.mk [Value.int IntKind.i64
        lb, Value.int IntKind.i64 sb, Value.slice Ab nb cb, Value.slice Bb mb db])] w [] fun (v6 : Value) (l7 : List (List Value)) (w8 : World) => ∃ (x9 : Int), v6 = Value.int IntKind.i64 x9 ∧ l7 = [] ∧ condK
        (x9 != 0) (R (Value.tuple (Array.mk [Value.agg (Array.mk [Value.int IntKind.i64 0, Value.int IntKind.i64 0, Value.slice none 0 0, Value.slice none 0 0]), Value.int IntKind.i64 x9])) [] w8) (CallsI
        Try.prog 54 [Value.agg (Array.mk [Value.int IntKind.i64 l, Value.int IntKind.i64 s, Value.slice A n c, Value.slice B m d])] w8 [] fun (v10 : Value) (l11 : List (List Value)) (w12 : World) => ∃ (x13 :
        Int), ∃ (x14 : Int), ∃ (A15 : Option Addr), ∃ (n16 : Nat), ∃ (n17 : Nat), ∃ (A18 : Option Addr), ∃ (n19 : Nat), ∃ (n20 : Nat), v10 = Value.agg (Array.mk [Value.int IntKind.i64 x13, Value.int
        IntKind.i64 x14, Value.slice A15 n16 n17, Value.slice A18 n19 n20]) ∧ l11 = [] ∧ CallsI Try.prog 54 [Value.agg (Array.mk [Value.int IntKind.i64 lb, Value.int IntKind.i64 sb, Value.slice Ab nb cb,
        Value.slice Bb mb db])] w12 [] fun (v21 : Value) (l22 : List (List Value)) (w23 : World) => ∃ (x24 : Int), ∃ (x25 : Int), ∃ (A26 : Option Addr), ∃ (n27 : Nat), ∃ (n28 : Nat), ∃ (A29 : Option Addr), ∃
        (n30 : Nat), ∃ (n31 : Nat), v21 = Value.agg (Array.mk [Value.int IntKind.i64 x24, Value.int IntKind.i64 x25, Value.slice A26 n27 n28, Value.slice A29 n30 n31]) ∧ l22 = [] ∧ CallsI Try.prog g
        [Value.bool (decide (x14 ≥ 0)), Value.bool (decide (x25 ≥ 0))] w23 [] fun (v32 : Value) (l33 : List (List Value)) (w34 : World) => ∃ (t35 : Bool), v32 = Value.bool t35 ∧ l33 = [] ∧ condK (!t35)
        (CallsI Try.prog 84 [Value.int IntKind.i64 x13] w34 [] fun (v36 : Value) (l37 : List (List Value)) (w38 : World) => ∃ (x39 : Int), ∃ (x40 : Int), ∃ (A41 : Option Addr), ∃ (n42 : Nat), ∃ (n43 : Nat), ∃
        (A44 : Option Addr), ∃ (n45 : Nat), ∃ (n46 : Nat), v36 = Value.agg (Array.mk [Value.int IntKind.i64 x39, Value.int IntKind.i64 x40, Value.slice A41 n42 n43, Value.slice A44 n45 n46]) ∧ l37 = [] ∧
        J66_2 R x39 x40 A41 n42 n43 A44 n45 n46 w38) (CallsI Try.prog 96 [Value.int IntKind.i64 x13, Value.int IntKind.i64 20000, Value.agg (Array.mk [Value.int IntKind.i64 x14, Value.int IntKind.i64 x25]),
        Value.func (Fn.func 97) (Array.mk []) (Array.mk [Value.pointer (some (Addr.mk n1 0 none)), Value.pointer (some (Addr.mk n2 0 none)), Value.pointer (some (Addr.mk n3 0 none))]), Value.func (Fn.func 98)
        (Array.mk []) (Array.mk [Value.pointer (some (Addr.mk n4 0 none)), Value.pointer (some (Addr.mk n1 0 none)), Value.pointer (some (Addr.mk n2 0 none))])] w34 [(n1, 25, [Value.int IntKind.i64 x13,
        Value.int IntKind.i64 x14, Value.slice A15 n16 n17, Value.slice A18 n19 n20]), (n2, 25, [Value.int IntKind.i64 x24, Value.int IntKind.i64 x25, Value.slice A26 n27 n28, Value.slice A29 n30 n31]), (n3,
        83, [Value.func (Fn.func g) (Array.mk []) (Array.mk [])]), (n4, 83, [Value.func (Fn.func gx) (Array.mk []) (Array.mk [])])] fun (v47 : Value) (l48 : List (List Value)) (w49 : World) => ∃ (x50 : Int),
        ∃ (x51 : Int), ∃ (A52 : Option Addr), ∃ (n53 : Nat), ∃ (n54 : Nat), ∃ (A55 : Option Addr), ∃ (n56 : Nat), ∃ (n57 : Nat), ∃ (t58 : Bool), v47 = Value.tuple (Array.mk [Value.agg (Array.mk [Value.int
        IntKind.i64 x50, Value.int IntKind.i64 x51, Value.slice A52 n53 n54, Value.slice A55 n56 n57]), Value.bool t58]) ∧ l48 = [[Value.int IntKind.i64 x13, Value.int IntKind.i64 x14, Value.slice A15 n16
        n17, Value.slice A18 n19 n20], [Value.int IntKind.i64 x24, Value.int IntKind.i64 x25, Value.slice A26 n27 n28, Value.slice A29 n30 n31], [Value.func (Fn.func g) (Array.mk []) (Array.mk [])],
        [Value.func (Fn.func gx) (Array.mk []) (Array.mk [])]] ∧ ∀ (_n59 : Nat), condK (!t58) (J66_6 R w49) (CallsI Try.prog 54 [Value.agg (Array.mk [Value.int IntKind.i64 x50, Value.int IntKind.i64 x51,
        Value.slice A52 n53 n54, Value.slice A55 n56 n57])] w49 [] fun (v60 : Value) (l61 : List (List Value)) (w62 : World) => ∃ (x63 : Int), ∃ (x64 : Int), ∃ (A65 : Option Addr), ∃ (n66 : Nat), ∃ (n67 :
        Nat), ∃ (A68 : Option Addr), ∃ (n69 : Nat), ∃ (n70 : Nat), v60 = Value.agg (Array.mk [Value.int IntKind.i64 x63, Value.int IntKind.i64 x64, Value.slice A65 n66 n67, Value.slice A68 n69 n70]) ∧ l61 =
        [] ∧ ∀ (_n71 : Nat), condK (decide ((↑n66 : Int) > 4000)) (J66_6 R w62) (J66_2 R x63 x64 A65 n66 n67 A68 n69 n70 w62))))) :
    CallsI Try.prog 66 [(.agg #[.int .i64 l, .int .i64 s, .slice A n c, .slice B m d]), (.agg #[.int .i64 lb, .int .i64 sb, .slice Ab nb cb, .slice Bb mb db]), (.func (.func g) #[] #[]), (.func (.func gx) #[] #[])] w [] R :=
  vcFun_sound (H := ⟨[((7, 9), [((25, 0), false), ((25, 1), false), ((83, 0), false), ((83, 1), false)])], []⟩) (args := [.v (.agg #[.int .i64 l, .int .i64 s, .slice A n c, .slice B m d]), .v (.agg #[.int .i64 lb, .int .i64 sb, .slice Ab nb cb, .slice Bb mb db]), .v (.func (.func g) #[] #[]), .v (.func (.func gx) #[] #[])]) (L := []) goodP Try.func66 (by simp [okp]) (by rw [Try.ntmps66]; simp) (by simp [okp]) (Eq.mp (by kernel_rfl) h)

def J96_5 (n72 : Nat) (most : Int) (R : Value → List (List Value) → World → Prop) (l : Int) (s : Int) (A : Option Addr) (n : Nat) (c : Nat) (B : Option Addr) (m : Nat) (d : Nat) (lb : Int) (sb : Int)
    (Ab : Option Addr) (nb : Nat) (cb : Nat) (Bb : Option Addr) (mb : Nat) (db : Nat) (g : Nat) (gx : Nat) (w76 : World) (I39 : Int → Int → Int → Option Addr → Nat → Nat → Option Addr → Nat → Nat → Option
    Addr → Nat → Nat → Option Nat → Lp) (x40 : Int) (x41 : Int) (x42 : Int) (A43 : Option Addr) (n44 : Nat) (n45 : Nat) (A46 : Option Addr) (n47 : Nat) (n48 : Nat) (A71 : Option Addr) (n73 : Nat) (A74 :
    Option Nat) (n54 : Nat) : Prop := condK (decide ((↑n72 : Int) > most)) (R (Value.tuple (Array.mk [Value.agg (Array.mk [Value.int IntKind.i64 0, Value.int IntKind.i64 0, Value.slice none 0 0,
    Value.slice none 0 0]), Value.bool false])) [[Value.int IntKind.i64 l, Value.int IntKind.i64 s, Value.slice A n c, Value.slice B m d], [Value.int IntKind.i64 lb, Value.int IntKind.i64 sb, Value.slice
    Ab nb cb, Value.slice Bb mb db], [Value.func (Fn.func g) (Array.mk []) (Array.mk [])], [Value.func (Fn.func gx) (Array.mk []) (Array.mk [])]] w76) ((I39 (IntKind.i64.wrap (x40 + 1)) x41 x42 A43 n44
    n45 A46 n47 n48 A71 n72 n73 A74).1 w76 ∧ (I39 (IntKind.i64.wrap (x40 + 1)) x41 x42 A43 n44 n45 A46 n47 n48 A71 n72 n73 A74).m w76 < n54)

set_option maxRecDepth 100000 in
theorem s96 (ba bb bk bx : Nat) (l s : Int) (A : Option Addr) (n c : Nat) (B : Option Addr) (m d : Nat) (lb sb : Int) (Ab : Option Addr) (nb cb : Nat) (Bb : Option Addr) (mb db : Nat) (g gx : Nat) (letters most p q : Int) (w : World) (R : Value → List (List Value) → World → Prop) (h :
    ∀ (_n1 _n2 n3 : Nat), CallsI Try.prog 57 [Value.pointer (some (Addr.mk n3 0 none)), Value.agg (Array.mk [Value.int IntKind.i64 p, Value.int IntKind.i64 q])] w [(n3, 68, [Value.slice none 0 0,
        Value.map none])] fun (v4 : Value) (l5 : List (List Value)) (w6 : World) => ∃ (x7 : Int), v4 = Value.int IntKind.i64 x7 ∧ ∃ (A8 : Option Addr), ∃ (n9 : Nat), ∃ (n10 : Nat), ∃ (A11 : Option Nat), l5 =
        [[Value.slice A8 n9 n10, Value.map A11]] ∧ ∀ (_n12 : Nat), ∃ (I13 : Int → Int → Int → Option Addr → Nat → Nat → Option Addr → Nat → Nat → Option Addr → Nat → Nat → Option Nat → Int → Int → Option Addr
        → Nat → Nat → Option Addr → Nat → Nat → Lp), (I13 0 0 0 none 0 0 none 0 0 A8 n9 n10 A11 letters 0 none 0 0 none 0 0).1 w6 ∧ ∀ (x14 x15 x16 : Int) (A17 : Option Addr) (n18 n19 : Nat) (A20 : Option
        Addr) (n21 n22 : Nat) (A23 : Option Addr) (n24 n25 : Nat) (A26 : Option Nat) (x27 x28 : Int) (A29 : Option Addr) (n30 n31 : Nat) (A32 : Option Addr) (n33 n34 : Nat) (w35 : World), (I13 x14 x15 x16 A17
        n18 n19 A20 n21 n22 A23 n24 n25 A26 x27 x28 A29 n30 n31 A32 n33 n34).1 w35 → ∀ (n36 : Nat), (I13 x14 x15 x16 A17 n18 n19 A20 n21 n22 A23 n24 n25 A26 x27 x28 A29 n30 n31 A32 n33 n34).m w35 = n36 →
        condK (decide (x14 < (↑n24 : Int))) (letters = letters ∧ 0 ≤ letters ∧ letters * (↑8 : Int) ≤ 281474976710656 ∧ letters ≤ 9223372036854775807 ∧ NewK w35 (Obj.cells (Array.mk (List.replicate
        letters.toNat (Value.int IntKind.i64 0))) 3) fun (n37 : Nat) (w38 : World) => ∃ (I39 : Int → Int → Int → Option Addr → Nat → Nat → Option Addr → Nat → Nat → Option Addr → Nat → Nat → Option Nat → Lp),
        (I39 0 x15 x16 A17 n18 n19 A20 n21 n22 A23 n24 n25 A26).1 w38 ∧ ∀ (x40 x41 x42 : Int) (A43 : Option Addr) (n44 n45 : Nat) (A46 : Option Addr) (n47 n48 : Nat) (A49 : Option Addr) (n50 n51 : Nat) (A52 :
        Option Nat) (w53 : World), (I39 x40 x41 x42 A43 n44 n45 A46 n47 n48 A49 n50 n51 A52).1 w53 → ∀ (n54 : Nat), (I39 x40 x41 x42 A43 n44 n45 A46 n47 n48 A49 n50 n51 A52).m w53 = n54 → condK (decide (x40 <
        letters)) (IxV (some (Addr.mk n37 0 none)) letters.toNat 1 x40 fun (a55 : Addr) => SetK w53 a55 (Value.int IntKind.i64 (-1)) fun (w56 : World) => IxV A49 n50 2 x14 fun (a57 : Addr) => ∃ (x58 : Int), ∃
        (x59 : Int), w56.cell? a57 = some (Value.int IntKind.i64 x58) ∧ w56.cell? (a57.add 1) = some (Value.int IntKind.i64 x59) ∧ CallsI Try.prog 97 [Value.agg (Array.mk [Value.int IntKind.i64 x58, Value.int
        IntKind.i64 x59]), Value.int IntKind.i64 x40, Value.pointer (some (Addr.mk ba 0 none)), Value.pointer (some (Addr.mk bb 0 none)), Value.pointer (some (Addr.mk bk 0 none))] w56 [(ba, 25, [Value.int
        IntKind.i64 l, Value.int IntKind.i64 s, Value.slice A n c, Value.slice B m d]), (bb, 25, [Value.int IntKind.i64 lb, Value.int IntKind.i64 sb, Value.slice Ab nb cb, Value.slice Bb mb db]), (bk, 83,
        [Value.func (Fn.func g) (Array.mk []) (Array.mk [])])] fun (v60 : Value) (l61 : List (List Value)) (w62 : World) => ∃ (x63 : Int), ∃ (x64 : Int), ∃ (t65 : Bool), v60 = Value.tuple (Array.mk [Value.agg
        (Array.mk [Value.int IntKind.i64 x63, Value.int IntKind.i64 x64]), Value.bool t65]) ∧ l61 = [[Value.int IntKind.i64 l, Value.int IntKind.i64 s, Value.slice A n c, Value.slice B m d], [Value.int
        IntKind.i64 lb, Value.int IntKind.i64 sb, Value.slice Ab nb cb, Value.slice Bb mb db], [Value.func (Fn.func g) (Array.mk []) (Array.mk [])]] ∧ ∀ (_n66 : Nat), condK t65 (CallsI Try.prog 57
        [Value.pointer (some (Addr.mk n3 0 none)), Value.agg (Array.mk [Value.int IntKind.i64 x63, Value.int IntKind.i64 x64])] w62 [(n3, 68, [Value.slice A49 n50 n51, Value.map A52])] fun (v67 : Value) (l68
        : List (List Value)) (w69 : World) => ∃ (x70 : Int), v67 = Value.int IntKind.i64 x70 ∧ ∃ (A71 : Option Addr), ∃ (n72 : Nat), ∃ (n73 : Nat), ∃ (A74 : Option Nat), l68 = [[Value.slice A71 n72 n73,
        Value.map A74]] ∧ IxV (some (Addr.mk n37 0 none)) letters.toNat 1 x40 fun (a75 : Addr) => SetK w69 a75 (Value.int IntKind.i64 x70) fun (w76 : World) => J96_5 n72 most R l s A n c B m d lb sb Ab nb cb
        Bb mb db g gx w76 I39 x40 x41 x42 A43 n44 n45 A46 n47 n48 A71 n73 A74 n54) (J96_5 n50 most R l s A n c B m d lb sb Ab nb cb Bb mb db g gx w62 I39 x40 x41 x42 A43 n44 n45 A46 n47 n48 A49 n51 A52 n54))
        (NewK w53 (Obj.cells (Array.mk [Value.slice (some (Addr.mk n37 0 none)) letters.toNat letters.toNat]) 26) fun (n77 : Nat) (w78 : World) => AppK 24 1 [Value.slice none 0 0] 26 A29 n30 n31 (some
        (Addr.mk n77 0 none)) 1 w78 fun (A79 : Option Addr) (n80 n81 : Nat) (w82 : World) => IxV A49 n50 2 x14 fun (a83 : Addr) => ∃ (x84 : Int), ∃ (x85 : Int), w82.cell? a83 = some (Value.int IntKind.i64
        x84) ∧ w82.cell? (a83.add 1) = some (Value.int IntKind.i64 x85) ∧ CallsI Try.prog 98 [Value.agg (Array.mk [Value.int IntKind.i64 x84, Value.int IntKind.i64 x85]), Value.pointer (some (Addr.mk bx 0
        none)), Value.pointer (some (Addr.mk ba 0 none)), Value.pointer (some (Addr.mk bb 0 none))] w82 [(bx, 83, [Value.func (Fn.func gx) (Array.mk []) (Array.mk [])]), (ba, 25, [Value.int IntKind.i64 l,
        Value.int IntKind.i64 s, Value.slice A n c, Value.slice B m d]), (bb, 25, [Value.int IntKind.i64 lb, Value.int IntKind.i64 sb, Value.slice Ab nb cb, Value.slice Bb mb db])] fun (v86 : Value) (l87 :
        List (List Value)) (w88 : World) => ∃ (t89 : Bool), v86 = Value.bool t89 ∧ l87 = [[Value.func (Fn.func gx) (Array.mk []) (Array.mk [])], [Value.int IntKind.i64 l, Value.int IntKind.i64 s, Value.slice
        A n c, Value.slice B m d], [Value.int IntKind.i64 lb, Value.int IntKind.i64 sb, Value.slice Ab nb cb, Value.slice Bb mb db]] ∧ NewK w88 (Obj.cells (Array.mk [Value.bool t89]) 4) fun (n90 : Nat) (w91 :
        World) => AppK 1 1 [Value.bool false] 4 A32 n33 n34 (some (Addr.mk n90 0 none)) 1 w91 fun (A92 : Option Addr) (n93 n94 : Nat) (w95 : World) => (I13 (IntKind.i64.wrap (x14 + 1)) x41 x42 A43 n44 n45 A46
        n47 n48 A49 n50 n51 A52 x27 x28 A79 n80 n81 A92 n93 n94).1 w95 ∧ (I13 (IntKind.i64.wrap (x14 + 1)) x41 x42 A43 n44 n45 A46 n47 n48 A49 n50 n51 A52 x27 x28 A79 n80 n81 A92 n93 n94).m w95 < n36)) (R
        (Value.tuple (Array.mk [Value.agg (Array.mk [Value.int IntKind.i64 x27, Value.int IntKind.i64 x28, Value.slice A29 n30 n31, Value.slice A32 n33 n34]), Value.bool true])) [[Value.int IntKind.i64 l,
        Value.int IntKind.i64 s, Value.slice A n c, Value.slice B m d], [Value.int IntKind.i64 lb, Value.int IntKind.i64 sb, Value.slice Ab nb cb, Value.slice Bb mb db], [Value.func (Fn.func g) (Array.mk [])
        (Array.mk [])], [Value.func (Fn.func gx) (Array.mk []) (Array.mk [])]] w35)) :
    CallsI Try.prog 96 [(.int .i64 letters), (.int .i64 most), (.agg #[.int .i64 p, .int .i64 q]), (.func (.func 97) #[] #[.pointer (some ⟨ba, 0, none⟩), .pointer (some ⟨bb, 0, none⟩), .pointer (some ⟨bk, 0, none⟩)]), (.func (.func 98) #[] #[.pointer (some ⟨bx, 0, none⟩), .pointer (some ⟨ba, 0, none⟩), .pointer (some ⟨bb, 0, none⟩)])] w [(ba, 25, [.int .i64 l, .int .i64 s, .slice A n c, .slice B m d]), (bb, 25, [.int .i64 lb, .int .i64 sb, .slice Ab nb cb, .slice Bb mb db]), (bk, 83, [.func (.func g) #[] #[]]), (bx, 83, [.func (.func gx) #[] #[]])] R :=
  vcFun_sound (H := ⟨[((2, 1), [((68, 0), true)]), ((14, 3), [((68, 0), true)]), ((12, 7), [((25, 0), false), ((25, 1), false), ((83, 0), false)]), ((19, 8), [((83, 1), false), ((25, 0), false), ((25, 1), false)])], [(0, [(14, .int .i64)], [(25, 2), (68, 0), (25, 3)]), (2, [(33, .int .i64)], [(25, 2), (68, 0)])]⟩) (args := [.v (.int .i64 letters), .v (.int .i64 most), .v (.agg #[.int .i64 p, .int .i64 q]), .v (.func (.func 97) #[] #[.pointer (some ⟨ba, 0, none⟩), .pointer (some ⟨bb, 0, none⟩), .pointer (some ⟨bk, 0, none⟩)]), .v (.func (.func 98) #[] #[.pointer (some ⟨bx, 0, none⟩), .pointer (some ⟨ba, 0, none⟩), .pointer (some ⟨bb, 0, none⟩)])]) (L := [⟨ba, 25, [.v (.int .i64 l), .v (.int .i64 s), .v (.slice A n c), .v (.slice B m d)]⟩, ⟨bb, 25, [.v (.int .i64 lb), .v (.int .i64 sb), .v (.slice Ab nb cb), .v (.slice Bb mb db)]⟩, ⟨bk, 83, [.v (.func (.func g) #[] #[])]⟩, ⟨bx, 83, [.v (.func (.func gx) #[] #[])]⟩]) goodP Try.func96 (by simp [okp]) (by rw [Try.ntmps96]; simp) (by simp [okp]) (Eq.mp (by kernel_rfl) h)

end Go.Proofs.Ytnkpjlhbojjneaa.VC

/- The machine of all pairs that are found; both and either. -/
namespace Go.Proofs.Ytnkpjlhbojjneaa.VC
open Go Go.RowKit

theorem c67 {w : World} {x y : Bool} {R : Res} (hR : R (.bool (kf false x y)) [] w) : CallsI Try.prog 67 [.bool x, .bool y] w [] R := by
  refine s67 _ _ _ _ ?_
  cases x <;> exact hR
theorem c69 {w : World} {x y : Bool} {R : Res} (hR : R (.bool (kf true x y)) [] w) : CallsI Try.prog 69 [.bool x, .bool y] w [] R := by
  refine s69 _ _ _ _ ?_
  cases x <;> exact hR

section
variable {st : Bool} {g gx : Nat} {a b : Mach}
/-- a function of the program that tells what is asked of two things -/
def IsKf (st : Bool) (g : Nat) : Prop := ∀ (w : World) (x y : Bool) (R : Res), R (.bool (kf st x y)) [] w → CallsI Try.prog g [.bool x, .bool y] w [] R
theorem c97 {ba bb bk : Nat} {A : Option Addr} {n c : Nat} {B : Option Addr} {m d : Nat} {Ab : Option Addr} {nb cb : Nat} {Bb : Option Addr} {mb db : Nat} {w : World} {q : IP} {x : Int} {R : Res}
    (hg : IsKf st g) (ha : MachAt w a (.agg (Array.mk [.int .i64 a.letters, .int .i64 a.start, .slice A n c, .slice B m d]))) (hb : MachAt w b (.agg (Array.mk [.int .i64 b.letters, .int .i64 b.start, .slice Ab nb cb, .slice Bb mb db]))) (sa : a.Shaped) (sb : b.Shaped) (hl : a.letters = b.letters)
    (h1 : q.1 < a.next.length) (h2 : q.2 < b.next.length) (hx : a.Let x) (fin : IP → Bool)
    (hR : ∀ p, ((pairAuto st a b fin).next q x = none → R (.tuple (Array.mk [pairV p, .bool false])) [[.int .i64 a.letters, .int .i64 a.start, .slice A n c, .slice B m d], [.int .i64 b.letters, .int .i64 b.start, .slice Ab nb cb, .slice Bb mb db], [.func (.func g) #[] #[]]] w) ∧
      ((pairAuto st a b fin).next q x = some p → R (.tuple (Array.mk [pairV p, .bool true])) [[.int .i64 a.letters, .int .i64 a.start, .slice A n c, .slice B m d], [.int .i64 b.letters, .int .i64 b.start, .slice Ab nb cb, .slice Bb mb db], [.func (.func g) #[] #[]]] w)) :
    CallsI Try.prog 97 [pairV q, .int .i64 x, .pointer (some ⟨ba, 0, none⟩), .pointer (some ⟨bb, 0, none⟩), .pointer (some ⟨bk, 0, none⟩)] w
      [(ba, 25, [.int .i64 a.letters, .int .i64 a.start, .slice A n c, .slice B m d]), (bb, 25, [.int .i64 b.letters, .int .i64 b.start, .slice Ab nb cb, .slice Bb mb db]), (bk, 83, [.func (.func g) #[] #[]])] R := by
  have hxb : b.Let x := ⟨hx.1, by have := hx.2; omega⟩
  have fin3 : J97_3 g (a.step q.1 x) (b.step q.2 x) w R a.letters a.start A n c B m d b.letters b.start Ab nb cb Bb mb db := by
    rw [J97_3]
    refine hg _ _ _ _ ⟨_, rfl, rfl, ?_⟩
    have hh := hR (pstep a b q x)
    by_cases hok : okP st (pstep a b q x)
    · rw [show kf st (decide (a.step q.1 x ≥ 0)) (decide (b.step q.2 x ≥ 0)) = true from okP_kf.1 hok]
      exact hh.2 (pairAuto_some hok)
    · rw [show kf st (decide (a.step q.1 x ≥ 0)) (decide (b.step q.2 x ≥ 0)) = false from by
        have := mt okP_kf.2 hok
        rw [Bool.not_eq_true] at this; exact this]
      exact hh.1 (pairAuto_none hok)
  have fin7 : J97_7 b.letters b.start Ab nb cb Bb mb db q.2 x w g (a.step q.1 x) R a.letters a.start A n c B m d := by
    rw [J97_7]
    exact c58 hb sb h2 hxb ⟨_, rfl, rfl, fin3⟩
  refine s97 _ _ _ _ _ _ _ _ _ _ _ _ _ _ _ _ _ _ _ _ _ _ _ _ _ fun _ _ => ⟨?_, fun _ => ?_⟩
  · exact c58 ha sa h1 hx ⟨_, rfl, rfl, c58 hb sb h2 hxb ⟨_, rfl, rfl, fun _ => fin3⟩, fun _ => fin7⟩
  · exact c58 ha sa h1 hx ⟨_, rfl, rfl, fin7⟩
theorem c98 {ba bb bx : Nat} {A : Option Addr} {n c : Nat} {B : Option Addr} {m d : Nat} {Ab : Option Addr} {nb cb : Nat} {Bb : Option Addr} {mb db : Nat} {w : World} {q : IP} {R : Res}
    (hg : IsKf st gx) (ha : MachAt w a (.agg (Array.mk [.int .i64 a.letters, .int .i64 a.start, .slice A n c, .slice B m d]))) (hb : MachAt w b (.agg (Array.mk [.int .i64 b.letters, .int .i64 b.start, .slice Ab nb cb, .slice Bb mb db]))) (sa : a.Shaped) (sb : b.Shaped)
    (h1 : q.1 < a.next.length) (h2 : q.2 < b.next.length)
    (hR : R (.bool (finP st a b q)) [[.func (.func gx) #[] #[]], [.int .i64 a.letters, .int .i64 a.start, .slice A n c, .slice B m d], [.int .i64 b.letters, .int .i64 b.start, .slice Ab nb cb, .slice Bb mb db]] w) :
    CallsI Try.prog 98 [pairV q, .pointer (some ⟨bx, 0, none⟩), .pointer (some ⟨ba, 0, none⟩), .pointer (some ⟨bb, 0, none⟩)] w
      [(bx, 83, [.func (.func gx) #[] #[]]), (ba, 25, [.int .i64 a.letters, .int .i64 a.start, .slice A n c, .slice B m d]), (bb, 25, [.int .i64 b.letters, .int .i64 b.start, .slice Ab nb cb, .slice Bb mb db])] R := by
  have fa := sa.fin; have fb := sb.fin
  refine s98 _ _ _ _ _ _ _ _ _ _ _ _ _ _ _ _ _ _ _ _ _ _ _ _ fun _ => ?_
  exact c52 ha (by omega) ⟨_, rfl, rfl, c52 hb (by omega) ⟨_, rfl, rfl, hg _ _ _ _ ⟨_, rfl, rfl, hR⟩⟩⟩
end

def I12P (X : Auto IP) (first : IP) (most : Int) (w : World) : Int → Int → Int → Option Addr → Nat → Nat → Option Addr → Nat → Nat → Option Addr → Nat → Nat → Option Nat → Int → Int → Option Addr → Nat → Nat → Option Addr → Nat → Nat → Lp :=
  fun x13 _ _ _ _ _ _ _ _ A22 n23 n24 A25 x26 x27 A28 n29 n30 A31 n32 n33 => ⟨fun w' => ∃ F xs rows fins, Fam w w' F ∧ GP F 0 A22 n23 n24 xs ∧ NumMap F 1 KT.pair pairV A25 xs ∧ GII F 2 g10 A28 n29 n30 rows ∧ GSl F 3 A31 n32 n33 (bools fins) ∧ x26 = X.letters ∧ x27 = 0 ∧ Part X first xs rows ∧
    (∀ row ∈ rows, (row.length : Int) = X.letters) ∧ fins = (xs.take rows.length).map X.fin ∧ x13 = rows.length ∧ rows.length ≤ xs.length ∧ (xs.length : Int) ≤ most, fun _ => (most - x13).toNat⟩
def I38P (X : Auto IP) (first : IP) (most : Int) (w : World) (rows : List (List Int)) (fins : List Bool) (n36 : Nat) (A28 : Option Addr) (n29 n30 : Nat) (A31 : Option Addr) (n32 n33 : Nat) : Int → Int → Int → Option Addr → Nat → Nat → Option Addr → Nat → Nat → Option Addr → Nat → Nat → Option Nat → Lp :=
  fun x39 _ _ _ _ _ _ _ _ A48 n49 n50 A51 => ⟨fun w' => ∃ F xs cur, Fam w w' F ∧ GP F 0 A48 n49 n50 xs ∧ NumMap F 1 KT.pair pairV A51 xs ∧ GII F 2 g10 A28 n29 n30 rows ∧ GSl F 3 A31 n32 n33 (bools fins) ∧
    GSl F (g10 rows.length) (some ⟨n36, 0, none⟩) X.letters.toNat X.letters.toNat (ints (cur ++ List.replicate (X.letters - x39).toNat 0)) ∧ (cur.length : Int) = x39 ∧ Part X first xs (rows ++ [cur]) ∧ fins = (xs.take rows.length).map X.fin ∧ rows.length < xs.length ∧ (xs.length : Int) ≤ most ∧ 0 ≤ x39 ∧ x39 ≤ X.letters, fun _ => (X.letters - x39).toNat⟩

set_option maxHeartbeats 4000000 in
theorem c96 {ba bb bk bx : Nat} {l s : Int} {A : Option Addr} {n c : Nat} {B : Option Addr} {m d : Nat} {lb sb : Int} {Ab : Option Addr} {nb cb : Nat} {Bb : Option Addr} {mb db : Nat} {g gx : Nat} {X : Auto IP} {most : Int} {first : IP} {w : World} {R : Res}
    (hL0 : 0 ≤ X.letters) (hL : X.letters ≤ 1048576) (hm0 : 1 ≤ most) (hm1 : most ≤ 1048576)
    (hnext : ∀ w' q x (R' : Res), Ext w w' → X.From first q → 0 ≤ x → x < X.letters → (∀ y : IP, (X.next q x = none → R' (.tuple (Array.mk [pairV y, .bool false])) [[.int .i64 l, .int .i64 s, .slice A n c, .slice B m d], [.int .i64 lb, .int .i64 sb, .slice Ab nb cb, .slice Bb mb db], [.func (.func g) #[] #[]]] w') ∧
        (X.next q x = some y → R' (.tuple (Array.mk [pairV y, .bool true])) [[.int .i64 l, .int .i64 s, .slice A n c, .slice B m d], [.int .i64 lb, .int .i64 sb, .slice Ab nb cb, .slice Bb mb db], [.func (.func g) #[] #[]]] w')) →
      CallsI Try.prog 97 [pairV q, .int .i64 x, .pointer (some ⟨ba, 0, none⟩), .pointer (some ⟨bb, 0, none⟩), .pointer (some ⟨bk, 0, none⟩)] w' [(ba, 25, [.int .i64 l, .int .i64 s, .slice A n c, .slice B m d]), (bb, 25, [.int .i64 lb, .int .i64 sb, .slice Ab nb cb, .slice Bb mb db]), (bk, 83, [.func (.func g) #[] #[]])] R')
    (hend : ∀ w' q (R' : Res), Ext w w' → X.From first q → R' (.bool (X.fin q)) [[.func (.func gx) #[] #[]], [.int .i64 l, .int .i64 s, .slice A n c, .slice B m d], [.int .i64 lb, .int .i64 sb, .slice Ab nb cb, .slice Bb mb db]] w' →
      CallsI Try.prog 98 [pairV q, .pointer (some ⟨bx, 0, none⟩), .pointer (some ⟨ba, 0, none⟩), .pointer (some ⟨bb, 0, none⟩)] w' [(bx, 83, [.func (.func gx) #[] #[]]), (ba, 25, [.int .i64 l, .int .i64 s, .slice A n c, .slice B m d]), (bb, 25, [.int .i64 lb, .int .i64 sb, .slice Ab nb cb, .slice Bb mb db])] R')
    (hok : ∀ w' mm (A' : Option Addr) (n' c' : Nat) (B' : Option Addr) (k' d' : Nat) xs, MachNew w w' mm (.agg (Array.mk [.int .i64 X.letters, .int .i64 0, .slice A' n' c', .slice B' k' d'])) → Made X first mm xs → (xs.length : Int) ≤ most → R (.tuple (Array.mk [.agg (Array.mk [.int .i64 X.letters, .int .i64 0, .slice A' n' c', .slice B' k' d']), .bool true])) [[.int .i64 l, .int .i64 s, .slice A n c, .slice B m d], [.int .i64 lb, .int .i64 sb, .slice Ab nb cb, .slice Bb mb db], [.func (.func g) #[] #[]], [.func (.func gx) #[] #[]]] w')
    (hfail : ∀ w' (xs : List IP), Ext w w' → xs.Nodup → (∀ x ∈ xs, X.From first x) → most < xs.length → R (.tuple (Array.mk [.agg (Array.mk [.int .i64 0, .int .i64 0, .slice none 0 0, .slice none 0 0]), .bool false])) [[.int .i64 l, .int .i64 s, .slice A n c, .slice B m d], [.int .i64 lb, .int .i64 sb, .slice Ab nb cb, .slice Bb mb db], [.func (.func g) #[] #[]], [.func (.func gx) #[] #[]]] w') :
    CallsI Try.prog 96 [.int .i64 X.letters, .int .i64 most, pairV first, .func (.func 97) #[] #[.pointer (some ⟨ba, 0, none⟩), .pointer (some ⟨bb, 0, none⟩), .pointer (some ⟨bk, 0, none⟩)], .func (.func 98) #[] #[.pointer (some ⟨bx, 0, none⟩), .pointer (some ⟨ba, 0, none⟩), .pointer (some ⟨bb, 0, none⟩)]] w
      [(ba, 25, [.int .i64 l, .int .i64 s, .slice A n c, .slice B m d]), (bb, 25, [.int .i64 lb, .int .i64 sb, .slice Ab nb cb, .slice Bb mb db]), (bk, 83, [.func (.func g) #[] #[]]), (bx, 83, [.func (.func gx) #[] #[]])] R := by
  refine s96 _ _ _ _ _ _ _ _ _ _ _ _ _ _ _ _ _ _ _ _ _ _ _ _ _ _ _ _ fun _ _ n3 => ?_
  refine c57 (x := first) (Fam.empty w) (.nil rfl) (.inl ⟨rfl, rfl⟩) (by simp) (fun k h => by simp at h) fun _ F w5 A7 c9 r10 ho hF hls hmp => ?_
  refine ⟨0, rfl, A7, 1, c9, r10, rfl, fun _ => ?_⟩
  refine ⟨I12P X first most w, ⟨F, [first], [], [], hF, hls, hmp, GII.nil (by rw [ho 2 (by decide) (by decide)]), .nil (by rw [ho 3 (by decide) (by decide)]), rfl, rfl, .init X first, by simp, rfl, rfl, by simp, by simpa using hm0⟩, ?_⟩
  clear hF hls hmp ho
  intro x13 x14 x15 A16 n17 n18 A19 n20 n21 A22 n23 n24 A25 x26 x27 A28 n29 n30 A31 n32 n33 w34 hI n35 hk
  obtain ⟨F, xs, rows, fins, hF, hls, hmp, hrows, hfins, rfl, rfl, hpart, hlen, hfe, rfl, hle, hmost⟩ := hI
  subst hk
  have n23' : n23 = xs.length := hls.len
  refine condK_dec (fun hlt => ?_) fun hge => ?_
  · refine ⟨rfl, hL0, by omega, by omega, ?_⟩
    refine hF.mkRow (g10 rows.length) fun n36 F1 w37 ho1 hF1 hr1 => ?_
    rw [List.length_replicate] at hr1
    refine ⟨I38P X first most w rows fins n36 A28 n29 n30 A31 n32 n33, ⟨F1, xs, [], hF1, hls.same (ho1 0 (Ne.symm (g10_ne (by decide)))), hmp.same (ho1 1 (Ne.symm (g10_ne (by decide)))), hrows.keep ho1 (Ne.symm (g10_ne (by decide))) (fun t ht => by unfold g10; omega), hfins.keep ho1 (Ne.symm (g10_ne (by decide))),
      by rw [List.nil_append, ints_rep, Int.sub_zero]; exact hr1, rfl, Part.empty.2 hpart, hfe, by omega, hmost, by omega, hL0⟩, ?_⟩
    clear hF hls hmp hrows hfins hpart hF1 hr1 ho1 F1 hfe hmost n23' hlt
    clear hle
    intro x39 x40 x41 A42 n43 n44 A45 n46 n47 A48 n49 n50 A51 w52 hI n53 hk
    obtain ⟨F, xs, cur, hF, hls, hmp, hrows, hfins, hrow, hcur, hpart, hfe, hlt, hmost, h390, h391⟩ := hI
    subst hk
    have n49' : n49 = xs.length := hls.len
    have n29' : n29 = rows.length := hrows.len
    have hx := get_gp (l := xs) (i := (rows.length : Int)) (by omega) (by omega)
    rw [Int.toNat_natCast] at hx
    have hfrom := hpart.from_ _ (List.mem_of_getElem? hx)
    have g0' : (0 : Nat) ≠ g10 rows.length := Ne.symm (g10_ne (by decide))
    have g1' : (1 : Nat) ≠ g10 rows.length := Ne.symm (g10_ne (by decide))
    have g2' : (2 : Nat) ≠ g10 rows.length := Ne.symm (g10_ne (by decide))
    have g3' : (3 : Nat) ≠ g10 rows.length := Ne.symm (g10_ne (by decide))
    have gt' : ∀ t, t < rows.length → g10 t ≠ g10 rows.length := fun t ht => by unfold g10; omega
    refine condK_dec (fun hltx => ?_) fun hgex => ?_
    · refine hrow.set_int hF h390 (by simp; omega) fun F1 w55 ho1 hF1 hrow1 => ?_
      rw [show x39.toNat = cur.length by omega, set_row (by omega)] at hrow1
      have hls1 := hls.same (ho1 0 g0')
      refine hls1.get hF1 (by omega) (by omega) fun a57 hc1 hc2 => ⟨_, _, hc1, hc2, ?_⟩
      have next : ∀ (A48 : Option Addr) (n49 n50 : Nat) (A51 : Option Nat) (w60 : World) (F : FamF) (xs' : List IP) (v : Int), Fam w w60 F → GP F 0 A48 n49 n50 xs' → NumMap F 1 KT.pair pairV A51 xs' → GII F 2 g10 A28 n29 n30 rows → GSl F 3 A31 n32 n33 (bools fins) →
          GSl F (g10 rows.length) (some ⟨n36, 0, none⟩) X.letters.toNat X.letters.toNat (ints (cur ++ [v] ++ List.replicate ((X.letters - x39).toNat - 1) 0)) → Part X first xs' (rows ++ [cur ++ [v]]) → fins = (xs'.take rows.length).map X.fin → rows.length < xs'.length →
          J96_5 n49 most R l s A n c B m d lb sb Ab nb cb Bb mb db g gx w60 (I38P X first most w rows fins n36 A28 n29 n30 A31 n32 n33) x39 x40 x41 A42 n43 n44 A45 n46 n47 A48 n50 A51 (X.letters - x39).toNat := by
        intro A48 n49 n50 A51 w60 F xs' v hF hls hmp hrows hfins hrow hpart hfe hlt
        have n49' : n49 = xs'.length := hls.len
        refine condK_dec (fun hgt => hfail w60 xs' hF.base hpart.nodup hpart.from_ (by omega)) fun hng => ?_
        rw [wrap_id (by omega) (by omega)]
        refine ⟨⟨F, xs', cur ++ [v], hF, hls, hmp, hrows, hfins, ?_, by simp; omega, hpart, hfe, hlt, by omega, by omega, by omega⟩, by simp only [I38P]; omega⟩
        rw [show (X.letters - (x39 + 1)).toNat = (X.letters - x39).toNat - 1 by omega]; exact hrow
      refine hnext w55 _ x39 _ hF1.base hfrom h390 hltx fun y => ⟨fun hnone => ?_, fun hsome => ?_⟩
      · refine ⟨y.1, y.2, false, rfl, rfl, fun _ => ?_⟩
        exact next _ _ _ _ _ F1 xs (-1) hF1 hls1 (hmp.same (ho1 1 g1')) (hrows.keep ho1 g2' gt') (hfins.keep ho1 g3') hrow1 (hpart.none hx (by rw [hcur]; exact hnone)) hfe hlt
      · refine ⟨y.1, y.2, true, rfl, rfl, fun _ => ?_⟩
        refine c57 (x := y) hF1 hls1 (hmp.same (ho1 1 g1')) (by omega) (fun k hk => ?_) fun hy F2 w2 A2 c2 r2 ho2 hF2 hls2 hmp2 => ?_
        · refine ⟨k, rfl, _, _, _, _, rfl, ?_⟩
          refine hrow1.set_int hF1 h390 (by simp; omega) fun F3 w72 ho3 hF3 hrow3 => ?_
          rw [show x39.toNat = cur.length by omega, set_row2] at hrow3
          exact next _ _ _ _ _ F3 xs k hF3 (hls1.same (ho3 0 g0')) ((hmp.same (ho1 1 g1')).same (ho3 1 g1')) ((hrows.keep ho1 g2' gt').keep ho3 g2' gt') ((hfins.keep ho1 g3').keep ho3 g3') hrow3 (hpart.old hx (by rw [hcur]; exact hsome) hk) hfe hlt
        · refine ⟨xs.length, rfl, _, _, _, _, rfl, ?_⟩
          have e2 : ∀ j, 2 ≤ j → F2 j = F1 j := fun j hj => ho2 j (by omega) (by omega)
          have hrow2 := hrow1.same (e2 (g10 rows.length) (by unfold g10; omega))
          refine hrow2.set_int hF2 h390 (by simp; omega) fun F3 w72 ho3 hF3 hrow3 => ?_
          rw [show x39.toNat = cur.length by omega, set_row2] at hrow3
          refine next _ _ _ _ _ F3 (xs ++ [y]) xs.length hF3 (hls2.same (ho3 0 g0')) (hmp2.same (ho3 1 g1')) (((hrows.keep ho1 g2' gt').same (e2 2 (by decide)) fun t _ => e2 _ (by unfold g10; omega)).keep ho3 g2' gt') (((hfins.keep ho1 g3').same (e2 3 (by decide))).keep ho3 g3') hrow3
            (hpart.fresh hx (by rw [hcur]; exact hsome) (by omega) hy) (by rw [List.take_append_of_le_length (by omega)]; exact hfe) (by simp; omega)
    · have hcl : (X.letters - x39).toNat = 0 := by omega
      rw [hcl, List.replicate_zero, List.append_nil] at hrow
      refine hrows.pushRow hrow hF (fun t => g10_ne (by decide)) (by omega) fun F1 A75 c77 w78 ho1 hF1 hrows1 => ?_
      have hls1 := hls.same (ho1 0 (by decide))
      refine hls1.get hF1 (by omega) (by omega) fun a83 hc1 hc2 => ⟨_, _, hc1, hc2, ?_⟩
      refine hend w78 _ _ hF1.base hfrom ⟨_, rfl, rfl, ?_⟩
      have n32' : n32 = fins.length := by rw [hfins.len, bools_len]
      have hfl : fins.length = rows.length := by rw [hfe, List.length_map, List.length_take]; omega
      refine (hfins.keep ho1 (by decide)).push_bool hF1 (by omega) fun F2 A87 c89 w90 ho2 hF2 hfins2 => ?_
      rw [wrap_id (by omega) (by omega)]
      refine ⟨⟨F2, xs, rows ++ [cur], _, hF2, hls1.same (ho2 0 (by decide)), (hmp.same (ho1 1 (by decide))).same (ho2 1 (by decide)), hrows1.keep ho2 (by decide) (fun t _ => g10_ne (by decide)), hfins2, rfl, rfl, hpart, fun row hr => ?_, ?_, by simp, by simp; omega, hmost⟩, by simp only [I12P]; omega⟩
      · rcases List.mem_append.1 hr with hr | hr
        · exact hlen row hr
        · rw [List.mem_singleton] at hr; subst hr; omega
      · rw [List.length_append, List.length_singleton, List.take_add_one, hx, hfe]; simp
  · have hl2 : rows.length = xs.length := by omega
    refine hok w34 ⟨X.letters, 0, rows, fins⟩ _ _ _ _ _ _ xs ⟨F, _, _, _, _, _, _, rfl, hF, hrows, hfins⟩ ⟨hpart, rfl, hL0, rfl, hl2, hlen, by rw [hfe, hl2, List.take_length]⟩ hmost

theorem c66 {st : Bool} {g gx : Nat} {w : World} {a b : Mach} {v u : Value} {R : Res} (hg : IsKf st g) (hgx : IsKf st gx) (ha : MachAt w a v) (hb : MachAt w b u) (la : a.Lim) (lb : b.Lim) (few : ((a.next.length : Int) + 1) * (b.next.length + 1) ≤ 4000)
    (bad : fitc a b ≠ 0 → R (.tuple (Array.mk [zeroV, .int .i64 (fitc a b)])) [] w)
    (ok : fitc a b = 0 → ∀ w' mm v', MachNew w w' mm v' → IsJoin st a b mm → (mm.next.length : Int) ≤ (a.next.length + 1) * (b.next.length + 1) → R (.tuple (Array.mk [v', .int .i64 0])) [] w') :
    CallsI Try.prog 66 [v, u, .func (.func g) #[] #[], .func (.func gx) #[] #[]] w [] R := by
  have ha0 := ha; have hb0 := hb
  obtain ⟨A, n, c, B, k, d, rfl⟩ := ha.form
  obtain ⟨A', n', c', B', k', d', rfl⟩ := hb.form
  refine s66 _ _ _ _ _ _ _ _ _ _ _ _ _ _ _ _ _ _ _ _ fun n1 n2 n3 n4 _ => c55 ha0 hb0 la lb ⟨_, rfl, rfl, ?_⟩
  refine condK_bne (fun h => bad h) fun hfit => ?_
  obtain ⟨hva, hvb, hlet⟩ := fitc_ok.1 hfit
  have ok := ok hfit
  have hL := hva.letters
  have nA := hva.next; have nB := hvb.next
  refine c54 ha0 hva.shaped la.next (by omega) fun w9 ma va hma hla hna => ?_
  have hma0 := hma.at_
  have hE9 := hma.below
  obtain ⟨A12, n13, n14, A15, n16, n17, rfl⟩ := hma0.form
  refine ⟨_, _, _, _, _, _, _, _, rfl, rfl, ?_⟩
  refine c54 (hb0.ext hE9) hvb.shaped lb.next (by omega) fun w20 mb vb hmb hlb hnb => ?_
  have hmb0 := hmb.at_
  have hE20 := hmb.below
  obtain ⟨A23, n24, n25, A26, n27, n28, rfl⟩ := hmb0.form
  have hma1 := hma0.ext hE20
  refine ⟨_, _, _, _, _, _, _, _, rfl, rfl, ?_⟩
  have hsa := hla.shaped; have hsb := hlb.shaped
  have hletm : ma.letters = mb.letters := by rw [hla.letters, hlb.letters, hlet]
  have hE : Ext w w20 := hE9.trans' hE20
  have hsize : ((ma.next.length : Int) + 1) * (mb.next.length + 1) ≤ (a.next.length + 1) * (b.next.length + 1) := Int.mul_le_mul (by omega) (by omega) (by omega) (by omega)
  have hla1 : (ma.letters : Int) = a.letters := hla.letters
  refine hg _ _ _ _ ⟨_, rfl, rfl, ?_⟩
  have hkf := okP_kf (st := st) (p := (ma.start, mb.start))
  have h0L := hsa.letters
  cases hst : kf st (decide (0 ≤ ma.start)) (decide (0 ≤ mb.start)) with
  | false =>
    have hno : ¬ okP st (ma.start, mb.start) := fun h => by rw [hkf.1 h] at hst; cases hst
    refine condK_of (fun _ => ?_) fun h => by cases h
    refine c84 ⟨_, _, _, _, _, _, _, _, rfl, rfl, ?_⟩
    exact ok w20 (noneM ma.letters) _ (noneM_new hE _) ((none_join hno (noneM_least h0L)).of hla hlb) (by simp [noneM]; exact Int.mul_nonneg (by omega) (by omega))
  | true =>
    have hok : okP st (ma.start, mb.start) := hkf.2 hst
    refine condK_of (fun h => by cases h) fun _ => ?_
    refine c96 (X := pairAuto st ma mb (finP st ma mb)) (first := (ma.start, mb.start)) h0L (show ma.letters ≤ _ by omega) (by decide) (by decide) (fun w' q x R' hEw hq hx0 hx1 hr => ?_) (fun w' q R' hEw hq hr => ?_) (fun w' mm A1 n1 c1 B1 k1 d1 xs hnew hmade hle => ?_) fun w' xs hEw hnd hfr hgt => ?_
    · have hrg := from_rng hsa hsb hq
      exact c97 hg (hma1.ext hEw) (hmb0.ext hEw) hsa hsb hletm hrg.1.2 hrg.2.2 ⟨hx0, hx1⟩ (finP st ma mb) hr
    · have hrg := from_rng hsa hsb hq
      exact c98 hgx (hma1.ext hEw) (hmb0.ext hEw) hsa hsb hrg.1.2 hrg.2.2 hr
    · refine ⟨_, _, _, _, _, _, _, _, _, rfl, rfl, fun _ => ?_⟩
      refine condK_of (fun h => by cases h) fun _ => ?_
      have hpairs := hmade.pairs hsa hsb
      have hml : mm.letters = ma.letters := hmade.letters
      have hms : mm.start = 0 := hmade.start
      have hat := hnew.at_
      refine c54 hat hmade.shaped (by omega) (by omega) fun w62 mz vz hmz hlz hnz => ?_
      have hz0 := hmz
      obtain ⟨_, A65, n66, n67, A68, n69, n70, rfl, _, hgi, _⟩ := hmz
      have hn66 := hgi.len
      refine ⟨_, _, _, _, _, _, _, _, rfl, rfl, fun _ => ?_⟩
      refine condK_dec (fun h => by omega) fun _ => ?_
      exact ok w62 mz _ (hz0.after (hE.trans' hnew.below)) ((hmade.join hsa hsb hletm hlz).of hla hlb) (by omega)
    · have := pairs_bound (A := ma.next.length) (B := mb.next.length) hnd fun p hp => from_rng hsa hsb (hfr p hp)
      omega
theorem c34 {w : World} {a b : Mach} {v u : Value} {R : Res} (ha : MachAt w a v) (hb : MachAt w b u) (la : a.Lim) (lb : b.Lim) (few : ((a.next.length : Int) + 1) * (b.next.length + 1) ≤ 4000)
    (bad : fitc a b ≠ 0 → R (.tuple (Array.mk [zeroV, .int .i64 (fitc a b)])) [] w)
    (ok : fitc a b = 0 → ∀ w' mm v', MachNew w w' mm v' → IsJoin false a b mm → (mm.next.length : Int) ≤ (a.next.length + 1) * (b.next.length + 1) → R (.tuple (Array.mk [v', .int .i64 0])) [] w') :
    CallsI Try.prog 34 [v, u] w [] R := by
  have ha0 := ha; have hb0 := hb
  obtain ⟨A, n, c, B, k, d, rfl⟩ := ha.form
  obtain ⟨A', n', c', B', k', d', rfl⟩ := hb.form
  refine s34 _ _ _ _ _ _ _ _ _ _ _ _ _ _ _ _ _ _ fun _ _ _ => c66 (st := false) (fun _ _ _ _ h => c67 h) (fun _ _ _ _ h => c67 h) ha0 hb0 la lb few (fun h => ⟨_, _, _, _, _, _, _, _, _, rfl, rfl, bad h⟩) fun h w' mm v' hnew hj hl => ?_
  have ok := ok h w' mm v' hnew hj hl
  obtain ⟨_, _, _, _, _, _, _, rfl, _⟩ := hnew
  exact ⟨_, _, _, _, _, _, _, _, _, rfl, rfl, ok⟩
theorem c37 {w : World} {a b : Mach} {v u : Value} {R : Res} (ha : MachAt w a v) (hb : MachAt w b u) (la : a.Lim) (lb : b.Lim) (few : ((a.next.length : Int) + 1) * (b.next.length + 1) ≤ 4000)
    (bad : fitc a b ≠ 0 → R (.tuple (Array.mk [zeroV, .int .i64 (fitc a b)])) [] w)
    (ok : fitc a b = 0 → ∀ w' mm v', MachNew w w' mm v' → IsJoin true a b mm → (mm.next.length : Int) ≤ (a.next.length + 1) * (b.next.length + 1) → R (.tuple (Array.mk [v', .int .i64 0])) [] w') :
    CallsI Try.prog 37 [v, u] w [] R := by
  have ha0 := ha; have hb0 := hb
  obtain ⟨A, n, c, B, k, d, rfl⟩ := ha.form
  obtain ⟨A', n', c', B', k', d', rfl⟩ := hb.form
  refine s37 _ _ _ _ _ _ _ _ _ _ _ _ _ _ _ _ _ _ fun _ _ _ => c66 (st := true) (fun _ _ _ _ h => c69 h) (fun _ _ _ _ h => c69 h) ha0 hb0 la lb few (fun h => ⟨_, _, _, _, _, _, _, _, _, rfl, rfl, bad h⟩) fun h w' mm v' hnew hj hl => ?_
  have ok := ok h w' mm v' hnew hj hl
  obtain ⟨_, _, _, _, _, _, _, rfl, _⟩ := hnew
  exact ⟨_, _, _, _, _, _, _, _, _, rfl, rfl, ok⟩
end Go.Proofs.Ytnkpjlhbojjneaa.VC

/- Two families of owned memory as one; machines in it, written over. -/
namespace Go.Proofs.Ytnkpjlhbojjneaa.VC
open Go Go.RowKit

/-- both families: the one at the even places, the other at the odd ones -/
def J2 (F1 F2 : FamF) : FamF := fun j => if j % 2 = 0 then F1 (j / 2) else F2 (j / 2)
theorem J2_even (F1 F2 : FamF) (i : Nat) : J2 F1 F2 (2 * i) = F1 i := by
  unfold J2; rw [if_pos (by omega), show 2 * i / 2 = i by omega]
theorem J2_odd (F1 F2 : FamF) (i : Nat) : J2 F1 F2 (2 * i + 1) = F2 i := by
  unfold J2; rw [if_neg (by omega), show (2 * i + 1) / 2 = i by omega]
theorem Fam.join {w0 w1 w2 : World} {F1 F2 : FamF} (h1 : Fam w0 w1 F1) (h2 : Fam w1 w2 F2) : Fam w0 w2 (J2 F1 F2) := by
  have h1' := h1.ext h2.base
  have lt1 : ∀ {i b c}, F1 i = some (b, c) → b < w1.heap.size := fun e => (h1.own _ _ _ e).1.lt
  have le2 : ∀ {i b c}, F2 i = some (b, c) → w1.heap.size ≤ b := fun e => (h2.own _ _ _ e).2
  refine ⟨h1'.base, fun i b c e => ?_, fun i j b c d e e' => ?_⟩
  · unfold J2 at e
    split at e
    · exact h1'.own _ b c e
    · exact ⟨(h2.own _ b c e).1, Nat.le_trans h1.base.size (le2 e)⟩
  · unfold J2 at e e'
    split at e
    · split at e'
      · have := h1.inj _ _ _ _ _ e e'; omega
      · have := lt1 e; have := le2 e'; omega
    · split at e'
      · have := le2 e; have := lt1 e'; omega
      · have := h2.inj _ _ _ _ _ e e'; omega
theorem GSl.even {F1 F2 : FamF} {i : Nat} {A : Option Addr} {n c : Nat} {xs : List Value} (h : GSl F1 i A n c xs) : GSl (J2 F1 F2) (2 * i) A n c xs := by
  unfold GSl at *; rw [J2_even]; exact h
theorem GSl.odd {F1 F2 : FamF} {i : Nat} {A : Option Addr} {n c : Nat} {xs : List Value} (h : GSl F2 i A n c xs) : GSl (J2 F1 F2) (2 * i + 1) A n c xs := by
  unfold GSl at *; rw [J2_odd]; exact h

/-- a machine at the places e of a family -/
def MachIn (F : FamF) (e : Nat → Nat) (m : Mach) (v : Value) : Prop :=
  ∃ A n c B k d, v = .agg #[.int .i64 m.letters, .int .i64 m.start, .slice A n c, .slice B k d] ∧ GII F (e 2) (fun t => e (g10 t)) A n c m.next ∧ GSl F (e 3) B k d (bools m.fin)
theorem MachNew.in_ {w w' : World} {m : Mach} {v : Value} (h : MachNew w w' m v) : ∃ F, Fam w w' F ∧ MachIn F id m v := by
  obtain ⟨F, A, n, c, B, k, d, rfl, hF, h1, h2⟩ := h
  exact ⟨F, hF, A, n, c, B, k, d, rfl, h1, h2⟩
section
variable {w0 w w' : World} {F F' F1 F2 : FamF} {e : Nat → Nat} {m : Mach} {v : Value}
theorem MachIn.even (h : MachIn F1 e m v) : MachIn (J2 F1 F2) (fun t => 2 * e t) m v := by
  obtain ⟨A, n, c, B, k, d, rfl, ⟨hs, h1, h2, h3⟩, h4⟩ := h
  refine ⟨A, n, c, B, k, d, rfl, ⟨hs, h1.even, h2, fun t h xs ht hx => ?_⟩, h4.even⟩
  obtain ⟨A', n', c', e1, h5⟩ := h3 t h xs ht hx
  exact ⟨A', n', c', e1, h5.even⟩
theorem MachIn.odd (h : MachIn F2 e m v) : MachIn (J2 F1 F2) (fun t => 2 * e t + 1) m v := by
  obtain ⟨A, n, c, B, k, d, rfl, ⟨hs, h1, h2, h3⟩, h4⟩ := h
  refine ⟨A, n, c, B, k, d, rfl, ⟨hs, h1.odd, h2, fun t h xs ht hx => ?_⟩, h4.odd⟩
  obtain ⟨A', n', c', e1, h5⟩ := h3 t h xs ht hx
  exact ⟨A', n', c', e1, h5.odd⟩
theorem MachIn.at_ (h : MachIn F e m v) (hF : Fam w0 w F) : MachAt w m v := by
  obtain ⟨A, n, c, B, k, d, rfl, h1, h2⟩ := h
  exact ⟨_, _, rfl, h1.slii hF, h2.slb hF⟩
theorem MachIn.keep {j : Nat} (h : MachIn F e m v) (ho : Only j F F') (hj : ∀ t, e t ≠ j) : MachIn F' e m v := by
  obtain ⟨A, n, c, B, k, d, rfl, h1, h2⟩ := h
  exact ⟨A, n, c, B, k, d, rfl, h1.keep ho (hj 2) (fun t _ => hj _), h2.keep ho (hj 3)⟩
/-- what two machines of one shape have in common -/
structure Like (a b : Mach) : Prop where
  letters : a.letters = b.letters
  start : a.start = b.start
  len : a.next.length = b.next.length
  rows : ∀ i : Int, (gl a.next i).length = (gl b.next i).length
  fin : a.fin.length = b.fin.length
theorem Like.refl (a : Mach) : Like a a := ⟨rfl, rfl, rfl, fun _ => rfl, rfl⟩
theorem Like.setFin {a b : Mach} (h : Like a b) (x : Nat) (t : Bool) : Like { a with fin := a.fin.set x t } b := ⟨h.letters, h.start, h.len, h.rows, by simp [h.fin]⟩
theorem Like.setEl {a b : Mach} (h : Like a b) {x y : Int} (h0 : 0 ≤ x) (h1 : x < a.next.length) (t : Int) : Like { a with next := a.next.set x.toNat ((gl a.next x).set y.toNat t) } b :=
  ⟨h.letters, h.start, by simp [h.len], fun i => by
    rw [← h.rows i]
    rcases ilt i 0 with hi | hi
    · have e : i.toNat = (0 : Int).toNat := by omega
      show (gl (a.next.set x.toNat _) i).length = _
      unfold gl
      rw [e]
      by_cases hx : x = 0
      · subst hx
        simp [List.getD_eq_getElem?_getD, show 0 < a.next.length by omega]
      · simp [List.getD_eq_getElem?_getD, show ¬ x.toNat = 0 by omega]
    · show (gl (a.next.set x.toNat _) i).length = _
      rw [gl_set h0 h1 hi]
      split
      · rename_i e; rw [e]; simp
      · rfl, h.fin⟩
/-- an accepting state is written over -/
theorem MachIn.setFin {l s : Int} {A : Option Addr} {n c : Nat} {B : Option Addr} {k d : Nat} (h : MachIn F e m (.agg #[.int .i64 l, .int .i64 s, .slice A n c, .slice B k d])) (hF : Fam w0 w F) (he : ∀ i j, e i = e j → i = j) {x : Int} {t : Bool} (h0 : 0 ≤ x) (h1 : x < m.fin.length) {K : World → Prop}
    (hk : ∀ F' w', Only (e 3) F F' → Fam w0 w' F' → MachIn F' e { m with fin := m.fin.set x.toNat t } (.agg #[.int .i64 l, .int .i64 s, .slice A n c, .slice B k d]) → K w') : IxV B k 1 x fun a => SetK w a (.bool t) K := by
  obtain ⟨A', n', c', B', k', d', e1, h2, h3⟩ := h
  simp only [Value.agg.injEq, Array.mk.injEq, List.cons.injEq, Value.int.injEq, Value.slice.injEq, true_and, and_true] at e1
  obtain ⟨rfl, rfl, ⟨rfl, rfl, rfl⟩, rfl, rfl, rfl⟩ := e1
  refine h3.set_bool hF h0 h1 fun F2 w2 ho hF2 hs2 => hk F2 w2 ho hF2 ⟨A, n, c, B, k, d, rfl, h2.keep ho (fun h => by have := he _ _ h; omega) fun t _ h => by have := he _ _ h; unfold g10 at this; omega, hs2⟩
theorem MachIn.getFin {l s : Int} {A : Option Addr} {n c : Nat} {B : Option Addr} {k d : Nat} (h : MachIn F e m (.agg #[.int .i64 l, .int .i64 s, .slice A n c, .slice B k d])) (hF : Fam w0 w F) {x : Int} (h0 : 0 ≤ x) (h1 : x < m.fin.length) {K : Bool → Prop}
    (hk : K (gb m.fin x)) : IxV B k 1 x fun a => ∃ t, w.cell? a = some (.bool t) ∧ K t := by
  obtain ⟨A', n', c', B', k', d', e1, h2, h3⟩ := h
  simp only [Value.agg.injEq, Array.mk.injEq, List.cons.injEq, Value.int.injEq, Value.slice.injEq, true_and, and_true] at e1
  obtain ⟨rfl, rfl, ⟨rfl, rfl, rfl⟩, rfl, rfl, rfl⟩ := e1
  exact h3.get_bool hF h0 h1 hk
/-- an entry of a row is written over -/
theorem MachIn.setEl {l s : Int} {A : Option Addr} {n c : Nat} {B : Option Addr} {k d : Nat} (h : MachIn F e m (.agg #[.int .i64 l, .int .i64 s, .slice A n c, .slice B k d])) (hF : Fam w0 w F) (he : ∀ i j, e i = e j → i = j) {x y t : Int} (h0 : 0 ≤ x) (h1 : x < m.next.length) (y0 : 0 ≤ y) (y1 : y < (gl m.next x).length) {K : World → Prop}
    (hk : ∀ F' w', Only (e (g10 x.toNat)) F F' → Fam w0 w' F' → MachIn F' e { m with next := m.next.set x.toNat ((gl m.next x).set y.toNat t) } (.agg #[.int .i64 l, .int .i64 s, .slice A n c, .slice B k d]) → K w') :
    IxV A n 1 x fun a => ∃ A' n' c', w.cell? a = some (.slice A' n' c') ∧ IxV A' n' 1 y fun a => SetK w a (.int .i64 t) K := by
  obtain ⟨A', n', c', B', k', d', e1, h2, h3⟩ := h
  simp only [Value.agg.injEq, Array.mk.injEq, List.cons.injEq, Value.int.injEq, Value.slice.injEq, true_and, and_true] at e1
  obtain ⟨rfl, rfl, ⟨rfl, rfl, rfl⟩, rfl, rfl, rfl⟩ := e1
  refine h2.setEl hF h0 h1 y0 y1 (fun t _ => ⟨fun h => by have := he _ _ h; unfold g10 at this; omega, fun h => by have := he _ _ h; unfold g10 at this; omega⟩) fun F2 w2 ho hF2 hs2 => hk F2 w2 ho hF2 ⟨A, n, c, B, k, d, rfl, hs2, h3.keep ho fun h => by have := he _ _ h; unfold g10 at this; omega⟩
end
end Go.Proofs.Ytnkpjlhbojjneaa.VC

/- A machine written otherwise, of any number of states. -/
namespace Go.Proofs.Ytnkpjlhbojjneaa.VC
open Go Go.RowKit

/-- the other machine, as far as the state x (rows till z, entries of x till y) -/
structure RBg (m : Mach) (b x z y : Int) (nx : List (List Int)) (fn : List Bool) : Prop where
  nxl : nx.length = 2 * m.next.length
  fnl : fn.length = 2 * m.next.length
  len : ∀ i : Int, 0 ≤ i → i < z → ((gl nx (tau (2 * m.next.length) b i)).length : Int) = m.letters
  ent : ∀ i k : Int, 0 ≤ i → i < 2 * m.next.length → m.Let k → (i < x ∨ i = x ∧ k < y) → EntR m b i k (gi (gl nx (tau (2 * m.next.length) b i)) k)
  ends : ∀ i : Int, 0 ≤ i → i < z → gb fn (tau (2 * m.next.length) b i) = m.ends (i % m.next.length)
section
variable {m : Mach} {b x y : Int} {nx : List (List Int)} {fn : List Bool}
theorem RBg.init {n : Nat} (h : n = 2 * m.next.length) : RBg m b 0 0 0 (List.replicate n []) (List.replicate n false) :=
  ⟨by simp [h], by simp [h], fun i h0 h1 => by omega, fun i k h0 _ hk h => by have := hk.1; omega, fun i h0 h1 => by omega⟩
theorem RBg.row (h : RBg m b x x 0 nx fn) (h0 : 0 ≤ x) (h1 : x < 2 * m.next.length) {row : List Int} (hr : (row.length : Int) = m.letters) :
    RBg m b x (x + 1) 0 (nx.set (tau (2 * m.next.length) b x).toNat row) (fn.set (tau (2 * m.next.length) b x).toNat (m.ends (x % m.next.length))) := by
  have hN : (0 : Int) < 2 * m.next.length := by omega
  have t := tau_rng (N := 2 * m.next.length) (b := b) (i := x) hN
  have e1 := h.nxl; have e2 := h.fnl
  refine ⟨by rw [List.length_set]; exact e1, by rw [List.length_set]; exact e2, fun i i0 i1 => ?_, fun i k i0 i1 hk hp => ?_, fun i i0 i1 => ?_⟩
  · rw [gl_set t.1 (by omega) (tau_rng hN).1]
    split
    · exact hr
    · rename_i hne
      exact h.len i i0 (by by_cases e : i = x; (subst e; exact absurd rfl hne); omega)
  · have : i < x := by rcases hp with hp | ⟨_, hp⟩; exact hp; have := hk.1; omega
    rw [gl_set t.1 (by omega) (tau_rng hN).1, if_neg fun e => by have := tau_inj i0 i1 h0 h1 e; omega]
    exact h.ent i k i0 i1 hk (.inl this)
  · rw [gb_set t.1 (by omega) (tau_rng hN).1]
    split
    · rename_i e
      have : i = x := tau_inj i0 (by omega) h0 h1 e
      rw [this]
    · rename_i hne
      exact h.ends i i0 (by by_cases e : i = x; (subst e; exact absurd rfl hne); omega)
theorem RBg.set (h : RBg m b x (x + 1) y nx fn) (h0 : 0 ≤ x) (h1 : x < 2 * m.next.length) (hy : m.Let y) {v : Int} (hv : EntR m b x y v) :
    RBg m b x (x + 1) (y + 1) (nx.set (tau (2 * m.next.length) b x).toNat ((gl nx (tau (2 * m.next.length) b x)).set y.toNat v)) fn := by
  have hN : (0 : Int) < 2 * m.next.length := by omega
  have t := tau_rng (N := 2 * m.next.length) (b := b) (i := x) hN
  have e1 := h.nxl
  have hl := h.len x h0 (by omega)
  unfold Mach.Let at hy
  refine ⟨by rw [List.length_set]; exact e1, h.fnl, fun i i0 i1 => ?_, fun i k i0 i1 hk hp => ?_, h.ends⟩
  · rw [gl_set t.1 (by omega) (tau_rng hN).1]
    split
    · rw [List.length_set]; exact hl
    · exact h.len i i0 i1
  · rw [gl_set t.1 (by omega) (tau_rng hN).1]
    split
    · rename_i e
      have : i = x := tau_inj i0 i1 h0 h1 e
      subst this
      rw [gi_set hy.1 (by omega) hk.1]
      split
      · rename_i e; subst e; exact hv
      · exact h.ent i k i0 i1 hk (by omega)
    · rename_i hne
      have : i ≠ x := fun e => hne (by rw [e])
      exact h.ent i k i0 i1 hk (by omega)
theorem RBg.next (h : RBg m b x (x + 1) y nx fn) (hy : m.letters ≤ y) : RBg m b (x + 1) (x + 1) 0 nx fn :=
  ⟨h.nxl, h.fnl, h.len, fun i k i0 i1 hk hp => h.ent i k i0 i1 hk (by have := hk.1; have := hk.2; omega), h.ends⟩
theorem RBg.done (h : RBg m b (2 * m.next.length) (2 * m.next.length) 0 nx fn) : Ren m ⟨m.letters, tau (2 * m.next.length) b m.start, nx, fn⟩ b :=
  ⟨rfl, by simp only []; rw [h.nxl]; omega, by simp only []; rw [h.nxl, h.fnl], rfl, h.len, fun i k i0 i1 hk => h.ent i k i0 i1 hk (.inl i1), h.ends⟩
end
set_option maxHeartbeats 4000000 in
theorem c25g {w : World} {m : Mach} {v cv : Value} {b : Int} {cs : List Bool} {R : Res} (hm : MachAt w m v) (hsh : m.Shaped) (hn30 : m.next.length ≤ 4000) (hl8 : m.letters ≤ 300) (hb0 : 0 ≤ b) (hb1 : b ≤ 255) (hc : SlB w cv cs)
    (hR : ∀ w' r v', MachNew w w' r v' → r.Shaped → r.letters = m.letters → (r.next.length : Int) = 2 * m.next.length → (∀ u, r.acc r.start u = m.acc m.start u) → R v' [] w') : CallsI Try.prog 25 [v, .int .u8 b, cv] w [] R := by
  obtain ⟨_, _, rfl, ⟨A, c, hs, rfl, hA, hl, hx⟩, ⟨B, d, rfl, hB⟩⟩ := hm
  obtain ⟨C, e, rfl, hC⟩ := hc
  have hL0 := hsh.letters; have hfin := hsh.fin
  have hstr := hsh.start_range
  have e2 : IntKind.i64.wrap (2 * (m.next.length : Int)) = 2 * (m.next.length : Int) := wrap_id (by omega) (by omega)
  have ew : IntKind.i64.wrap b = b := wrap_id (by omega) (by omega)
  have eN : (2 * (m.next.length : Int)).toNat = 2 * m.next.length := by omega
  refine s25 _ _ _ _ _ _ _ _ _ _ _ _ _ _ fun _ _ => ?_
  rw [e2]
  have main : ∀ (w6 : World) (F : FamF) (n3 n5 : Nat), Fam w w6 F → GII F 2 g10 (some ⟨n3, 0, none⟩) (2 * (m.next.length : Int)).toNat (2 * (m.next.length : Int)).toNat (List.replicate (2 * (m.next.length : Int)).toNat []) → GSl F 3 (some ⟨n5, 0, none⟩) (2 * (m.next.length : Int)).toNat (2 * (m.next.length : Int)).toNat (bools (List.replicate (2 * (m.next.length : Int)).toNat false)) →
      J25_34 m.next.length R m.letters w6 n3 b B m.fin.length n5 A cs.length C m.start := by
    intro w6 F n3 n5 hF hG2 hG3
    rw [J25_34, e2]
    refine condK_beq (fun h0 => ?_) fun hne => ?_
    · refine hR w6 (noneM m.letters) _ (noneM_new hF.base _) (noneM_canon hL0).shaped rfl (by simp [noneM]; omega) fun u => ?_
      have := hsh.start.1 (by omega)
      rw [noneM_acc, this, Mach.acc_neg (by decide)]
    have hN : (0 : Int) < 2 * m.next.length := by omega
    refine ⟨fun x9 x10 => ⟨fun w11 => ∃ F nx fn, Fam w w11 F ∧ GII F 2 g10 (some ⟨n3, 0, none⟩) (2 * (m.next.length : Int)).toNat (2 * (m.next.length : Int)).toNat nx ∧ GSl F 3 (some ⟨n5, 0, none⟩) (2 * (m.next.length : Int)).toNat (2 * (m.next.length : Int)).toNat (bools fn) ∧ RBg m b x9 x9 0 nx fn ∧ 0 ≤ x9 ∧ x9 ≤ 2 * m.next.length ∧ 0 ≤ x10 ∧ x10 ≤ 300 * x9, fun _ => (2 * m.next.length - x9).toNat⟩,
      ⟨F, _, _, hF, hG2, hG3, RBg.init eN, by omega, by omega, by omega, by omega⟩, ?_⟩
    clear hF hG2 hG3 F w6
    rintro x9 x10 w11 ⟨F, nx, fn, hF, hG2, hG3, hrb, h90, h91, h100, h101⟩ n12 rfl
    refine condK_dec (fun hlt => ?_) fun hge => ?_
    · have hnx := hrb.nxl; have hfn := hrb.fnl
      have et : (IntKind.i64.wrap (x9 + IntKind.i64.wrap b)).tmod (2 * (m.next.length : Int)) = tau (2 * m.next.length) b x9 := by
        rw [ew, wrap_id (by omega) (by omega), Int.tmod_eq_emod_of_nonneg (by omega)]; rfl
      have em : x9.tmod (m.next.length : Int) = x9 % m.next.length := Int.tmod_eq_emod_of_nonneg h90
      have hq0 := Int.emod_nonneg x9 (b := (m.next.length : Int)) (by omega)
      have hq1 := Int.emod_lt_of_pos x9 (b := (m.next.length : Int)) (by omega)
      have ht := tau_rng (N := 2 * m.next.length) (b := b) (i := x9) hN
      rw [et, em]
      refine ⟨by omega, rfl, hL0, by omega, by omega, ?_⟩
      refine hF.mkInts 6 (x := 0) fun n13 F1 w14 hE14 ho1 hF1 hs1 => ?_
      refine GII.putRow (hG2.keep ho1 (by decide) fun t _ => g10_ne (by decide)) hs1 hF1 ht.1 (by omega) (by decide) (fun t _ => ⟨g10_ne (by decide), g10_ne (by decide), fun h => by unfold g10 at h; omega⟩) fun F2 w16 ho2 hg2 hF2 hG2' => ?_
      refine ⟨by omega, ?_⟩
      refine rd_end hF2.base hB hq0 (by omega) (K := fun t18 => IxV _ _ _ _ _) ?_
      have hG3' : GSl F2 3 (some ⟨n5, 0, none⟩) (2 * (m.next.length : Int)).toNat (2 * (m.next.length : Int)).toNat (bools fn) := (hG3.keep ho1 (by decide)).same (ho2 3 (by decide) (Ne.symm (g10_ne (by decide))) (by decide))
      refine GSl.set_bool hG3' hF2 ht.1 (by omega) fun F3 w20 ho3 hF3 hG3'' => ?_
      have hrb1 := hrb.row h90 hlt (row := List.replicate m.letters.toNat 0) (by simp; omega)
      refine ⟨fun x22 x23 => ⟨fun w24 => ∃ F nx, Fam w w24 F ∧ GII F 2 g10 (some ⟨n3, 0, none⟩) (2 * (m.next.length : Int)).toNat (2 * (m.next.length : Int)).toNat nx ∧ GSl F 3 (some ⟨n5, 0, none⟩) (2 * (m.next.length : Int)).toNat (2 * (m.next.length : Int)).toNat (bools (fn.set (tau (2 * m.next.length) b x9).toNat (m.ends (x9 % m.next.length)))) ∧ RBg m b x9 (x9 + 1) x22 nx (fn.set (tau (2 * m.next.length) b x9).toNat (m.ends (x9 % m.next.length))) ∧
          0 ≤ x22 ∧ x22 ≤ m.letters ∧ 0 ≤ x23 ∧ x23 ≤ 300 * x9 + x22, fun _ => (m.letters - x22).toNat⟩,
        ⟨F3, _, hF3, hG2'.keep ho3 (by decide) (fun t _ => g10_ne (by decide)), hG3'', hrb1, by omega, hL0, h100, by omega⟩, ?_⟩
      clear hF hG2 hG3 hF1 ho1 hs1 hF2 ho2 hg2 hG2' hG3' hF3 ho3 hG3'' hrb1 hE14 hnx hrb F F1 F2 F3 nx
      rintro x22 x23 w24 ⟨F, nx, hF, hG2, hG3, hrb, h220, h221, h230, h231⟩ n25 rfl
      have hnx := hrb.nxl
      refine condK_dec (fun hlt2 => ?_) fun hge2 => ?_
      · have hlet : m.Let x22 := ⟨h220, hlt2⟩
        have hsr := hsh.step_range (x9 % m.next.length) x22
        have hrl := hrb.len x9 h90 (by omega)
        have next : ∀ (F5 : FamF) (w5 : World) (z : Int), Fam w w5 F5 → GII F5 2 g10 (some ⟨n3, 0, none⟩) (2 * (m.next.length : Int)).toNat (2 * (m.next.length : Int)).toNat (nx.set (tau (2 * m.next.length) b x9).toNat ((gl nx (tau (2 * m.next.length) b x9)).set x22.toNat z)) → GSl F5 3 (some ⟨n5, 0, none⟩) (2 * (m.next.length : Int)).toNat (2 * (m.next.length : Int)).toNat (bools (fn.set (tau (2 * m.next.length) b x9).toNat (m.ends (x9 % m.next.length)))) → EntR m b x9 x22 z →
            J25_2 (fun x22 x23 => ⟨fun w24 => ∃ F nx, Fam w w24 F ∧ GII F 2 g10 (some ⟨n3, 0, none⟩) (2 * (m.next.length : Int)).toNat (2 * (m.next.length : Int)).toNat nx ∧ GSl F 3 (some ⟨n5, 0, none⟩) (2 * (m.next.length : Int)).toNat (2 * (m.next.length : Int)).toNat (bools (fn.set (tau (2 * m.next.length) b x9).toNat (m.ends (x9 % m.next.length)))) ∧ RBg m b x9 (x9 + 1) x22 nx (fn.set (tau (2 * m.next.length) b x9).toNat (m.ends (x9 % m.next.length))) ∧
          0 ≤ x22 ∧ x22 ≤ m.letters ∧ 0 ≤ x23 ∧ x23 ≤ 300 * x9 + x22, fun _ => (m.letters - x22).toNat⟩) x22 x23 w5 (m.letters - x22).toNat := by
          intro F5 w5 z hF5 h1 h2 hz
          rw [J25_2, wrap_id (x := x22 + 1) (by omega) (by omega), wrap_id (x := x23 + 1) (by omega) (by omega)]
          exact ⟨⟨F5, _, hF5, h1, h2, hrb.set h90 hlt hlet hz, by omega, by omega, by omega, by omega⟩, by simp only []; omega⟩
        -- the store
        have put : ∀ (z : Int), EntR m b x9 x22 z → IxV (some ⟨n3, 0, none⟩) (2 * (m.next.length : Int)).toNat 1 (tau (2 * m.next.length) b x9) fun a => ∃ A' n' c', w24.cell? a = some (.slice A' n' c') ∧ IxV A' n' 1 x22 fun a => SetK w24 a (.int .i64 z) fun w5 =>
            J25_2 (fun x22 x23 => ⟨fun w24 => ∃ F nx, Fam w w24 F ∧ GII F 2 g10 (some ⟨n3, 0, none⟩) (2 * (m.next.length : Int)).toNat (2 * (m.next.length : Int)).toNat nx ∧ GSl F 3 (some ⟨n5, 0, none⟩) (2 * (m.next.length : Int)).toNat (2 * (m.next.length : Int)).toNat (bools (fn.set (tau (2 * m.next.length) b x9).toNat (m.ends (x9 % m.next.length)))) ∧ RBg m b x9 (x9 + 1) x22 nx (fn.set (tau (2 * m.next.length) b x9).toNat (m.ends (x9 % m.next.length))) ∧
          0 ≤ x22 ∧ x22 ≤ m.letters ∧ 0 ≤ x23 ∧ x23 ≤ 300 * x9 + x22, fun _ => (m.letters - x22).toNat⟩) x22 x23 w5 (m.letters - x22).toNat := fun z hz =>
          hG2.setEl hF ht.1 (by omega) h220 (by omega) (fun t _ => ⟨g10_ne (by decide), fun h => by unfold g10 at h; omega⟩) fun F5 w5 ho5 hF5 hG5 => next F5 w5 z hF5 hG5 (hG3.keep ho5 (Ne.symm (g10_ne (by decide)))) hz
        have etm : ∀ z : Int, 0 ≤ z → z ≤ 100000 → (IntKind.i64.wrap (z + IntKind.i64.wrap b)).tmod (2 * (m.next.length : Int)) = tau (2 * m.next.length) b z := fun z z0 z1 => by
          rw [ew, wrap_id (by omega) (by omega), Int.tmod_eq_emod_of_nonneg (by omega)]; rfl
        have plain : J25_16 (m.step (x9 % m.next.length) x22) m.next.length n3 x9 b w24 x22 (fun x22 x23 => ⟨fun w24 => ∃ F nx, Fam w w24 F ∧ GII F 2 g10 (some ⟨n3, 0, none⟩) (2 * (m.next.length : Int)).toNat (2 * (m.next.length : Int)).toNat nx ∧ GSl F 3 (some ⟨n5, 0, none⟩) (2 * (m.next.length : Int)).toNat (2 * (m.next.length : Int)).toNat (bools (fn.set (tau (2 * m.next.length) b x9).toNat (m.ends (x9 % m.next.length)))) ∧ RBg m b x9 (x9 + 1) x22 nx (fn.set (tau (2 * m.next.length) b x9).toNat (m.ends (x9 % m.next.length))) ∧
          0 ≤ x22 ∧ x22 ≤ m.letters ∧ 0 ≤ x23 ∧ x23 ≤ 300 * x9 + x22, fun _ => (m.letters - x22).toNat⟩) x23 (m.letters - x22).toNat := by
          rw [J25_16, e2, et]
          refine condK_dec (fun hp => ⟨by omega, ?_⟩) fun hn => ?_
          · rw [etm _ hp (by omega)]
            exact put _ (.inr ⟨hp, .inl rfl⟩)
          · exact put _ (.inl ⟨by omega, by omega⟩)
        refine ⟨by omega, ?_⟩
        refine rd_step hF.base hA hl hx hsh hq0 hq1 hlet (K := fun x31 => condK _ _ _) ?_
        refine condK_dec (fun hp => ?_) fun _ => plain
        refine condK_dec (fun hk => ?_) fun _ => plain
        refine rd_bool hF.base hC h230 hk (K := fun t33 => condK t33 _ _) ?_
        refine condK_of (fun _ => ?_) fun _ => plain
        rw [wrap_id (x := m.step (x9 % m.next.length) x22 + m.next.length) (by omega) (by omega)]
        refine condK_dec (fun _ => ⟨by omega, ?_⟩) fun h => by omega
        rw [etm _ (by omega) (by omega)]
        exact put _ (.inr ⟨hp, .inr rfl⟩)
      · rw [wrap_id (by omega) (by omega)]
        exact ⟨⟨F, nx, _, hF, hG2, hG3, hrb.next (by omega), by omega, by omega, by omega, by omega⟩, by simp only []; omega⟩
    · have ex : x9 = 2 * m.next.length := by omega
      subst ex
      have hst := hsh.start.2 (by omega)
      have es : (IntKind.i64.wrap (m.start + IntKind.i64.wrap b)).tmod (2 * (m.next.length : Int)) = tau (2 * m.next.length) b m.start := by
        rw [ew, wrap_id (by omega) (by omega), Int.tmod_eq_emod_of_nonneg (by omega)]; rfl
      rw [es]
      have hren := hrb.done
      exact ⟨by omega, hR w11 _ _ ⟨F, _, _, _, _, _, _, rfl, hF, hG2, hG3⟩ (hren.shaped hsh (by omega)) rfl hren.n (hren.words hsh (by omega))⟩
  -- the six orders
  have nil1 : ∀ (K1 : Nat → World → Prop), (∀ F n3 w4, Fam w w4 F → GII F 2 g10 (some ⟨n3, 0, none⟩) (2 * (m.next.length : Int)).toNat (2 * (m.next.length : Int)).toNat (List.replicate (2 * (m.next.length : Int)).toNat []) → K1 n3 w4) →
      NewK w (.cells (Array.mk (List.replicate (2 * (m.next.length : Int)).toNat (.slice none 0 0))) 26 (0, 0)) K1 := fun K1 hK1 =>
    GII.make (Fam.empty w) 2 g10 _ (fun t ht => ⟨g10_ne (by decide), rfl⟩) fun n3 F1 w4 ho1 hF1 hG1 => hK1 F1 n3 w4 hF1 hG1
  have fal1 : ∀ (K1 : Nat → World → Prop), (∀ F n5 w4, Fam w w4 F → GSl F 3 (some ⟨n5, 0, none⟩) (2 * (m.next.length : Int)).toNat (2 * (m.next.length : Int)).toNat (bools (List.replicate (2 * (m.next.length : Int)).toNat false)) → (∀ t, F (g10 t) = none) → K1 n5 w4) →
      NewK w (.cells (Array.mk (List.replicate (2 * (m.next.length : Int)).toNat (.bool false))) 4 (0, 0)) K1 := fun K1 hK1 =>
    (Fam.empty w).mkRow 3 fun n5 F1 w4 ho1 hF1 hG1 => hK1 F1 n5 w4 hF1 (by rw [bools_rep]; simpa using hG1) fun t => by rw [ho1 _ (g10_ne (by decide))]
  have fal2 : ∀ F n3 w4, Fam w w4 F → GII F 2 g10 (some ⟨n3, 0, none⟩) (2 * (m.next.length : Int)).toNat (2 * (m.next.length : Int)).toNat (List.replicate (2 * (m.next.length : Int)).toNat []) → ∀ (K1 : Nat → World → Prop), (∀ n5 w6, J25_34 m.next.length R m.letters w6 n3 b B m.fin.length n5 A cs.length C m.start → K1 n5 w6) →
      NewK w4 (.cells (Array.mk (List.replicate (2 * (m.next.length : Int)).toNat (.bool false))) 4 (0, 0)) K1 := fun F n3 w4 hF hG K1 hK1 =>
    hF.mkRow 3 fun n5 F2 w6 ho2 hF2 hG2 => hK1 n5 w6 (main w6 F2 n3 n5 hF2 (hG.keep ho2 (by decide) fun t _ => g10_ne (by decide)) (by rw [bools_rep]; simpa using hG2))
  have nil2 : ∀ F n5 w4, Fam w w4 F → GSl F 3 (some ⟨n5, 0, none⟩) (2 * (m.next.length : Int)).toNat (2 * (m.next.length : Int)).toNat (bools (List.replicate (2 * (m.next.length : Int)).toNat false)) → (∀ t, F (g10 t) = none) → ∀ (K1 : Nat → World → Prop), (∀ n3 w6, J25_34 m.next.length R m.letters w6 n3 b B m.fin.length n5 A cs.length C m.start → K1 n3 w6) →
      NewK w4 (.cells (Array.mk (List.replicate (2 * (m.next.length : Int)).toNat (.slice none 0 0))) 26 (0, 0)) K1 := fun F n5 w4 hF hG hn K1 hK1 =>
    GII.make hF 2 g10 _ (fun t ht => ⟨g10_ne (by decide), hn t⟩) fun n3 F2 w6 ho2 hF2 hG2 => hK1 n3 w6 (main w6 F2 n3 n5 hF2 hG2 (hG.keep ho2 (by decide)))
  have b0 : (0 : Int) ≤ 2 * m.next.length := by omega
  have b1 : 2 * (m.next.length : Int) * 24 ≤ 281474976710656 := by omega
  have b2 : 2 * (m.next.length : Int) * 1 ≤ 281474976710656 := by omega
  have b3 : 2 * (m.next.length : Int) ≤ 9223372036854775807 := by omega
  refine ⟨⟨rfl, b0, b1, b3, nil1 _ fun F n3 w4 hF hG => ⟨⟨rfl, b0, b2, b3, fal2 F n3 w4 hF hG _ fun n5 w6 hk _ => hk⟩, fun _ => ⟨rfl, b0, b2, b3, fal2 F n3 w4 hF hG _ fun n5 w6 hk => hk⟩⟩⟩,
    ⟨rfl, b0, b2, b3, fal1 _ fun F n5 w4 hF hG hn => ⟨⟨rfl, b0, b1, b3, nil2 F n5 w4 hF hG hn _ fun n3 w6 hk _ => hk⟩, fun _ => ⟨rfl, b0, b1, b3, nil2 F n5 w4 hF hG hn _ fun n3 w6 hk => hk⟩⟩⟩,
    fun _ => ⟨⟨rfl, b0, b1, b3, nil1 _ fun F n3 w4 hF hG => ⟨rfl, b0, b2, b3, fal2 F n3 w4 hF hG _ fun n5 w6 hk => hk⟩⟩,
      rfl, b0, b2, b3, fal1 _ fun F n5 w4 hF hG hn => ⟨rfl, b0, b1, b3, nil2 F n5 w4 hF hG hn _ fun n3 w6 hk => hk⟩⟩⟩

end Go.Proofs.Ytnkpjlhbojjneaa.VC
