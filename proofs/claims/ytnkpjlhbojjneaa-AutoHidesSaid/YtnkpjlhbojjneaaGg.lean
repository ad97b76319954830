/- Contracts of the functions, part one. -/
import Derived.Test.YtnkpjlhbojjneaaGf
import Derived.Test.YtnkpjlhbojjneaaGc
import Derived.Test.YtnkpjlhbojjneaaGd
import Derived.Test.YtnkpjlhbojjneaaGe
/- Which machines are valid, and which words they accept: the small functions of the program and of its reference. -/
namespace Go.Proofs.Ytnkpjlhbojjneaa.VC
open Go Go.RowKit

structure Mach.Valid (m : Mach) : Prop where
  shaped : m.Shaped
  letters : m.letters ≤ 300
  next : m.next.length ≤ 4000
section
open Classical
noncomputable def Mach.code (m : Mach) : Int := if m.Shaped then (if m.letters ≤ 300 ∧ m.next.length ≤ 4000 then 0 else 5) else 1
theorem Mach.code_ok {m : Mach} : m.code = 0 ↔ m.Valid := by
  unfold Mach.code
  constructor
  · intro h
    split at h
    · split at h
      · rename_i h1 h2; exact ⟨h1, h2.1, h2.2⟩
      · omega
    · omega
  · intro h; rw [if_pos h.shaped, if_pos ⟨h.letters, h.next⟩]
noncomputable def Mach.accepts (m : Mach) (u : List Int) : Bool := decide m.Valid && m.acc m.start u
theorem Mach.accepts_not {m : Mach} (h : ¬ m.Valid) (u : List Int) : m.accepts u = false := by unfold Mach.accepts; rw [decide_eq_false h, Bool.false_and]
theorem Mach.accepts_valid {m : Mach} (h : m.Valid) (u : List Int) : m.accepts u = m.acc m.start u := by unfold Mach.accepts; rw [decide_eq_true h, Bool.true_and]
/-- the error of two machines -/
noncomputable def fitc (a b : Mach) : Int := if a.Valid ∧ b.Valid then (if a.letters = b.letters then 0 else 4) else 1
theorem fitc_ok {a b : Mach} : fitc a b = 0 ↔ a.Valid ∧ b.Valid ∧ a.letters = b.letters := by
  unfold fitc
  constructor
  · intro h
    split at h
    · split at h
      · rename_i h1 h2; exact ⟨h1.1, h1.2, h2⟩
      · omega
    · omega
  · intro h; rw [if_pos ⟨h.1, h.2.1⟩, if_pos h.2.2]
end

abbrev Res := Value → List (List Value) → World → Prop
/-- a step, read from the rows -/
theorem ix_step {w : World} {A : Option Addr} {hs : List Value} {m : Mach} (h : Row w A hs) (hl : hs.length = m.next.length) (hx : ∀ (i : Nat) h xs, hs[i]? = some h → m.next[i]? = some xs → SlI w h xs) (hm : m.Shaped)
    {q x : Int} (h0 : 0 ≤ q) (h1 : q < m.next.length) (hlet : m.Let x) {K : Int → Prop} (hk : K (m.step q x)) :
    IxV A m.next.length 1 q fun a => ∃ (A' : Option Addr) (n c : Nat), w.cell? a = some (.slice A' n c) ∧ IxV A' n 1 x fun a => ∃ x', w.cell? a = some (.int .i64 x') ∧ K x' := by
  refine ix_row h hl hx h0 h1 fun a row A' c' hrow hc hr => ⟨_, _, _, hc, ?_⟩
  obtain ⟨row', hrow', hok, hs'⟩ := hm.row h0 h1
  rw [hrow] at hrow'; injection hrow' with e; subst e
  have := hok.len
  refine ix_int hr hlet.1 (by have := hlet.2; omega) fun a t ht hct => ⟨_, hct, ?_⟩
  rw [Mach.step_in hrow h0 hlet.1 ht] at hk; exact hk
theorem ix_end {w : World} {B : Option Addr} {m : Mach} (h : Row w B (bools m.fin)) {q : Int} (h0 : 0 ≤ q) (h1 : q < m.fin.length) {K : Bool → Prop} (hk : K (m.ends q)) :
    IxV B m.fin.length 1 q fun a => ∃ t, w.cell? a = some (.bool t) ∧ K t := by
  refine ix_bool h h0 h1 fun a t ht hc => ⟨_, hc, ?_⟩
  have : m.ends q = t := by simp [Mach.ends, h0, List.getD_eq_getElem?_getD, ht]
  rw [← this]; exact hk

theorem c51 {w : World} {m : Mach} {v : Value} {R : Value → List (List Value) → World → Prop} (hm : MachAt w m v) (hlim : m.Lim) (hR : ∀ b : Bool, (b = true ↔ m.Shaped) → R (.bool b) [] w) : CallsI Try.prog 51 [v] w [] R := by
  obtain ⟨_, _, rfl, ⟨A, c, hs, rfl, hA, hl, hx⟩, ⟨B, d, rfl, hB⟩⟩ := hm
  have no : ∀ (_ : ¬ m.Shaped), R (.bool false) [] w := fun h => hR false ⟨(fun e => by simp at e), fun e => absurd e h⟩
  have hn1 := hlim.next
  refine s51 _ _ _ _ _ _ _ _ _ _ fun _ => ?_
  refine condK_dec (fun h => no fun e => by have := e.letters; omega) fun h0 => ?_
  refine condK_bne (fun h => no fun e => h (by rw [e.fin])) fun hne => ?_
  refine ⟨fun x => ⟨fun w' => w' = w ∧ 0 ≤ x ∧ x ≤ m.next.length ∧ ∀ (i : Nat) row, i < x.toNat → m.next[i]? = some row → m.RowOk row, fun _ => (m.next.length - x).toNat⟩, ⟨rfl, by omega, by omega, fun i row hi => by simp at hi⟩, ?_⟩
  rintro x w' ⟨rfl, hx0, hxn, hI⟩ k rfl
  refine condK_dec (fun hlt => ?_) fun hge => ?_
  · refine ix_row hA hl hx hx0 hlt fun a row A' c' hrow hc hr => ?_
    refine ⟨_, _, _, hc, ?_⟩
    have hmem := List.mem_of_getElem? hrow
    have hn2 := hlim.rows row hmem
    refine condK_bne (fun h => no fun e => h (e.rows row hmem).len) fun hlen => ?_
    refine ⟨fun y => ⟨fun w'' => w'' = w' ∧ 0 ≤ y ∧ y ≤ row.length ∧ ∀ (j : Nat) t, j < y.toNat → row[j]? = some t → -1 ≤ t ∧ t < m.next.length, fun _ => (row.length - y).toNat⟩, ⟨rfl, by omega, by omega, fun i row hi => by simp at hi⟩, ?_⟩
    rintro y w'' ⟨rfl, hy0, hyn, hJ⟩ k rfl
    refine condK_dec (fun hylt => ?_) fun hyge => ?_
    · refine ix_int hr hy0 hylt fun a' t ht hc' => ?_
      refine ⟨_, hc', ?_⟩
      have htm := List.mem_of_getElem? ht
      refine condK_dec (fun h => no fun e => by have := ((e.rows row hmem).to t htm).1; omega) fun h1 => ?_
      refine condK_dec (fun h => no fun e => by have := ((e.rows row hmem).to t htm).2; omega) fun h2 => ?_
      rw [J51_1, wrap_id (by omega) (by omega)]
      refine ⟨⟨rfl, by omega, by omega, fun j t' hj ht' => ?_⟩, by simp only []; omega⟩
      rcases Nat.lt_or_ge j y.toNat with hjy | hjy
      · exact hJ j t' hjy ht'
      · have : j = y.toNat := by omega
        subst this
        rw [ht] at ht'; injection ht' with ht'; subst ht'
        omega
    · rw [J51_1, wrap_id (by omega) (by omega)]
      refine ⟨⟨rfl, by omega, by omega, fun i row' hi hrow' => ?_⟩, by simp only []; omega⟩
      rcases Nat.lt_or_ge i x.toNat with hix | hix
      · exact hI i row' hix hrow'
      · have : i = x.toNat := by omega
        subst this
        rw [hrow] at hrow'; injection hrow' with hrow'; subst hrow'
        exact ⟨by omega, all_idx fun j t hj ht => hJ j t (by omega) ht⟩
  · have hrows : ∀ row ∈ m.next, m.RowOk row := all_idx fun i row hi hr => hI i row (by omega) hr
    refine condK_beq (fun h => ?_) fun h => ?_
    · refine hR _ ⟨fun e => ⟨by omega, by omega, hrows, fun _ => by simpa using e, fun h' => by omega⟩, fun e => by simpa using e.start.1 (by omega)⟩
    · refine condK_dec (fun hs0 => ?_) fun hs0 => ?_
      · refine hR _ ⟨fun e => ⟨by omega, by omega, hrows, fun h' => by omega, fun _ => ⟨by omega, by simpa using e⟩⟩, fun e => by simpa using (e.start.2 (by omega)).2⟩
      · exact no fun e => by have := (e.start.2 (by omega)).1; omega

theorem c48 {w : World} {m : Mach} {v : Value} {R : Res} (hm : MachAt w m v) (hlim : m.Lim) (hR : ∀ b : Bool, (b = true ↔ m.Shaped) → R (.bool b) [] w) : CallsI Try.prog 48 [v] w [] R := by
  obtain ⟨_, _, rfl, ⟨A, c, hs, rfl, hA, hl, hx⟩, ⟨B, d, rfl, hB⟩⟩ := hm
  have no : ∀ (_ : ¬ m.Shaped), R (.bool false) [] w := fun h => hR false ⟨(fun e => by simp at e), fun e => absurd e h⟩
  have hn1 := hlim.next
  refine s48 _ _ _ _ _ _ _ _ _ _ fun _ => ?_
  refine condK_dec (fun h => no fun e => by have := e.letters; omega) fun h0 => ?_
  refine condK_bne (fun h => no fun e => h (by rw [e.fin])) fun hne => ?_
  have main : ((m.next.length = 0 → m.start = -1) ∧ (m.next.length ≠ 0 → 0 ≤ m.start ∧ m.start < m.next.length)) → ∃ I2, J48_12 I2 w m.next.length A m.letters R := fun hst => by
    refine ⟨fun x => ⟨fun w' => w' = w ∧ 0 ≤ x ∧ x ≤ m.next.length ∧ ∀ (i : Nat) row, i < x.toNat → m.next[i]? = some row → m.RowOk row, fun _ => (m.next.length - x).toNat⟩, ⟨rfl, by omega, by omega, fun i row hi => by simp at hi⟩, ?_⟩
    rintro x w' ⟨rfl, hx0, hxn, hI⟩ k rfl
    refine condK_dec (fun hlt => ?_) fun hge => ?_
    · refine ix_row hA hl hx hx0 hlt fun a row A' c' hrow hc hr => ?_
      refine ⟨_, _, _, hc, ?_⟩
      have hmem := List.mem_of_getElem? hrow
      have hn2 := hlim.rows row hmem
      refine condK_bne (fun h => no fun e => h (e.rows row hmem).len) fun hlen => ?_
      refine ⟨fun y => ⟨fun w'' => w'' = w' ∧ 0 ≤ y ∧ y ≤ row.length ∧ ∀ (j : Nat) t, j < y.toNat → row[j]? = some t → -1 ≤ t ∧ t < m.next.length, fun _ => (row.length - y).toNat⟩, ⟨rfl, by omega, by omega, fun i row hi => by simp at hi⟩, ?_⟩
      rintro y w'' ⟨rfl, hy0, hyn, hJ⟩ k rfl
      refine condK_dec (fun hylt => ?_) fun hyge => ?_
      · refine ix_row hA hl hx hx0 hlt fun a row2 A2 c2 hrow2 hc2 hr2 => ?_
        rw [hrow] at hrow2; injection hrow2 with e; subst e
        refine ⟨_, _, _, hc2, ?_⟩
        refine ix_int hr2 hy0 (by omega) fun a' t ht hc' => ?_
        refine ⟨_, hc', ?_⟩
        have htm := List.mem_of_getElem? ht
        refine condK_dec (fun h => no fun e => by have := ((e.rows row hmem).to t htm).1; omega) fun h1 => ?_
        refine ix_row hA hl hx hx0 hlt fun a row2 A2 c2 hrow2 hc2 hr2 => ?_
        rw [hrow] at hrow2; injection hrow2 with e; subst e
        refine ⟨_, _, _, hc2, ?_⟩
        refine ix_int hr2 hy0 (by omega) fun a' t2 ht2 hc' => ?_
        rw [ht] at ht2; injection ht2 with e; subst e
        refine ⟨_, hc', ?_⟩
        refine condK_dec (fun h => no fun e => by have := ((e.rows row hmem).to t htm).2; omega) fun h2 => ?_
        rw [J48_1, wrap_id (by omega) (by omega)]
        refine ⟨⟨rfl, by omega, by omega, fun j t' hj ht' => ?_⟩, by simp only []; omega⟩
        rcases Nat.lt_or_ge j y.toNat with hjy | hjy
        · exact hJ j t' hjy ht'
        · have : j = y.toNat := by omega
          subst this
          rw [ht] at ht'; injection ht' with ht'; subst ht'
          omega
      · rw [J48_1, wrap_id (by omega) (by omega)]
        refine ⟨⟨rfl, by omega, by omega, fun i row' hi hrow' => ?_⟩, by simp only []; omega⟩
        rcases Nat.lt_or_ge i x.toNat with hix | hix
        · exact hI i row' hix hrow'
        · have : i = x.toNat := by omega
          subst this
          rw [hrow] at hrow'; injection hrow' with hrow'; subst hrow'
          exact ⟨by omega, all_idx fun j t hj ht => hJ j t (by omega) ht⟩
    · have hrows : ∀ row ∈ m.next, m.RowOk row := all_idx fun i row hi hr => hI i row (by omega) hr
      exact hR true ⟨fun _ => ⟨by omega, by omega, hrows, hst⟩, fun _ => rfl⟩
  have tail : (m.next.length = 0 → m.start = -1) → J48_15 m.next.length m.start R w A m.letters := fun hz => by
    refine condK_dec (fun hp => ?_) fun hp => main ⟨hz, fun h => by omega⟩
    refine condK_dec (fun h => no fun e => by have := e.start.2 (by omega); omega) fun h1 => ?_
    refine condK_dec (fun h => no fun e => by have := e.start.2 (by omega); omega) fun h2 => main ⟨hz, fun _ => by omega⟩
  refine condK_beq (fun hz => ?_) fun hz => tail fun h => by omega
  exact condK_bne (fun h => no fun e => h (e.start.1 (by omega))) fun h => tail fun _ => h

theorem c18 {w : World} {m : Mach} {v : Value} {R : Res} (hm : MachAt w m v) (hlim : m.Lim) (hR : R (.int .i64 m.code) [] w) : CallsI Try.prog 18 [v] w [] R := by
  have hm' := hm
  obtain ⟨_, _, rfl, ⟨A, c, hs, rfl, hA, hl, hx⟩, ⟨B, d, rfl, hB⟩⟩ := hm
  refine s18 _ _ _ _ _ _ _ _ _ _ fun _ => c51 hm' hlim fun b hb => ⟨b, rfl, rfl, ?_⟩
  unfold Mach.code at hR
  cases b with
  | false => rw [if_neg (fun h => by simpa using hb.2 h)] at hR; exact hR
  | true =>
    rw [if_pos (hb.1 rfl)] at hR
    refine condK_dec (fun h => ?_) fun h => condK_dec (fun h2 => ?_) fun h2 => ?_
    · rw [if_neg (by omega)] at hR; exact hR
    · rw [if_neg (by omega)] at hR; exact hR
    · rw [if_pos (by omega)] at hR; exact hR
theorem c16 {w : World} {m : Mach} {v : Value} {R : Res} (hm : MachAt w m v) (hlim : m.Lim) (hR : R (.int .i64 m.code) [] w) : CallsI Try.prog 16 [v] w [] R := by
  have hm' := hm
  obtain ⟨_, _, rfl, ⟨A, c, hs, rfl, hA, hl, hx⟩, ⟨B, d, rfl, hB⟩⟩ := hm
  refine s16 _ _ _ _ _ _ _ _ _ _ fun _ => c48 hm' hlim fun b hb => ⟨b, rfl, rfl, ?_⟩
  unfold Mach.code at hR
  cases b with
  | false => rw [if_neg (fun h => by simpa using hb.2 h)] at hR; exact hR
  | true =>
    rw [if_pos (hb.1 rfl)] at hR
    refine condK_dec (fun h => ?_) fun h => condK_dec (fun h2 => ?_) fun h2 => ?_
    · rw [if_neg (by omega)] at hR; exact hR
    · rw [if_neg (by omega)] at hR; exact hR
    · rw [if_pos (by omega)] at hR; exact hR
theorem c55 {w : World} {a b : Mach} {v u : Value} {R : Res} (ha : MachAt w a v) (hb : MachAt w b u) (la : a.Lim) (lb : b.Lim) (hR : R (.int .i64 (fitc a b)) [] w) : CallsI Try.prog 55 [v, u] w [] R := by
  have ha' := ha; have hb' := hb
  obtain ⟨_, _, rfl, ⟨A, c, hs, rfl, hA, hl, hx⟩, ⟨B, d, rfl, hB⟩⟩ := ha
  obtain ⟨_, _, rfl, ⟨A2, c2, hs2, rfl, hA2, hl2, hx2⟩, ⟨B2, d2, rfl, hB2⟩⟩ := hb
  refine s55 _ _ _ _ _ _ _ _ _ _ _ _ _ _ _ _ _ _ fun _ _ => c18 ha' la ⟨_, rfl, rfl, ?_⟩
  unfold fitc at hR
  refine condK_bne (fun h => ?_) fun h => c18 hb' lb ⟨_, rfl, rfl, condK_bne (fun h2 => ?_) fun h2 => condK_bne (fun h3 => ?_) fun h3 => ?_⟩
  · rw [if_neg (fun e => h (Mach.code_ok.2 e.1))] at hR; exact hR
  · rw [if_neg (fun e => h2 (Mach.code_ok.2 e.2))] at hR; exact hR
  · rw [if_pos ⟨Mach.code_ok.1 h, Mach.code_ok.1 h2⟩, if_neg h3] at hR; exact hR
  · rw [if_pos ⟨Mach.code_ok.1 h, Mach.code_ok.1 h2⟩, if_pos h3] at hR; exact hR
theorem c52 {w : World} {m : Mach} {v : Value} {q : Int} {R : Res} (hm : MachAt w m v) (hq : q < m.fin.length) (hR : R (.bool (m.ends q)) [] w) : CallsI Try.prog 52 [v, .int .i64 q] w [] R := by
  obtain ⟨_, _, rfl, ⟨A, c, hs, rfl, hA, hl, hx⟩, ⟨B, d, rfl, hB⟩⟩ := hm
  refine s52 _ _ _ _ _ _ _ _ _ _ _ fun _ => condK_dec (fun h => ix_end hB h hq (K := fun t => R (.bool t) [] w) hR) fun h => ?_
  rw [Mach.ends_neg (by omega)] at hR; exact hR
theorem c50 {w : World} {m : Mach} {v : Value} {q : Int} {R : Res} (hm : MachAt w m v) (hq : q < m.fin.length) (hR : R (.bool (m.ends q)) [] w) : CallsI Try.prog 50 [v, .int .i64 q] w [] R := by
  obtain ⟨_, _, rfl, ⟨A, c, hs, rfl, hA, hl, hx⟩, ⟨B, d, rfl, hB⟩⟩ := hm
  refine s50 _ _ _ _ _ _ _ _ _ _ _ fun _ => condK_dec (fun h => ix_end hB h hq (K := fun t => R (.bool t) [] w) hR) fun h => ?_
  rw [Mach.ends_neg (by omega)] at hR; exact hR
theorem c58 {w : World} {m : Mach} {v : Value} {q x : Int} {R : Res} (hm : MachAt w m v) (hsh : m.Shaped) (hq : q < m.next.length) (hx : m.Let x) (hR : R (.int .i64 (m.step q x)) [] w) : CallsI Try.prog 58 [v, .int .i64 q, .int .i64 x] w [] R := by
  obtain ⟨_, _, rfl, ⟨A, c, hs, rfl, hA, hl, hxs⟩, ⟨B, d, rfl, hB⟩⟩ := hm
  refine s58 _ _ _ _ _ _ _ _ _ _ _ _ fun _ => condK_dec (fun h => ?_) fun h => ix_step hA hl hxs hsh (by omega) hq hx (K := fun t => R (.int .i64 t) [] w) hR
  rw [Mach.step_neg h] at hR; exact hR
theorem c49 {w : World} {m : Mach} {v : Value} {q x : Int} {R : Res} (hm : MachAt w m v) (hsh : m.Shaped) (hq : q < m.next.length) (hx : m.Let x) (hR : R (.int .i64 (m.step q x)) [] w) : CallsI Try.prog 49 [v, .int .i64 q, .int .i64 x] w [] R := by
  obtain ⟨_, _, rfl, ⟨A, c, hs, rfl, hA, hl, hxs⟩, ⟨B, d, rfl, hB⟩⟩ := hm
  refine s49 _ _ _ _ _ _ _ _ _ _ _ _ fun _ => condK_dec (fun h => ?_) fun h => ix_step hA hl hxs hsh (by omega) hq hx (K := fun t => R (.int .i64 t) [] w) hR
  rw [Mach.step_neg h] at hR; exact hR

theorem acc_drop {m : Mach} {q : Int} {u : List Int} {i : Nat} {x : Int} (h : u[i]? = some x) : m.acc q (u.drop i) = m.acc (m.step q x) (u.drop (i + 1)) := by
  obtain ⟨hi, e⟩ := List.getElem?_eq_some_iff.1 h
  rw [List.drop_eq_getElem_cons hi, e, Mach.acc_cons]
theorem step_out {m : Mach} (hm : m.Shaped) {q x : Int} (h : x < 0 ∨ m.letters ≤ x ∨ q < 0) : m.step q x < 0 := by
  apply Classical.byContradiction; intro hn
  have := hm.step_let (s := q) (x := x) (by omega)
  unfold Mach.Let at this; omega
theorem c20 {w : World} {m : Mach} {v wd : Value} {u : List Int} {R : Res} (hm : MachAt w m v) (hlim : m.Lim) (hu : SlI w wd u) (hul : u.length ≤ 17592186043904) (hR : R (.bool (m.accepts u)) [] w) : CallsI Try.prog 20 [v, wd] w [] R := by
  have hm' := hm
  obtain ⟨_, _, rfl, ⟨A, c, hs, rfl, hA, hl, hxs⟩, ⟨B, d, rfl, hB⟩⟩ := hm
  obtain ⟨D, e, rfl, hD⟩ := hu
  refine s20 _ _ _ _ _ _ _ _ _ _ _ _ _ fun _ => c18 hm' hlim ⟨_, rfl, rfl, ?_⟩
  refine condK_bne (fun h => ?_) fun h => ?_
  · rw [Mach.accepts_not (fun e => h (Mach.code_ok.2 e))] at hR; exact hR
  have hv := Mach.code_ok.1 h
  have hsh := hv.shaped
  rw [Mach.accepts_valid hv] at hR
  refine ⟨fun x s => ⟨fun w' => w' = w ∧ 0 ≤ x ∧ x ≤ u.length ∧ (-1 ≤ s ∧ s < m.next.length) ∧ m.acc m.start u = m.acc s (u.drop x.toNat), fun _ => (u.length - x).toNat⟩, ⟨rfl, by omega, by omega, hsh.start_range, rfl⟩, ?_⟩
  rintro x s w' ⟨rfl, hx0, hx1, hs0, hacc⟩ k rfl
  refine condK_dec (fun hlt => ?_) fun hge => ?_
  · refine ix_int hD hx0 hlt fun a y hy hc => ⟨_, hc, ?_⟩
    rw [acc_drop hy] at hacc
    have out : (y < 0 ∨ m.letters ≤ y ∨ s < 0) → R (.bool false) [] w' := fun ho => by
      rw [hacc, Mach.acc_neg (step_out hsh ho)] at hR; exact hR
    refine condK_dec (fun h => out (.inl h)) fun h1 => condK_dec (fun h => out (.inr (.inl h))) fun h2 => condK_dec (fun h => out (.inr (.inr h))) fun h3 => ?_
    refine ix_step hA hl hxs hsh (by omega) hs0.2 ⟨by omega, by omega⟩ (K := fun t => _ ∧ _) ?_
    rw [wrap_id (by omega) (by omega)]
    refine ⟨⟨rfl, by omega, by omega, hsh.step_range _ _, ?_⟩, by simp only []; omega⟩
    rw [hacc]; congr 2; omega
  · refine c52 hm' (by rw [← hsh.fin]; exact hs0.2) ⟨_, rfl, rfl, ?_⟩
    rw [hacc, List.drop_of_length_le (by omega), Mach.acc_nil] at hR; exact hR
theorem c17 {w : World} {m : Mach} {v wd : Value} {u : List Int} {R : Res} (hm : MachAt w m v) (hlim : m.Lim) (hu : SlI w wd u) (hul : u.length ≤ 17592186043904) (hR : R (.bool (m.accepts u)) [] w) : CallsI Try.prog 17 [v, wd] w [] R := by
  have hm' := hm
  obtain ⟨_, _, rfl, ⟨A, c, hs, rfl, hA, hl, hxs⟩, ⟨B, d, rfl, hB⟩⟩ := hm
  obtain ⟨D, e, rfl, hD⟩ := hu
  refine s17 _ _ _ _ _ _ _ _ _ _ _ _ _ fun _ => c16 hm' hlim ⟨_, rfl, rfl, ?_⟩
  refine condK_bne (fun h => ?_) fun h => ?_
  · rw [Mach.accepts_not (fun e => h (Mach.code_ok.2 e))] at hR; exact hR
  have hv := Mach.code_ok.1 h
  have hsh := hv.shaped
  rw [Mach.accepts_valid hv] at hR
  refine ⟨fun x s => ⟨fun w' => w' = w ∧ 0 ≤ x ∧ x ≤ u.length ∧ (-1 ≤ s ∧ s < m.next.length) ∧ m.acc m.start u = m.acc s (u.drop x.toNat), fun _ => (u.length - x).toNat⟩, ⟨rfl, by omega, by omega, hsh.start_range, rfl⟩, ?_⟩
  rintro x s w' ⟨rfl, hx0, hx1, hs0, hacc⟩ k rfl
  have fin : m.acc s (u.drop x.toNat) = m.ends s → J17_8 m.letters m.start A m.next.length c B m.fin.length d s w' R := fun he => by
    refine c50 hm' (by rw [← hsh.fin]; exact hs0.2) ⟨_, rfl, rfl, ?_⟩
    rw [hacc, he] at hR; exact hR
  refine condK_dec (fun hlt => ?_) fun hge => ?_
  rotate_left
  · exact fin (by rw [List.drop_of_length_le (by omega), Mach.acc_nil])
  refine condK_dec (fun hsp => ?_) fun hsn => ?_
  rotate_left
  · exact fin (by rw [Mach.acc_neg (by omega), Mach.ends_neg (by omega)])
  refine ix_int hD hx0 hlt fun a y hy hc => ⟨_, hc, ?_⟩
  rw [acc_drop hy] at hacc
  have out : (y < 0 ∨ m.letters ≤ y ∨ s < 0) → R (.bool false) [] w' := fun ho => by
    rw [hacc, Mach.acc_neg (step_out hsh ho)] at hR; exact hR
  refine condK_dec (fun h => out (.inl h)) fun h1 => ?_
  refine ix_int hD hx0 hlt fun a y2 hy2 hc => ⟨_, hc, ?_⟩
  rw [hy] at hy2; injection hy2 with hy2; subst hy2
  refine condK_dec (fun h => out (.inr (.inl h))) fun h2 => ?_
  refine ix_int hD hx0 hlt fun a y2 hy2 hc => ⟨_, hc, ?_⟩
  rw [hy] at hy2; injection hy2 with hy2; subst hy2
  refine c49 hm' hsh hs0.2 ⟨by omega, by omega⟩ ⟨_, rfl, rfl, ?_⟩
  rw [wrap_id (by omega) (by omega)]
  refine ⟨⟨rfl, by omega, by omega, hsh.step_range _ _, ?_⟩, by simp only []; omega⟩
  rw [hacc]; congr 2; omega
end Go.Proofs.Ytnkpjlhbojjneaa.VC

/- Old memory, read in a later world. -/
namespace Go.Proofs.Ytnkpjlhbojjneaa.VC
open Go Go.RowKit

section
variable {w w' : World} {A : Option Addr}
theorem rd_row {hs : List Value} {xss : List (List Int)} (hE : Ext w w') (h : Row w A hs) (hl : hs.length = xss.length) (hx : ∀ (i : Nat) h xs, hs[i]? = some h → xss[i]? = some xs → SlI w h xs)
    {i : Int} (h0 : 0 ≤ i) (hi : i < xss.length) {K : Option Addr → Nat → Nat → Prop} (hk : ∀ A' c' xs, xss[i.toNat]? = some xs → Row w A' (ints xs) → K A' xs.length c') :
    IxV A xss.length 1 i fun a => ∃ A' n c, w'.cell? a = some (.slice A' n c) ∧ K A' n c :=
  ix_row h hl hx h0 hi fun _a xs A' c' hxs hc hr => ⟨_, _, _, hE.cell hc, hk A' c' xs hxs hr⟩
theorem rd_int {xs : List Int} (hE : Ext w w') (h : Row w A (ints xs)) {i : Int} (h0 : 0 ≤ i) (hi : i < xs.length) {K : Int → Prop} (hk : K (gi xs i)) :
    IxV A xs.length 1 i fun a => ∃ x, w'.cell? a = some (.int .i64 x) ∧ K x :=
  ix_int h h0 hi fun a x hx hc => ⟨_, hE.cell hc, by rw [← gi_get hx]; exact hk⟩
theorem rd_bool {xs : List Bool} (hE : Ext w w') (h : Row w A (bools xs)) {i : Int} (h0 : 0 ≤ i) (hi : i < xs.length) {K : Bool → Prop} (hk : K (gb xs i)) :
    IxV A xs.length 1 i fun a => ∃ x, w'.cell? a = some (.bool x) ∧ K x :=
  ix_bool h h0 hi fun a x hx hc => ⟨_, hE.cell hc, by rw [← gb_get hx]; exact hk⟩
theorem rd_step {hs : List Value} {m : Mach} (hE : Ext w w') (h : Row w A hs) (hl : hs.length = m.next.length) (hx : ∀ (i : Nat) h xs, hs[i]? = some h → m.next[i]? = some xs → SlI w h xs) (hm : m.Shaped)
    {q x : Int} (h0 : 0 ≤ q) (h1 : q < m.next.length) (hlet : m.Let x) {K : Int → Prop} (hk : K (m.step q x)) :
    IxV A m.next.length 1 q fun a => ∃ (A' : Option Addr) (n c : Nat), w'.cell? a = some (.slice A' n c) ∧ IxV A' n 1 x fun a => ∃ x', w'.cell? a = some (.int .i64 x') ∧ K x' :=
  ix_step (hE.row h) hl (fun i y xs a b => (hx i y xs a b).ext hE) hm h0 h1 hlet hk
theorem rd_end {m : Mach} (hE : Ext w w') (h : Row w A (bools m.fin)) {q : Int} (h0 : 0 ≤ q) (h1 : q < m.fin.length) {K : Bool → Prop} (hk : K (m.ends q)) :
    IxV A m.fin.length 1 q fun a => ∃ t, w'.cell? a = some (.bool t) ∧ K t :=
  ix_end (hE.row h) h0 h1 hk
end
theorem Mach.step_row {m : Mach} {q x : Int} {row : List Int} (hrow : m.next[q.toNat]? = some row) (h0 : 0 ≤ q) (hx : 0 ≤ x) : m.step q x = row.getD x.toNat (-1) := by
  have : ¬ (q < 0 ∨ x < 0) := by omega
  simp [Mach.step, this, List.getD_eq_getElem?_getD, hrow]
theorem Mach.step_gi {m : Mach} {q x : Int} {row : List Int} (hrow : m.next[q.toNat]? = some row) (h0 : 0 ≤ q) (hx : 0 ≤ x) (h1 : x < row.length) : gi row x = m.step q x := by
  rw [Mach.step_row hrow h0 hx]
  have : x.toNat < row.length := by omega
  simp [gi, List.getD_eq_getElem?_getD, List.getElem?_eq_getElem this]
theorem ends_gb {m : Mach} {q : Int} (h0 : 0 ≤ q) : gb m.fin q = m.ends q := by simp [Mach.ends, gb, h0]
end Go.Proofs.Ytnkpjlhbojjneaa.VC

/- Owned maps; parts of owned slices; what a function forgets. -/
namespace Go.Proofs.Ytnkpjlhbojjneaa.VC
open Go Go.RowKit

/-- how things are written as keys -/
structure KeyOf (kt : KT) {X : Type} [DecidableEq X] (key : X → Value) : Prop where
  eq : ∀ a b, kt.eq (key a) (key b) = decide (a = b)
  ok : ∀ v, kt.ok v = true → ∃ a, v = key a
  ok' : ∀ a, kt.ok (key a) = true
theorem keyInt : KeyOf KT.int (Value.int .i64) where
  eq := fun a b => by simp only [KT.eq]; by_cases h : a = b <;> simp [h]
  ok := fun v h => by
    unfold KT.ok at h
    split at h
    · exact ⟨_, rfl⟩
    · rename_i e; cases e
    · rename_i e; cases e
    · cases h
  ok' := fun _ => rfl
theorem assoc_set {kt : KT} {X : Type} [DecidableEq X] {key : X → Value} (hk : KeyOf kt key) (a b : X) (x : Value) : ∀ l : List (Value × Value), (∀ kv ∈ l, kt.ok kv.1 = true) → assoc kt (assocSet kt (key a) x l) (key b) = if b = a then some x else assoc kt l (key b) := by
  intro l
  induction l with
  | nil => intro _; simp only [assocSet, assoc, List.find?, hk.eq]; by_cases h : b = a <;> simp [h]
  | cons kv l ih =>
    intro hl
    obtain ⟨c, hc⟩ := hk.ok _ (hl kv (List.mem_cons_self ..))
    have ih := ih fun kv h => hl kv (List.mem_cons_of_mem _ h)
    unfold assocSet
    rw [hc, hk.eq]
    by_cases h : a = c
    · subst h
      simp only [decide_true, assoc, List.find?, hk.eq, hc]
      by_cases h : b = a <;> simp [h]
    · simp only [h, decide_false]
      simp only [assoc, List.find?, hc, hk.eq] at ih ⊢
      by_cases h2 : b = c
      · subst h2
        have : ¬ b = a := fun e => h e.symm
        simp [this]
      · simp only [h2, decide_false]
        exact ih
theorem ok_set {kt : KT} {X : Type} [DecidableEq X] {key : X → Value} (hk : KeyOf kt key) (a : X) (x : Value) : ∀ l : List (Value × Value), (∀ kv ∈ l, kt.ok kv.1 = true) → ∀ kv ∈ assocSet kt (key a) x l, kt.ok kv.1 = true := by
  intro l
  induction l with
  | nil => intro _ kv h; simp only [assocSet, List.mem_singleton] at h; subst h; exact hk.ok' a
  | cons kv l ih =>
    intro hl
    have ih := ih fun kv h => hl kv (List.mem_cons_of_mem _ h)
    unfold assocSet
    split
    · intro kv' h
      rcases List.mem_cons.1 h with rfl | h
      · exact hk.ok' a
      · exact hl _ (List.mem_cons_of_mem _ h)
    · intro kv' h
      rcases List.mem_cons.1 h with rfl | h
      · exact hl _ (List.mem_cons_self ..)
      · exact ih _ h

/-- The map at block b is the family's index i, and tells f. -/
def GM (F : FamF) (i : Nat) (kt : KT) {X : Type} (key : X → Value) (b : Nat) (f : X → Option Value) : Prop :=
  ∃ kvs, F i = some (b, .map kt kvs) ∧ (∀ kv ∈ kvs, kt.ok kv.1 = true) ∧ ∀ a, assoc kt kvs (key a) = f a
section
variable {w0 w : World} {F F' : FamF} {i b : Nat} {kt : KT} {X : Type} {key : X → Value} {f : X → Option Value}
theorem GM.same (h : GM F i kt key b f) (e : F' i = F i) : GM F' i kt key b f := by unfold GM at *; rw [e]; exact h
theorem GM.look (h : GM F i kt key b f) (hF : Fam w0 w F) : ∃ l, MapAt w kt b l ∧ ∀ a, assoc kt l (key a) = f a := by
  obtain ⟨kvs, h1, h2, h3⟩ := h
  exact ⟨kvs, (hF.own i b _ h1).1, h3⟩
theorem GM.put [DecidableEq X] (hk : KeyOf kt key) (h : GM F i kt key b f) (hF : Fam w0 w F) (a : X) (v : Value) {K : World → Prop}
    (k : ∀ F' w', Only i F F' → Fam w0 w' F' → GM F' i kt key b (fun x => if x = a then some v else f x) → K w') : ∃ l, MapAt w kt b l ∧ ∀ w', MapUpd w kt b (assocSet kt (key a) v l) w' → K w' := by
  obtain ⟨kvs, h1, h2, h3⟩ := h
  refine ⟨kvs, (hF.own i b _ h1).1, fun w' hu => k _ w' upd_only (hF.mapPut h1 hu) ⟨_, upd_self .., ok_set hk a v kvs h2, fun x => ?_⟩⟩
  rw [assoc_set hk a x v kvs h2, h3]
theorem GM.putS [DecidableEq X] (hk : KeyOf kt key) (h : GM F i kt key b f) (hF : Fam w0 w F) {a : X} {v : Value} {K : World → Prop}
    (k : ∀ F' w', Only i F F' → Fam w0 w' F' → GM F' i kt key b (fun x => if x = a then some v else f x) → K w') : ∃ n l, some b = some n ∧ MapAt w kt n l ∧ ∀ w', MapUpd w kt n (assocSet kt (key a) v l) w' → K w' := by
  obtain ⟨l, h1, h2⟩ := h.put hk hF a v k
  exact ⟨b, l, rfl, h1, h2⟩
theorem GM.make (hF : Fam w0 w F) (i : Nat) (kt : KT) {X : Type} (key : X → Value) {K : Nat → World → Prop}
    (k : ∀ b F' w', Only i F F' → Fam w0 w' F' → GM F' i kt key b (fun _ => none) → K b w') : NewK w (.map (Array.mk []) 0) K :=
  hF.makeMap kt i fun b w' hw' => k b _ w' upd_only hw' ⟨[], upd_self .., by simp, fun _ => rfl⟩
/-- what is owned may be forgotten -/
theorem Fam.drop (h : Fam w0 w F) (hd : ∀ j, F' j = F j ∨ F' j = none) : Fam w0 w F' :=
  ⟨h.base, (fun i b c e => by
    rcases hd i with e2 | e2
    · rw [e2] at e; exact h.own i b c e
    · rw [e2] at e; cases e), fun i j b c d e1 e2 => by
    rcases hd i with e3 | e3
    · rcases hd j with e4 | e4
      · rw [e3] at e1; rw [e4] at e2; exact h.inj i j b c d e1 e2
      · rw [e4] at e2; cases e2
    · rw [e3] at e1; cases e1⟩
/-- a part of an owned slice, read -/
theorem GSl.sub_int {A : Option Addr} {n c : Nat} {xs : List Int} (h : GSl F i A n c (ints xs)) (hF : Fam w0 w F) {lo hi : Nat} {x : Int} (hhi : hi ≤ n) (h0 : 0 ≤ x) (h1 : x < ((hi - lo : Nat) : Int)) (hlo : lo < c ∨ lo < hi) {K : Int → Prop} (hk : K (gi xs (lo + x))) :
    IxV (if c = lo then A else Option.map (fun (x : Addr) => x.add (lo * i3.size)) A) (hi - lo) 1 x fun a => ∃ t, w.cell? a = some (.int .i64 t) ∧ K t := by
  have hn := h.len
  rw [ints_len] at hn
  rcases h with ⟨_, _, _, _, h2⟩ | ⟨b, rest, h1', h2, h3, h4⟩
  · have : xs = [] := by cases xs with | nil => rfl | cons => simp [ints] at h2
    subst this; simp at hn; omega
  · have hc : c ≠ lo := by rw [ints_len] at h4; omega
    rw [if_neg hc, h2]
    have hlt : (lo + x).toNat < xs.length := by omega
    refine ⟨_, rfl, h0, h1, gi xs (lo + x), ?_, hk⟩
    have e : (((⟨b, 0, none⟩ : Addr).add (lo * i3.size)).add (x.toNat * 1)) = ⟨b, (lo + x).toNat, none⟩ := by
      have : i3.size = 1 := rfl
      rw [this, add_none, add_none]; congr 1; omega
    rw [e]
    refine cell_holds (hF.own i b _ h1').1 ?_
    rw [List.getElem?_append_left (by simpa using hlt)]
    simp only [ints, List.getElem?_map]
    have := get_gi (l := xs) (i := lo + x) (by omega) (by omega)
    rw [this]; rfl
/-- the last element is taken off -/
theorem GSl.pop {A : Option Addr} {n c : Nat} {xs : List Value} {v : Value} (h : GSl F i A n c (xs ++ [v])) : GSl F i (if c = 0 then A else Option.map (fun (x : Addr) => x.add (0 * i3.size)) A) xs.length c xs := by
  rcases h with ⟨_, _, _, _, h2⟩ | ⟨b, rest, h1', h2, h3, h4⟩
  · simp at h2
  · right
    refine ⟨b, [v] ++ rest, by rw [h1']; simp, ?_, rfl, by rw [h4]; simp; omega⟩
    rw [if_neg (by rw [h4]; simp), h2, Option.map_some, Nat.zero_mul, add_none]
end
end Go.Proofs.Ytnkpjlhbojjneaa.VC

/- Rows appended to owned slices; slices of slices of slices. -/
namespace Go.Proofs.Ytnkpjlhbojjneaa.VC
open Go Go.RowKit

def putAll (cs : List Value) (p : Nat) : List Value → List Value
  | [] => cs
  | x :: r => putAll (cs.set p x) (p + 1) r
theorem putAll_eq (xs : List Value) : ∀ (ys rest : List Value), ys.length ≤ rest.length → putAll (xs ++ rest) xs.length ys = xs ++ ys ++ rest.drop ys.length := by
  intro ys
  induction ys generalizing xs with
  | nil => intro rest _; simp [putAll]
  | cons y ys ih =>
    intro rest hl
    cases rest with
    | nil => simp at hl
    | cons r rest =>
      have e : (xs ++ r :: rest).set xs.length y = (xs ++ [y]) ++ rest := by
        rw [List.set_append_right _ _ (Nat.le_refl _)]; simp
      rw [putAll, e]
      have := ih (xs ++ [y]) rest (by simpa using hl)
      rw [List.length_append, List.length_singleton] at this
      rw [this]; simp
theorem Fam.stv {w0 : World} {i b off : Nat} {K : World → Prop} : ∀ (news : List Value) (w : World) (F : FamF) (cs : List Value) (j : Nat), Fam w0 w F → F i = some (b, .cells cs) → off + j + news.length ≤ cs.length → (∀ v ∈ news, one1 v = true) →
    (∀ F' w', Only i F F' → Fam w0 w' F' → F' i = some (b, .cells (putAll cs (off + j) news)) → K w') → StV ⟨b, off, none⟩ K j news w := by
  intro news
  induction news with
  | nil => intro w F cs j hF hi _ _ k; exact k F w (fun _ _ => rfl) hF hi
  | cons x news ih =>
    intro w F cs j hF hi hl h1 k
    rw [List.length_cons] at hl
    unfold StV
    have e : at_ (⟨b, off, none⟩ : Addr) j = ⟨b, off + j, none⟩ := by
      cases j <;> simp [at_, add_none]
    rw [e]
    refine hF.write hi (by omega) (h1 x (List.mem_cons_self ..)) fun w' hw' => ?_
    refine ih w' _ (cs.set (off + j) x) (j + 1) hw' (upd_self ..) (by rw [List.length_set]; omega) (fun v hv => h1 v (List.mem_cons_of_mem _ hv)) fun F' w'' ho hF' hi' => ?_
    exact k F' w'' (fun j hj => by rw [ho j hj, upd_ne hj]) hF' hi'
section
variable {w0 w : World} {F : FamF} {i : Nat} {A : Option Addr} {n c : Nat}
theorem Fam.mkRowE (hF : Fam w0 w F) (i : Nat) {xs : List Value} {e : TypeId} {K : Nat → World → Prop}
    (hk : ∀ b F' w', Ext w w' → Only i F F' → Fam w0 w' F' → GSl F' i (some ⟨b, 0, none⟩) xs.length xs.length xs → K b w') : NewK w (.cells (Array.mk xs) e (0, 0)) K := fun b w' hn =>
  hk b _ w' hn.ext upd_only (hF.only (c := .cells xs) hn.only ⟨e, hn.new⟩ (.inr hn.lo)) (.inr ⟨b, [], by rw [upd_self, List.append_nil], rfl, rfl, rfl⟩)
/-- a row is appended -/
theorem GSl.append {xs ys : List Value} {z : Value} {e2 : TypeId} {B : Option Addr} {m bytes : Nat} (hs : GSl F i A n c xs) (h : Fam w0 w F) (hB : Row w B ys) (hm : m = ys.length) (h1 : ∀ v ∈ ys, one1 v = true) (hlim : (n + m) * bytes ≤ 140737488355328)
    {K : Option Addr → Nat → Nat → World → Prop} (k : ∀ F' A' c' w', Only i F F' → Fam w0 w' F' → GSl F' i A' (n + m) c' (xs ++ ys) → K A' (n + m) c' w') : AppK bytes 1 [z] e2 A n c B m w K := by
  subst hm
  refine ⟨xs, ys, by rw [hs.len]; simp, by simp, hs.row h, hB, h1, hlim, fun hle => ?_, fun hlt cap hcap => ?_⟩
  · by_cases hm : ys = []
    · subst hm
      left
      exact ⟨rfl, k F A c w (fun _ _ => rfl) h (by rw [List.append_nil]; exact hs)⟩
    · right
      rcases hs with ⟨_, _, hn, hc, _⟩ | ⟨b, rest, hF, hA, hnx, hc⟩
      · cases ys with
        | nil => exact absurd rfl hm
        | cons => simp at hle; omega
      · refine ⟨_, hA, ?_⟩
        rw [Nat.mul_one, add_none, Nat.zero_add]
        refine h.stv ys _ _ _ 0 hF (by simp; omega) h1 fun F' w' ho hF' hi' => ?_
        rw [Nat.add_zero, hnx, putAll_eq xs ys rest (by omega)] at hi'
        exact k F' A c w' ho hF' (.inr ⟨b, _, hi', hA, by simp [hnx], by rw [hc]; simp; omega⟩)
  · refine h.make i fun b w' hw' => k _ _ _ w' upd_only hw' (.inr ⟨b, _, upd_self .., rfl, by simp [hs.len], by rw [rep_len, hs.len]; simp; rw [hs.len] at hcap; omega⟩)
theorem GSl.append_ints {xs ys : List Int} {z : Value} {e2 : TypeId} {B : Option Addr} {m : Nat} (hs : GSl F i A n c (ints xs)) (h : Fam w0 w F) (hB : Row w B (ints ys)) (hm : m = ys.length) (hlim : n + m ≤ 17592186044414)
    {K : Option Addr → Nat → Nat → World → Prop} (k : ∀ F' A' c' w', Only i F F' → Fam w0 w' F' → GSl F' i A' (n + m) c' (ints (xs ++ ys)) → K A' (n + m) c' w') : AppK 8 1 [z] e2 A n c B m w K :=
  hs.append h hB (by simpa using hm) (fun v hv => by
    obtain ⟨x, _, rfl⟩ := List.mem_map.1 hv; rfl) (by omega) fun F' A' c' w' ho hF' hs' => k F' A' c' w' ho hF' (by rw [ints_append]; exact hs')
theorem GSl.append_bools {xs ys : List Bool} {z : Value} {e2 : TypeId} {B : Option Addr} {m : Nat} (hs : GSl F i A n c (bools xs)) (h : Fam w0 w F) (hB : Row w B (bools ys)) (hm : m = ys.length) (hlim : n + m ≤ 140737488355320)
    {K : Option Addr → Nat → Nat → World → Prop} (k : ∀ F' A' c' w', Only i F F' → Fam w0 w' F' → GSl F' i A' (n + m) c' (bools (xs ++ ys)) → K A' (n + m) c' w') : AppK 1 1 [z] e2 A n c B m w K :=
  hs.append h hB (by simpa using hm) (fun v hv => by
    obtain ⟨x, _, rfl⟩ := List.mem_map.1 hv; rfl) (by omega) fun F' A' c' w' ho hF' hs' => k F' A' c' w' ho hF' (by rw [bools_append]; exact hs')
/-- a part of an owned slice, as a row -/
theorem GSl.sub_row {xs : List Int} (h : GSl F i A n c (ints xs)) (hF : Fam w0 w F) {lo hi : Nat} :
    Row w (if c = lo then A else Option.map (fun (x : Addr) => x.add (lo * i3.size)) A) (ints ((xs.drop lo).take (hi - lo))) := fun hne => by
  have hn := h.len
  rw [ints_len] at hn
  have hlt : lo < xs.length := by
    apply Classical.byContradiction; intro hge
    apply hne
    rw [List.drop_of_length_le (by omega)]; simp [ints]
  rcases h with ⟨_, _, _, _, h2⟩ | ⟨b, rest, h1', h2, h3, h4⟩
  · have : xs = [] := by cases xs with | nil => rfl | cons => simp [ints] at h2
    subst this; simp at hlt
  · have hc : c ≠ lo := by rw [ints_len] at h4; omega
    rw [if_neg hc, h2]
    refine ⟨_, rfl, fun j v hj => ?_⟩
    have e : (((⟨b, 0, none⟩ : Addr).add (lo * i3.size)).add j) = ⟨b, lo + j, none⟩ := by
      have : i3.size = 1 := rfl
      rw [this, add_none, add_none]; congr 1; omega
    rw [e]
    refine cell_holds (hF.own i b _ h1').1 ?_
    simp only [ints, List.getElem?_map, List.getElem?_take, List.getElem?_drop] at hj
    split at hj
    · rw [List.getElem?_append_left (by
        simp only [ints_len]
        cases e : xs[lo + j]? with
        | none => rw [e] at hj; cases hj
        | some x => exact (List.getElem?_eq_some_iff.1 e).1)]
      simp only [ints, List.getElem?_map]; exact hj
    · cases hj

/-- where rows and cells of three-fold slices stand in a family -/
def enc (N x t : Nat) : Nat := 30 + (x * (N + 1) + t)
theorem enc_inj {N x t x' t' : Nat} (h : t < N + 1) (h' : t' < N + 1) (e : enc N x t = enc N x' t') : x = x' ∧ t = t' := by
  unfold enc at e
  have e : x * (N + 1) + t = x' * (N + 1) + t' := by omega
  have d : (x * (N + 1) + t) / (N + 1) = x := by rw [Nat.mul_comm, Nat.mul_add_div (by omega), Nat.div_eq_of_lt h]; rfl
  have d' : (x' * (N + 1) + t') / (N + 1) = x' := by rw [Nat.mul_comm, Nat.mul_add_div (by omega), Nat.div_eq_of_lt h']; rfl
  have hx : x = x' := by rw [← d, e, d']
  subst hx
  exact ⟨rfl, by omega⟩
theorem enc_big {N x t k : Nat} (h : k < 30) : enc N x t ≠ k := by unfold enc; omega
def GIII (F : FamF) (i N : Nat) (A : Option Addr) (n c : Nat) (f : List (List (List Int))) : Prop :=
  ∃ hs, GSl F i A n c hs ∧ hs.length = f.length ∧ ∀ (x : Nat) h r, hs[x]? = some h → f[x]? = some r → r.length ≤ N ∧ ∃ A' n' c', h = .slice A' n' c' ∧ GII F (enc N x 0) (fun t => enc N x (t + 1)) A' n' c' r
def gll (l : List (List (List Int))) (i : Int) : List (List Int) := l.getD i.toNat []
theorem gll_get {l : List (List (List Int))} {i : Int} {v : List (List Int)} (h : l[i.toNat]? = some v) : gll l i = v := by simp [gll, List.getD_eq_getElem?_getD, h]
theorem get_gll {l : List (List (List Int))} {i : Int} (h0 : 0 ≤ i) (h1 : i < l.length) : l[i.toNat]? = some (gll l i) := by
  have : i.toNat < l.length := by omega
  simp [gll, List.getD_eq_getElem?_getD, List.getElem?_eq_getElem this]
theorem gll_set {l : List (List (List Int))} {i j : Int} {v : List (List Int)} (h0 : 0 ≤ i) (h1 : i < l.length) (hj : 0 ≤ j) : gll (l.set i.toNat v) j = if j = i then v else gll l j := by
  unfold gll
  rw [List.getD_eq_getElem?_getD, List.getD_eq_getElem?_getD, List.getElem?_set]
  by_cases h : j = i
  · subst h
    have : j.toNat < l.length := by omega
    simp [this]
  · have : ¬ i.toNat = j.toNat := by omega
    simp [this, h]
theorem GIII.same {F' : FamF} {N : Nat} {f : List (List (List Int))} (h : GIII F i N A n c f) (e : F' i = F i) (hg : ∀ x t, F' (enc N x t) = F (enc N x t)) : GIII F' i N A n c f := by
  obtain ⟨hs, h1, h2, h3⟩ := h
  refine ⟨hs, h1.same e, h2, fun x h r hx hr => ?_⟩
  obtain ⟨h4, A', n', c', e, h5⟩ := h3 x h r hx hr
  exact ⟨h4, A', n', c', e, h5.same (hg x 0) fun t _ => hg x (t + 1)⟩
theorem GIII.len {N : Nat} {f : List (List (List Int))} (h : GIII F i N A n c f) : n = f.length := by
  obtain ⟨hs, h1, h2, _⟩ := h; rw [h1.len, h2]
/-- a cell's row, loaded -/
theorem GIII.get {N : Nat} {f : List (List (List Int))} (h : GIII F i N A n c f) (hF : Fam w0 w F) {x t : Int} (h0 : 0 ≤ x) (h1 : x < f.length) (t0 : 0 ≤ t) (t1 : t < (gll f x).length) {K : Option Addr → Nat → Prop}
    (hk : ∀ B, Row w B (ints (gl (gll f x) t)) → K B (gl (gll f x) t).length) :
    IxV A n 1 x fun a => ∃ A' n' c', w.cell? a = some (.slice A' n' c') ∧ IxV A' n' 1 t fun a => ∃ A2 n2 c2, w.cell? a = some (.slice A2 n2 c2) ∧ K A2 n2 := by
  obtain ⟨hs, h3, h4, h5⟩ := h
  refine h3.ix hF h0 (by omega) fun b rest v _ _ hv hc => ?_
  obtain ⟨_, A', n', c', rfl, h6⟩ := h5 _ _ _ hv (get_gll h0 h1)
  refine ⟨A', n', c', hc, h6.get hF t0 t1 (K := fun A2 n2 _ => K A2 n2) fun A2 n2 c2 h7 => ?_⟩
  have := hk A2 (h7.row hF)
  rw [h7.len, ints_len]; exact this
/-- append to a cell's row -/
theorem GIII.push {N : Nat} {f : List (List (List Int))} (h : GIII F i N A n c f) (hF : Fam w0 w F) (hi : i < 30) {x t v : Int} {z : Value} {e e2 : TypeId} (h0 : 0 ≤ x) (h1 : x < f.length) (t0 : 0 ≤ t) (t1 : t < (gll f x).length)
    (hlim : (gl (gll f x) t).length ≤ 17592186044413) {K : World → Prop}
    (hk : ∀ F' w', (∀ j, j < 30 → F' j = F j) → Fam w0 w' F' → GIII F' i N A n c (f.set x.toNat ((gll f x).set t.toNat (gl (gll f x) t ++ [v]))) → K w') :
    IxV A n 1 x fun a72 => ∃ A73 n74 n75, w.cell? a72 = some (.slice A73 n74 n75) ∧ IxV A n 1 x fun a76 => ∃ A77 n78 n79, w.cell? a76 = some (.slice A77 n78 n79) ∧ IxV A77 n78 1 t fun a80 => ∃ A81 n82 n83, w.cell? a80 = some (.slice A81 n82 n83) ∧
      NewK w (.cells (Array.mk [.int .i64 v]) e (0, 0)) fun n84 w85 => w85.cell? a80 = some (.slice A81 n82 n83) ∧ w85.cell? a76 = some (.slice A77 n78 n79) ∧ w85.cell? a72 = some (.slice A73 n74 n75) ∧
        AppK 8 1 [z] e2 A81 n82 n83 (some ⟨n84, 0, none⟩) 1 w85 fun A86 n87 n88 w89 => w89.cell? a72 = some (.slice A73 n74 n75) ∧ IxV A73 n74 1 t fun a90 => SetK w89 a90 (.slice A86 n87 n88) K := by
  obtain ⟨hs, h3, h4, h5⟩ := h
  have hxl : x.toNat < f.length := by omega
  have htl : t.toNat < (gll f x).length := by omega
  refine h3.ix hF h0 (by omega) fun b rest v1 hA1 hF1 hv1 hc1 => ?_
  obtain ⟨hN, A', n', c', rfl, h6⟩ := h5 _ _ _ hv1 (get_gll h0 h1)
  refine ⟨A', n', c', hc1, ?_⟩
  refine h3.ix hF h0 (by omega) fun b' rest' v2 hA2 hF2 hv2 hc2 => ?_
  rw [hv1] at hv2; injection hv2 with e1; subst e1
  refine ⟨A', n', c', hc2, ?_⟩
  obtain ⟨gs, g3, g4, g5⟩ := h6
  refine g3.ix hF t0 (by omega) fun b3 rest3 v3 hA3 hF3 hv3 hc3 => ?_
  obtain ⟨A2, n2, c2, rfl, h7⟩ := g5 _ _ _ hv3 (get_gl t0 t1)
  refine ⟨A2, n2, c2, hc3, fun bn w85 hn => ?_⟩
  have hE : Ext w w85 := hn.ext
  have hF85 := hF.ext hE
  refine ⟨hE.cell hc3, hE.cell hc2, hE.cell hc1, ?_⟩
  have ne1 : enc N x.toNat (t.toNat + 1) ≠ i := enc_big hi
  have ne2 : enc N x.toNat (t.toNat + 1) ≠ enc N x.toNat 0 := fun e => by have := (enc_inj (by omega) (by omega) e).2; omega
  have ne3 : enc N x.toNat 0 ≠ i := enc_big hi
  have hb : Row w85 (some ⟨bn, 0, none⟩) (ints [v]) := fun _ => ⟨_, rfl, fun j u hj => by
    rw [add_none, Nat.zero_add]; exact cell_holds (cs := [.int .i64 v]) ⟨e, hn.new⟩ hj⟩
  refine h7.append_ints (m := 1) hF85 hb rfl (by rw [h7.len, ints_len]; omega) fun F4 A4 c4 w4 ho4 hF4 h8 => ?_
  have hi4 : F4 i = F i := ho4 i (Ne.symm ne1)
  have hs4 : GSl F4 i A n c hs := h3.same hi4
  have hF1' : F4 i = some (b, .cells (hs ++ rest)) := by rw [hi4, hF1]
  refine ⟨cell_holds (hF4.own i b _ hF1').1 (by rw [List.getElem?_append_left (by omega)]; exact hv1), ?_⟩
  have g34 : GSl F4 (enc N x.toNat 0) A' n' c' gs := g3.same (ho4 _ (Ne.symm ne2))
  refine g34.set hF4 rfl t0 (by omega) fun F5 w5 ho5 hF5 g35 => ?_
  refine hk F5 w5 (fun j hj => by rw [ho5 j (Ne.symm (enc_big hj)), ho4 j (Ne.symm (enc_big hj))]) hF5 ⟨hs, hs4.same (ho5 i (Ne.symm ne3)), by simp [h4], fun x' hd r hx' hr => ?_⟩
  by_cases ex : x' = x.toNat
  · subst ex
    rw [List.getElem?_set_self hxl] at hr
    injection hr with hr; subst hr
    rw [hv1] at hx'; injection hx' with hx'; subst hx'
    refine ⟨by simp; exact hN, A', n', c', rfl, _, g35, by simp [g4], fun t' hd ys ht hy => ?_⟩
    by_cases et : t' = t.toNat
    · subst et
      rw [List.getElem?_set_self (by omega)] at ht hy
      injection ht with ht; injection hy with hy; subst ht hy
      exact ⟨_, _, _, rfl, h8.same (ho5 _ ne2)⟩
    · rw [List.getElem?_set_ne (Ne.symm et)] at ht hy
      have htl' := (List.getElem?_eq_some_iff.1 hy).1
      obtain ⟨A6, n6, c6, e6, h9⟩ := g5 t' hd ys ht hy
      refine ⟨A6, n6, c6, e6, h9.same ?_⟩
      have na : enc N x.toNat (t' + 1) ≠ enc N x.toNat 0 := fun e => by have := (enc_inj (by omega) (by omega) e).2; omega
      have nb : enc N x.toNat (t' + 1) ≠ enc N x.toNat (t.toNat + 1) := fun e => by have := (enc_inj (by omega) (by omega) e).2; omega
      rw [ho5 _ na, ho4 _ nb]
  · rw [List.getElem?_set_ne (Ne.symm ex)] at hr
    obtain ⟨hN', A6, n6, c6, e6, h9⟩ := h5 x' hd r hx' hr
    refine ⟨hN', A6, n6, c6, e6, h9.same ?_ fun t' ht' => ?_⟩
    · have na : enc N x' 0 ≠ enc N x.toNat 0 := fun e => ex (enc_inj (by omega) (by omega) e).1
      have nb : enc N x' 0 ≠ enc N x.toNat (t.toNat + 1) := fun e => ex (enc_inj (by omega) (by omega) e).1
      rw [ho5 _ na, ho4 _ nb]
    · have na : enc N x' (t' + 1) ≠ enc N x.toNat 0 := fun e => ex (enc_inj (by omega) (by omega) e).1
      have nb : enc N x' (t' + 1) ≠ enc N x.toNat (t.toNat + 1) := fun e => ex (enc_inj (by omega) (by omega) e).1
      rw [ho5 _ na, ho4 _ nb]
/-- rows that are not there yet -/
theorem GIII.make (hF : Fam w0 w F) (i N l : Nat) {e : TypeId} (hi : i < 30) (hg : ∀ x, F (enc N x 0) = none) {K : Nat → World → Prop}
    (hk : ∀ b F' w', Only i F F' → Fam w0 w' F' → GIII F' i N (some ⟨b, 0, none⟩) l l (List.replicate l []) → K b w') : NewK w (.cells (Array.mk (List.replicate l (.slice none 0 0))) e (0, 0)) K :=
  hF.mkRow i fun b F' w' ho hF' hs => by
    refine hk b F' w' ho hF' ⟨_, by simpa using hs, by simp, fun x h r hx hr => ?_⟩
    have hlt : x < l := by simpa using (List.getElem?_eq_some_iff.1 hr).1
    rw [List.getElem?_replicate, if_pos hlt] at hx hr
    injection hx with hx; injection hr with hr; subst hx hr
    exact ⟨by simp, none, 0, 0, rfl, [], .nil (by rw [ho _ (enc_big hi)]; exact hg x), rfl, fun t h xs ht => by simp at ht⟩
/-- a row of empty cells is laid -/
theorem GIII.lay {N : Nat} {f : List (List (List Int))} (h : GIII F i N A n c f) (hF : Fam w0 w F) (hi : i < 30) {x : Int} {m : Nat} {e : TypeId} (h0 : 0 ≤ x) (h1 : x < f.length) (hm : m ≤ N) (hg : ∀ t, t ≤ N → F (enc N x.toNat t) = none) {K : World → Prop}
    (hk : ∀ F' w', (∀ j, j ≠ i → j ≠ enc N x.toNat 0 → F' j = F j) → Fam w0 w' F' → GIII F' i N A n c (f.set x.toNat (List.replicate m [])) → K w') :
    NewK w (.cells (Array.mk (List.replicate m (.slice none 0 0))) e (0, 0)) fun b w9 => IxV A n 1 x fun a => SetK w9 a (.slice (some ⟨b, 0, none⟩) m m) K := by
  obtain ⟨hs, h3, h4, h5⟩ := h
  have ne : enc N x.toNat 0 ≠ i := enc_big hi
  refine GII.make hF (enc N x.toNat 0) (fun t => enc N x.toNat (t + 1)) m (fun t ht => ⟨fun e => by have := (enc_inj (by omega) (by omega) e).2; omega, hg (t + 1) (by omega)⟩) fun b F1 w1 ho1 hF1 hr1 => ?_
  refine (h3.keep ho1 (Ne.symm ne)).set hF1 rfl h0 (by omega) fun F2 w2 ho2 hF2 hs2 => ?_
  refine hk F2 w2 (fun j a b => by rw [ho2 j a, ho1 j b]) hF2 ⟨_, hs2, by simp [h4], fun x' hd r hx' hr => ?_⟩
  by_cases ex : x' = x.toNat
  · subst ex
    rw [List.getElem?_set_self (by omega)] at hx' hr
    injection hx' with hx'; injection hr with hr; subst hx' hr
    exact ⟨by simpa using hm, _, _, _, rfl, hr1.keep ho2 ne fun t _ => enc_big hi⟩
  · rw [List.getElem?_set_ne (Ne.symm ex)] at hx' hr
    obtain ⟨hN', A6, n6, c6, e6, h9⟩ := h5 x' hd r hx' hr
    refine ⟨hN', A6, n6, c6, e6, (h9.keep ho1 ?_ fun t ht => ?_).keep ho2 (enc_big hi) fun t _ => enc_big hi⟩
    · exact fun e => ex (enc_inj (by omega) (by omega) e).1
    · exact fun e => ex (enc_inj (by omega) (by omega) e).1
end
end Go.Proofs.Ytnkpjlhbojjneaa.VC

/- How the blocks begin: the kept states in their order, and from where each one is found. -/
namespace Go.Proofs.Ytnkpjlhbojjneaa.VC

structure Fill (m : Mach) (l : List Bool) (i j : Int) (order at_ acc : List Int) (f : List (List (List Int))) : Prop where
  al : at_.length = m.next.length
  ord : ∀ k : Int, 0 ≤ k → k < order.length → Kept l (gi order k) ∧ gi order k < i ∧ gi at_ (gi order k) = k
  pos : ∀ s, Kept l s → s < i → 0 ≤ gi at_ s ∧ gi at_ s < order.length ∧ gi order (gi at_ s) = s
  accm : ∀ s, s ∈ acc ↔ Kept l s ∧ s < i ∧ m.ends s = true
  accn : acc.Nodup
  fl : (f.length : Int) = m.letters
  fr : ∀ x, m.Let x → (gll f x).length = m.next.length
  mem : ∀ x t, m.Let x → Kept l t → ∀ s, s ∈ gl (gll f x) t ↔ Kept l s ∧ (s < i - 1 ∨ s = i - 1 ∧ x < j) ∧ m.step s x = t
  nodup : ∀ x t, m.Let x → Kept l t → (gl (gll f x) t).Nodup

theorem Fill.init {m : Mach} {l : List Bool} {f : List (List (List Int))} (hl : (f.length : Int) = m.letters) (hf : ∀ x, m.Let x → gll f x = List.replicate m.next.length []) : Fill m l 0 m.letters [] (List.replicate m.next.length 0) [] f where
  al := by simp
  ord := fun k h0 h1 => by simp at h1; omega
  pos := fun s hs h => by have := hs.1; omega
  accm := fun s => by
    constructor
    · intro h; simp at h
    · rintro ⟨h, h1, _⟩; have := h.1; omega
  accn := by simp
  fl := hl
  fr := fun x hx => by rw [hf x hx]; simp
  mem := fun x t hx ht s => by
    rw [hf x hx, gl_rep]
    constructor
    · intro h; simp at h
    · rintro ⟨h, h1, _⟩; have := h.1; omega
  nodup := fun x t hx ht => by rw [hf x hx, gl_rep]; simp
/-- a state that is not kept -/
theorem Fill.skip {m : Mach} {l : List Bool} {i : Int} {order at_ acc : List Int} {f : List (List (List Int))} (h : Fill m l i m.letters order at_ acc f) (hi : ¬ Kept l i) : Fill m l (i + 1) m.letters order at_ acc f where
  al := h.al
  ord := fun k h0 h1 => by have := h.ord k h0 h1; exact ⟨this.1, by omega, this.2.2⟩
  pos := fun s hs h1 => by
    by_cases e : s = i
    · subst e; exact absurd hs hi
    · exact h.pos s hs (by omega)
  accm := fun s => by
    rw [h.accm s]
    constructor
    · rintro ⟨a, b, c⟩; exact ⟨a, by omega, c⟩
    · rintro ⟨a, b, c⟩
      by_cases e : s = i
      · subst e; exact absurd a hi
      · exact ⟨a, by omega, c⟩
  accn := h.accn
  fl := h.fl
  fr := h.fr
  mem := fun x t hx ht s => by
    rw [h.mem x t hx ht s]
    unfold Mach.Let at hx
    constructor
    · rintro ⟨a, b, c⟩; exact ⟨a, by omega, c⟩
    · rintro ⟨a, b, c⟩
      by_cases e : s = i
      · subst e; exact absurd a hi
      · exact ⟨a, by omega, c⟩
  nodup := h.nodup
/-- a state that is kept -/
theorem Fill.add {m : Mach} {l : List Bool} {i : Int} {order at_ acc acc' : List Int} {f : List (List (List Int))} (h : Fill m l i m.letters order at_ acc f) (hi : Kept l i) (hn : i < m.next.length)
    (ha : m.ends i = true ∧ acc' = acc ++ [i] ∨ m.ends i = false ∧ acc' = acc) : Fill m l (i + 1) 0 (order ++ [i]) (at_.set i.toNat order.length) acc' f := by
  have hal := h.al
  have hg : ∀ x : Int, 0 ≤ x → gi (at_.set i.toNat order.length) x = if x = i then (order.length : Int) else gi at_ x := fun x hx => gi_set hi.1 (by omega) hx
  refine ⟨by simp [h.al], fun k h0 h1 => ?_, fun s hs h1 => ?_, fun s => ?_, ?_, h.fl, h.fr, fun x t hx ht s => ?_, h.nodup⟩
  · rw [List.length_append, List.length_singleton] at h1
    rcases ilt k order.length with e | e
    · rw [gi_left h0 e]
      have := h.ord k h0 e
      refine ⟨this.1, by omega, ?_⟩
      rw [hg _ this.1.1, if_neg (by omega)]; exact this.2.2
    · have : k = order.length := by omega
      subst this
      rw [gi_last, hg i hi.1, if_pos rfl]
      exact ⟨hi, by omega, rfl⟩
  · rw [hg s hs.1]
    by_cases e : s = i
    · subst e; rw [if_pos rfl, gi_last]; simp; omega
    · rw [if_neg e]
      have := h.pos s hs (by omega)
      rw [gi_left this.1 this.2.1]
      simp; omega
  · rcases ha with ⟨he, rfl⟩ | ⟨he, rfl⟩
    · rw [List.mem_append, List.mem_singleton, h.accm s]
      constructor
      · rintro (⟨a, b, c⟩ | rfl)
        · exact ⟨a, by omega, c⟩
        · exact ⟨hi, by omega, he⟩
      · rintro ⟨a, b, c⟩
        by_cases e : s = i
        · exact .inr e
        · exact .inl ⟨a, by omega, c⟩
    · rw [h.accm s]
      constructor
      · rintro ⟨a, b, c⟩; exact ⟨a, by omega, c⟩
      · rintro ⟨a, b, c⟩
        by_cases e : s = i
        · subst e; rw [he] at c; cases c
        · exact ⟨a, by omega, c⟩
  · rcases ha with ⟨he, rfl⟩ | ⟨he, rfl⟩
    · exact nodup_push h.accn fun hm => by have := ((h.accm i).1 hm).2.1; omega
    · exact h.accn
  · rw [h.mem x t hx ht s]
    unfold Mach.Let at hx
    constructor
    · rintro ⟨a, b, c⟩; exact ⟨a, by omega, c⟩
    · rintro ⟨a, b, c⟩; exact ⟨a, by omega, c⟩
theorem Fill.row {m : Mach} {l : List Bool} {i j : Int} {order at_ acc : List Int} {f : List (List (List Int))} (h : Fill m l i j order at_ acc f) (hj : m.letters ≤ j) : Fill m l i m.letters order at_ acc f :=
  ⟨h.al, h.ord, h.pos, h.accm, h.accn, h.fl, h.fr, fun x t hx ht s => by
    rw [h.mem x t hx ht s]
    unfold Mach.Let at hx
    constructor
    · rintro ⟨a, b, c⟩; exact ⟨a, by omega, c⟩
    · rintro ⟨a, b, c⟩; exact ⟨a, by omega, c⟩, h.nodup⟩
/-- a letter that leads to no kept state -/
theorem Fill.no {m : Mach} {l : List Bool} {i j : Int} {order at_ acc : List Int} {f : List (List (List Int))} (h : Fill m l (i + 1) j order at_ acc f) (hn : ¬ Kept l (m.step i j)) : Fill m l (i + 1) (j + 1) order at_ acc f :=
  ⟨h.al, h.ord, h.pos, h.accm, h.accn, h.fl, h.fr, fun x t hx ht s => by
    rw [h.mem x t hx ht s]
    constructor
    · rintro ⟨a, b, c⟩; exact ⟨a, by omega, c⟩
    · rintro ⟨a, b, c⟩
      by_cases e : s = i ∧ x = j
      · obtain ⟨rfl, rfl⟩ := e; rw [c] at hn; exact absurd ht hn
      · exact ⟨a, by omega, c⟩, h.nodup⟩
/-- a letter that leads to a kept state -/
theorem Fill.yes {m : Mach} {l : List Bool} {i j : Int} {order at_ acc : List Int} {f : List (List (List Int))} (h : Fill m l (i + 1) j order at_ acc f) (hl : l.length = m.next.length) (hi : Kept l i) (hj : m.Let j) {t : Int} (ht : m.step i j = t) (hk : Kept l t) :
    Fill m l (i + 1) (j + 1) order at_ acc (f.set j.toNat ((gll f j).set t.toNat (gl (gll f j) t ++ [i]))) := by
  have hfl := h.fl
  have hj' := hj
  unfold Mach.Let at hj
  have hkr := hk.lt
  have hfr := h.fr j hj'
  have hg : ∀ x : Int, 0 ≤ x → gll (f.set j.toNat ((gll f j).set t.toNat (gl (gll f j) t ++ [i]))) x = if x = j then (gll f j).set t.toNat (gl (gll f j) t ++ [i]) else gll f x := fun x hx => gll_set hj.1 (by omega) hx
  have hg2 : ∀ y : Int, 0 ≤ y → gl ((gll f j).set t.toNat (gl (gll f j) t ++ [i])) y = if y = t then gl (gll f j) t ++ [i] else gl (gll f j) y := fun y hy => gl_set hk.1 (by omega) hy
  refine ⟨h.al, h.ord, h.pos, h.accm, h.accn, by simp [h.fl], fun x hx => ?_, fun x t' hx ht' s => ?_, fun x t' hx ht' => ?_⟩
  · rw [hg x hx.1]; split
    · simp [hfr]
    · exact h.fr x hx
  · rw [hg x hx.1]
    by_cases e1 : x = j
    · subst e1
      rw [if_pos rfl, hg2 t' ht'.1]
      by_cases e2 : t' = t
      · subst e2
        rw [if_pos rfl, List.mem_append, List.mem_singleton, h.mem x t' hx ht' s]
        constructor
        · rintro (⟨a, b, c⟩ | rfl)
          · exact ⟨a, by omega, c⟩
          · exact ⟨hi, by omega, ht⟩
        · rintro ⟨a, b, c⟩
          by_cases e : s = i
          · exact .inr e
          · exact .inl ⟨a, by omega, c⟩
      · rw [if_neg e2, h.mem x t' hx ht' s]
        constructor
        · rintro ⟨a, b, c⟩; exact ⟨a, by omega, c⟩
        · rintro ⟨a, b, c⟩
          by_cases e : s = i
          · subst e; rw [ht] at c; exact absurd c.symm e2
          · exact ⟨a, by omega, c⟩
    · rw [if_neg e1, h.mem x t' hx ht' s]
      constructor
      · rintro ⟨a, b, c⟩; exact ⟨a, by omega, c⟩
      · rintro ⟨a, b, c⟩; exact ⟨a, by omega, c⟩
  · rw [hg x hx.1]
    by_cases e1 : x = j
    · subst e1
      rw [if_pos rfl, hg2 t' ht'.1]
      by_cases e2 : t' = t
      · subst e2
        rw [if_pos rfl]
        exact nodup_push (h.nodup x t' hx ht') fun hm => by have := ((h.mem x t' hx ht' i).1 hm).2.1; omega
      · rw [if_neg e2]; exact h.nodup x t' hx ht'
    · rw [if_neg e1]; exact h.nodup x t' hx ht'
theorem Fill.short {m : Mach} {l : List Bool} {i j : Int} {order at_ acc : List Int} {f : List (List (List Int))} (h : Fill m l i j order at_ acc f) (hl : l.length = m.next.length) {x t : Int} (hx : m.Let x) (ht : Kept l t) : (gl (gll f x) t).length ≤ m.next.length :=
  nodup_bound _ _ (h.nodup x t hx ht) fun s hs => by have := ((h.mem x t hx ht s).1 hs).1.lt; omega
theorem Fill.count {m : Mach} {l : List Bool} {i j : Int} {order at_ acc : List Int} {f : List (List (List Int))} (h : Fill m l i j order at_ acc f) (hl : l.length = m.next.length) : order.length ≤ m.next.length ∧ acc.length ≤ m.next.length := by
  constructor
  · refine nodup_bound _ _ ?_ fun s hs => ?_
    · rw [List.nodup_iff_pairwise_ne, List.pairwise_iff_getElem]
      intro a b ha hb hab e
      have h1 := (h.ord a (by omega) (by omega)).2.2; have h2 := (h.ord b (by omega) (by omega)).2.2
      have e1 : gi order a = gi order b := by
        unfold gi; simp only [List.getD_eq_getElem?_getD, Int.toNat_natCast, List.getElem?_eq_getElem ha, List.getElem?_eq_getElem hb, e]
      rw [e1, h2] at h1; omega
    · obtain ⟨k, k0, k1, rfl⟩ := mem_gi hs
      have := (h.ord k k0 k1).1.lt; omega
  · exact nodup_bound _ _ h.accn fun s hs => by have := ((h.accm s).1 hs).1.lt; omega
/-- all kept states, in one block -/
theorem Fill.wf {m : Mach} {l : List Bool} {j : Int} {order at_ acc : List Int} {f : List (List (List Int))} (h : Fill m l m.next.length j order at_ acc f) (hl : l.length = m.next.length) (hne : ∃ s, Kept l s) :
    (⟨order, at_, List.replicate m.next.length 0, [0], [(order.length : Int)]⟩ : Par).Wf (Kept l) m.next.length := by
  have g0 : ∀ v : Int, gi [v] 0 = v := fun v => rfl
  have kin : ∀ s, Kept l s → 0 ≤ s ∧ s < m.next.length := fun s hs => by have := hs.lt; omega
  refine ⟨kin, by simp [h.al], by simp, rfl, fun s hs => h.pos s hs (kin s hs).2, fun i h0 h1 => ⟨(h.ord i h0 h1).1, (h.ord i h0 h1).2.2⟩, fun s hs => ?_, fun b h0 h1 => ?_⟩
  · have := h.pos s hs (kin s hs).2
    simp only [gi_rep, g0, List.length_singleton]; omega
  · simp only [List.length_singleton] at h1
    have : b = 0 := by omega
    subst this
    simp only [gi_rep, g0]
    obtain ⟨s, hs⟩ := hne
    have := h.pos s hs (kin s hs).2
    exact ⟨by omega, by omega, by omega, fun _ _ _ => trivial⟩
theorem gi_part {l : List Int} {lo hi k : Int} (h0 : 0 ≤ lo) (h1 : 0 ≤ k) (h2 : k < hi - lo) : gi ((l.drop lo.toNat).take (hi.toNat - lo.toNat)) k = gi l (lo + k) := by
  unfold gi
  rw [List.getD_eq_getElem?_getD, List.getD_eq_getElem?_getD, List.getElem?_take, if_pos (by omega), List.getElem?_drop]
  congr 2; omega
/-- the states of a block, as a part of the order -/
theorem Par.Wf.part_mem {p : Par} {kept : Int → Prop} {n : Int} (h : p.Wf kept n) {b : Int} (hb0 : 0 ≤ b) (hb1 : b < p.first.length) {by_ : List Int} (e : by_ = (p.order.drop (gi p.first b).toNat).take ((gi p.first b + gi p.size b).toNat - (gi p.first b).toNat)) :
    by_.Nodup ∧ ∀ s, s ∈ by_ ↔ kept s ∧ gi p.block s = b := by
  have hs := h.seg b hb0 hb1
  have len : by_.length = (gi p.size b).toNat := by rw [e, List.length_take, List.length_drop]; omega
  have get : ∀ k : Int, 0 ≤ k → k < gi p.size b → gi by_ k = gi p.order (gi p.first b + k) := fun k h0 h1 => by
    rw [e]; exact gi_part hs.1 h0 (by omega)
  constructor
  · rw [List.nodup_iff_pairwise_ne, List.pairwise_iff_getElem]
    intro i j hi hj hij e2
    have e1 : gi by_ i = gi by_ j := by
      unfold gi; simp only [List.getD_eq_getElem?_getD, Int.toNat_natCast, List.getElem?_eq_getElem hi, List.getElem?_eq_getElem hj, e2]
    rw [get i (by omega) (by omega), get j (by omega) (by omega)] at e1
    have h1 := (h.ord (gi p.first b + i) (by omega) (by omega)).2
    have h2 := (h.ord (gi p.first b + j) (by omega) (by omega)).2
    rw [e1, h2] at h1; omega
  · intro s
    constructor
    · intro hm
      obtain ⟨k, k0, k1, rfl⟩ := mem_gi hm
      rw [get k k0 (by omega)]
      exact ⟨(h.ord _ (by omega) (by omega)).1, hs.2.2.2 _ (by omega) (by omega)⟩
    · rintro ⟨hk, hb⟩
      have hbs := h.blk s hk
      rw [hb] at hbs
      have hp := h.pos s hk
      have := get (gi p.at_ s - gi p.first b) (by omega) (by omega)
      rw [show gi p.first b + (gi p.at_ s - gi p.first b) = gi p.at_ s by omega, hp.2.2] at this
      rw [← this]
      exact gi_mem (by omega) (by omega)
end Go.Proofs.Ytnkpjlhbojjneaa.VC

/- The states that are kept: from the start, and to one that accepts. -/
namespace Go.Proofs.Ytnkpjlhbojjneaa.VC
open Go Go.RowKit

theorem j83_6 {w0 w : World} {F : FamF} {i q b k c : Nat} {A : Option Addr} {r : List Bool} {Q : List Int} {x x' : Int} {n : Nat} {N : Nat} {I : Int → Option Addr → Nat → Nat → Lp}
    (hF : Fam w0 w F) (hr : GSl F i (some ⟨b, 0, none⟩) n n (bools r)) (hq : GSl F q A k c (ints Q)) (hne : q ≠ i) (h0 : 0 ≤ x) (h1 : x < n) (hk : k ≤ 17592186044414)
    (yes : gb r x = true → J83_1 I x' A k c w N)
    (no : gb r x = false → ∀ F' A' c' w', (∀ j, j ≠ i → j ≠ q → F' j = F j) → Fam w0 w' F' → GSl F' i (some ⟨b, 0, none⟩) n n (bools (r.set x.toNat true)) → GSl F' q A' (k + 1) c' (ints (Q ++ [x])) → J83_1 I x' A' (k + 1) c' w' N) :
    J83_6 b n x w A k c I x' N := by
  have hl : n = r.length := by rw [hr.len, bools_len]
  refine hr.get_bool hF h0 (by omega) (K := fun t => condK (!t) _ _) ?_
  cases e : gb r x with
  | true => exact yes e
  | false =>
    refine hr.set_bool hF h0 (by omega) fun F1 w1 ho1 hF1 hr1 => ?_
    refine (hq.keep ho1 hne).push_int hF1 hk fun F2 A2 c2 w2 ho2 hF2 hq2 => ?_
    exact no e F2 A2 c2 w2 (fun j a b => by rw [ho2 j b, ho1 j a]) hF2 (hr1.keep ho2 (Ne.symm hne)) hq2

def g10 (t : Nat) : Nat := 10 + t
theorem g10_ne {t k : Nat} (h : k < 10) : g10 t ≠ k := by unfold g10; omega

structure St83 (m : Mach) (w w' : World) (F : FamF) (b2 b4 b6 : Nat) (r l : List Bool) (fr : List (List Int)) : Prop where
  fam : Fam w w' F
  re : GSl F 0 (some ⟨b2, 0, none⟩) m.next.length m.next.length (bools r)
  li : GSl F 1 (some ⟨b4, 0, none⟩) m.next.length m.next.length (bools l)
  fr : GII F 2 g10 (some ⟨b6, 0, none⟩) m.next.length m.next.length fr

theorem c83 {w : World} {m : Mach} {v : Value} {R : Res} (hm : MachAt w m v) (hsh : m.Shaped) (hN : m.next.length ≤ 1048576) (hL : m.letters ≤ 1048576)
    (hR : ∀ kv l w', Ext w w' → SlB w' kv l → Keep m l → R kv [] w') : CallsI Try.prog 83 [v] w [] R := by
  have hm0 := hm
  obtain ⟨_, _, rfl, ⟨A, c, hs, rfl, hA, hl, hx⟩, ⟨B, d, rfl, hB⟩⟩ := hm
  have hfin := hsh.fin
  have hLet := hsh.letters
  have main : ∀ (b2 b4 b6 : Nat) (I16 : Int → Option Addr → Nat → Nat → Lp) (x17 : Int) (A18 : Option Addr) (n19 n20 : Nat) (w21 : World) (n22 : Nat) (F : FamF) (r : List Bool) (q : List Int) (fr : List (List Int)),
      St83 m w w21 F b2 b4 b6 r (List.replicate m.next.length false) fr → GSl F 3 A18 n19 n20 (ints q) → GSl F 4 none 0 0 (ints []) → Find m r q fr x17 0 → 0 ≤ x17 → x17 ≤ q.length → (∀ t : Int, 0 ≤ t → t < m.next.length → ((gl fr t).length : Int) ≤ x17 * m.letters) →
      (∀ A' n' c' w' F r q fr, St83 m w w' F b2 b4 b6 r (List.replicate m.next.length false) fr → GSl F 3 A' n' c' (ints q) → GSl F 4 none 0 0 (ints []) → Find m r q fr (x17 + 1) 0 → x17 + 1 ≤ q.length → (∀ t : Int, 0 ≤ t → t < m.next.length → ((gl fr t).length : Int) ≤ (x17 + 1) * m.letters) → x17 < m.next.length → J83_1 I16 x17 A' n' c' w' n22) →
      J83_32 x17 n19 A18 w21 A m.next.length n20 b6 b2 I16 n22 B m.fin.length b4 R := by
    intro b2 b4 b6 I16 x17 A18 n19 n20 w21 n22 F r q fr hst hq h4 hf hx0 hx1 hbd hnext
    have hql : n19 = q.length := by rw [hq.len, ints_len]
    have hcount := hf.count
    refine condK_dec (fun hlt => ?_) fun hge => ?_
    · -- from one state on
      refine hq.get_int hst.fam hx0 (by omega) (K := fun t => IxV A _ 1 t _) ?_
      have hsr := hf.rng _ (gi_mem (l := q) hx0 (by omega))
      refine rd_row hst.fam.base hA hl hx hsr.1 hsr.2 (K := fun A26 n27 _ => ∃ I29 : Int → Option Addr → Nat → Nat → Lp, _) fun A' c' row hrow hr => ?_
      have hlen := (hsh.rows row (List.mem_of_getElem? hrow)).len
      refine ⟨fun x30 A31 n32 n33 => ⟨fun w34 => ∃ F r q2 fr, St83 m w w34 F b2 b4 b6 r (List.replicate m.next.length false) fr ∧ GSl F 3 A31 n32 n33 (ints q2) ∧ GSl F 4 none 0 0 (ints []) ∧ Find m r q2 fr x17 x30 ∧ x17 < q2.length ∧ gi q2 x17 = gi q x17 ∧ 0 ≤ x30 ∧ x30 ≤ m.letters ∧
          (∀ t : Int, 0 ≤ t → t < m.next.length → ((gl fr t).length : Int) ≤ x17 * m.letters + x30), fun _ => (m.letters - x30).toNat⟩,
        ⟨F, r, q, fr, hst, hq, h4, hf, by omega, rfl, by omega, by omega, fun t a b => by have := hbd t a b; omega⟩, ?_⟩
      rintro x30 A31 n32 n33 w34 ⟨F, r, q2, fr, hst, hq, h4, hf, hq2, hgi, h30, h31, hbd⟩ n35 rfl
      have hcount2 := hf.count
      have hql2 : n32 = q2.length := by rw [hq.len, ints_len]
      have hmul : x17 * m.letters ≤ 1048576 * 1048576 := Int.mul_le_mul (by omega) hL hLet (by omega)
      have step : ∀ A' n' c' w' F r q2 fr, St83 m w w' F b2 b4 b6 r (List.replicate m.next.length false) fr → GSl F 3 A' n' c' (ints q2) → GSl F 4 none 0 0 (ints []) → Find m r q2 fr x17 (x30 + 1) → x17 < q2.length → gi q2 x17 = gi q x17 → x30 < m.letters →
          (∀ t : Int, 0 ≤ t → t < m.next.length → ((gl fr t).length : Int) ≤ x17 * m.letters + (x30 + 1)) → J83_1 (fun x30 A31 n32 n33 => ⟨fun w34 => ∃ F r q2 fr, St83 m w w34 F b2 b4 b6 r (List.replicate m.next.length false) fr ∧ GSl F 3 A31 n32 n33 (ints q2) ∧ GSl F 4 none 0 0 (ints []) ∧ Find m r q2 fr x17 x30 ∧ x17 < q2.length ∧ gi q2 x17 = gi q x17 ∧ 0 ≤ x30 ∧ x30 ≤ m.letters ∧
          (∀ t : Int, 0 ≤ t → t < m.next.length → ((gl fr t).length : Int) ≤ x17 * m.letters + x30), fun _ => (m.letters - x30).toNat⟩) x30 A' n' c' w' (m.letters - x30).toNat := by
        intro A' n' c' w' F r q2 fr a1 a2 a3 a4 a5 a6 a7 a8
        rw [J83_1, wrap_id (by omega) (by omega)]
        exact ⟨⟨F, r, q2, fr, a1, a2, a3, a4, a5, a6, by omega, by omega, a8⟩, by simp only []; omega⟩
      refine condK_dec (fun hlt2 => ?_) fun hge2 => ?_
      · refine rd_int hst.fam.base hr h30 hlt2 (K := fun x37 => condK (decide (x37 < 0)) _ _) ?_
        rw [Mach.step_gi hrow hsr.1 h30 hlt2]
        have hsg := hsh.step_range (gi q x17) x30
        refine condK_dec (fun hneg => ?_) fun hpos => ?_
        · exact step _ _ _ _ F r q2 fr hst hq h4 (hf.skip (by rw [hgi]; exact hneg)) hq2 hgi (by omega) (fun t a b => by have := hbd t a b; omega)
        · generalize htt : m.step (gi q x17) x30 = t at *
          have hfl := hf.fl
          have hb2 := hbd t (by omega) hsg.2
          refine hst.fr.push hst.fam (by omega) (by omega) (fun k hk => ⟨g10_ne (by decide), fun e => by unfold g10 at e; omega⟩) (by omega) fun F1 w1 ho1 hF1 hfr1 => ?_
          have o0 : F1 0 = F 0 := ho1 0 (by decide) (Ne.symm (g10_ne (by decide)))
          have o1 : F1 1 = F 1 := ho1 1 (by decide) (Ne.symm (g10_ne (by decide)))
          have o3 : F1 3 = F 3 := ho1 3 (by decide) (Ne.symm (g10_ne (by decide)))
          have o4 : F1 4 = F 4 := ho1 4 (by decide) (Ne.symm (g10_ne (by decide)))
          have hbd1 : ∀ t' : Int, 0 ≤ t' → t' < m.next.length → ((gl (fr.set t.toNat (gl fr t ++ [gi q x17])) t').length : Int) ≤ x17 * m.letters + (x30 + 1) := fun t' a b => by
            rw [gl_set (by omega) (by omega) a]
            split
            · rw [List.length_append, List.length_singleton]; omega
            · have := hbd t' a b; omega
          refine j83_6 hF1 (hst.re.same o0) (hq.same o3) (by decide) (by omega) hsg.2 (by omega) (fun e => ?_) fun e F2 A2 c2 w2 ho2 hF2 hre2 hq2' => ?_
          · refine step _ _ _ _ F1 r q2 _ ⟨hF1, hst.re.same o0, hst.li.same o1, hfr1⟩ (hq.same o3) (h4.same o4) ?_ hq2 hgi (by omega) hbd1
            rw [← hgi]; exact hf.old hx0 hq2 (by rw [hgi]; exact htt) (by omega) hsg.2 e
          · refine step _ _ _ _ F2 _ _ _ ⟨hF2, hre2, (hst.li.same o1).same (ho2 1 (by decide) (by decide)), hfr1.same (ho2 2 (by decide) (by decide)) (fun k _ => ho2 _ (g10_ne (by decide)) (g10_ne (by decide)))⟩ hq2' ((h4.same o4).same (ho2 4 (by decide) (by decide))) ?_ (by simp; omega) (by rw [gi_left hx0 hq2]; exact hgi) (by omega) hbd1
            rw [← hgi]; exact hf.fresh hx0 hq2 (by rw [hgi]; exact htt) (by omega) hsg.2 e
      · refine hnext _ _ _ _ F r q2 fr hst hq h4 (hf.row (by omega)) (by omega) (fun t a b => ?_) (by omega)
        have := hbd t a b
        rw [Int.add_mul]; omega
    · have hbd' : ∀ t : Int, 0 ≤ t → t < m.next.length → ((gl fr t).length : Int) ≤ 1048576 * 1048576 := fun t a b => by
        have := hbd t a b
        have : x17 * m.letters ≤ 1048576 * 1048576 := Int.mul_le_mul (by omega) hL hLet (by omega)
        omega
      have hqr := hf.rng
      refine ⟨fun x61 A62 n63 n64 => ⟨fun w65 => ∃ F l p, St83 m w w65 F b2 b4 b6 r l fr ∧ GSl F 4 A62 n63 n64 (ints p) ∧ Acc m q l p x61 ∧ 0 ≤ x61 ∧ x61 ≤ m.next.length, fun _ => (m.next.length - x61).toNat⟩, ⟨F, _, [], hst, h4, .init, by omega, by omega⟩, ?_⟩
      rintro x61 A62 n63 n64 w65 ⟨F, l, p, hst, hp, hac, h60, h61⟩ n66 rfl
      have hpl : n63 = p.length := by rw [hp.len, ints_len]
      have hpc : p.length ≤ m.next.length := nodup_bound _ p hac.nodup hac.rng
      have hrl := hf.rl
      refine condK_dec (fun hlt => ?_) fun hge2 => ?_
      · refine hst.re.get_bool hst.fam h60 (by omega) (K := fun t => condK t _ _) ?_
        refine condK_of (fun hre => ?_) fun hre => ?_
        · refine rd_end hst.fam.base hB h60 (by omega) (K := fun t => condK t _ _) ?_
          refine condK_of (fun he => ?_) fun he => ?_
          · have hll := hac.ll
            refine hst.li.set_bool hst.fam h60 (by omega) fun F1 w1 ho1 hF1 hli1 => ?_
            refine (hp.keep ho1 (by decide)).push_int hF1 (by omega) fun F2 A2 c2 w2 ho2 hF2 hp2 => ?_
            rw [J83_1, wrap_id (by omega) (by omega)]
            refine ⟨⟨F2, _, _, ⟨hF2, (hst.re.keep ho1 (by decide)).keep ho2 (by decide), hli1.keep ho2 (by decide), (hst.fr.keep ho1 (by decide) fun k _ => g10_ne (by decide)).keep ho2 (by decide) fun k _ => g10_ne (by decide)⟩, hp2, hac.add h60 hlt ((hf.mark x61 h60 hlt).1 hre) he, by omega, by omega⟩, by simp only []; omega⟩
          · rw [J83_1, wrap_id (by omega) (by omega)]
            exact ⟨⟨F, l, p, hst, hp, hac.skip (fun h => by rw [h.2] at he; cases he), by omega, by omega⟩, by simp only []; omega⟩
        · rw [J83_1, wrap_id (by omega) (by omega)]
          exact ⟨⟨F, l, p, hst, hp, hac.skip (fun h => by rw [(hf.mark x61 h60 hlt).2 h.1] at hre; cases hre), by omega, by omega⟩, by simp only []; omega⟩
      · refine ⟨fun x80 A81 n82 n83 => ⟨fun w84 => ∃ F l p, St83 m w w84 F b2 b4 b6 r l fr ∧ GSl F 4 A81 n82 n83 (ints p) ∧ Back m q fr l p x80 0 ∧ 0 ≤ x80 ∧ x80 ≤ p.length, fun _ => (m.next.length - x80).toNat⟩, ⟨F, l, p, hst, hp, hac.back hqr (by omega) fr, by omega, by omega⟩, ?_⟩
        rintro x80 A81 n82 n83 w84 ⟨F, l, p, hst, hp, hbk, h80, h81⟩ n85 rfl
        have hpl : n82 = p.length := by rw [hp.len, ints_len]
        have hpc := hbk.count
        refine condK_dec (fun hlt => ?_) fun hge3 => ?_
        · refine hp.get_int hst.fam h80 (by omega) (K := fun t => IxV _ _ 1 t _) ?_
          have hpr := hbk.rng _ (gi_mem (l := p) h80 (by omega))
          have hfl := hf.fl
          refine hst.fr.get hst.fam hpr.1 (by omega) (K := fun A89 n90 _ => ∃ I92 : Int → Option Addr → Nat → Nat → Lp, _) fun A89 n90 c91 hrow => ?_
          refine ⟨fun x93 A94 n95 n96 => ⟨fun w97 => ∃ F l p2, St83 m w w97 F b2 b4 b6 r l fr ∧ GSl F (g10 (gi p x80).toNat) A89 n90 c91 (ints (gl fr (gi p x80))) ∧ GSl F 4 A94 n95 n96 (ints p2) ∧ Back m q fr l p2 x80 x93 ∧ x80 < p2.length ∧ gi p2 x80 = gi p x80 ∧ 0 ≤ x93 ∧ x93 ≤ (gl fr (gi p x80)).length, fun _ => ((gl fr (gi p x80)).length - x93).toNat⟩,
            ⟨F, l, p, hst, hrow, hp, hbk, by omega, rfl, by omega, by omega⟩, ?_⟩
          rintro x93 A94 n95 n96 w97 ⟨F, l, p2, hst, hrow, hp2, hbk, h90, hgi, h93, h94⟩ n98 rfl
          have hn90 : n90 = (gl fr (gi p x80)).length := by rw [hrow.len, ints_len]
          have hpl2 : n95 = p2.length := by rw [hp2.len, ints_len]
          have hpc2 := hbk.count
          have hlen2 := hbd' (gi p x80) hpr.1 (by omega)
          refine condK_dec (fun hlt3 => ?_) fun hge4 => ?_
          · refine hrow.get_int hst.fam h93 (by omega) (K := fun x100 => J83_6 b4 _ x100 _ _ _ _ _ _ _) ?_
            have hmem := gi_mem (l := gl fr (gi p x80)) (k := x93) h93 (by omega)
            obtain ⟨hsq, x, hsx⟩ := hf.from_ _ hpr.1 hpr.2 _ hmem
            have hsr := hqr _ hsq
            generalize hs0 : gi (gl fr (gi p x80)) x93 = s at *
            have hll := hbk.ll
            refine j83_6 hst.fam hst.li hp2 (by decide) hsr.1 hsr.2 (by omega) (fun e => ?_) fun e F2 A2 c2 w2 ho2 hF2 hli2 hp2' => ?_
            · rw [J83_1, wrap_id (by omega) (by omega)]
              exact ⟨⟨F, l, p2, hst, hrow, hp2, hbk.old (by rw [hgi]; exact hs0) hsr.1 hsr.2 e, h90, hgi, by omega, by omega⟩, by simp only []; omega⟩
            · rw [J83_1, wrap_id (by omega) (by omega)]
              refine ⟨⟨F2, _, _, ⟨hF2, hst.re.same (ho2 0 (by decide) (by decide)), hli2, hst.fr.same (ho2 2 (by decide) (by decide)) fun k _ => ho2 _ (g10_ne (by decide)) (g10_ne (by decide))⟩, hrow.same (ho2 _ (g10_ne (by decide)) (g10_ne (by decide))), hp2', ?_, by simp; omega, by rw [gi_left h80 h90]; exact hgi, by omega, by omega⟩, by simp only []; omega⟩
              refine hbk.fresh h80 h90 (by rw [hgi]; exact hs0) hsr.1 hsr.2 e hsq ?_
              obtain ⟨u, hu⟩ := (hbk.sound _ (gi_mem h80 h90)).2
              exact ⟨x :: u, by rw [Mach.acc_cons, hsx, ← hgi]; exact hu⟩
          · rw [J83_1, wrap_id (by omega) (by omega)]
            exact ⟨⟨F, l, p2, hst, hp2, hbk.row (by rw [hgi]; omega), by omega, by omega⟩, by simp only []; omega⟩
        · exact hR _ l _ hst.fam.base (hst.li.slb hst.fam) (hbk.keep hf hsh (by omega) (by omega))
  -- the loop from the start on
  have go : ∀ (b2 b4 : Nat) (w5 : World) (F : FamF), Fam w w5 F → GSl F 0 (some ⟨b2, 0, none⟩) m.next.length m.next.length (bools (List.replicate m.next.length false)) → GSl F 1 (some ⟨b4, 0, none⟩) m.next.length m.next.length (bools (List.replicate m.next.length false)) → (∀ j, 2 ≤ j → F j = none) →
      J83_39 m.next.length w5 m.start b2 A B m.fin.length b4 R := by
    intro b2 b4 w5 F hF h0 h1 hnone
    refine ⟨rfl, by omega, by omega, by omega, ?_⟩
    refine GII.make hF 2 g10 m.next.length (fun t _ => ⟨g10_ne (by decide), hnone _ (by unfold g10; omega)⟩) fun b6 F1 w7 ho1 hF1 hfr => ?_
    have h0' := h0.keep ho1 (by decide)
    have h1' := h1.keep ho1 (by decide)
    have h3 : GSl F1 3 none 0 0 (ints []) := .nil (by rw [ho1 3 (by decide)]; exact hnone 3 (by decide))
    have h4 : GSl F1 4 none 0 0 (ints []) := .nil (by rw [ho1 4 (by decide)]; exact hnone 4 (by decide))
    have loop : ∀ (A12 : Option Addr) (n13 n14 : Nat) (w15 : World) F r q, St83 m w w15 F b2 b4 b6 r (List.replicate m.next.length false) (List.replicate m.next.length []) → GSl F 3 A12 n13 n14 (ints q) → GSl F 4 none 0 0 (ints []) → Find m r q (List.replicate m.next.length []) 0 0 →
        ∃ I16 : Int → Option Addr → Nat → Nat → Lp, (I16 0 A12 n13 n14).1 w15 ∧ ((x17 : Int) → (A18 : Option Addr) → (n19 n20 : Nat) → (w21 : World) → (I16 x17 A18 n19 n20).1 w21 → (n22 : Nat) → (I16 x17 A18 n19 n20).m w21 = n22 → J83_32 x17 n19 A18 w21 A m.next.length n20 b6 b2 I16 n22 B m.fin.length b4 R) := by
      intro A12 n13 n14 w15 F r q hst hq h4 hf
      refine ⟨fun x17 A18 n19 n20 => ⟨fun w21 => ∃ F r q fr, St83 m w w21 F b2 b4 b6 r (List.replicate m.next.length false) fr ∧ GSl F 3 A18 n19 n20 (ints q) ∧ GSl F 4 none 0 0 (ints []) ∧ Find m r q fr x17 0 ∧ 0 ≤ x17 ∧ x17 ≤ q.length ∧ (∀ t : Int, 0 ≤ t → t < m.next.length → ((gl fr t).length : Int) ≤ x17 * m.letters), fun _ => (m.next.length - x17).toNat⟩,
        ⟨F, r, q, _, hst, hq, h4, hf, by omega, by omega, fun t _ _ => by rw [gl_rep]; simp⟩, ?_⟩
      rintro x17 A18 n19 n20 w21 ⟨F, r, q, fr, hst, hq, h4, hf, h170, h171, hbd⟩ n22 rfl
      refine main b2 b4 b6 _ x17 A18 n19 n20 w21 _ F r q fr hst hq h4 hf h170 h171 hbd fun A' n' c' w' F r q fr a1 a2 a3 a4 a5 a6 a7 => ?_
      rw [J83_1, wrap_id (by omega) (by omega)]
      exact ⟨⟨F, r, q, fr, a1, a2, a3, a4, by omega, a5, a6⟩, by simp only []; omega⟩
    refine condK_dec (fun hs => ?_) fun hs => ?_
    · have hsr := hsh.start_range
      refine h0'.set_bool hF1 hs (by simpa using hsr.2) fun F2 w9 ho2 hF2 hre2 => ?_
      refine (h3.keep ho2 (by decide)).push_int hF2 (by decide) fun F3 A12 c12 w15 ho3 hF3 hq3 => ?_
      exact loop A12 _ c12 w15 F3 _ _ ⟨hF3, hre2.keep ho3 (by decide), (h1'.keep ho2 (by decide)).keep ho3 (by decide), (hfr.keep ho2 (by decide) fun k _ => g10_ne (by decide)).keep ho3 (by decide) fun k _ => g10_ne (by decide)⟩ hq3 ((h4.keep ho2 (by decide)).keep ho3 (by decide)) (Find.some hs hsr.2)
    · exact loop none 0 0 w7 F1 _ [] ⟨hF1, h0', h1', hfr⟩ h3 h4 (Find.none (by omega))
  have rep : bools (List.replicate m.next.length false) = List.replicate m.next.length (.bool false) := bools_rep ..
  refine s83 _ _ _ _ _ _ _ _ _ _ fun _ => ⟨⟨rfl, by omega, by omega, by omega, ?_⟩, ⟨rfl, by omega, by omega, by omega, ?_⟩⟩
  · refine (Fam.empty w).mkRow 0 fun b2 F1 w3 ho1 hF1 hr1 => ⟨rfl, by omega, by omega, by omega, ?_⟩
    refine hF1.mkRow 1 fun b4 F2 w5 ho2 hF2 hl2 => ?_
    refine go b2 b4 w5 F2 hF2 ?_ ?_ fun j hj => by rw [ho2 j (by omega), ho1 j (by omega)]
    · rw [rep]; have := hr1.keep ho2 (by decide); rw [List.length_replicate] at this; exact this
    · rw [rep]; rw [List.length_replicate] at hl2; exact hl2
  · refine (Fam.empty w).mkRow 1 fun b4 F1 w3 ho1 hF1 hr1 => ⟨rfl, by omega, by omega, by omega, ?_⟩
    refine hF1.mkRow 0 fun b2 F2 w5 ho2 hF2 hl2 => ?_
    refine go b2 b4 w5 F2 hF2 ?_ ?_ fun j hj => by rw [ho2 j (by omega), ho1 j (by omega)]
    · rw [rep]; rw [List.length_replicate] at hl2; exact hl2
    · rw [rep]; have := hr1.keep ho2 (by decide); rw [List.length_replicate] at this; exact this
end Go.Proofs.Ytnkpjlhbojjneaa.VC

/- A waiting block is added; what is done with a block that was parted. -/
namespace Go.Proofs.Ytnkpjlhbojjneaa.VC
open Go Go.RowKit

abbrev unitV : Value := Value.tuple (Array.mk [])
theorem c105 {w0 w : World} {F : FamF} {b1 b4 : Nat} {Y X : Option Addr} {y0 y1 x0 x1 : Nat} {q : Int} {wt : List Bool} {wk : List Int} {R : Res}
    (hF : Fam w0 w F) (hY : GSl F 5 Y y0 y1 (bools wt)) (hX : GSl F 6 X x0 x1 (ints wk)) (h0 : 0 ≤ q) (h1 : q < wt.length) (hl : wk.length ≤ 1048576)
    (yes : gb wt q = true → R unitV [[.slice Y y0 y1], [.slice X x0 x1]] w)
    (no : gb wt q = false → ∀ F' w' A c, (∀ j, j ≠ 5 → j ≠ 6 → F' j = F j) → Fam w0 w' F' → GSl F' 5 Y y0 y1 (bools (wt.set q.toNat true)) → GSl F' 6 A (x0 + 1) c (ints (wk ++ [q])) → R unitV [[.slice Y y0 y1], [.slice A (x0 + 1) c]] w') :
    CallsI Try.prog 105 [.int .i64 q, .pointer (some ⟨b1, 0, none⟩), .pointer (some ⟨b4, 0, none⟩)] w [(b1, 23, [.slice Y y0 y1]), (b4, 26, [.slice X x0 x1])] R := by
  refine s105 _ _ _ _ _ _ _ _ _ _ _ (hY.get_bool hF h0 h1 (K := fun t => condK (!t) _ _) ?_)
  cases e : gb wt q with
  | true => exact yes e
  | false =>
    refine hY.set_bool hF h0 h1 fun F1 w1 ho1 hF1 hY1 => ?_
    refine (hX.keep ho1 (by decide)).push_int hF1 (by rw [hX.len, ints_len]; omega) fun F2 A2 c2 w2 ho2 hF2 hX2 => ?_
    exact no e F2 w2 A2 c2 (fun j a b => by rw [ho2 j b, ho1 j a]) hF2 (hY1.keep ho2 (by decide)) hX2

/-- the blocks that a call of split is lent -/
abbrev lent (b0 b1 b2 b3 b4 : Nat) (O : Option Addr) (o0 o1 : Nat) (T : Option Addr) (t0 t1 : Nat) (U : Option Addr) (u0 u1 : Nat) (F : Option Addr) (f0 f1 : Nat) (Z : Option Addr) (z0 z1 : Nat) (Y : Option Addr) (y0 y1 : Nat) (X : Option Addr) (x0 x1 : Nat) : Imp :=
  [(b0, 133, [.slice O o0 o1, .slice T t0 t1, .slice U u0 u1, .slice F f0 f1, .slice Z z0 z1]), (b1, 23, [.slice Y y0 y1]), (b2, 131, [.pointer (some ⟨b0, 0, none⟩)]), (b3, 89, [.func (.func 105) #[] #[.pointer (some ⟨b1, 0, none⟩), .pointer (some ⟨b4, 0, none⟩)]]), (b4, 26, [.slice X x0 x1])]
abbrev lentR (b0 b1 b4 : Nat) (O : Option Addr) (o0 o1 : Nat) (T : Option Addr) (t0 t1 : Nat) (U : Option Addr) (u0 u1 : Nat) (F : Option Addr) (f0 f1 : Nat) (Z : Option Addr) (z0 z1 : Nat) (Y : Option Addr) (y0 y1 : Nat) (X : Option Addr) (x0 x1 : Nat) : List (List Value) :=
  [[.slice O o0 o1, .slice T t0 t1, .slice U u0 u1, .slice F f0 f1, .slice Z z0 z1], [.slice Y y0 y1], [.pointer (some ⟨b0, 0, none⟩)], [.func (.func 105) #[] #[.pointer (some ⟨b1, 0, none⟩), .pointer (some ⟨b4, 0, none⟩)]], [.slice X x0 x1]]

/-- what split asks of the function that it is given -/
def CBSpec (g : Nat) (cap : List Value) (w0 : World) (b0 b1 b2 b3 b4 : Nat) : Prop :=
  ∀ (w : World) (F : FamF) (size : List Int) (wt : List Bool) (wk : List Int) (O : Option Addr) (o0 o1 : Nat) (T : Option Addr) (t0 t1 : Nat) (U : Option Addr) (u0 u1 : Nat) (Fi : Option Addr) (f0 f1 : Nat) (Z : Option Addr) (z0 z1 : Nat) (Y : Option Addr) (y0 y1 : Nat) (X : Option Addr) (x0 x1 : Nat) (q : Int) (R : Res),
    Fam w0 w F → GSl F 4 Z z0 z1 (ints size) → GSl F 5 Y y0 y1 (bools wt) → GSl F 6 X x0 x1 (ints wk) → size.length = wt.length + 1 → 0 ≤ q → q < wt.length → wt.length ≤ 1048576 → wk.length ≤ 1048576 →
    (∀ F' w' Y' y0' y1' X' x0' x1' wt' wk', (∀ j, j ≠ 5 → j ≠ 6 → F' j = F j) → Fam w0 w' F' → GSl F' 5 Y' y0' y1' (bools wt') → GSl F' 6 X' x0' x1' (ints wk') → CB wt.length q wt wk wt' wk' →
      R unitV (lentR b0 b1 b4 O o0 o1 T t0 t1 U u0 u1 Fi f0 f1 Z z0 z1 Y' y0' y1' X' x0' x1') w') →
    CallsI Try.prog g (.int .i64 q :: .int .i64 wt.length :: cap) w (lent b0 b1 b2 b3 b4 O o0 o1 T t0 t1 U u0 u1 Fi f0 f1 Z z0 z1 Y y0 y1 X x0 x1) R

theorem set_last {wt : List Bool} : (wt ++ [false]).set (wt.length : Int).toNat true = wt ++ [true] := by
  rw [Int.toNat_natCast, List.set_append_right _ _ (Nat.le_refl _)]; simp

theorem c107 (w0 : World) (b0 b1 b2 b3 b4 : Nat) : CBSpec 107 [.pointer (some ⟨b1, 0, none⟩), .pointer (some ⟨b3, 0, none⟩)] w0 b0 b1 b2 b3 b4 := by
  intro w F size wt wk O o0 o1 T t0 t1 U u0 u1 Fi f0 f1 Z z0 z1 Y y0 y1 X x0 x1 q R hF hZ hY hX hs h0 h1 hl hk hR
  refine s107 _ _ _ _ _ _ _ _ _ _ _ _ _ _ _ _ _ _ _ _ _ _ _ _ _ _ _ _ _ _ ?_
  refine hY.push_bool hF (by rw [hY.len, bools_len]; omega) fun F1 A1 c1 w1 ho1 hF1 hY1 => ?_
  refine c105 hF1 hY1 (hX.keep ho1 (by decide)) (by omega) (by simp; omega) hk (fun e => ?_) fun e F2 w2 A2 c2 ho2 hF2 hY2 hX2 => ?_
  · rw [gb_last] at e; cases e
  · rw [set_last] at hY2
    exact ⟨rfl, _, _, _, _, _, _, rfl, hR F2 w2 _ _ _ _ _ _ _ _ (fun j a b => by rw [ho2 j a b, ho1 j a]) hF2 hY2 hX2 (.inl ⟨rfl, rfl⟩)⟩

theorem c109 (w0 : World) (b0 b1 b2 b3 b4 : Nat) : CBSpec 109 [.pointer (some ⟨b1, 0, none⟩), .pointer (some ⟨b2, 0, none⟩), .pointer (some ⟨b3, 0, none⟩)] w0 b0 b1 b2 b3 b4 := by
  intro w F size wt wk O o0 o1 T t0 t1 U u0 u1 Fi f0 f1 Z z0 z1 Y y0 y1 X x0 x1 q R hF hZ hY hX hs h0 h1 hl hk hR
  refine s109 _ _ _ _ _ _ _ _ _ _ _ _ _ _ _ _ _ _ _ _ _ _ _ _ _ _ _ _ _ _ ?_
  refine hY.push_bool hF (by rw [hY.len, bools_len]; omega) fun F1 A1 c1 w1 ho1 hF1 hY1 => ?_
  have hX1 := hX.keep ho1 (by decide)
  have hZ1 := hZ.keep ho1 (by decide)
  have fresh : J109_6 wt.length b1 b4 w1 A1 (y0 + 1) c1 X x0 x1 R O o0 o1 T t0 t1 U u0 u1 Fi f0 f1 Z z0 z1 b0 := by
    refine c105 hF1 hY1 hX1 (by omega) (by simp; omega) hk (fun e => ?_) fun e F2 w2 A2 c2 ho2 hF2 hY2 hX2 => ?_
    · rw [gb_last] at e; cases e
    · rw [set_last] at hY2
      exact ⟨rfl, _, _, _, _, _, _, rfl, hR F2 w2 _ _ _ _ _ _ _ _ (fun j a b => by rw [ho2 j a b, ho1 j a]) hF2 hY2 hX2 (.inl ⟨rfl, rfl⟩)⟩
  refine hY1.get_bool hF1 h0 (by simp; omega) (K := fun t => condK t _ _) ?_
  refine condK_of (fun _ => fresh) fun e => ?_
  rw [gb_left h0 h1] at e
  refine hZ1.get_int hF1 (by omega) (by omega) (K := fun x19 => IxV Z z0 1 q _) ?_
  refine hZ1.get_int hF1 h0 (by omega) (K := fun x21 => condK _ _ _) ?_
  refine condK_dec (fun _ => fresh) fun _ => ?_
  refine c105 hF1 hY1 hX1 h0 (by simp; omega) hk (fun e2 => ?_) fun e2 F2 w2 A2 c2 ho2 hF2 hY2 hX2 => ?_
  · rw [gb_left h0 h1, e] at e2; cases e2
  · exact ⟨rfl, _, _, _, _, _, _, rfl, hR F2 w2 _ _ _ _ _ _ _ _ (fun j a b => by rw [ho2 j a b, ho1 j a]) hF2 hY2 hX2 (.inr ⟨e, rfl, rfl⟩)⟩
end Go.Proofs.Ytnkpjlhbojjneaa.VC

/- Blocks are parted by marked states. -/
namespace Go.Proofs.Ytnkpjlhbojjneaa.VC
open Go Go.RowKit

theorem Par.Wf.total {p : Par} {kept : Int → Prop} {n : Int} (h : p.Wf kept n) : (p.order.length : Int) ≤ n := by
  have hn : 0 ≤ n := by have := h.atl; omega
  have := nodup_bound n.toNat p.order ?_ fun x hx => ?_
  · omega
  · rw [List.nodup_iff_pairwise_ne, List.pairwise_iff_getElem]
    intro i j hi hj hij e
    have h1 := (h.ord i (by omega) (by omega)).2; have h2 := (h.ord j (by omega) (by omega)).2
    have e1 : gi p.order i = gi p.order j := by
      unfold gi; simp only [List.getD_eq_getElem?_getD, Int.toNat_natCast, List.getElem?_eq_getElem hi, List.getElem?_eq_getElem hj, e]
    rw [e1, h2] at h1; omega
  · obtain ⟨k, k0, k1, rfl⟩ := mem_gi hx
    have := h.kin _ (h.ord k k0 k1).1
    omega
theorem Par.Marks.congr {p : Par} {kept : Int → Prop} {cnt : Int → Int} {done done' : Int → Prop} (h : p.Marks kept cnt done) (e : ∀ s, done s ↔ done' s) : p.Marks kept cnt done' := ⟨h.num, fun s hs => by rw [← e]; exact h.mark s hs⟩
theorem take_mem {l : List Int} {i : Int} (h0 : 0 ≤ i) (h1 : i < l.length) (x : Int) : x ∈ l.take (i + 1).toNat ↔ x ∈ l.take i.toNat ∨ x = gi l i := by
  have e : (i + 1).toNat = i.toNat + 1 := by omega
  rw [e, List.take_add_one, get_gi h0 h1, List.mem_append]; simp
theorem take_not {l : List Int} (hl : l.Nodup) {i : Int} (h0 : 0 ≤ i) (h1 : i < l.length) : gi l i ∉ l.take i.toNat := by
  intro h
  obtain ⟨k, hk⟩ := List.mem_iff_getElem?.1 h
  rw [List.getElem?_take] at hk
  split at hk
  · rename_i hlt
    have e := get_gi h0 h1
    obtain ⟨a, ha⟩ := List.getElem?_eq_some_iff.1 hk; obtain ⟨b, hb⟩ := List.getElem?_eq_some_iff.1 e
    have := (List.getElem_inj hl (h₀ := a) (h₁ := b)).1 (by rw [ha, hb])
    omega
  · cases hk
theorem drop_cons {l : List Int} {i : Int} (h0 : 0 ≤ i) (h1 : i < l.length) : l.drop i.toNat = gi l i :: l.drop (i + 1).toNat := by
  have e : (i + 1).toNat = i.toNat + 1 := by omega
  have hlt : i.toNat < l.length := by omega
  rw [e, List.drop_eq_getElem_cons hlt]
  congr 1
  exact (gi_get (List.getElem?_eq_getElem hlt)).symm

/-- the slices of blocks -/
structure PMem (F : FamF) (O : Option Addr) (o0 o1 : Nat) (T : Option Addr) (t0 t1 : Nat) (U : Option Addr) (u0 u1 : Nat) (Fi : Option Addr) (f0 f1 : Nat) (Z : Option Addr) (z0 z1 : Nat) (p : Par) : Prop where
  o : GSl F 0 O o0 o1 (ints p.order)
  t : GSl F 1 T t0 t1 (ints p.at_)
  u : GSl F 2 U u0 u1 (ints p.block)
  f : GSl F 3 Fi f0 f1 (ints p.first)
  z : GSl F 4 Z z0 z1 (ints p.size)

set_option maxHeartbeats 4000000 in
theorem c106 {w0 w : World} {F0 : FamF} {g : Nat} {cap : Array Value} {b0 b1 b2 b3 b4 : Nat} {O : Option Addr} {o0 o1 : Nat} {T : Option Addr} {t0 t1 : Nat} {U : Option Addr} {u0 u1 : Nat} {Fi : Option Addr} {f0 f1 : Nat} {Z : Option Addr} {z0 z1 : Nat} {Y : Option Addr} {y0 y1 : Nat} {X : Option Addr} {x0 x1 : Nat}
    {D : Option Addr} {k e : Nat} {p0 : Par} {kept : Int → Prop} {n : Int} {wt : List Bool} {wk marked : List Int} {R : Res}
    (hF : Fam w0 w F0) (hpm : PMem F0 O o0 o1 T t0 t1 U u0 u1 Fi f0 f1 Z z0 z1 p0) (hY : GSl F0 5 Y y0 y1 (bools wt)) (hX : GSl F0 6 X x0 x1 (ints wk)) (hD : GSl F0 8 D k e (ints marked)) (h20 : F0 20 = none) (h21 : F0 21 = none)
    (hp : p0.Wf kept n) (hn : n ≤ 1048576) (hmk : ∀ s ∈ marked, kept s) (hnd : marked.Nodup) (hg : CBSpec g cap.1 w0 b0 b1 b2 b3 b4)
    (Inv : List Int → Nat → List Bool → List Int → Prop) (hi : Inv p0.block p0.first.length wt wk)
    (hlen : ∀ (q : Par) wt wk, q.Wf kept n → Inv q.block q.first.length wt wk → wt.length = q.first.length ∧ wk.length ≤ 1048576)
    (hstep : ∀ (q q' : Par) wt wk wt' wk' b, q.Wf kept n → Inv q.block q.first.length wt wk → q.Parts q' kept (fun s => s ∈ marked) b → CB q.first.length b wt wk wt' wk' → Inv q'.block q'.first.length wt' wk')
    (hR : ∀ F' w' p' wt' wk' O o0 o1 T t0 t1 U u0 u1 Fi f0 f1 Z z0 z1 Y y0 y1 X x0 x1, (∀ j, 7 ≤ j → F' j = F0 j) → Fam w0 w' F' → PMem F' O o0 o1 T t0 t1 U u0 u1 Fi f0 f1 Z z0 z1 p' → GSl F' 5 Y y0 y1 (bools wt') → GSl F' 6 X x0 x1 (ints wk') →
      p'.Wf kept n → p'.order.length = p0.order.length → (∀ s t, kept s → kept t → gi p'.block s = gi p'.block t → (s ∈ marked ↔ t ∈ marked)) → Inv p'.block p'.first.length wt' wk' → R unitV (lentR b0 b1 b4 O o0 o1 T t0 t1 U u0 u1 Fi f0 f1 Z z0 z1 Y y0 y1 X x0 x1) w') :
    CallsI Try.prog 106 [.pointer (some ⟨b0, 0, none⟩), .slice D k e, .func (.func g) #[] cap] w (lent b0 b1 b2 b3 b4 O o0 o1 T t0 t1 U u0 u1 Fi f0 f1 Z z0 z1 Y y0 y1 X x0 x1) R := by
  have hk : k = marked.length := by rw [hD.len, ints_len]
  have htot := hp.total
  have hcnt0 := hp.count
  have hatl := hp.atl
  have hbll := hp.bll
  have hmn : (marked.length : Int) ≤ n := by
    have := nodup_bound n.toNat marked hnd fun s hs => by have := hp.kin s (hmk s hs); omega
    omega
  refine s106 _ _ _ _ _ _ _ _ _ _ _ _ _ _ _ _ _ _ _ _ _ _ _ _ _ _ _ _ _ _ _ _ _ ?_
  refine GM.make hF 20 KT.int (Value.int .i64) fun n1 F1 w2 ho1 hF1 hmap => ?_
  refine ⟨fun x4 A5 n6 n7 => ⟨fun w8 => ∃ (F : FamF) (p : Par) (cnt : Int → Int) (f : Int → Option Value) (td : List Int), Fam w0 w8 F ∧ (∀ j, j ≠ 0 → j ≠ 1 → j ≠ 20 → j ≠ 21 → F j = F0 j) ∧ GSl F 0 O o0 o1 (ints p.order) ∧ GSl F 1 T t0 t1 (ints p.at_) ∧ GM F 20 KT.int (Value.int .i64) n1 f ∧ GSl F 21 A5 n6 n7 (ints td) ∧
      p.Wf kept n ∧ p.Marks kept cnt (fun s => s ∈ marked.take x4.toNat) ∧ p.block = p0.block ∧ p.first = p0.first ∧ p.size = p0.size ∧ p.order.length = p0.order.length ∧ (∀ b, (f b).getD (.int .i64 0) = .int .i64 (cnt b)) ∧ td.Nodup ∧ (∀ b : Int, b ∈ td ↔ 0 ≤ b ∧ b < p0.first.length ∧ 0 < cnt b) ∧ 0 ≤ x4 ∧ x4 ≤ marked.length,
      fun _ => (marked.length - x4).toNat⟩,
    ⟨F1, p0, fun _ => 0, fun _ => none, [], hF1, fun j a b c d => ho1 j c, hpm.o.keep ho1 (by decide), hpm.t.keep ho1 (by decide), hmap, .nil (by rw [ho1 21 (by decide)]; exact h21), hp,
      ⟨fun b h0 h1 => ⟨by omega, by have := hp.seg b h0 h1; omega⟩, fun s hs => by have := hp.blk s hs; simp; omega⟩, rfl, rfl, rfl, rfl, fun _ => rfl, by simp, fun b => by simp, by omega, by omega⟩, ?_⟩
  rintro x4 A5 n6 n7 w8 ⟨F, p, cnt, f, td, hF, hsame, hO, hT, hGM, htd, hw, hmarks, hb, hfi, hsz, hol, hf, htdn, htdm, hx0, hx1⟩ n9 rfl
  have hn6 : n6 = td.length := by rw [htd.len, ints_len]
  have htdl : td.length ≤ p0.first.length := nodup_bound _ td htdn fun b hb => by have := (htdm b).1 hb; omega
  have hU := hpm.u.same (hsame 2 (by decide) (by decide) (by decide) (by decide))
  have hFi := hpm.f.same (hsame 3 (by decide) (by decide) (by decide) (by decide))
  refine condK_dec (fun hlt => ?_) fun hge => ?_
  · have hxl : x4 < marked.length := by omega
    refine (hD.same (hsame 8 (by decide) (by decide) (by decide) (by decide))).get_int hF hx0 hxl (K := fun x11 => IxV U u0 1 x11 _) ?_
    have hks := hmk _ (gi_mem (l := marked) hx0 hxl)
    have hdn := take_not hnd hx0 hxl
    have htk := take_mem (l := marked) hx0 hxl
    generalize gi marked x4 = s at *
    have hsr := hp.kin s hks
    refine hU.get_int hF hsr.1 (by omega) (K := fun x13 => ∃ l14, _) ?_
    have hbr := hw.blk s hks
    obtain ⟨e1, e2, e3, hw', hm'⟩ := hw.swap hmarks hks hdn rfl rfl rfl rfl
    generalize hbb : gi p.block s = b at *
    rw [show gi p0.block s = b by rw [← hb]; exact hbb]
    -- once b stands among the touched ones
    have j14 : ∀ (A18 : Option Addr) (n19 n20 : Nat) (w21 : World) (F : FamF) (td : List Int), Fam w0 w21 F → (∀ j, j ≠ 0 → j ≠ 1 → j ≠ 20 → j ≠ 21 → F j = F0 j) → GSl F 0 O o0 o1 (ints p.order) → GSl F 1 T t0 t1 (ints p.at_) → GM F 20 KT.int (Value.int .i64) n1 f → GSl F 21 A18 n19 n20 (ints td) →
        td.Nodup → (∀ b' : Int, b' ∈ td ↔ 0 ≤ b' ∧ b' < p0.first.length ∧ (0 < cnt b' ∨ b' = b)) →
        J106_14 T t0 s w21 Fi f0 b n1 O o0 (fun x4 A5 n6 n7 => ⟨fun w8 => ∃ (F : FamF) (p : Par) (cnt : Int → Int) (f : Int → Option Value) (td : List Int), Fam w0 w8 F ∧ (∀ j, j ≠ 0 → j ≠ 1 → j ≠ 20 → j ≠ 21 → F j = F0 j) ∧ GSl F 0 O o0 o1 (ints p.order) ∧ GSl F 1 T t0 t1 (ints p.at_) ∧ GM F 20 KT.int (Value.int .i64) n1 f ∧ GSl F 21 A5 n6 n7 (ints td) ∧
      p.Wf kept n ∧ p.Marks kept cnt (fun s => s ∈ marked.take x4.toNat) ∧ p.block = p0.block ∧ p.first = p0.first ∧ p.size = p0.size ∧ p.order.length = p0.order.length ∧ (∀ b, (f b).getD (.int .i64 0) = .int .i64 (cnt b)) ∧ td.Nodup ∧ (∀ b : Int, b ∈ td ↔ 0 ≤ b ∧ b < p0.first.length ∧ 0 < cnt b) ∧ 0 ≤ x4 ∧ x4 ≤ marked.length,
      fun _ => (marked.length - x4).toNat⟩) x4 A18 n19 n20 (marked.length - x4).toNat := by
      intro A18 n19 n20 w21 F td hF hsame hO hT hGM htd htdn htdm
      have hFi := hpm.f.same (hsame 3 (by decide) (by decide) (by decide) (by decide))
      have hal := hw.atl
      have hc := hmarks.num b hbr.1 hbr.2.1
      have hsg := hw.seg b hbr.1 hbr.2.1
      rw [← hfi] at hFi
      refine hT.get_int hF hsr.1 (by omega) (K := fun x23 => IxV Fi f0 1 b _) ?_
      refine hFi.get_int hF hbr.1 hbr.2.1 (K := fun x25 => ∃ l26, _) ?_
      obtain ⟨l, hl1, hl2⟩ := hGM.look hF
      refine ⟨l, hl1, cnt b, by rw [hl2]; exact hf b, ?_⟩
      rw [wrap_id (by omega) (by omega)]
      refine hO.get_int hF e2.1 e2.2 (K := fun x29 => IxV O o0 1 _ _) ?_
      generalize hi' : gi p.at_ s = i at *
      generalize hj' : gi p.first b + cnt b = j at *
      generalize ht' : gi p.order j = t at *
      refine hO.set_int hF e1.1 e1.2 fun F1 w1 ho1 hF1 hO1 => ?_
      refine hO1.set_int hF1 e2.1 (by rw [List.length_set]; exact e2.2) fun F2 w2 ho2 hF2 hO2 => ?_
      refine ((hT.keep ho1 (by decide)).keep ho2 (by decide)).set_int hF2 e3.1 (by omega) fun F3 w3 ho3 hF3 hT3 => ?_
      refine hT3.set_int hF3 hsr.1 (by rw [List.length_set]; omega) fun F4 w4 ho4 hF4 hT4 => ?_
      have hGM4 : GM F4 20 KT.int (Value.int .i64) n1 f := hGM.same (by rw [ho4 20 (by decide), ho3 20 (by decide), ho2 20 (by decide), ho1 20 (by decide)])
      obtain ⟨l3, hl3, hl4⟩ := hGM4.look hF4
      refine ⟨l3, hl3, cnt b, by rw [hl4]; exact hf b, ?_⟩
      rw [wrap_id (by omega) (by omega)]
      refine hGM4.putS keyInt hF4 (a := b) fun F5 w42 ho5 hF5 hGM5 => ?_
      rw [wrap_id (by omega) (by omega)]
      refine ⟨⟨F5, p.swap i j t s, _, _, td, hF5, fun j a b c d => by rw [ho5 j c, ho4 j b, ho3 j b, ho2 j a, ho1 j a]; exact hsame j a b c d, ((hO2.keep ho3 (by decide)).keep ho4 (by decide)).keep ho5 (by decide), hT4.keep ho5 (by decide), hGM5, ((((htd.keep ho1 (by decide)).keep ho2 (by decide)).keep ho3 (by decide)).keep ho4 (by decide)).keep ho5 (by decide),
        hw', hm'.congr fun s' => (htk s').symm, hb, hfi, hsz, by simp [Par.swap, hol], fun b' => ?_, htdn, fun b' => ?_, by omega, by omega⟩, by simp only []; omega⟩
      · split
        · rfl
        · exact hf b'
      · rw [htdm b']
        split
        · rename_i e; subst e
          constructor
          · rintro ⟨a, b, _⟩; exact ⟨a, b, by omega⟩
          · rintro ⟨a, b, _⟩; exact ⟨a, b, .inr rfl⟩
        · rename_i e; simp [e]
    obtain ⟨l, hl1, hl2⟩ := hGM.look hF
    refine ⟨l, hl1, cnt b, by rw [hl2]; exact hf b, ?_⟩
    have hc := hmarks.num b hbr.1 hbr.2.1
    refine condK_beq (fun hz => ?_) fun hnz => ?_
    · have hnb : b ∉ td := fun h => by have := ((htdm b).1 h).2.2; omega
      refine htd.push_int hF (by omega) fun F2 A2 c2 w2 ho2 hF2 htd2 => ?_
      refine j14 _ _ _ _ F2 _ hF2 (fun j a b c d => by rw [ho2 j d]; exact hsame j a b c d) (hO.keep ho2 (by decide)) (hT.keep ho2 (by decide)) (hGM.same (ho2 20 (by decide))) htd2 (nodup_push htdn hnb) fun b' => ?_
      rw [List.mem_append, List.mem_singleton, htdm b']
      constructor
      · rintro (⟨a, c, d⟩ | rfl)
        · exact ⟨a, c, .inl d⟩
        · exact ⟨hbr.1, by rw [← hfi]; exact hbr.2.1, .inr rfl⟩
      · rintro ⟨a, c, d | d⟩
        · exact .inl ⟨a, c, d⟩
        · exact .inr d
    · refine j14 _ _ _ _ F td hF hsame hO hT hGM htd htdn fun b' => ?_
      rw [htdm b']
      constructor
      · rintro ⟨a, c, d⟩; exact ⟨a, c, .inl d⟩
      · rintro ⟨a, c, d | rfl⟩
        · exact ⟨a, c, d⟩
        · exact ⟨a, c, by omega⟩
  · -- all are marked
    have hx4 : x4.toNat = marked.length := by omega
    rw [hx4, List.take_length] at hmarks
    have hleft : p.Left kept cnt (fun s => s ∈ marked) (td.drop (0 : Int).toNat) := by
      refine ⟨by simpa using htdn, fun b hb => ?_, fun b h0 h1 hb => .inr fun s hs hbs hm => ?_⟩
      · have hb' := (htdm b).1 (by simpa using hb)
        have := hmarks.num b hb'.1 (by rw [hfi]; exact hb'.2.1)
        refine ⟨hb'.1, by rw [hfi]; exact hb'.2.1, hb'.2.2, this.2, fun s hs hbs => ?_⟩
        have := hmarks.mark s hs
        rw [hbs] at this; exact this
      · have hb' := mt (htdm b).2 (by simpa using hb)
        have h2 := (hmarks.mark s hs).1 hm
        rw [hbs] at h2
        have h3 := hw.blk s hs
        rw [hbs] at h3
        rw [hfi] at h1
        exact hb' ⟨h0, h1, by omega⟩
    refine ⟨fun x65 A66 n67 n68 A69 n70 n71 A72 n73 n74 A75 n76 n77 A78 n79 n80 A81 n82 n83 A84 n85 n86 => ⟨fun w87 => ∃ (F : FamF) (p : Par) (wt : List Bool) (wk : List Int), Fam w0 w87 F ∧ (∀ j, 7 ≤ j → j ≠ 20 → j ≠ 21 → F j = F0 j) ∧ PMem F A66 n67 n68 A69 n70 n71 A72 n73 n74 A75 n76 n77 A78 n79 n80 p ∧ GSl F 5 A81 n82 n83 (bools wt) ∧ GSl F 6 A84 n85 n86 (ints wk) ∧
        GM F 20 KT.int (Value.int .i64) n1 f ∧ GSl F 21 A5 n6 n7 (ints td) ∧ p.Wf kept n ∧ p.order.length = p0.order.length ∧ p.Left kept cnt (fun s => s ∈ marked) (td.drop x65.toNat) ∧ Inv p.block p.first.length wt wk ∧ 0 ≤ x65 ∧ x65 ≤ td.length, fun _ => (td.length - x65).toNat⟩,
      ⟨F, p, wt, wk, hF, fun j a b c => hsame j (by omega) (by omega) b c, ⟨hO, hT, by rw [hb]; exact hU, by rw [hfi]; exact hFi, by rw [hsz]; exact hpm.z.same (hsame 4 (by decide) (by decide) (by decide) (by decide))⟩, hY.same (hsame 5 (by decide) (by decide) (by decide) (by decide)), hX.same (hsame 6 (by decide) (by decide) (by decide) (by decide)), hGM, htd, hw, hol, hleft, by rw [hb, hfi]; exact hi, by omega, by omega⟩, ?_⟩
    have htdl2 : (td.length : Int) ≤ 1048576 := by omega
    clear hi hY hX hpm hO hT hU hFi hw hmarks hb hfi hsz hol hleft hGM htd hF hsame hp hcnt0
    rintro x65 A66 n67 n68 A69 n70 n71 A72 n73 n74 A75 n76 n77 A78 n79 n80 A81 n82 n83 A84 n85 n86 w87 ⟨F, p, wt, wk, hF, hsame, hpm, hY, hX, hGM, htd, hw, hol, hleft, hi, h650, h651⟩ n88 rfl
    have hlw := hlen p wt wk hw hi
    have hcount := hw.count
    have htotal := hw.total
    refine condK_dec (fun hlt => ?_) fun hge2 => ?_
    · refine htd.get_int hF h650 (by omega) (K := fun x90 => ∃ l91, _) ?_
      rw [drop_cons h650 (by omega)] at hleft
      generalize gi td x65 = b at *
      have hbs := hleft.some_ b (List.mem_cons_self ..)
      obtain ⟨l, hl1, hl2⟩ := hGM.look hF
      refine ⟨l, hl1, cnt b, by rw [hl2]; exact hf b, ?_⟩
      have hfs := hw.fs
      refine hpm.z.get_int hF hbs.1 (by omega) (K := fun x94 => condK _ _ _) ?_
      refine condK_beq (fun heq => ?_) fun hne => ?_
      · rw [J106_23, wrap_id (by omega) (by omega)]
        exact ⟨⟨F, p, wt, wk, hF, hsame, hpm, hY, hX, hGM, htd, hw, hol, hleft.skip hw heq, hi, by omega, by omega⟩, by simp only []; omega⟩
      · have hsg := hw.seg b hbs.1 hbs.2.1
        have n76' : n76 = p.first.length := by rw [hpm.f.len, ints_len]
        have n79' : n79 = p.size.length := by rw [hpm.z.len, ints_len]
        have n67' : n67 = p.order.length := by rw [hpm.o.len, ints_len]
        have n68' : p.order.length ≤ n68 := by
          rcases hpm.o with ⟨_, _, a, c, d⟩ | ⟨_, rest, _, _, _, c⟩
          · rw [n67'] at a; omega
          · rw [ints_len] at c; omega
        refine hpm.f.get_int hF hbs.1 hbs.2.1 (K := fun x96 => NewK _ _ _) ?_
        refine hpm.f.push_int hF (by omega) fun F1 A99 n101 w102 ho1 hF1 hf1 => ?_
        refine (hpm.z.keep ho1 (by decide)).push_int hF1 (by omega) fun F2 A105 n107 w108 ho2 hF2 hz2 => ?_
        have hf2 := hf1.keep ho2 (by decide)
        have ho := (hpm.o.keep ho1 (by decide)).keep ho2 (by decide)
        refine hf2.get_int hF2 hbs.1 (by simp; omega) (K := fun x110 => IxV A99 _ 1 b _) ?_
        refine hf2.get_int hF2 hbs.1 (by simp; omega) (K := fun x112 => 0 ≤ IntKind.i64.wrap (x112 + cnt b) ∧ _) ?_
        rw [gi_left hbs.1 hbs.2.1, wrap_id (by omega) (by omega)]
        refine ⟨by omega, by omega, by omega, by omega, ?_⟩
        refine ⟨fun x114 => ⟨fun w115 => ∃ (F' : FamF) (blk : List Int), Fam w0 w115 F' ∧ (∀ j, j ≠ 2 → F' j = F2 j) ∧ GSl F' 2 A72 n73 n74 (ints blk) ∧ Par.Moved p.block blk p.order (gi p.first b) (gi p.first b + x114) p.first.length ∧ 0 ≤ x114 ∧ x114 ≤ cnt b, fun _ => (cnt b - x114).toNat⟩,
          ⟨F2, p.block, hF2, fun _ _ => rfl, (hpm.u.keep ho1 (by decide)).keep ho2 (by decide), by rw [Int.add_zero]; exact Par.moved_nil, by omega, by omega⟩, ?_⟩
        rintro x114 w115 ⟨F3, blk, hF3, ho3, hu3, hmv, h114, h115⟩ n116 rfl
        have e1 : ((gi p.first b + cnt b).toNat - (gi p.first b).toNat : Nat) = (cnt b).toNat := by omega
        refine condK_dec (fun hlt2 => ?_) fun hge3 => ?_
        · have hin : x114 < cnt b := by omega
          refine (ho.same (ho3 0 (by decide))).sub_int hF3 (by omega) h114 (by omega) (by omega) (K := fun x118 => IxV A72 n73 1 x118 _) ?_
          have e2 : ((gi p.first b).toNat : Int) + x114 = gi p.first b + x114 := by omega
          rw [e2]
          have hoi := hw.ord (gi p.first b + x114) (by omega) (by omega)
          have hsr := hw.kin _ hoi.1
          have hbl := hw.bll
          have hml := hmv.1
          rw [n76']
          refine hu3.set_int hF3 hsr.1 (by omega) fun F4 w120 ho4 hF4 hu4 => ?_
          rw [wrap_id (by omega) (by omega)]
          refine ⟨⟨F4, _, hF4, fun j hj => by rw [ho4 j hj, ho3 j hj], hu4, ?_, by omega, by omega⟩, by simp only []; omega⟩
          rw [← Int.add_assoc]
          exact Par.moved_step hmv (by omega) rfl hsr.1 (by omega)
        · have hx : x114 = cnt b := by omega
          subst hx
          have hf3 := hf2.same (ho3 3 (by decide))
          have hz3 := hz2.same (ho3 4 (by decide))
          refine hf3.get_int hF3 hbs.1 (by simp; omega) (K := fun x122 => IxV A99 _ 1 b _) ?_
          rw [gi_left hbs.1 hbs.2.1, wrap_id (by omega) (by omega)]
          refine hf3.set_int hF3 hbs.1 (by simp; omega) fun F4 w124 ho4 hF4 hf4 => ?_
          have hz4 := hz3.keep ho4 (by decide)
          refine hz4.get_int hF4 hbs.1 (by simp; omega) (K := fun x126 => IxV A105 _ 1 b _) ?_
          rw [gi_left hbs.1 (by omega), wrap_id (by omega) (by omega)]
          refine hz4.set_int hF4 hbs.1 (by simp; omega) fun F5 w128 ho5 hF5 hz5 => ?_
          obtain ⟨hw', hparts, hleft'⟩ := hleft.part hw hne hmv
          have sm : ∀ j, j ≠ 2 → j ≠ 3 → j ≠ 4 → F5 j = F j := fun j a b c => by rw [ho5 j c, ho4 j b, ho3 j a, ho2 j c, ho1 j b]
          have hpm' : PMem F5 A66 n67 n68 A69 n70 n71 A72 n73 n74 A99 (n76 + 1) n101 A105 (n79 + 1) n107 (p.part b (cnt b) blk) :=
            ⟨hpm.o.same (sm 0 (by decide) (by decide) (by decide)), hpm.t.same (sm 1 (by decide) (by decide) (by decide)), (hu3.keep ho4 (by decide)).keep ho5 (by decide), hf4.keep ho5 (by decide), hz5⟩
          have hlp := hparts.len
          have hn76 : ((n76 : Nat) : Int) = (wt.length : Int) := by omega
          rw [hn76]
          refine hg w128 F5 (p.part b (cnt b) blk).size wt wk _ _ _ _ _ _ _ _ _ _ _ _ _ _ _ _ _ _ _ _ _ b _ hF5 hpm'.z (hY.same (sm 5 (by decide) (by decide) (by decide))) (hX.same (sm 6 (by decide) (by decide) (by decide))) (by have := hw'.fs; omega) hbs.1 (by omega) (by omega) hlw.2 ?_
          intro F6 w131 Y' y0' y1' X' x0' x1' wt' wk' ho6 hF6 hY6 hX6 hcb
          refine ⟨rfl, Y', y0', y1', X', x0', x1', rfl, ?_⟩
          rw [J106_23, wrap_id (by omega) (by omega)]
          have sm6 : ∀ j, j ≠ 2 → j ≠ 3 → j ≠ 4 → j ≠ 5 → j ≠ 6 → F6 j = F j := fun j a b c d e => by rw [ho6 j d e]; exact sm j a b c
          refine ⟨⟨F6, p.part b (cnt b) blk, wt', wk', hF6, fun j a b c => by rw [sm6 j (by omega) (by omega) (by omega) (by omega) (by omega)]; exact hsame j a b c,
            ⟨hpm'.o.same (ho6 0 (by decide) (by decide)), hpm'.t.same (ho6 1 (by decide) (by decide)), hpm'.u.same (ho6 2 (by decide) (by decide)), hpm'.f.same (ho6 3 (by decide) (by decide)), hpm'.z.same (ho6 4 (by decide) (by decide))⟩,
            hY6, hX6, hGM.same (sm6 20 (by decide) (by decide) (by decide) (by decide) (by decide)), htd.same (sm6 21 (by decide) (by decide) (by decide) (by decide) (by decide)), hw', hol, hleft', ?_, by omega, by omega⟩, by simp only []; omega⟩
          exact hstep p _ wt wk wt' wk' b hw hi hparts (by rw [← hlw.1]; exact hcb)
    · have hx65 : td.drop x65.toNat = [] := List.drop_of_length_le (by omega)
      rw [hx65] at hleft
      refine hR (fun j => if j = 20 ∨ j = 21 then none else F j) w87 p wt wk _ _ _ _ _ _ _ _ _ _ _ _ _ _ _ _ _ _ _ _ _ (fun j hj => ?_) (hF.drop fun j => ?_) ⟨hpm.o.same (by simp), hpm.t.same (by simp), hpm.u.same (by simp), hpm.f.same (by simp), hpm.z.same (by simp)⟩ (hY.same (by simp)) (hX.same (by simp)) hw hol (fun s t hs ht e => hleft.done hw hs ht e) hi
      · by_cases h1 : j = 20
        · subst h1; simp [h20]
        · by_cases h2 : j = 21
          · subst h2; simp [h21]
          · simp only [h1, h2, or_self, if_false]; exact hsame j hj h1 h2
      · split
        · exact .inr rfl
        · exact .inl rfl
end Go.Proofs.Ytnkpjlhbojjneaa.VC

/- The blocks of states that accept the same words. -/
namespace Go.Proofs.Ytnkpjlhbojjneaa.VC
open Go Go.RowKit

theorem c108 {w0 w : World} {F : FamF} {D : Option Addr} {k e : Nat} {xs : List Int} {R : Res} (hF : Fam w0 w F) (hD : Row w D (ints xs)) (hk : k = xs.length) (hl : k ≤ 1048576) (i : Nat)
    (hR : ∀ F' w' A n c, Only i F F' → Fam w0 w' F' → GSl F' i A n c (ints xs) → R (.slice A n c) [] w') : CallsI Try.prog 108 [.slice D k e] w [] R := by
  refine s108 _ _ _ _ _ ?_
  cases D with
  | none =>
    have : xs = [] := by
      apply Classical.byContradiction; intro hne
      obtain ⟨ad, h, _⟩ := hD (by simpa [ints] using hne)
      cases h
    subst this
    exact hR (upd F i none) w _ _ _ upd_only (hF.drop fun j => by
      by_cases h : j = i
      · subst h; right; simp
      · left; exact upd_ne h) (.nil (by simp))
  | some ad =>
    refine hF.mkRowE i (xs := []) fun b F1 w1 hE ho1 hF1 hs1 => ?_
    have hs1 : GSl F1 i (some ⟨b, 0, none⟩) 0 0 (ints []) := hs1
    refine hs1.append_ints hF1 (hE.row hD) hk (by omega) fun F2 A2 c2 w2 ho2 hF2 hs2 => ?_
    exact hR F2 w2 _ _ _ (fun j hj => by rw [ho2 j hj, ho1 j hj]) hF2 hs2

structure Base85 (m : Mach) (w w' : World) (F : FamF) (n2 : Nat) (f : List (List (List Int))) : Prop where
  fam : Fam w w' F
  from_ : GIII F 7 m.next.length (some ⟨n2, 0, none⟩) m.letters.toNat m.letters.toNat f
  none_ : ∀ j, 10 ≤ j → j < 30 → F j = none
theorem Base85.same {m : Mach} {w w' w'' : World} {F F' : FamF} {n2 : Nat} {f : List (List (List Int))} (h : Base85 m w w' F n2 f) (hF : Fam w w'' F') (h7 : F' 7 = F 7) (hj : ∀ j, 10 ≤ j → F' j = F j) : Base85 m w w'' F' n2 f :=
  ⟨hF, h.from_.same h7 fun x t => hj _ (by unfold enc; omega), fun j a b => by rw [hj j a]; exact h.none_ j a b⟩
theorem PMem.same {F F' : FamF} {O : Option Addr} {o0 o1 : Nat} {T : Option Addr} {t0 t1 : Nat} {U : Option Addr} {u0 u1 : Nat} {Fi : Option Addr} {f0 f1 : Nat} {Z : Option Addr} {z0 z1 : Nat} {p : Par} (h : PMem F O o0 o1 T t0 t1 U u0 u1 Fi f0 f1 Z z0 z1 p)
    (e : ∀ j, j < 5 → F' j = F j) : PMem F' O o0 o1 T t0 t1 U u0 u1 Fi f0 f1 Z z0 z1 p :=
  ⟨h.o.same (e 0 (by decide)), h.t.same (e 1 (by decide)), h.u.same (e 2 (by decide)), h.f.same (e 3 (by decide)), h.z.same (e 4 (by decide))⟩
theorem Hop.recount {m : Mach} {l : List Bool} {P : Int → Int → Prop} {S : Int → Prop} {x0 c0 c1 : Int} {blk : List Int} {k : Nat} {wt : List Bool} {wk : List Int} (h : Hop m l P S x0 c0 blk k wt wk) (hc : c1 ≤ 2 * k - wk.length) : Hop m l P S x0 c1 blk k wt wk :=
  ⟨h.wl, h.rng, h.work, h.nodup, hc, h.same, h.fin, h.sep⟩
theorem Hop.short {m : Mach} {l : List Bool} {P : Int → Int → Prop} {S : Int → Prop} {x0 c0 : Int} {blk : List Int} {k : Nat} {wt : List Bool} {wk : List Int} (h : Hop m l P S x0 c0 blk k wt wk) : wk.length ≤ k :=
  nodup_bound k wk h.nodup fun B hB => by have := (h.work B).1 hB; omega

/-- while the kept states are gone through -/
def I20 (m : Mach) (l : List Bool) (w : World) (n2 : Nat) : Int → Option Addr → Nat → Nat → Option Addr → Nat → Nat → Option Addr → Nat → Nat → Option Addr → Nat → Nat → Option Addr → Nat → Nat → Option Addr → Nat → Nat → Lp :=
  fun x21 A22 n23 n24 A25 n26 n27 A28 n29 n30 A31 n32 n33 A34 n35 n36 A37 n38 n39 => ⟨fun w' => ∃ F order at_ acc f, Base85 m w w' F n2 f ∧ (F 5 = none ∧ F 6 = none) ∧ GSl F 8 A22 n23 n24 (ints acc) ∧ PMem F A25 n26 n27 A28 n29 n30 A31 n32 n33 A34 n35 n36 A37 n38 n39 ⟨order, at_, List.replicate m.next.length 0, [0], []⟩ ∧
    Fill m l x21 m.letters order at_ acc f ∧ 0 ≤ x21 ∧ x21 ≤ m.next.length, fun _ => (m.next.length - x21).toNat⟩
/-- while one block waits after another -/
def I157 (m : Mach) (l : List Bool) (w : World) (n2 : Nat) (f : List (List (List Int))) : Option Addr → Nat → Nat → Option Addr → Nat → Nat → Option Addr → Nat → Nat → Option Addr → Nat → Nat → Option Addr → Nat → Nat → Option Addr → Nat → Nat → Option Addr → Nat → Nat → Lp :=
  fun A158 n159 n160 A161 n162 n163 A164 n165 n166 A167 n168 n169 A170 n171 n172 A173 n174 n175 A176 n177 n178 => ⟨fun w' => ∃ F p wt wk S c0, Base85 m w w' F n2 f ∧ PMem F A158 n159 n160 A161 n162 n163 A164 n165 n166 A167 n168 n169 A170 n171 n172 p ∧ GSl F 5 A173 n174 n175 (bools wt) ∧ GSl F 6 A176 n177 n178 (ints wk) ∧
    p.Wf (Kept l) m.next.length ∧ Hop m l (fun s t => m.ends s = m.ends t) S m.letters c0 p.block p.first.length wt wk, fun _ => (2 * m.next.length - (2 * n168 - n177 : Int)).toNat⟩
/-- while the letters of one block are gone through -/
def I197 (m : Mach) (l : List Bool) (w : World) (n2 : Nat) (f : List (List (List Int))) (S : Int → Prop) (c1 : Int) (A194 : Option Addr) (n195 n196 : Nat) (by_ : List Int) : Int → Option Addr → Nat → Nat → Option Addr → Nat → Nat → Option Addr → Nat → Nat → Option Addr → Nat → Nat → Option Addr → Nat → Nat → Option Addr → Nat → Nat → Option Addr → Nat → Nat → Lp :=
  fun x198 A158 n159 n160 A161 n162 n163 A164 n165 n166 A167 n168 n169 A170 n171 n172 A173 n174 n175 A176 n177 n178 => ⟨fun w' => ∃ F p wt wk, Base85 m w w' F n2 f ∧ PMem F A158 n159 n160 A161 n162 n163 A164 n165 n166 A167 n168 n169 A170 n171 n172 p ∧ GSl F 5 A173 n174 n175 (bools wt) ∧ GSl F 6 A176 n177 n178 (ints wk) ∧ GSl F 9 A194 n195 n196 (ints by_) ∧
    p.Wf (Kept l) m.next.length ∧ Hop m l (fun s t => m.ends s = m.ends t) S x198 c1 p.block p.first.length wt wk ∧ 0 ≤ x198 ∧ x198 ≤ m.letters, fun _ => (m.letters - x198).toNat⟩

section
variable {w : World} {m : Mach} {A K B : Option Addr} {l : List Bool} {hs : List Value} {n2 : Nat}

/-- one kept state's row is gone through -/
theorem j85_22 (hA : Row w A hs) (hl : hs.length = m.next.length) (hx : ∀ (i : Nat) h xs, hs[i]? = some h → m.next[i]? = some xs → SlI w h xs) (hsh : m.Shaped) (hN : m.next.length ≤ 1048576) (hL : m.letters ≤ 1048576) (hK : Row w K (bools l)) (hlen : l.length = m.next.length)
    {x21 : Int} {w59 : World} {F : FamF} {order at_ acc : List Int} {f : List (List (List Int))} {A56 : Option Addr} {n57 n58 : Nat} {A48 : Option Addr} {n49 n50 : Nat} {A28 : Option Addr} {n29 n30 : Nat} {A31 : Option Addr} {n32 n33 : Nat} {A34 : Option Addr} {n35 n36 : Nat} {A37 : Option Addr} {n38 n39 : Nat}
    (hb : Base85 m w w59 F n2 f) (h56 : F 5 = none ∧ F 6 = none) (hacc : GSl F 8 A56 n57 n58 (ints acc)) (hpm : PMem F A48 n49 n50 A28 n29 n30 A31 n32 n33 A34 n35 n36 A37 n38 n39 ⟨order, at_, List.replicate m.next.length 0, [0], []⟩) (hf : Fill m l (x21 + 1) 0 order at_ acc f) (hi : Kept l x21) :
    J85_22 A m.next.length x21 w59 K l.length n2 m.letters (I20 m l w n2) A56 n57 n58 A48 n49 n50 A28 n29 n30 A31 n32 n33 A34 n35 n36 A37 n38 n39 (m.next.length - x21).toNat := by
  have hkl := hi.lt
  have hLet := hsh.letters
  refine rd_row hb.fam.base hA hl hx hi.1 (by omega) (K := fun A61 n62 _ => ∃ I64 : Int → Lp, _) fun A61 c61 row hrow hr => ?_
  have hrl := (hsh.rows row (List.mem_of_getElem? hrow)).len
  refine ⟨fun x65 => ⟨fun w66 => ∃ F f, Base85 m w w66 F n2 f ∧ (F 5 = none ∧ F 6 = none) ∧ GSl F 8 A56 n57 n58 (ints acc) ∧ PMem F A48 n49 n50 A28 n29 n30 A31 n32 n33 A34 n35 n36 A37 n38 n39 ⟨order, at_, List.replicate m.next.length 0, [0], []⟩ ∧ Fill m l (x21 + 1) x65 order at_ acc f ∧ 0 ≤ x65 ∧ x65 ≤ m.letters, fun _ => (m.letters - x65).toNat⟩,
    ⟨F, f, hb, h56, hacc, hpm, hf, by omega, by omega⟩, ?_⟩
  rintro x65 w66 ⟨F, f, hb, h56, hacc, hpm, hf, h650, h651⟩ n67 rfl
  refine condK_dec (fun hlt => ?_) fun hge => ?_
  · have hlet : m.Let x65 := ⟨h650, by omega⟩
    refine rd_int hb.fam.base hr h650 hlt (K := fun x69 => condK (decide (x69 ≥ 0)) _ _) ?_
    rw [Mach.step_gi hrow hi.1 h650 hlt]
    have hsr := hsh.step_range x21 x65
    have no : ¬ Kept l (m.step x21 x65) → J85_1 (fun x65 => ⟨fun w66 => ∃ F f, Base85 m w w66 F n2 f ∧ (F 5 = none ∧ F 6 = none) ∧ GSl F 8 A56 n57 n58 (ints acc) ∧ PMem F A48 n49 n50 A28 n29 n30 A31 n32 n33 A34 n35 n36 A37 n38 n39 ⟨order, at_, List.replicate m.next.length 0, [0], []⟩ ∧ Fill m l (x21 + 1) x65 order at_ acc f ∧ 0 ≤ x65 ∧ x65 ≤ m.letters, fun _ => (m.letters - x65).toNat⟩) x65 w66 (m.letters - x65).toNat := fun hn => by
      rw [J85_1, wrap_id (by omega) (by omega)]
      exact ⟨⟨F, f, hb, h56, hacc, hpm, hf.no hn, by omega, by omega⟩, by simp only []; omega⟩
    refine condK_dec (fun hge0 => ?_) fun hlt0 => no fun h => by have := h.1; omega
    refine rd_bool hb.fam.base hK hge0 (by omega) (K := fun t => condK t _ _) ?_
    refine condK_of (fun hg => ?_) fun hg => no fun h => by rw [h.2] at hg; cases hg
    have hk : Kept l (m.step x21 x65) := ⟨hge0, hg⟩
    have hfl := hf.fl
    have hshort := hf.short hlen hlet hk
    have hfr := hf.fr x65 hlet
    refine hb.from_.push hb.fam (by decide) h650 (by omega) hge0 (by omega) (by omega) fun F1 w1 ho1 hF1 hfr1 => ?_
    rw [J85_1, wrap_id (by omega) (by omega)]
    exact ⟨⟨F1, _, ⟨hF1, hfr1, fun j a b => by rw [ho1 j b]; exact hb.none_ j a b⟩, ⟨by rw [ho1 5 (by decide)]; exact h56.1, by rw [ho1 6 (by decide)]; exact h56.2⟩, hacc.same (ho1 8 (by decide)), hpm.same (fun j hj => ho1 j (by omega)), hf.yes hlen hi hlet rfl hk, by omega, by omega⟩, by simp only []; omega⟩
  · rw [J85_4, wrap_id (by omega) (by omega)]
    exact ⟨⟨F, order, at_, acc, f, hb, h56, hacc, hpm, hf.row (by omega), by omega, by omega⟩, by simp only [I20]; omega⟩
set_option maxHeartbeats 4000000 in
theorem j85_119 (hA : Row w A hs) (hl : hs.length = m.next.length) (hx : ∀ (i : Nat) h xs, hs[i]? = some h → m.next[i]? = some xs → SlI w h xs) (hB : Row w B (bools m.fin)) (hsh : m.Shaped) (hN : m.next.length ≤ 1048576) (hL : m.letters ≤ 1048576) (hK : Row w K (bools l)) (hkp : Keeps m l) (hne : ∃ s, Kept l s)
    {n12 n14 n16 n18 n19 : Nat} {w17 : World} {F : FamF} {f : List (List (List Int))} {R : Res} (hb : Base85 m w w17 F n2 f) (hnone : F 0 = none ∧ F 4 = none ∧ F 5 = none ∧ F 6 = none ∧ F 8 = none)
    (hT : GSl F 1 (some ⟨n12, 0, none⟩) m.next.length m.next.length (ints (List.replicate m.next.length 0))) (hU : GSl F 2 (some ⟨n14, 0, none⟩) m.next.length m.next.length (ints (List.replicate m.next.length 0))) (hFi : GSl F 3 (some ⟨n16, 0, none⟩) 1 1 (ints [0]))
    (hfl : (f.length : Int) = m.letters) (hfr : ∀ x, m.Let x → gll f x = List.replicate m.next.length [])
    (hR : ∀ bv blk w', Ext w w' → SlI w' bv blk → blk.length = m.next.length → (∀ s, Kept l s → 0 ≤ gi blk s ∧ gi blk s < m.next.length) → (∀ s t, Kept l s → Kept l t → (gi blk s = gi blk t ↔ Same m s t)) → R bv [] w') :
    J85_119 n12 m.next.length n14 n16 w17 l.length K B m.fin.length A n2 m.letters n18 n19 R := by
  have hlen := hkp.len
  have hfin := hsh.fin
  have hLet := hsh.letters
  refine ⟨I20 m l w n2, ⟨F, [], _, [], f, hb, ⟨hnone.2.2.1, hnone.2.2.2.1⟩, .nil hnone.2.2.2.2, ⟨.nil hnone.1, hT, hU, hFi, .nil hnone.2.1⟩, .init hfl hfr, by omega, by omega⟩, ?_⟩
  intro x21 A22 n23 n24 A25 n26 n27 A28 n29 n30 A31 n32 n33 A34 n35 n36 A37 n38 n39 w40 hI n41 hk
  obtain ⟨F, order, at_, acc, f, hb, h56, hacc, hpm, hf, h210, h211⟩ := hI
  subst hk
  have hcnt := hf.count hlen
  have n26' : n26 = order.length := by rw [hpm.o.len, ints_len]
  have n23' : n23 = acc.length := by rw [hacc.len, ints_len]
  refine condK_dec (fun hlt => ?_) fun hge => ?_
  · refine rd_bool hb.fam.base hK h210 hlt (K := fun t => condK (!t) _ _) ?_
    cases hg : gb l x21 with
    | false =>
      show J85_4 (I20 m l w n2) x21 A22 n23 n24 A25 n26 n27 A28 n29 n30 A31 n32 n33 A34 n35 n36 A37 n38 n39 w40 _
      rw [J85_4, wrap_id (by omega) (by omega)]
      exact ⟨⟨F, order, at_, acc, f, hb, h56, hacc, hpm, hf.skip (fun h => by rw [h.2] at hg; cases hg), by omega, by omega⟩, by simp only [I20]; omega⟩
    | true =>
      have hki : Kept l x21 := ⟨h210, hg⟩
      have hal := hf.al
      refine hpm.t.set_int hb.fam h210 (by simp only []; omega) fun F1 w1 ho1 hF1 ht1 => ?_
      refine (hpm.o.keep ho1 (by decide)).push_int hF1 (by omega) fun F2 A48 c48 w51 ho2 hF2 hO2 => ?_
      have sm : ∀ j, j ≠ 1 → j ≠ 0 → F2 j = F j := fun j a b => by rw [ho2 j b, ho1 j a]
      have hb2 := hb.same hF2 (sm 7 (by decide) (by decide)) fun j hj => sm j (by omega) (by omega)
      have h562 : F2 5 = none ∧ F2 6 = none := ⟨by rw [sm 5 (by decide) (by decide)]; exact h56.1, by rw [sm 6 (by decide) (by decide)]; exact h56.2⟩
      have hpm2 : PMem F2 A48 (n26 + 1) c48 A28 n29 n30 A31 n32 n33 A34 n35 n36 A37 n38 n39 ⟨order ++ [x21], at_.set x21.toNat order.length, List.replicate m.next.length 0, [0], []⟩ :=
        ⟨hO2, by have := ht1.keep ho2 (by decide); rw [n26'] at this; exact this, hpm.u.same (sm 2 (by decide) (by decide)), hpm.f.same (sm 3 (by decide) (by decide)), hpm.z.same (sm 4 (by decide) (by decide))⟩
      have hacc2 := hacc.same (sm 8 (by decide) (by decide))
      refine rd_end hb2.fam.base hB h210 (by omega) (K := fun t => condK t _ _) ?_
      refine condK_of (fun he => ?_) fun he => ?_
      · refine hacc2.push_int hF2 (by omega) fun F3 A56 c56 w59 ho3 hF3 hacc3 => ?_
        refine j85_22 hA hl hx hsh hN hL hK hlen (hb2.same hF3 (ho3 7 (by decide)) fun j hj => ho3 j (by omega)) ⟨by rw [ho3 5 (by decide)]; exact h562.1, by rw [ho3 6 (by decide)]; exact h562.2⟩ hacc3 (hpm2.same fun j hj => ho3 j (by omega)) (hf.add hki (by omega) (.inl ⟨he, rfl⟩)) hki
      · exact j85_22 hA hl hx hsh hN hL hK hlen hb2 h562 hacc2 hpm2 (hf.add hki (by omega) (.inr ⟨he, rfl⟩)) hki
  · have hx21 : x21 = m.next.length := by omega
    subst hx21
    clear hT hU hFi hfl hfr hnone
    refine hb.fam.mkRow 4 fun n124 F1 w125 ho1 hF1 hz1 => ?_
    refine hF1.mkRow 5 fun n126 F2 w127 ho2 hF2 hy2 => ?_
    intro n128
    refine hF2.mkRow 6 fun n129 F3 w130 ho3 hF3 hx3 => ?_
    intro n131 n132
    have sm : ∀ j, j ≠ 4 → j ≠ 5 → j ≠ 6 → F3 j = F j := fun j a b c => by rw [ho3 j c, ho2 j b, ho1 j a]
    have hb3 := hb.same hF3 (sm 7 (by decide) (by decide) (by decide)) fun j hj => sm j (by omega) (by omega) (by omega)
    have hwf := hf.wf hlen hne
    have hz3 : GSl F3 4 (some ⟨n124, 0, none⟩) 1 1 (ints [(order.length : Int)]) := by rw [n26'] at hz1; exact (hz1.keep ho2 (by decide)).keep ho3 (by decide)
    have hmem : ∀ s, s ∈ acc → Kept l s := fun s hs => ((hf.accm s).1 hs).1
    have hsame : ∀ s t, Kept l s → Kept l t → Same m s t → (s ∈ acc ↔ t ∈ acc) := fun s t h1 h2 e => by
      rw [hf.accm s, hf.accm t]
      have := e []
      rw [Mach.acc_nil, Mach.acc_nil] at this
      have := h1.lt; have := h2.lt
      constructor
      · rintro ⟨a, b, c⟩; exact ⟨h2, by omega, by rw [← c]; exact (e []).symm⟩
      · rintro ⟨a, b, c⟩; exact ⟨h1, by omega, by rw [← c]; exact e []⟩
    refine c106 (g := 107) (p0 := ⟨order, at_, List.replicate m.next.length 0, [0], [(order.length : Int)]⟩) (kept := Kept l) (n := m.next.length) (wt := [true]) (wk := [0]) (marked := acc) hF3
      ⟨hpm.o.same (sm 0 (by decide) (by decide) (by decide)), hpm.t.same (sm 1 (by decide) (by decide) (by decide)), hpm.u.same (sm 2 (by decide) (by decide) (by decide)), hpm.f.same (sm 3 (by decide) (by decide) (by decide)), hz3⟩
      (hy2.keep ho3 (by decide)) hx3 (hacc.same (sm 8 (by decide) (by decide) (by decide))) (hb3.none_ 20 (by decide) (by decide)) (hb3.none_ 21 (by decide) (by decide)) hwf (by omega) hmem hf.accn (c107 w n18 n128 n19 n132 n131)
      (Hop m l (fun _ _ => True) (fun _ => False) m.letters 1) (Hop.init fun s _ => gi_rep) (fun q wt wk hw hi => ⟨hi.wl, by have := hi.short; have := hw.count; have := hw.total; omega⟩)
      (fun q q' wt wk wt' wk' b hw hi hp hc => by
        rw [hp.len]
        exact hi.part hsame hp.rng.1 hp.rng.2 hp.blk hc) ?_
    intro F4 w135 p wt wk A136 n137 n138 A139 n140 n141 A142 n143 n144 A145 n146 n147 A148 n149 n150 A151 n152 n153 A154 n155 n156 ho4 hF4 hpm4 hy4 hx4 hw4 hol4 hhom hi4
    refine ⟨rfl, _, _, _, _, _, _, _, _, _, _, _, _, _, _, _, _, _, _, _, _, _, rfl, ?_⟩
    have hb4 := hb3.same hF4 (ho4 7 (by decide)) fun j hj => ho4 j (by omega)
    have hi4' := hi4.fins (P' := fun s t => m.ends s = m.ends t) fun s t h1 h2 e => by
      have h3 := hhom s t h1 h2 e
      rw [hf.accm s, hf.accm t] at h3
      have hs' := h1.lt; have ht' := h2.lt
      apply Bool.eq_iff_iff.2
      exact ⟨fun h => (h3.1 ⟨h1, by omega, h⟩).2.2, fun h => (h3.2 ⟨h2, by omega, h⟩).2.2⟩
    refine ⟨I157 m l w n2 f, ⟨F4, p, wt, wk, _, _, hb4, hpm4, hy4, hx4, hw4, hi4'⟩, ?_⟩
    clear hi4 hi4' hhom hol4 hw4 hx4 hy4 hpm4 hb4 hF4 ho4 hsame hmem hz3 hwf hb3 sm hx3 hF3 ho3 hy2 hF2 ho2 hz1 hF1 ho1 hb h56 hacc hpm
    clear wt wk p F4 F3 F2 F1 F
    intro A158 n159 n160 A161 n162 n163 A164 n165 n166 A167 n168 n169 A170 n171 n172 A173 n174 n175 A176 n177 n178 w179 hI n180 hk
    obtain ⟨F, p, wt, wk, S, c0, hb, hpm, hy, hx6, hw, hi⟩ := hI
    subst hk
    have n177' : n177 = wk.length := by rw [hx6.len, ints_len]
    have n168' : n168 = p.first.length := by rw [hpm.f.len, ints_len]
    have n159' : n159 = p.order.length := by rw [hpm.o.len, ints_len]
    have hwl := hi.wl
    have hshort := hi.short
    have hcount := hw.count
    have htotal := hw.total
    have hfs := hw.fs
    refine condK_dec (fun hgt => ?_) fun hle => ?_
    rotate_left
    · have : wk = [] := List.length_eq_zero_iff.1 (by omega)
      subst this
      exact hR _ p.block _ hb.fam.base (hpm.u.sli hb.fam) (by have := hw.bll; omega) (fun s hs => by have := hi.rng s hs; omega) (hi.done (Int.le_refl _) hsh hkp)
    rw [wrap_id (by omega) (by omega)]
    obtain hnil | ⟨wk, b, rfl⟩ := List.eq_nil_or_concat wk
    · rw [hnil] at n177'; simp at n177'; omega
    rw [List.concat_eq_append] at hx6 hi n177' hshort
    rw [List.length_append, List.length_singleton] at n177' hshort
    refine hx6.get_int hb.fam (by omega) (by simp; omega) (K := fun x182 => _ ∧ _ ∧ IxV A173 n174 1 x182 _) ?_
    have eb : gi (wk ++ [b]) ((n177 : Int) - 1) = b := by
      have : (n177 : Int) - 1 = wk.length := by omega
      rw [this, gi_last]
    rw [eb]
    have n178' : n177 ≤ n178 := by
      rcases hx6 with ⟨_, _, a, c, d⟩ | ⟨_, rest, _, _, a, c⟩
      · omega
      · rw [ints_len] at c; simp at c; omega
    have n160' : n159 ≤ n160 := by
      rcases hpm.o with ⟨_, _, a, c, d⟩ | ⟨_, rest, _, _, a, c⟩
      · omega
      · rw [ints_len] at c; omega
    obtain ⟨hb0, hb1, hi0⟩ := hi.pop (Int.le_refl _)
    have hsg := hw.seg b hb0 hb1
    refine ⟨by omega, by omega, ?_⟩
    refine hy.set_bool hb.fam hb0 (by omega) fun F1 w184 ho1 hF1 hy1 => ?_
    have hb1' := hb.same hF1 (ho1 7 (by decide)) fun j hj => ho1 j (by omega)
    have hpm1 := hpm.same (F' := F1) fun j hj => ho1 j (by omega)
    have hx1 := hx6.keep ho1 (by decide)
    refine hpm1.f.get_int hF1 hb0 hb1 (K := fun x186 => IxV A167 n168 1 b _) ?_
    refine hpm1.f.get_int hF1 hb0 hb1 (K := fun x188 => IxV A170 n171 1 b _) ?_
    refine hpm1.z.get_int hF1 hb0 (by omega) (K := fun x190 => 0 ≤ IntKind.i64.wrap (gi p.first b + x190) ∧ _) ?_
    rw [wrap_id (by omega) (by omega)]
    refine ⟨by omega, by omega, by omega, by omega, ?_⟩
    obtain ⟨hbyn, hbym⟩ := hw.part_mem hb0 hb1 (by_ := (p.order.drop (gi p.first b).toNat).take ((gi p.first b + gi p.size b).toNat - (gi p.first b).toNat)) rfl
    have hbylen : ((p.order.drop (gi p.first b).toNat).take ((gi p.first b + gi p.size b).toNat - (gi p.first b).toNat)).length = (gi p.first b + gi p.size b).toNat - (gi p.first b).toNat := by
      rw [List.length_take, List.length_drop]; omega
    refine c108 hF1 (hpm1.o.sub_row hF1) hbylen.symm (by omega) 9 fun F2 w193 A194 n195 n196 ho2 hF2 hby2 => ?_
    generalize hbye : (p.order.drop (gi p.first b).toNat).take ((gi p.first b + gi p.size b).toNat - (gi p.first b).toNat) = by_ at *
    refine ⟨A194, n195, n196, rfl, rfl, ?_⟩
    have hpop : GSl F2 6 (if n178 = 0 then A176 else Option.map (fun (x : Addr) => x.add (0 * i3.size)) A176) (((n177 : Int) - 1).toNat - 0) n178 (ints wk) := by
      have := (hx1.keep ho2 (by decide))
      rw [ints_append, ints_one] at this
      have := this.pop
      rw [ints_len] at this
      have e : (((n177 : Int) - 1).toNat - 0) = wk.length := by omega
      rw [e]; exact this
    have hb2 := hb1'.same hF2 (ho2 7 (by decide)) fun j hj => ho2 j (by omega)
    refine ⟨I197 m l w n2 f (fun s => cls l p.block s = b) (2 * n168 - n177 + 1) A194 n195 n196 by_, ⟨F2, p, _, wk, hb2, hpm1.same fun j hj => ho2 j (by omega), hy1.keep ho2 (by decide), hpop, hby2, hw, hi0.recount (by omega), by omega, by omega⟩, ?_⟩
    have hbk : ∀ k : Int, 0 ≤ k → k < by_.length → Kept l (gi by_ k) ∧ gi p.block (gi by_ k) = b := fun k h0 h1 => (hbym _).1 (gi_mem h0 h1)
    have hclosed := fun x => hi0.closed hkp hb0 x
    have hblk0 := p.block
    intro x198 A199 n200 n201 A202 n203 n204 A205 n206 n207 A208 n209 n210 A211 n212 n213 A214 n215 n216 A217 n218 n219 w220 hI n221 hk
    obtain ⟨F, q, wt2, wk2, hb, hpm2, hy2, hx2, hby, hwq, hiq, h1980, h1981⟩ := hI
    subst hk
    have n195' : n195 = by_.length := by rw [hby.len, ints_len]
    refine condK_dec (fun hltx => ?_) fun hgex => ?_
    · have hlet : m.Let x198 := ⟨h1980, hltx⟩
      have hflen := hf.fl
      have hfrl := hf.fr x198 hlet
      -- what was marked by the letter before is forgotten
      have hF8 : Fam w w220 (upd F 8 none) := hb.fam.drop fun j => by
        by_cases h : j = 8
        · subst h; right; simp
        · left; exact upd_ne h
      have ho8 : Only 8 F (upd F 8 none) := upd_only
      have hb8 := hb.same hF8 (ho8 7 (by decide)) fun j hj => ho8 j (by omega)
      refine ⟨fun x223 A224 n225 n226 => ⟨fun w227 => ∃ F' mk, Base85 m w w227 F' n2 f ∧ (∀ j, j ≠ 8 → F' j = F j) ∧ GSl F' 8 A224 n225 n226 (ints mk) ∧ mk.Nodup ∧ (∀ s, s ∈ mk ↔ Kept l s ∧ ∃ k : Int, 0 ≤ k ∧ k < x223 ∧ m.step s x198 = gi by_ k) ∧ 0 ≤ x223 ∧ x223 ≤ by_.length, fun _ => (by_.length - x223).toNat⟩,
        ⟨upd F 8 none, [], hb8, ho8, .nil (by simp), by simp, fun s => ⟨fun h => by simp at h, fun ⟨_, k, h0, h1, _⟩ => by omega⟩, by omega, by omega⟩, ?_⟩
      rintro x223 A224 n225 n226 w227 ⟨F', mk, hb', hsm, hmk, hmkn, hmkm, h2230, h2231⟩ n228 rfl
      have hmklen : mk.length ≤ m.next.length := nodup_bound _ mk hmkn fun s hs => by have := ((hmkm s).1 hs).1.lt; omega
      refine condK_dec (fun hlt3 => ?_) fun hge3 => ?_
      · have hx223 : x223 < by_.length := by omega
        refine (hby.same (hsm 9 (by decide))).get_int hb'.fam h2230 hx223 (K := fun x230 => IxV _ _ 1 x198 _) ?_
        have hbkx := hbk x223 h2230 hx223
        have hbl := hbkx.1.lt
        refine hb'.from_.get hb'.fam h1980 (by omega) hbkx.1.1 (by omega) (K := fun A236 n237 => AppK 8 1 _ _ A224 n225 n226 A236 n237 w227 _) fun A236 hr => ?_
        have hsh2 := hf.short hlen hlet hbkx.1
        refine hmk.append_ints hb'.fam hr rfl (by rw [hmk.len, ints_len]; omega) fun F5 A5 c5 w5 ho5 hF5 hmk5 => ?_
        rw [wrap_id (by omega) (by omega)]
        refine ⟨⟨F5, _, hb'.same hF5 (ho5 7 (by decide)) (fun j hj => ho5 j (by omega)), fun j hj => by rw [ho5 j hj, hsm j hj], hmk5, ?_, fun s => ?_, by omega, by omega⟩, by simp only []; omega⟩
        · rw [List.nodup_append]
          refine ⟨hmkn, hf.nodup x198 _ hlet hbkx.1, fun a ha c hc e => ?_⟩
          subst e
          obtain ⟨_, k, k0, k1, e1⟩ := (hmkm a).1 ha
          have e2 := ((hf.mem x198 _ hlet hbkx.1 a).1 hc).2.2
          rw [e1] at e2
          have g1 := get_gi (l := by_) k0 (by omega); have g2 := get_gi (l := by_) h2230 hx223
          obtain ⟨l1, g1⟩ := List.getElem?_eq_some_iff.1 g1; obtain ⟨l2, g2⟩ := List.getElem?_eq_some_iff.1 g2
          have := (List.getElem_inj hbyn (h₀ := l1) (h₁ := l2)).1 (by rw [g1, g2, e2])
          omega
        · rw [List.mem_append, hmkm s, hf.mem x198 _ hlet hbkx.1 s]
          constructor
          · rintro (⟨a, k, k0, k1, e⟩ | ⟨a, _, e⟩)
            · exact ⟨a, k, k0, by omega, e⟩
            · exact ⟨a, x223, h2230, by omega, e⟩
          · rintro ⟨a, k, k0, k1, e⟩
            by_cases ek : k = x223
            · subst ek; right; have := a.lt; exact ⟨a, by omega, e⟩
            · exact .inl ⟨a, k, k0, by omega, e⟩
      · -- all that lead into the block by the letter are marked
        have hM : ∀ s, Kept l s → (s ∈ mk ↔ cls l p.block (m.step s x198) = b) := fun s hs => by
          rw [hmkm s]
          constructor
          · rintro ⟨_, k, k0, k1, e⟩
            have := hbk k k0 (by omega)
            rw [e, cls_kept this.1, this.2]
          · intro e
            by_cases hkt : Kept l (m.step s x198)
            · rw [cls_kept hkt] at e
              obtain ⟨k, k0, k1, e2⟩ := mem_gi ((hbym _).2 ⟨hkt, e⟩)
              exact ⟨hs, k, k0, by omega, e2.symm⟩
            · rw [cls_not hkt] at e; omega
        have sm5 : ∀ j, j < 5 → F' j = F j := fun j hj => hsm j (by omega)
        refine c106 (g := 109) (p0 := q) (kept := Kept l) (n := m.next.length) (wt := wt2) (wk := wk2) (marked := mk) hb'.fam (hpm2.same sm5) (hy2.same (hsm 5 (by decide))) (hx2.same (hsm 6 (by decide))) hmk (hb'.none_ 20 (by decide) (by decide)) (hb'.none_ 21 (by decide) (by decide)) hwq (by omega) (fun s hs => ((hmkm s).1 hs).1) hmkn (c109 w n18 n128 n19 n132 n131)
          (Hop m l (fun s t => m.ends s = m.ends t) (fun s => cls l p.block s = b) x198 (2 * n168 - n177 + 1)) hiq (fun q wt wk hw hi => ⟨hi.wl, by have := hi.short; have := hw.count; have := hw.total; omega⟩)
          (fun q q' wt wk wt' wk' b hw hi hp hc => by
            rw [hp.len]
            exact hi.part (fun s t h1 h2 e => by rw [hM s h1, hM t h2]; exact hclosed x198 s t h1 h2 e) hp.rng.1 hp.rng.2 hp.blk hc) ?_
        intro F6 w245 q6 wt6 wk6 A246 n247 n248 A249 n250 n251 A252 n253 n254 A255 n256 n257 A258 n259 n260 A261 n262 n263 A264 n265 n266 ho6 hF6 hpm6 hy6 hx6 hw6 hol6 hhom6 hi6
        refine ⟨rfl, _, _, _, _, _, _, _, _, _, _, _, _, _, _, _, _, _, _, _, _, _, rfl, ?_⟩
        rw [wrap_id (by omega) (by omega)]
        refine ⟨⟨F6, q6, wt6, wk6, hb'.same hF6 (ho6 7 (by decide)) (fun j hj => ho6 j (by omega)), hpm6, hy6, hx6, (hby.same (hsm 9 (by decide))).same (ho6 9 (by decide)), hw6, hi6.letter fun s t h1 h2 e => ?_, by omega, by omega⟩, by simp only [I197]; omega⟩
        have := hhom6 s t h1 h2 e
        rw [hM s h1, hM t h2] at this
        exact this
    · have hxl : x198 = m.letters := by omega
      subst hxl
      have n209' : n209 = q.first.length := by rw [hpm2.f.len, ints_len]
      have n218' : n218 = wk2.length := by rw [hx2.len, ints_len]
      have hcq := hiq.cnt
      have hcountq := hwq.count
      have htotalq := hwq.total
      exact ⟨⟨F, q, wt2, wk2, _, _, hb, hpm2, hy2, hx2, hwq, hiq⟩, by simp only [I157]; omega⟩
end
end Go.Proofs.Ytnkpjlhbojjneaa.VC

/- The blocks of states that accept the same words: the contract. -/
namespace Go.Proofs.Ytnkpjlhbojjneaa.VC
open Go Go.RowKit

theorem c85 {w : World} {m : Mach} {v kv : Value} {l : List Bool} {R : Res} (hm : MachAt w m v) (hk : SlB w kv l) (hsh : m.Shaped) (hN : m.next.length ≤ 1048576) (hL : m.letters ≤ 1048576) (hkp : Keeps m l) (hne : ∃ s, Kept l s)
    (hR : ∀ bv blk w', Ext w w' → SlI w' bv blk → blk.length = m.next.length → (∀ s, Kept l s → 0 ≤ gi blk s ∧ gi blk s < m.next.length) → (∀ s t, Kept l s → Kept l t → (gi blk s = gi blk t ↔ Same m s t)) → R bv [] w') :
    CallsI Try.prog 85 [v, kv] w [] R := by
  obtain ⟨_, _, rfl, ⟨A, c, hs, rfl, hA, hl, hx⟩, ⟨B, d, rfl, hB⟩⟩ := hm
  obtain ⟨K, k1, rfl, hK⟩ := hk
  have hlen := hkp.len
  have hfin := hsh.fin
  have hLet := hsh.letters
  refine s85 _ _ _ _ _ _ _ _ _ _ _ _ _ fun _ => ⟨rfl, hLet, by omega, by omega, ?_⟩
  refine GIII.make (Fam.empty w) 7 m.next.length m.letters.toNat (by decide) (fun _ => rfl) fun n2 F w3 ho hF hf3 => ?_
  have hnone : ∀ j, j ≠ 7 → F j = none := fun j hj => by rw [ho j hj]
  refine ⟨fun x5 => ⟨fun w6 => ∃ F f, Fam w w6 F ∧ GIII F 7 m.next.length (some ⟨n2, 0, none⟩) m.letters.toNat m.letters.toNat f ∧ (∀ j, j < 30 → j ≠ 7 → F j = none) ∧ (∀ x t : Nat, t ≤ m.next.length → x5 ≤ x → F (enc m.next.length x t) = none) ∧ (f.length : Int) = m.letters ∧ (∀ x : Int, 0 ≤ x → x < x5 → gll f x = List.replicate m.next.length []) ∧ 0 ≤ x5 ∧ x5 ≤ m.letters, fun _ => (m.letters - x5).toNat⟩,
    ⟨F, _, hF, hf3, fun j _ h => hnone j h, fun x t _ _ => hnone _ (enc_big (by decide)), by simp; omega, fun x h0 h1 => by omega, by omega, by omega⟩, ?_⟩
  clear hF hf3 hnone ho
  rintro x5 w6 ⟨F, f, hF, hfr, hnone, hnone2, hfl, hlaid, hx0, hx1⟩ n7 rfl
  refine condK_dec (fun hlt => ?_) fun hge => ?_
  · refine ⟨rfl, by omega, by omega, by omega, ?_⟩
    refine hfr.lay hF (by decide) hx0 (by omega) (Nat.le_refl _) (fun t ht => hnone2 _ t ht (by omega)) fun F1 w11 ho1 hF1 hfr1 => ?_
    rw [J85_1, wrap_id (by omega) (by omega)]
    refine ⟨⟨F1, _, hF1, hfr1, fun j a b => by rw [ho1 j b (Ne.symm (enc_big a))]; exact hnone j a b, fun x t ht hx => ?_, by simp [hfl], fun x h0 h1 => ?_, by omega, by omega⟩, by simp only []; omega⟩
    · rw [ho1 _ (enc_big (by decide)) fun e => by have := (enc_inj (by omega) (by omega) e).1; omega]
      exact hnone2 x t ht (by omega)
    · rw [gll_set hx0 (by omega) h0]
      split
      · rfl
      · exact hlaid x h0 (by omega)
  · have hlaid' : ∀ x, m.Let x → gll f x = List.replicate m.next.length [] := fun x hx => hlaid x hx.1 (by unfold Mach.Let at hx; omega)
    have Q0 : ∃ Q : FamF → World → Prop, Q = fun F w' => Base85 m w w' F n2 f ∧ (F 0 = none ∧ F 4 = none ∧ F 5 = none ∧ F 6 = none ∧ F 8 = none) := ⟨_, rfl⟩
    obtain ⟨Q, hQ⟩ := Q0
    have fin : ∀ n12 n14 n16 n18 n19 w17 F, Q F w17 → GSl F 1 (some ⟨n12, 0, none⟩) m.next.length m.next.length (ints (List.replicate m.next.length 0)) → GSl F 2 (some ⟨n14, 0, none⟩) m.next.length m.next.length (ints (List.replicate m.next.length 0)) → GSl F 3 (some ⟨n16, 0, none⟩) 1 1 (ints [0]) →
        J85_119 n12 m.next.length n14 n16 w17 l.length K B m.fin.length A n2 m.letters n18 n19 R := fun n12 n14 n16 n18 n19 w17 F hq h1 h2 h3 => by
      rw [hQ] at hq
      exact j85_119 hA hl hx hB hsh hN hL hK hkp hne hq.1 hq.2 h1 h2 h3 hfl hlaid' hR
    have al : ∀ (i : Nat) (w' : World) (F : FamF) (K' : Nat → World → Prop), (i = 1 ∨ i = 2) → Q F w' → (∀ b F' w'', Q F' w'' → Only i F F' → GSl F' i (some ⟨b, 0, none⟩) m.next.length m.next.length (ints (List.replicate m.next.length 0)) → K' b w'') →
        ((m.next.length : Int) = m.next.length ∧ 0 ≤ (m.next.length : Int) ∧ (m.next.length : Int) * ((8 : Nat) : Int) ≤ 281474976710656 ∧ (m.next.length : Int) ≤ 9223372036854775807 ∧ NewK w' (Obj.cells (Array.mk (List.replicate m.next.length (Value.int IntKind.i64 0))) 3) K') := fun i w' F K' hi hq hk => by
      rw [hQ] at hq hk
      refine ⟨rfl, by omega, by omega, by omega, hq.1.fam.mkRow i fun b F' w'' ho hF' hs => hk b F' w'' ⟨hq.1.same hF' (ho 7 (by omega)) fun j hj => ho j (by omega), ?_⟩ ho ?_⟩
      · have := hq.2
        rw [ho 0 (by omega), ho 4 (by omega), ho 5 (by omega), ho 6 (by omega), ho 8 (by omega)]; exact this
      · rw [ints_rep]; rw [List.length_replicate] at hs; exact hs
    have alF : ∀ (w' : World) (F : FamF) (K' : Nat → World → Prop), Q F w' → (∀ b F' w'', Q F' w'' → Only 3 F F' → GSl F' 3 (some ⟨b, 0, none⟩) 1 1 (ints [0]) → K' b w'') → NewK w' (Obj.cells (Array.mk [Value.int IntKind.i64 0]) 3) K' := fun w' F K' hq hk => by
      rw [hQ] at hq hk
      refine hq.1.fam.mkRow 3 fun b F' w'' ho hF' hs => hk b F' w'' ⟨hq.1.same hF' (ho 7 (by omega)) fun j hj => ho j (by omega), ?_⟩ ho hs
      have := hq.2
      rw [ho 0 (by omega), ho 4 (by omega), ho 5 (by omega), ho 6 (by omega), ho 8 (by omega)]; exact this
    have q6 : Q F w6 := by
      rw [hQ]
      exact ⟨⟨hF, hfr, fun j a b => hnone j b (by omega)⟩, hnone 0 (by decide) (by decide), hnone 4 (by decide) (by decide), hnone 5 (by decide) (by decide), hnone 6 (by decide) (by decide), hnone 8 (by decide) (by decide)⟩
    clear hQ
    have h121 : ∀ (w15 : World) (n12 n14 : Nat) (F : FamF), Q F w15 → GSl F 1 (some ⟨n12, 0, none⟩) m.next.length m.next.length (ints (List.replicate m.next.length 0)) → GSl F 2 (some ⟨n14, 0, none⟩) m.next.length m.next.length (ints (List.replicate m.next.length 0)) →
        J85_121 w15 n12 m.next.length n14 l.length K B m.fin.length A n2 m.letters R := fun w15 n12 n14 F hq h1 h2 =>
      ⟨alF _ F _ hq fun b F' w'' hq' ho h3 => ⟨fun _ _ => fin _ _ _ _ _ _ F' hq' (h1.keep ho (by decide)) (h2.keep ho (by decide)) h3, fun _ _ => fin _ _ _ _ _ _ F' hq' (h1.keep ho (by decide)) (h2.keep ho (by decide)) h3⟩,
        fun _ => alF _ F _ hq fun b F' w'' hq' ho h3 => fun _ => fin _ _ _ _ _ _ F' hq' (h1.keep ho (by decide)) (h2.keep ho (by decide)) h3⟩
    have h122 : ∀ (w15 : World) (n12 n16 : Nat) (F : FamF), Q F w15 → GSl F 1 (some ⟨n12, 0, none⟩) m.next.length m.next.length (ints (List.replicate m.next.length 0)) → GSl F 3 (some ⟨n16, 0, none⟩) 1 1 (ints [0]) →
        J85_122 m.next.length w15 n12 n16 l.length K B m.fin.length A n2 m.letters R := fun w15 n12 n16 F hq h1 h3 =>
      ⟨al 2 _ F _ (.inr rfl) hq fun b F' w'' hq' ho h2 => ⟨fun _ _ => fin _ _ _ _ _ _ F' hq' (h1.keep ho (by decide)) h2 (h3.keep ho (by decide)), fun _ _ => fin _ _ _ _ _ _ F' hq' (h1.keep ho (by decide)) h2 (h3.keep ho (by decide))⟩,
        fun _ => al 2 _ F _ (.inr rfl) hq fun b F' w'' hq' ho h2 => fun _ => fin _ _ _ _ _ _ F' hq' (h1.keep ho (by decide)) h2 (h3.keep ho (by decide))⟩
    have h123 : ∀ (w15 : World) (n12 n14 n19 : Nat) (F : FamF), Q F w15 → GSl F 1 (some ⟨n12, 0, none⟩) m.next.length m.next.length (ints (List.replicate m.next.length 0)) → GSl F 2 (some ⟨n14, 0, none⟩) m.next.length m.next.length (ints (List.replicate m.next.length 0)) →
        J85_123 w15 n12 m.next.length n14 l.length K B m.fin.length A n2 m.letters n19 R := fun w15 n12 n14 n19 F hq h1 h2 =>
      alF _ F _ hq fun b F' w'' hq' ho h3 => fun _ => fin _ _ _ _ _ _ F' hq' (h1.keep ho (by decide)) (h2.keep ho (by decide)) h3
    have h124 : ∀ (w15 : World) (n12 n16 n19 : Nat) (F : FamF), Q F w15 → GSl F 1 (some ⟨n12, 0, none⟩) m.next.length m.next.length (ints (List.replicate m.next.length 0)) → GSl F 3 (some ⟨n16, 0, none⟩) 1 1 (ints [0]) →
        J85_124 m.next.length w15 n12 n16 l.length K B m.fin.length A n2 m.letters n19 R := fun w15 n12 n16 n19 F hq h1 h3 =>
      al 2 _ F _ (.inr rfl) hq fun b F' w'' hq' ho h2 => fun _ => fin _ _ _ _ _ _ F' hq' (h1.keep ho (by decide)) h2 (h3.keep ho (by decide))
    have h126 : ∀ (w15 : World) (n14 n16 : Nat) (F : FamF), Q F w15 → GSl F 2 (some ⟨n14, 0, none⟩) m.next.length m.next.length (ints (List.replicate m.next.length 0)) → GSl F 3 (some ⟨n16, 0, none⟩) 1 1 (ints [0]) →
        J85_126 m.next.length w15 n14 n16 l.length K B m.fin.length A n2 m.letters R := fun w15 n14 n16 F hq h2 h3 =>
      ⟨al 1 _ F _ (.inl rfl) hq fun b F' w'' hq' ho h1 => ⟨fun _ _ => fin _ _ _ _ _ _ F' hq' h1 (h2.keep ho (by decide)) (h3.keep ho (by decide)), fun _ _ => fin _ _ _ _ _ _ F' hq' h1 (h2.keep ho (by decide)) (h3.keep ho (by decide))⟩,
        fun _ => al 1 _ F _ (.inl rfl) hq fun b F' w'' hq' ho h1 => fun _ => fin _ _ _ _ _ _ F' hq' h1 (h2.keep ho (by decide)) (h3.keep ho (by decide))⟩
    have h127 : ∀ (w15 : World) (n14 n16 n19 : Nat) (F : FamF), Q F w15 → GSl F 2 (some ⟨n14, 0, none⟩) m.next.length m.next.length (ints (List.replicate m.next.length 0)) → GSl F 3 (some ⟨n16, 0, none⟩) 1 1 (ints [0]) →
        J85_127 m.next.length w15 n14 n16 l.length K B m.fin.length A n2 m.letters n19 R := fun w15 n14 n16 n19 F hq h2 h3 =>
      al 1 _ F _ (.inl rfl) hq fun b F' w'' hq' ho h1 => fun _ => fin _ _ _ _ _ _ F' hq' h1 (h2.keep ho (by decide)) (h3.keep ho (by decide))
    refine ⟨?_, ?_, ?_, fun _ => ⟨?_, ?_, ?_⟩⟩
    · refine al 1 _ F _ (.inl rfl) q6 fun b1 F1 w1 q1 o1 g1 => ⟨?_, ?_, fun _ => ⟨?_, ?_⟩⟩
      · exact al 2 _ F1 _ (.inr rfl) q1 fun b2 F2 w2 q2 o2 g2 => h121 _ _ _ F2 q2 (g1.keep o2 (by decide)) g2
      · exact alF _ F1 _ q1 fun b2 F2 w2 q2 o2 g2 => h122 _ _ _ F2 q2 (g1.keep o2 (by decide)) g2
      · exact al 2 _ F1 _ (.inr rfl) q1 fun b2 F2 w2 q2 o2 g2 => h123 _ _ _ _ F2 q2 (g1.keep o2 (by decide)) g2
      · exact alF _ F1 _ q1 fun b2 F2 w2 q2 o2 g2 => h124 _ _ _ _ F2 q2 (g1.keep o2 (by decide)) g2
    · refine al 2 _ F _ (.inr rfl) q6 fun b1 F1 w1 q1 o1 g1 => ⟨?_, ?_, fun _ => ⟨?_, ?_⟩⟩
      · exact al 1 _ F1 _ (.inl rfl) q1 fun b2 F2 w2 q2 o2 g2 => h121 _ _ _ F2 q2 g2 (g1.keep o2 (by decide))
      · exact alF _ F1 _ q1 fun b2 F2 w2 q2 o2 g2 => h126 _ _ _ F2 q2 (g1.keep o2 (by decide)) g2
      · exact al 1 _ F1 _ (.inl rfl) q1 fun b2 F2 w2 q2 o2 g2 => h123 _ _ _ _ F2 q2 g2 (g1.keep o2 (by decide))
      · exact alF _ F1 _ q1 fun b2 F2 w2 q2 o2 g2 => h127 _ _ _ _ F2 q2 (g1.keep o2 (by decide)) g2
    · refine alF _ F _ q6 fun b1 F1 w1 q1 o1 g1 => ⟨?_, ?_, fun _ => ⟨?_, ?_⟩⟩
      · exact al 1 _ F1 _ (.inl rfl) q1 fun b2 F2 w2 q2 o2 g2 => h122 _ _ _ F2 q2 g2 (g1.keep o2 (by decide))
      · exact al 2 _ F1 _ (.inr rfl) q1 fun b2 F2 w2 q2 o2 g2 => h126 _ _ _ F2 q2 g2 (g1.keep o2 (by decide))
      · exact al 1 _ F1 _ (.inl rfl) q1 fun b2 F2 w2 q2 o2 g2 => h124 _ _ _ _ F2 q2 g2 (g1.keep o2 (by decide))
      · exact al 2 _ F1 _ (.inr rfl) q1 fun b2 F2 w2 q2 o2 g2 => h127 _ _ _ _ F2 q2 g2 (g1.keep o2 (by decide))
    · refine al 1 _ F _ (.inl rfl) q6 fun b1 F1 w1 q1 o1 g1 => ⟨?_, ?_⟩
      · exact al 2 _ F1 _ (.inr rfl) q1 fun b2 F2 w2 q2 o2 g2 => h123 _ _ _ _ F2 q2 (g1.keep o2 (by decide)) g2
      · exact alF _ F1 _ q1 fun b2 F2 w2 q2 o2 g2 => h124 _ _ _ _ F2 q2 (g1.keep o2 (by decide)) g2
    · refine al 2 _ F _ (.inr rfl) q6 fun b1 F1 w1 q1 o1 g1 => ⟨?_, ?_⟩
      · exact al 1 _ F1 _ (.inl rfl) q1 fun b2 F2 w2 q2 o2 g2 => h123 _ _ _ _ F2 q2 g2 (g1.keep o2 (by decide))
      · exact alF _ F1 _ q1 fun b2 F2 w2 q2 o2 g2 => h127 _ _ _ _ F2 q2 (g1.keep o2 (by decide)) g2
    · refine alF _ F _ q6 fun b1 F1 w1 q1 o1 g1 => ⟨?_, ?_⟩
      · exact al 1 _ F1 _ (.inl rfl) q1 fun b2 F2 w2 q2 o2 g2 => h124 _ _ _ _ F2 q2 g2 (g1.keep o2 (by decide))
      · exact al 2 _ F1 _ (.inr rfl) q1 fun b2 F2 w2 q2 o2 g2 => h127 _ _ _ _ F2 q2 g2 (g1.keep o2 (by decide))
end Go.Proofs.Ytnkpjlhbojjneaa.VC

/- Machines in new memory; numbers of things in a map. -/
namespace Go.Proofs.Ytnkpjlhbojjneaa.VC
open Go Go.RowKit

section
variable {w0 w w' : World} {F F' : FamF} {i : Nat} {A : Option Addr} {n c : Nat}
/-- a row that is owned is pushed -/
theorem GII.pushRow {g : Nat → Nat} {xss : List (List Int)} {A' : Option Addr} {n' c' : Nat} {ys : List Int} {z : Value} {e e2 : TypeId} (h : GII F i g A n c xss) (hr : GSl F (g xss.length) A' n' c' (ints ys)) (hF : Fam w0 w F) (hg : ∀ t, g t ≠ i) (hlim : n ≤ 5864062014804)
    {K : Option Addr → Nat → Nat → World → Prop} (k : ∀ F' A2 c2 w', Only i F F' → Fam w0 w' F' → GII F' i g A2 (n + 1) c2 (xss ++ [ys]) → K A2 (n + 1) c2 w') :
    NewK w (.cells (Array.mk [.slice A' n' c']) e (0, 0)) fun bx w1 => AppK 24 1 [z] e2 A n c (some ⟨bx, 0, none⟩) 1 w1 K := by
  obtain ⟨hs, h1, h2, h3⟩ := h
  refine h1.push (bytes := 24) hF rfl (by omega) fun F' A2 c2 w' ho hF' hs' => k F' A2 c2 w' ho hF' ⟨_, hs', by simp [h2], fun t hd xs ht hx => ?_⟩
  rcases Nat.lt_or_ge t xss.length with hlt | hge
  · rw [List.getElem?_append_left (by omega)] at ht
    rw [List.getElem?_append_left hlt] at hx
    obtain ⟨A3, n3, c3, e3, h4⟩ := h3 t hd xs ht hx
    exact ⟨A3, n3, c3, e3, h4.keep ho (hg t)⟩
  · have hlt := (List.getElem?_eq_some_iff.1 hx).1
    rw [List.length_append, List.length_singleton] at hlt
    have : t = xss.length := by omega
    subst this
    rw [List.getElem?_append_right (by omega), h2, Nat.sub_self] at ht
    rw [List.getElem?_append_right (Nat.le_refl _), Nat.sub_self] at hx

    simp only [List.getElem?_cons_zero, Option.some.injEq] at ht hx
    subst ht hx
    exact ⟨A', n', c', rfl, hr.keep ho (hg _)⟩
theorem GII.slii {g : Nat → Nat} {xss : List (List Int)} (h : GII F i g A n c xss) (hF : Fam w0 w F) : SlII w (.slice A n c) xss := by
  have hl := h.len
  obtain ⟨hs, h1, h2, h3⟩ := h
  subst hl
  refine ⟨A, c, hs, rfl, h1.row hF, h2, fun t hd xs ht hx => ?_⟩
  obtain ⟨A3, n3, c3, rfl, h4⟩ := h3 t hd xs ht hx
  exact h4.sli hF
theorem GII.nil {g : Nat → Nat} (h : F i = none) : GII F i g none 0 0 [] := ⟨[], .nil h, rfl, fun t h xs ht => by simp at ht⟩
/-- A machine in memory that is newer than w. -/
def MachNew (w w' : World) (m : Mach) (v : Value) : Prop :=
  ∃ F A n c B k d, v = .agg #[.int .i64 m.letters, .int .i64 m.start, .slice A n c, .slice B k d] ∧ Fam w w' F ∧ GII F 2 g10 A n c m.next ∧ GSl F 3 B k d (bools m.fin)
theorem MachNew.at_ {m : Mach} {v : Value} (h : MachNew w w' m v) : MachAt w' m v := by
  obtain ⟨F, A, n, c, B, k, d, rfl, hF, h1, h2⟩ := h
  exact ⟨_, _, rfl, h1.slii hF, h2.slb hF⟩
theorem MachNew.below {m : Mach} {v : Value} (h : MachNew w w' m v) : Ext w w' := by
  obtain ⟨F, A, n, c, B, k, d, rfl, hF, h1, h2⟩ := h
  exact hF.base
theorem MachNew.after {w1 : World} {m : Mach} {v : Value} (h : MachNew w1 w' m v) (he : Ext w w1) : MachNew w w' m v := by
  obtain ⟨F, A, n, c, B, k, d, rfl, hF, h1, h2⟩ := h
  exact ⟨F, A, n, c, B, k, d, rfl, ⟨he.trans' hF.base, fun i b c e => ⟨(hF.own i b c e).1, Nat.le_trans he.size (hF.own i b c e).2⟩, hF.inj⟩, h1, h2⟩
theorem MachNew.ext {w1 : World} {m : Mach} {v : Value} (h : MachNew w w1 m v) (he : Ext w1 w') : MachNew w w' m v := by
  obtain ⟨F, A, n, c, B, k, d, rfl, hF, h1, h2⟩ := h
  exact ⟨F, A, n, c, B, k, d, rfl, hF.ext he, h1, h2⟩
theorem Fam.older (hF : Fam w w' F) (he : Ext w0 w) : Fam w0 w' F :=
  ⟨he.trans' hF.base, fun i b c e => ⟨(hF.own i b c e).1, Nat.le_trans he.size (hF.own i b c e).2⟩, hF.inj⟩

/-- the map tells the numbers of what stands in a list -/
def Num {X : Type} (f : X → Option Value) (xs : List X) : Prop := ∀ x, (∃ k : Nat, f x = some (.int .i64 k) ∧ xs[k]? = some x) ∨ (f x = none ∧ x ∉ xs)
theorem Num.push {X : Type} [DecidableEq X] {f : X → Option Value} {xs : List X} (h : Num f xs) {x : X} (hx : x ∉ xs) : Num (fun y => if y = x then some (.int .i64 (xs.length : Int)) else f y) (xs ++ [x]) := by
  intro y
  by_cases e : y = x
  · subst e; left; exact ⟨xs.length, by simp, by simp⟩
  · simp only [e, if_false]
    rcases h y with ⟨k, h1, h2⟩ | ⟨h1, h2⟩
    · left; exact ⟨k, h1, by rw [List.getElem?_append_left (List.getElem?_eq_some_iff.1 h2).1]; exact h2⟩
    · right; exact ⟨h1, by simp [h2, e]⟩
def NumMap (F : FamF) (i : Nat) (kt : KT) {X : Type} (key : X → Value) (r : Option Nat) (xs : List X) : Prop :=
  (r = none ∧ xs = []) ∨ ∃ b f, r = some b ∧ GM F i kt key b f ∧ Num f xs
theorem NumMap.same {kt : KT} {X : Type} {key : X → Value} {r : Option Nat} {xs : List X} (h : NumMap F i kt key r xs) (e : F' i = F i) : NumMap F' i kt key r xs := by
  rcases h with h | ⟨b, f, h1, h2, h3⟩
  · exact .inl h
  · exact .inr ⟨b, f, h1, h2.same e, h3⟩
theorem NumMap.look {kt : KT} {X : Type} {key : X → Value} {r : Option Nat} {xs : List X} (h : NumMap F i kt key r xs) (hF : Fam w0 w F) (x : X) :
    ∃ l, MapOpt w kt r l ∧ ((∃ k : Nat, assoc kt l (key x) = some (.int .i64 k) ∧ xs[k]? = some x) ∨ (assoc kt l (key x) = none ∧ x ∉ xs)) := by
  rcases h with ⟨rfl, rfl⟩ | ⟨b, f, rfl, h2, h3⟩
  · exact ⟨[], rfl, .inr ⟨rfl, by simp⟩⟩
  · obtain ⟨l, h4, h5⟩ := h2.look hF
    refine ⟨l, h4, ?_⟩
    rw [h5]; exact h3 x
end
end Go.Proofs.Ytnkpjlhbojjneaa.VC

/- A thing's number; the machine of all things that are found. -/
namespace Go.Proofs.Ytnkpjlhbojjneaa.VC
open Go Go.RowKit

theorem c110 {w0 w : World} {F : FamF} {b : Nat} {A : Option Addr} {n c : Nat} {r : Option Nat} {xs : List Int} {x : Int} {R : Res} (hF : Fam w0 w F) (hl : GSl F 0 A n c (ints xs)) (hm : NumMap F 1 KT.int (Value.int .i64) r xs) (hlim : xs.length ≤ 1048576)
    (old : ∀ k : Nat, xs[k]? = some x → R (.int .i64 k) [[.slice A n c, .map r]] w)
    (new : x ∉ xs → ∀ F' w' A' c' r', (∀ j, j ≠ 0 → j ≠ 1 → F' j = F j) → Fam w0 w' F' → GSl F' 0 A' (n + 1) c' (ints (xs ++ [x])) → NumMap F' 1 KT.int (Value.int .i64) r' (xs ++ [x]) → R (.int .i64 xs.length) [[.slice A' (n + 1) c', .map r']] w') :
    CallsI Try.prog 110 [.pointer (some ⟨b, 0, none⟩), .int .i64 x] w [(b, 138, [.slice A n c, .map r])] R := by
  have hn : n = xs.length := by rw [hl.len, ints_len]
  subst hn
  obtain ⟨l, h1, h2⟩ := hm.look hF x
  refine s110 _ _ _ _ _ _ _ _ ⟨l, h1, ?_⟩
  rcases h2 with ⟨k, h3, h4⟩ | ⟨h3, h4⟩
  · rw [h3]; exact ⟨k, rfl, old k h4⟩
  · rw [h3]
    refine ⟨0, rfl, ?_⟩
    show condK _ _ _
    rcases hm with ⟨rfl, rfl⟩ | ⟨b', f, rfl, h5, h6⟩
    · refine GM.make hF 1 KT.int (Value.int .i64) fun b1 F1 w1 ho1 hF1 hg1 => ?_
      refine hg1.putS keyInt hF1 fun F2 w2 ho2 hF2 hg2 => ?_
      refine ((hl.keep ho1 (by decide)).keep ho2 (by decide)).push_int hF2 (by omega) fun F3 A3 c3 w3 ho3 hF3 hl3 => ?_
      refine new h4 F3 w3 A3 c3 (some b1) (fun j a b => by rw [ho3 j a, ho2 j b, ho1 j b]) hF3 hl3 (.inr ⟨b1, _, rfl, hg2.same (ho3 1 (by decide)), ?_⟩)
      have := (show Num (fun _ : Int => none) [] from fun y => .inr ⟨rfl, by simp⟩).push h4
      exact this
    · refine h5.putS keyInt hF fun F2 w2 ho2 hF2 hg2 => ?_
      refine (hl.keep ho2 (by decide)).push_int hF2 (by omega) fun F3 A3 c3 w3 ho3 hF3 hl3 => ?_
      refine new h4 F3 w3 A3 c3 (some b') (fun j a b => by rw [ho3 j a, ho2 j b]) hF3 hl3 (.inr ⟨b', _, rfl, hg2.same (ho3 1 (by decide)), ?_⟩)
      exact h6.push h4

theorem set_row {cur : List Int} {k : Nat} {v : Int} (hk : 0 < k) : (cur ++ List.replicate k 0).set cur.length v = cur ++ [v] ++ List.replicate (k - 1) 0 := by
  obtain ⟨k, rfl⟩ : ∃ j, k = j + 1 := ⟨k - 1, by omega⟩
  rw [List.set_append_right _ _ (Nat.le_refl _), List.replicate_succ]; simp
theorem set_row2 {cur rest : List Int} {u v : Int} : (cur ++ [u] ++ rest).set cur.length v = cur ++ [v] ++ rest := by
  rw [List.append_assoc, List.set_append_right _ _ (Nat.le_refl _)]; simp

def I12 (X : Auto Int) (first most : Int) (w : World) : Int → Int → Int → Option Addr → Nat → Nat → Option Addr → Nat → Nat → Option Addr → Nat → Nat → Option Nat → Int → Int → Option Addr → Nat → Nat → Option Addr → Nat → Nat → Lp :=
  fun x13 _ _ _ _ _ _ _ _ A22 n23 n24 A25 x26 x27 A28 n29 n30 A31 n32 n33 => ⟨fun w' => ∃ F xs rows fins, Fam w w' F ∧ GSl F 0 A22 n23 n24 (ints xs) ∧ NumMap F 1 KT.int (Value.int .i64) A25 xs ∧ GII F 2 g10 A28 n29 n30 rows ∧ GSl F 3 A31 n32 n33 (bools fins) ∧ x26 = X.letters ∧ x27 = 0 ∧ Part X first xs rows ∧
    (∀ row ∈ rows, (row.length : Int) = X.letters) ∧ fins = (xs.take rows.length).map X.fin ∧ x13 = rows.length ∧ rows.length ≤ xs.length ∧ (xs.length : Int) ≤ most, fun _ => (most - x13).toNat⟩
def I38 (X : Auto Int) (first most : Int) (w : World) (rows : List (List Int)) (fins : List Bool) (n36 : Nat) (A28 : Option Addr) (n29 n30 : Nat) (A31 : Option Addr) (n32 n33 : Nat) : Int → Int → Int → Option Addr → Nat → Nat → Option Addr → Nat → Nat → Option Addr → Nat → Nat → Option Nat → Lp :=
  fun x39 _ _ _ _ _ _ _ _ A48 n49 n50 A51 => ⟨fun w' => ∃ F xs cur, Fam w w' F ∧ GSl F 0 A48 n49 n50 (ints xs) ∧ NumMap F 1 KT.int (Value.int .i64) A51 xs ∧ GII F 2 g10 A28 n29 n30 rows ∧ GSl F 3 A31 n32 n33 (bools fins) ∧
    GSl F (g10 rows.length) (some ⟨n36, 0, none⟩) X.letters.toNat X.letters.toNat (ints (cur ++ List.replicate (X.letters - x39).toNat 0)) ∧ (cur.length : Int) = x39 ∧ Part X first xs (rows ++ [cur]) ∧ fins = (xs.take rows.length).map X.fin ∧ rows.length < xs.length ∧ (xs.length : Int) ≤ most ∧ 0 ≤ x39 ∧ x39 ≤ X.letters, fun _ => (X.letters - x39).toNat⟩

set_option maxHeartbeats 4000000 in
theorem c86 {bm bo bk bb : Nat} {l s : Int} {A : Option Addr} {n c : Nat} {B : Option Addr} {m d : Nat} {r : Option Nat} {K : Option Addr} {k0 k1 : Nat} {G : Option Addr} {g0 g1 : Nat} {X : Auto Int} {most first : Int} {w : World} {R : Res}
    (hL0 : 0 ≤ X.letters) (hL : X.letters ≤ 1048576) (hm0 : 1 ≤ most) (hm1 : most ≤ 1048576)
    (hnext : ∀ w' q x (R' : Res), Ext w w' → X.From first q → 0 ≤ x → x < X.letters → (∀ y : Int, (X.next q x = none → R' (.tuple (Array.mk [.int .i64 y, .bool false])) [[.int .i64 l, .int .i64 s, .slice A n c, .slice B m d], [.map r], [.slice K k0 k1], [.slice G g0 g1]] w') ∧
        (X.next q x = some y → R' (.tuple (Array.mk [.int .i64 y, .bool true])) [[.int .i64 l, .int .i64 s, .slice A n c, .slice B m d], [.map r], [.slice K k0 k1], [.slice G g0 g1]] w')) →
      CallsI Try.prog 87 [.int .i64 q, .int .i64 x, .pointer (some ⟨bm, 0, none⟩), .pointer (some ⟨bo, 0, none⟩), .pointer (some ⟨bk, 0, none⟩), .pointer (some ⟨bb, 0, none⟩)] w' [(bm, 25, [.int .i64 l, .int .i64 s, .slice A n c, .slice B m d]), (bo, 105, [.map r]), (bk, 23, [.slice K k0 k1]), (bb, 26, [.slice G g0 g1])] R')
    (hend : ∀ w' q (R' : Res), Ext w w' → X.From first q → R' (.bool (X.fin q)) [[.int .i64 l, .int .i64 s, .slice A n c, .slice B m d], [.map r]] w' →
      CallsI Try.prog 88 [.int .i64 q, .pointer (some ⟨bm, 0, none⟩), .pointer (some ⟨bo, 0, none⟩)] w' [(bm, 25, [.int .i64 l, .int .i64 s, .slice A n c, .slice B m d]), (bo, 105, [.map r])] R')
    (hok : ∀ w' mm (A' : Option Addr) (n' c' : Nat) (B' : Option Addr) (k' d' : Nat) xs, MachNew w w' mm (.agg (Array.mk [.int .i64 X.letters, .int .i64 0, .slice A' n' c', .slice B' k' d'])) → Made X first mm xs → (xs.length : Int) ≤ most → R (.tuple (Array.mk [.agg (Array.mk [.int .i64 X.letters, .int .i64 0, .slice A' n' c', .slice B' k' d']), .bool true])) [[.int .i64 l, .int .i64 s, .slice A n c, .slice B m d], [.map r], [.slice K k0 k1], [.slice G g0 g1]] w')
    (hfail : ∀ w' (xs : List Int), Ext w w' → xs.Nodup → (∀ x ∈ xs, X.From first x) → most < xs.length → R (.tuple (Array.mk [.agg (Array.mk [.int .i64 0, .int .i64 0, .slice none 0 0, .slice none 0 0]), .bool false])) [[.int .i64 l, .int .i64 s, .slice A n c, .slice B m d], [.map r], [.slice K k0 k1], [.slice G g0 g1]] w') :
    CallsI Try.prog 86 [.int .i64 X.letters, .int .i64 most, .int .i64 first, .func (.func 87) #[] #[.pointer (some ⟨bm, 0, none⟩), .pointer (some ⟨bo, 0, none⟩), .pointer (some ⟨bk, 0, none⟩), .pointer (some ⟨bb, 0, none⟩)], .func (.func 88) #[] #[.pointer (some ⟨bm, 0, none⟩), .pointer (some ⟨bo, 0, none⟩)]] w
      [(bm, 25, [.int .i64 l, .int .i64 s, .slice A n c, .slice B m d]), (bo, 105, [.map r]), (bk, 23, [.slice K k0 k1]), (bb, 26, [.slice G g0 g1])] R := by
  refine s86 _ _ _ _ _ _ _ _ _ _ _ _ _ _ _ _ _ _ _ _ _ _ _ _ fun _ n2 => ?_
  refine c110 (Fam.empty w) (.nil rfl) (.inl ⟨rfl, rfl⟩) (by simp) (fun k h => by simp at h) fun _ F w5 A7 c9 r10 ho hF hls hmp => ?_
  refine ⟨0, rfl, A7, 1, c9, r10, rfl, fun _ => ?_⟩
  refine ⟨I12 X first most w, ⟨F, [first], [], [], hF, hls, hmp, GII.nil (by rw [ho 2 (by decide) (by decide)]), .nil (by rw [ho 3 (by decide) (by decide)]), rfl, rfl, .init X first, by simp, rfl, rfl, by simp, by simpa using hm0⟩, ?_⟩
  clear hF hls hmp ho
  intro x13 x14 x15 A16 n17 n18 A19 n20 n21 A22 n23 n24 A25 x26 x27 A28 n29 n30 A31 n32 n33 w34 hI n35 hk
  obtain ⟨F, xs, rows, fins, hF, hls, hmp, hrows, hfins, rfl, rfl, hpart, hlen, hfe, rfl, hle, hmost⟩ := hI
  subst hk
  have n23' : n23 = xs.length := by rw [hls.len, ints_len]
  refine condK_dec (fun hlt => ?_) fun hge => ?_
  · refine ⟨rfl, hL0, by omega, by omega, ?_⟩
    refine hF.mkRow (g10 rows.length) fun n36 F1 w37 ho1 hF1 hr1 => ?_
    rw [List.length_replicate] at hr1
    refine ⟨I38 X first most w rows fins n36 A28 n29 n30 A31 n32 n33, ⟨F1, xs, [], hF1, hls.keep ho1 (Ne.symm (g10_ne (by decide))), hmp.same (ho1 1 (Ne.symm (g10_ne (by decide)))), hrows.keep ho1 (Ne.symm (g10_ne (by decide))) (fun t ht => by unfold g10; omega), hfins.keep ho1 (Ne.symm (g10_ne (by decide))),
      by rw [List.nil_append, ints_rep, Int.sub_zero]; exact hr1, rfl, Part.empty.2 hpart, hfe, by omega, hmost, by omega, hL0⟩, ?_⟩
    clear hF hls hmp hrows hfins hpart hF1 hr1 ho1 F1 hfe hmost n23' hlt
    clear hle
    intro x39 x40 x41 A42 n43 n44 A45 n46 n47 A48 n49 n50 A51 w52 hI n53 hk
    obtain ⟨F, xs, cur, hF, hls, hmp, hrows, hfins, hrow, hcur, hpart, hfe, hlt, hmost, h390, h391⟩ := hI
    subst hk
    have n49' : n49 = xs.length := by rw [hls.len, ints_len]
    have n29' : n29 = rows.length := hrows.len
    have hx := get_gi (l := xs) (i := (rows.length : Int)) (by omega) (by omega)
    rw [Int.toNat_natCast] at hx
    have hfrom := hpart.from_ _ (List.mem_of_getElem? hx)
    have g0' : (0 : Nat) ≠ g10 rows.length := Ne.symm (g10_ne (by decide))
    have g1' : (1 : Nat) ≠ g10 rows.length := Ne.symm (g10_ne (by decide))
    have g2' : (2 : Nat) ≠ g10 rows.length := Ne.symm (g10_ne (by decide))
    have g3' : (3 : Nat) ≠ g10 rows.length := Ne.symm (g10_ne (by decide))
    have gt' : ∀ t, t < rows.length → g10 t ≠ g10 rows.length := fun t ht => by unfold g10; omega
    refine condK_dec (fun hltx => ?_) fun hgex => ?_
    · refine hrow.set_int hF h390 (by simp; omega) fun F1 w55 ho1 hF1 hrow1 => ?_
      rw [show x39.toNat = cur.length by omega, set_row (by omega)] at hrow1
      have hls1 := hls.keep ho1 g0'
      refine hls1.get_int hF1 (by omega) (by omega) (K := fun x57 => CallsI Try.prog 87 _ w55 _ _) ?_
      have next : ∀ (A48 : Option Addr) (n49 n50 : Nat) (A51 : Option Nat) (w60 : World) (F : FamF) (xs' : List Int) (v : Int), Fam w w60 F → GSl F 0 A48 n49 n50 (ints xs') → NumMap F 1 KT.int (Value.int .i64) A51 xs' → GII F 2 g10 A28 n29 n30 rows → GSl F 3 A31 n32 n33 (bools fins) →
          GSl F (g10 rows.length) (some ⟨n36, 0, none⟩) X.letters.toNat X.letters.toNat (ints (cur ++ [v] ++ List.replicate ((X.letters - x39).toNat - 1) 0)) → Part X first xs' (rows ++ [cur ++ [v]]) → fins = (xs'.take rows.length).map X.fin → rows.length < xs'.length →
          J86_5 n49 most R l s A n c B m d r K k0 k1 G g0 g1 w60 (I38 X first most w rows fins n36 A28 n29 n30 A31 n32 n33) x39 x40 x41 A42 n43 n44 A45 n46 n47 A48 n50 A51 (X.letters - x39).toNat := by
        intro A48 n49 n50 A51 w60 F xs' v hF hls hmp hrows hfins hrow hpart hfe hlt
        have n49' : n49 = xs'.length := by rw [hls.len, ints_len]
        refine condK_dec (fun hgt => hfail w60 xs' hF.base hpart.nodup hpart.from_ (by omega)) fun hng => ?_
        rw [wrap_id (by omega) (by omega)]
        refine ⟨⟨F, xs', cur ++ [v], hF, hls, hmp, hrows, hfins, ?_, by simp; omega, hpart, hfe, hlt, by omega, by omega, by omega⟩, by simp only [I38]; omega⟩
        rw [show (X.letters - (x39 + 1)).toNat = (X.letters - x39).toNat - 1 by omega]; exact hrow
      refine hnext w55 _ x39 _ hF1.base hfrom h390 hltx fun y => ⟨fun hnone => ?_, fun hsome => ?_⟩
      · refine ⟨y, false, rfl, rfl, ?_⟩
        exact next _ _ _ _ _ F1 xs (-1) hF1 hls1 (hmp.same (ho1 1 g1')) (hrows.keep ho1 g2' gt') (hfins.keep ho1 g3') hrow1 (hpart.none hx (by rw [hcur]; exact hnone)) hfe hlt
      · refine ⟨y, true, rfl, rfl, ?_⟩
        refine c110 hF1 hls1 (hmp.same (ho1 1 g1')) (by omega) (fun k hk => ?_) fun hy F2 w2 A2 c2 r2 ho2 hF2 hls2 hmp2 => ?_
        · refine ⟨k, rfl, _, _, _, _, rfl, ?_⟩
          refine hrow1.set_int hF1 h390 (by simp; omega) fun F3 w72 ho3 hF3 hrow3 => ?_
          rw [show x39.toNat = cur.length by omega, set_row2] at hrow3
          exact next _ _ _ _ _ F3 xs k hF3 (hls1.keep ho3 g0') ((hmp.same (ho1 1 g1')).same (ho3 1 g1')) ((hrows.keep ho1 g2' gt').keep ho3 g2' gt') ((hfins.keep ho1 g3').keep ho3 g3') hrow3 (hpart.old hx (by rw [hcur]; exact hsome) hk) hfe hlt
        · refine ⟨xs.length, rfl, _, _, _, _, rfl, ?_⟩
          have e2 : ∀ j, 2 ≤ j → F2 j = F1 j := fun j hj => ho2 j (by omega) (by omega)
          have hrow2 := hrow1.same (e2 (g10 rows.length) (by unfold g10; omega))
          refine hrow2.set_int hF2 h390 (by simp; omega) fun F3 w72 ho3 hF3 hrow3 => ?_
          rw [show x39.toNat = cur.length by omega, set_row2] at hrow3
          refine next _ _ _ _ _ F3 (xs ++ [y]) xs.length hF3 (hls2.keep ho3 g0') (hmp2.same (ho3 1 g1')) (((hrows.keep ho1 g2' gt').same (e2 2 (by decide)) fun t _ => e2 _ (by unfold g10; omega)).keep ho3 g2' gt') (((hfins.keep ho1 g3').same (e2 3 (by decide))).keep ho3 g3') hrow3
            (hpart.fresh hx (by rw [hcur]; exact hsome) (by omega) hy) (by rw [List.take_append_of_le_length (by omega)]; exact hfe) (by simp; omega)
    · have hcl : (X.letters - x39).toNat = 0 := by omega
      rw [hcl, List.replicate_zero, List.append_nil] at hrow
      refine hrows.pushRow hrow hF (fun t => g10_ne (by decide)) (by omega) fun F1 A75 c77 w78 ho1 hF1 hrows1 => ?_
      have hls1 := hls.keep ho1 (by decide)
      refine hls1.get_int hF1 (by omega) (by omega) (K := fun x80 => CallsI Try.prog 88 _ w78 _ _) ?_
      refine hend w78 _ _ hF1.base hfrom ⟨_, rfl, rfl, ?_⟩
      have n32' : n32 = fins.length := by rw [hfins.len, bools_len]
      have hfl : fins.length = rows.length := by rw [hfe, List.length_map, List.length_take]; omega
      refine (hfins.keep ho1 (by decide)).push_bool hF1 (by omega) fun F2 A87 c89 w90 ho2 hF2 hfins2 => ?_
      rw [wrap_id (by omega) (by omega)]
      refine ⟨⟨F2, xs, rows ++ [cur], _, hF2, hls1.keep ho2 (by decide), (hmp.same (ho1 1 (by decide))).same (ho2 1 (by decide)), hrows1.keep ho2 (by decide) (fun t _ => g10_ne (by decide)), hfins2, rfl, rfl, hpart, fun row hr => ?_, ?_, by simp, by simp; omega, hmost⟩, by simp only [I12]; omega⟩
      · rcases List.mem_append.1 hr with hr | hr
        · exact hlen row hr
        · rw [List.mem_singleton] at hr; subst hr; omega
      · rw [List.length_append, List.length_singleton, List.take_add_one, hx, hfe]; simp
  · have hl2 : rows.length = xs.length := by omega
    refine hok w34 ⟨X.letters, 0, rows, fins⟩ _ _ _ _ _ _ xs ⟨F, _, _, _, _, _, _, rfl, hF, hrows, hfins⟩ ⟨hpart, rfl, hL0, rfl, hl2, hlen, by rw [hfe, hl2, List.take_length]⟩ hmost
end Go.Proofs.Ytnkpjlhbojjneaa.VC

/- The least machine. -/
namespace Go.Proofs.Ytnkpjlhbojjneaa.VC
open Go Go.RowKit

/-- the least machine of a machine -/
structure IsLeast (m mm : Mach) : Prop where
  canon : mm.Canon
  letters : mm.letters = m.letters
  words : ∀ u, mm.acc mm.start u = m.acc m.start u
theorem IsLeast.unique {m a b : Mach} (ha : IsLeast m a) (hb : IsLeast m b) : a = b := canon_unique ha.canon hb.canon (by rw [ha.letters, hb.letters]) fun u => by rw [ha.words, hb.words]

def noneM (l : Int) : Mach := ⟨l, -1, [], []⟩
theorem noneM_canon {l : Int} (h : 0 ≤ l) : (noneM l).Canon where
  shaped := ⟨h, rfl, by simp [noneM], fun _ => rfl, fun h => absurd rfl h⟩
  zero := by simp [noneM]
  live := fun s h0 h1 => by simp [noneM] at h1; omega
  apart := fun s t h0 h1 => by simp [noneM] at h1; omega
  numbered := ⟨fun t h0 h1 => by simp [noneM] at h1; omega, fun i x t' hi hx e t h0 h1 => by
    have : (noneM l).step i x = -1 := by unfold Mach.step; split <;> simp [noneM]
    omega⟩
theorem noneM_acc (l : Int) (u : List Int) : (noneM l).acc (noneM l).start u = false := Mach.acc_neg (by simp [noneM]) u
theorem noneM_new {w w' : World} (h : Ext w w') (l : Int) : MachNew w w' (noneM l) (.agg (Array.mk [.int .i64 l, .int .i64 (-1), .slice none 0 0, .slice none 0 0])) :=
  ⟨fun _ => none, none, 0, 0, none, 0, 0, rfl, ((Fam.empty w).ext h), GII.nil rfl, .nil rfl⟩

/-- the blocks as things to be found -/
def blockAuto (m : Mach) (l : List Bool) (blk : List Int) (rep : Int → Int) : Auto Int where
  letters := m.letters
  next := fun b x => if 0 ≤ m.step (rep b) x ∧ gb l (m.step (rep b) x) = true then some (gi blk (m.step (rep b) x)) else none
  fin := fun b => m.ends (rep b)
structure Reps (m : Mach) (l : List Bool) (blk : List Int) (rep : Int → Int) : Prop where
  keeps : Keeps m l
  same : ∀ s t, Kept l s → Kept l t → (gi blk s = gi blk t ↔ Same m s t)
  rep : ∀ s, Kept l s → Kept l (rep (gi blk s)) ∧ gi blk (rep (gi blk s)) = gi blk s
theorem Reps.acc {m : Mach} {l : List Bool} {blk : List Int} {rep : Int → Int} (h : Reps m l blk rep) (hm : m.Shaped) (u : List Int) : ∀ s, Kept l s → (blockAuto m l blk rep).acc (gi blk s) u = m.acc s u := by
  induction u with
  | nil =>
    intro s hs
    have hr := h.rep s hs
    exact (h.same _ _ hr.1 hs).1 hr.2 []
  | cons c u ih =>
    intro s hs
    have hr := h.rep s hs
    have hsame : m.acc s (c :: u) = m.acc (rep (gi blk s)) (c :: u) := ((h.same _ _ hr.1 hs).1 hr.2 (c :: u)).symm
    rw [hsame, Mach.acc_cons, Auto.acc]
    split
    · by_cases hk : Kept l (m.step (rep (gi blk s)) c)
      · have : (blockAuto m l blk rep).next (gi blk s) c = some (gi blk (m.step (rep (gi blk s)) c)) := if_pos hk
        rw [this]; exact ih _ hk
      · have : (blockAuto m l blk rep).next (gi blk s) c = none := if_neg hk
        rw [this]; exact (h.keeps.dead hr.1 hk u).symm
    · rename_i hn
      refine (Mach.acc_neg (Classical.byContradiction fun hh => hn ?_) u).symm
      exact (hm.step_let (s := rep (gi blk s)) (x := c) (by omega)).2
theorem Reps.from_ {m : Mach} {l : List Bool} {blk : List Int} {rep : Int → Int} (_h : Reps m l blk rep) {s : Int} (hs : Kept l s) {b : Int} (hb : (blockAuto m l blk rep).From (gi blk s) b) : ∃ t, Kept l t ∧ gi blk t = b := by
  induction hb with
  | here => exact ⟨s, hs, rfl⟩
  | step _ _ _ e ih =>
    obtain ⟨t, ht, rfl⟩ := ih
    unfold blockAuto at e
    simp only [] at e
    split at e
    · rename_i hk
      injection e with e
      exact ⟨_, hk, e⟩
    · cases e
theorem Reps.least {m mm : Mach} {l : List Bool} {blk : List Int} {rep : Int → Int} {xs : List Int} (h : Reps m l blk rep) (hm : m.Shaped) (hs : Kept l m.start) (hmade : Made (blockAuto m l blk rep) (gi blk m.start) mm xs) : IsLeast m mm := by
  have good : ∀ x ∈ xs, ∃ t, Kept l t ∧ gi blk t = x := fun x hx => h.from_ hs (hmade.part.from_ x hx)
  refine ⟨hmade.canon (fun x hx => ?_) (fun x hx y hy e => ?_), hmade.letters, fun u => by rw [hmade.acc_start, h.acc hm u _ hs]⟩
  · obtain ⟨t, ht, rfl⟩ := good x hx
    obtain ⟨u, hu⟩ := h.keeps.live t ht
    exact ⟨u, by rw [h.acc hm u t ht]; exact hu⟩
  · obtain ⟨s, hs, rfl⟩ := good x hx
    obtain ⟨t, ht, rfl⟩ := good y hy
    exact (h.same s t hs ht).2 fun u => by rw [← h.acc hm u s hs, ← h.acc hm u t ht]; exact e u

theorem c84 {w : World} {l : Int} {R : Res} (hR : R (.agg (Array.mk [.int .i64 l, .int .i64 (-1), .slice none 0 0, .slice none 0 0])) [] w) : CallsI Try.prog 84 [.int .i64 l] w [] R := s84 _ _ _ fun _ => hR

set_option maxHeartbeats 4000000 in
theorem c54 {w : World} {m : Mach} {v : Value} {R : Res} (hm : MachAt w m v) (hsh : m.Shaped) (hN : m.next.length ≤ 1048576) (hL : m.letters ≤ 1048576)
    (hR : ∀ w' mm v', MachNew w w' mm v' → IsLeast m mm → mm.next.length ≤ m.next.length → R v' [] w') : CallsI Try.prog 54 [v] w [] R := by
  have hm0 := hm
  obtain ⟨_, _, rfl, ⟨A, c, hs, rfl, hA, hl, hx⟩, ⟨B, d, rfl, hB⟩⟩ := hm
  have hst := hsh.start_range
  have hL0 := hsh.letters
  refine s54 _ _ _ _ _ _ _ _ _ _ fun n1 _ => ?_
  refine c83 hm0 hsh hN hL fun kv l w5 hE5 hkv hkeep => ?_
  obtain ⟨A6, n8, rfl, hK⟩ := hkv
  have hkp := hkeep.keeps hsh
  have hlen := hkp.len
  have dead : (∀ u, m.acc m.start u = false) → J54_4 m.letters w5 R := fun hd =>
    c84 ⟨_, _, _, _, _, _, _, _, rfl, rfl, hR w5 (noneM m.letters) _ (noneM_new hE5 _) ⟨noneM_canon hL0, rfl, fun u => by rw [hd, noneM_acc]⟩ (by simp [noneM])⟩
  refine ⟨A6, _, n8, rfl, rfl, fun n9 => ?_⟩
  refine condK_dec (fun hneg => dead fun u => Mach.acc_neg hneg u) fun hpos => ?_
  refine ix_bool hK (by omega) (by omega) fun a21 t ht hc => ⟨t, hc, ?_⟩
  have hgt : gb l m.start = t := gb_get ht
  cases t with
  | false =>
    refine dead fun u => ?_
    cases e : m.acc m.start u with
    | false => rfl
    | true =>
      have := (hkeep.kept m.start (by omega) hst.2).2 ⟨⟨[], rfl⟩, u, e⟩
      rw [hgt] at this; cases this
  | true =>
  have hks : Kept l m.start := ⟨by omega, hgt⟩
  refine c85 (hm0.ext hE5) ⟨A6, n8, rfl, hK⟩ hsh hN hL hkp ⟨_, hks⟩ fun bv blk w36 hE36 hbv hblen hbr hbs => ?_
  obtain ⟨A37, n39, rfl, hG⟩ := hbv
  refine ⟨A37, _, n39, rfl, rfl, fun n40 => ?_⟩
  refine GM.make (Fam.empty w36) 0 KT.int (Value.int .i64) fun n41 F w42 ho hF hgm n43 => ?_
  -- one state of each block
  refine ⟨fun x45 => ⟨fun w46 => ∃ F f, Fam w36 w46 F ∧ GM F 0 KT.int (Value.int .i64) n41 f ∧ (∀ b, (∃ s, Kept l s ∧ s < x45 ∧ gi blk s = b ∧ f b = some (.int .i64 s)) ∨ (∀ s, Kept l s → s < x45 → gi blk s ≠ b)) ∧ 0 ≤ x45 ∧ x45 ≤ l.length, fun _ => (l.length - x45).toNat⟩,
    ⟨F, _, hF, hgm, fun b => .inr fun s hs h => by have := hs.1; omega, by omega, by omega⟩, ?_⟩
  rintro x45 w46 ⟨F, f, hF, hgm, hf, h450, h451⟩ n47 rfl
  have hE46 : Ext w5 w46 := hE36.trans' hF.base
  refine condK_dec (fun hlt => ?_) fun hge => ?_
  · refine rd_bool hE46 hK h450 hlt (K := fun t => condK t _ _) ?_
    refine condK_of (fun hg => ?_) fun hg => ?_
    · have hk : Kept l x45 := ⟨h450, hg⟩
      refine rd_int hF.base hG h450 (by omega) (K := fun x51 => ∃ n52 l53, _) ?_
      refine hgm.putS keyInt hF fun F2 w54 ho2 hF2 hg2 => ?_
      rw [J54_5, wrap_id (by omega) (by omega)]
      refine ⟨⟨F2, _, hF2, hg2, fun b => ?_, by omega, by omega⟩, by simp only []; omega⟩
      by_cases e : b = gi blk x45
      · subst e; left; exact ⟨x45, hk, by omega, rfl, by simp⟩
      · rcases hf b with ⟨s, a1, a2, a3, a4⟩ | h1
        · left; exact ⟨s, a1, by omega, a3, by simp [e, a4]⟩
        · right; intro s hs hlt2
          by_cases e2 : s = x45
          · subst e2; exact fun e3 => e e3.symm
          · exact h1 s hs (by omega)
    · rw [J54_5, wrap_id (by omega) (by omega)]
      refine ⟨⟨F, f, hF, hgm, fun b => ?_, by omega, by omega⟩, by simp only []; omega⟩
      rcases hf b with ⟨s, a1, a2, a3, a4⟩ | h1
      · left; exact ⟨s, a1, by omega, a3, a4⟩
      · right; intro s hs hlt2
        by_cases e2 : s = x45
        · subst e2; rw [hs.2] at hg; cases hg
        · exact h1 s hs (by omega)
  · have hx : x45 = l.length := by omega
    subst hx
    obtain ⟨rep, hrep⟩ : ∃ rep : Int → Int, rep = fun b => match f b with | some (.int .i64 s) => s | _ => 0 := ⟨_, rfl⟩
    have hrep2 : ∀ s, Kept l s → Kept l (rep (gi blk s)) ∧ gi blk (rep (gi blk s)) = gi blk s ∧ f (gi blk s) = some (.int .i64 (rep (gi blk s))) := fun s hs => by
      rcases hf (gi blk s) with ⟨t, a1, a2, a3, a4⟩ | h1
      · have : rep (gi blk s) = t := by rw [hrep]; simp only [a4]
        rw [this]; exact ⟨a1, a3, a4⟩
      · exact absurd rfl (h1 s hs hs.lt.2)
    have reps : Reps m l blk rep := ⟨hkp, hbs, fun s hs => ⟨(hrep2 s hs).1, (hrep2 s hs).2.1⟩⟩
    clear hrep hf
    refine ix_int (Ext.row hF.base hG) (by omega) (by omega) fun a55 x56 hx56 hc => ⟨x56, hc, ?_⟩
    have e56 : gi blk m.start = x56 := gi_get hx56
    have hgood : ∀ q, (blockAuto m l blk rep).From x56 q → ∃ t, Kept l t ∧ gi blk t = q := fun q hq => by
      rw [← e56] at hq; exact reps.from_ hks hq
    have hE : Ext w w46 := hE5.trans' hE46
    have call : ∀ R' : Res, (∀ w' mm (A' : Option Addr) (n' c' : Nat) (B' : Option Addr) (k' d' : Nat), MachNew w w' mm (.agg (Array.mk [.int .i64 m.letters, .int .i64 0, .slice A' n' c', .slice B' k' d'])) → IsLeast m mm → mm.next.length ≤ m.next.length →
        R' (.tuple (Array.mk [.agg (Array.mk [.int .i64 m.letters, .int .i64 0, .slice A' n' c', .slice B' k' d']), .bool true])) [[.int .i64 m.letters, .int .i64 m.start, .slice A m.next.length c, .slice B m.fin.length d], [.map (some n41)], [.slice A6 l.length n8], [.slice A37 blk.length n39]] w') →
      CallsI Try.prog 86 [.int .i64 m.letters, .int .i64 m.next.length, .int .i64 x56, .func (.func 87) #[] #[.pointer (some ⟨n1, 0, none⟩), .pointer (some ⟨n43, 0, none⟩), .pointer (some ⟨n9, 0, none⟩), .pointer (some ⟨n40, 0, none⟩)], .func (.func 88) #[] #[.pointer (some ⟨n1, 0, none⟩), .pointer (some ⟨n43, 0, none⟩)]] w46
        [(n1, 25, [.int .i64 m.letters, .int .i64 m.start, .slice A m.next.length c, .slice B m.fin.length d]), (n43, 105, [.map (some n41)]), (n9, 23, [.slice A6 l.length n8]), (n40, 26, [.slice A37 blk.length n39])] R' := by
      intro R' hR'
      refine c86 (X := blockAuto m l blk rep) hL0 hL (by omega) (by omega) (fun w' q x R2 hEw hq hx0 hx1 hr => ?_) (fun w' q R2 hEw hq hr => ?_) (fun w' mm A' n' c' B' k' d' xs hnew hmade hle => ?_) fun w' xs hEw hnd hfr hgt => ?_
      · obtain ⟨t, ht, rfl⟩ := hgood q hq
        obtain ⟨h1, h2, h3⟩ := hrep2 t ht
        have hF' := hF.ext hEw
        obtain ⟨lm, hl1, hl2⟩ := hgm.look hF'
        have hE' : Ext w w' := hE.trans' hEw
        refine s87 _ _ _ _ _ _ _ _ _ _ _ _ _ _ _ _ _ _ _ _ _ _ _ ⟨lm, hl1, rep (gi blk t), by rw [hl2, h3]; rfl, ?_⟩
        have hkl := h1.lt
        refine rd_step hE' hA hl hx hsh h1.1 (by omega) ⟨hx0, hx1⟩ (K := fun x8 => condK _ _ _) ?_
        have hsr := hsh.step_range (rep (gi blk t)) x
        have hno : ¬ (0 ≤ m.step (rep (gi blk t)) x ∧ gb l (m.step (rep (gi blk t)) x) = true) → J87_1 R2 m.letters m.start A m.next.length c B m.fin.length d (some n41) A6 l.length n8 A37 blk.length n39 w' := fun hn => (hr 0).1 (if_neg hn)
        refine condK_dec (fun hneg => hno fun h => by omega) fun hge => ?_
        refine rd_bool (hE46.trans' hEw) hK (by omega) (by omega) (K := fun t10 => condK (!t10) _ _) ?_
        cases hgb : gb l (m.step (rep (gi blk t)) x) with
        | false => exact hno fun h => by rw [hgb] at h; cases h.2
        | true =>
          refine rd_int (Ext.trans' hF.base hEw) hG (by omega) (by omega) (K := fun x12 => R2 _ _ w') ?_
          exact (hr _).2 (if_pos ⟨by omega, hgb⟩)
      · obtain ⟨t, ht, rfl⟩ := hgood q hq
        obtain ⟨h1, h2, h3⟩ := hrep2 t ht
        have hF' := hF.ext hEw
        obtain ⟨lm, hl1, hl2⟩ := hgm.look hF'
        have hE' : Ext w w' := hE.trans' hEw
        have hkl := h1.lt
        have := hsh.fin
        refine s88 _ _ _ _ _ _ _ _ _ _ _ _ _ _ ⟨lm, hl1, rep (gi blk t), by rw [hl2, h3]; rfl, ?_⟩
        exact rd_end hE' hB h1.1 (by omega) (K := fun t4 => R2 (.bool t4) _ w') hr
      · rw [← e56] at hmade
        exact hR' w' mm A' n' c' B' k' d' (hnew.after hE) (reps.least hsh hks hmade) (by have := hmade.len; omega)
      · exfalso
        have := nodup_bound m.next.length xs hnd fun x hx => by
          obtain ⟨t, ht, rfl⟩ := hgood x (hfr x hx)
          exact hbr t ht
        omega
    refine ⟨call _ fun w' mm A' n' c' B' k' d' hnew hleast hle => ⟨_, _, _, _, _, _, _, _, _, rfl, rfl, fun _ => hR w' mm _ hnew hleast hle⟩, fun _ => ⟨hc, call _ fun w' mm A' n' c' B' k' d' hnew hleast hle => ⟨_, _, _, _, _, _, _, _, _, rfl, rfl, hR w' mm _ hnew hleast hle⟩⟩⟩
end Go.Proofs.Ytnkpjlhbojjneaa.VC

/- Whether two machines are the same; Least. -/
namespace Go.Proofs.Ytnkpjlhbojjneaa.VC
open Go Go.RowKit

theorem gi_ext {xs ys : List Int} (hl : xs.length = ys.length) (h : ∀ i : Int, 0 ≤ i → i < xs.length → gi xs i = gi ys i) : xs = ys := by
  apply List.ext_getElem? 
  intro i
  rcases Nat.lt_or_ge i xs.length with hi | hi
  · have e := h i (by omega) (by omega)
    have a := get_gi (l := xs) (i := (i : Int)) (by omega) (by omega); have b := get_gi (l := ys) (i := (i : Int)) (by omega) (by omega)
    rw [Int.toNat_natCast] at a b
    rw [a, b, e]
  · rw [List.getElem?_eq_none hi, List.getElem?_eq_none (by omega)]
theorem gb_ext {xs ys : List Bool} (hl : xs.length = ys.length) (h : ∀ i : Int, 0 ≤ i → i < xs.length → gb xs i = gb ys i) : xs = ys := by
  apply List.ext_getElem? 
  intro i
  rcases Nat.lt_or_ge i xs.length with hi | hi
  · have e := h i (by omega) (by omega)
    have a := get_gb (l := xs) (i := (i : Int)) (by omega) (by omega); have b := get_gb (l := ys) (i := (i : Int)) (by omega) (by omega)
    rw [Int.toNat_natCast] at a b
    rw [a, b, e]
  · rw [List.getElem?_eq_none hi, List.getElem?_eq_none (by omega)]
theorem gl_ext {xs ys : List (List Int)} (hl : xs.length = ys.length) (h : ∀ i : Int, 0 ≤ i → i < xs.length → gl xs i = gl ys i) : xs = ys := by
  apply List.ext_getElem? 
  intro i
  rcases Nat.lt_or_ge i xs.length with hi | hi
  · have e := h i (by omega) (by omega)
    have a := get_gl (l := xs) (i := (i : Int)) (by omega) (by omega); have b := get_gl (l := ys) (i := (i : Int)) (by omega) (by omega)
    rw [Int.toNat_natCast] at a b
    rw [a, b, e]
  · rw [List.getElem?_eq_none hi, List.getElem?_eq_none (by omega)]

theorem c91 {w : World} {v u : Value} {xs ys : List Int} {R : Res} (hx : SlI w v xs) (hy : SlI w u ys) (hl : xs.length ≤ 17592186043904) (hR : R (.bool (decide (xs = ys))) [] w) : CallsI Try.prog 91 [v, u] w [] R := by
  obtain ⟨A, c, rfl, hA⟩ := hx; obtain ⟨B, d, rfl, hB⟩ := hy
  refine s91 _ _ _ _ _ _ _ _ ?_
  refine condK_bne (fun h => ?_) fun hlen => ?_
  · rw [decide_eq_false (fun e => h (by rw [e]))] at hR; exact hR
  refine ⟨fun x => ⟨fun w' => w' = w ∧ 0 ≤ x ∧ x ≤ xs.length ∧ ∀ i : Int, 0 ≤ i → i < x → gi xs i = gi ys i, fun _ => (xs.length - x).toNat⟩, ⟨rfl, by omega, by omega, fun i h0 h1 => by omega⟩, ?_⟩
  rintro x w' ⟨rfl, hx0, hx1, hI⟩ k rfl
  refine condK_dec (fun hlt => ?_) fun hge => ?_
  · refine rd_int Ext.rfl' hA hx0 hlt (K := fun a => IxV B _ 1 x _) ?_
    refine rd_int Ext.rfl' hB hx0 (by omega) (K := fun b => condK _ _ _) ?_
    refine condK_of (fun h => ?_) fun h => ?_
    · rw [decide_eq_false (fun e => by subst e; simp at h)] at hR; exact hR
    · rw [wrap_id (by omega) (by omega)]
      refine ⟨⟨rfl, by omega, by omega, fun i h0 h1 => ?_⟩, by simp only []; omega⟩
      by_cases e : i = x
      · subst e; simpa using h
      · exact hI i h0 (by omega)
  · rw [decide_eq_true (gi_ext (by omega) fun i h0 h1 => hI i h0 (by omega))] at hR; exact hR
theorem c89 {w : World} {v u : Value} {xs ys : List Bool} {R : Res} (hx : SlB w v xs) (hy : SlB w u ys) (hl : xs.length ≤ 140737488351232) (hR : R (.bool (decide (xs = ys))) [] w) : CallsI Try.prog 89 [v, u] w [] R := by
  obtain ⟨A, c, rfl, hA⟩ := hx; obtain ⟨B, d, rfl, hB⟩ := hy
  refine s89 _ _ _ _ _ _ _ _ ?_
  refine condK_bne (fun h => ?_) fun hlen => ?_
  · rw [decide_eq_false (fun e => h (by rw [e]))] at hR; exact hR
  refine ⟨fun x => ⟨fun w' => w' = w ∧ 0 ≤ x ∧ x ≤ xs.length ∧ ∀ i : Int, 0 ≤ i → i < x → gb xs i = gb ys i, fun _ => (xs.length - x).toNat⟩, ⟨rfl, by omega, by omega, fun i h0 h1 => by omega⟩, ?_⟩
  rintro x w' ⟨rfl, hx0, hx1, hI⟩ k rfl
  refine condK_dec (fun hlt => ?_) fun hge => ?_
  · refine rd_bool Ext.rfl' hA hx0 hlt (K := fun a => IxV B _ 1 x _) ?_
    refine rd_bool Ext.rfl' hB hx0 (by omega) (K := fun b => condK _ _ _) ?_
    refine condK_of (fun h => ?_) fun h => ?_
    · rw [decide_eq_false (fun e => by subst e; simp at h)] at hR; exact hR
    · rw [wrap_id (by omega) (by omega)]
      refine ⟨⟨rfl, by omega, by omega, fun i h0 h1 => ?_⟩, by simp only []; omega⟩
      by_cases e : i = x
      · subst e; simpa using h
      · exact hI i h0 (by omega)
  · rw [decide_eq_true (gb_ext (by omega) fun i h0 h1 => hI i h0 (by omega))] at hR; exact hR
theorem c90 {w : World} {v u : Value} {xs ys : List (List Int)} {R : Res} (hx : SlII w v xs) (hy : SlII w u ys) (hl : xs.length ≤ 5864062014634) (hl2 : ∀ r ∈ xs, r.length ≤ 17592186043904) (hR : R (.bool (decide (xs = ys))) [] w) : CallsI Try.prog 90 [v, u, .func (.func 91) #[] #[]] w [] R := by
  obtain ⟨A, c, hs, rfl, hA, hAl, hAx⟩ := hx; obtain ⟨B, d, gs, rfl, hB, hBl, hBx⟩ := hy
  refine s90 _ _ _ _ _ _ _ _ ?_
  refine condK_bne (fun h => ?_) fun hlen => ?_
  · rw [decide_eq_false (fun e => h (by rw [e]))] at hR; exact hR
  refine ⟨fun x => ⟨fun w' => w' = w ∧ 0 ≤ x ∧ x ≤ xs.length ∧ ∀ i : Int, 0 ≤ i → i < x → gl xs i = gl ys i, fun _ => (xs.length - x).toNat⟩, ⟨rfl, by omega, by omega, fun i h0 h1 => by omega⟩, ?_⟩
  rintro x w' ⟨rfl, hx0, hx1, hI⟩ k rfl
  refine condK_dec (fun hlt => ?_) fun hge => ?_
  · refine rd_row Ext.rfl' hA hAl hAx hx0 hlt (K := fun A6 n7 n8 => IxV B _ 1 x _) fun A6 c6 r hr hrow => ?_
    refine rd_row Ext.rfl' hB hBl hBx hx0 (by omega) (K := fun A10 n11 n12 => CallsI _ _ _ _ _ _) fun A10 c10 q hq hqow => ?_
    refine c91 ⟨A6, c6, rfl, hrow⟩ ⟨A10, c10, rfl, hqow⟩ (hl2 r (List.mem_of_getElem? hr)) ⟨_, rfl, rfl, ?_⟩
    have e1 := gl_get hr; have e2 := gl_get hq
    refine condK_of (fun h => ?_) fun h => ?_
    · rw [decide_eq_false (fun e => by subst e; rw [hr] at hq; injection hq with hq; subst hq; simp at h)] at hR; exact hR
    · rw [wrap_id (by omega) (by omega)]
      refine ⟨⟨rfl, by omega, by omega, fun i h0 h1 => ?_⟩, by simp only []; omega⟩
      by_cases e : i = x
      · subst e; rw [e1, e2]; simpa using h
      · exact hI i h0 (by omega)
  · rw [decide_eq_true (gl_ext (by omega) fun i h0 h1 => hI i h0 (by omega))] at hR; exact hR
theorem c56 {w : World} {a b : Mach} {v u : Value} {R : Res} (ha : MachAt w a v) (hb : MachAt w b u) (la : a.Lim) (hR : ∀ t : Bool, (t = true ↔ a.start = b.start ∧ a.fin = b.fin ∧ a.next = b.next) → R (.bool t) [] w) : CallsI Try.prog 56 [v, u] w [] R := by
  obtain ⟨nx, fn, rfl, h1, h2⟩ := ha; obtain ⟨nx2, fn2, rfl, h3, h4⟩ := hb
  have h1' := h1; have h2' := h2; have h3' := h3; have h4' := h4
  obtain ⟨A, c, hs, rfl, _⟩ := h1; obtain ⟨B, d, rfl, _⟩ := h2; obtain ⟨A2, c2, hs2, rfl, _⟩ := h3; obtain ⟨B2, d2, rfl, _⟩ := h4
  refine s56 _ _ _ _ _ _ _ _ _ _ _ _ _ _ _ _ _ _ fun _ _ => ?_
  refine condK_beq (fun hst => ?_) fun hst => hR false ⟨(fun h => by cases h), fun h => absurd h.1 hst⟩
  refine c89 h2' h4' la.fin ⟨_, rfl, rfl, ?_⟩
  refine condK_dec (fun hf => ?_) fun hf => hR false ⟨(fun h => by cases h), fun h => absurd h.2.1 hf⟩
  refine c90 h1' h3' la.next la.rows ⟨_, rfl, rfl, hR _ ?_⟩
  simp [hst, hf]
theorem Mach.Shaped.lim {m : Mach} (hm : m.Shaped) (hN : m.next.length ≤ 1048576) (hL : m.letters ≤ 1048576) : m.Lim := ⟨by omega, by rw [← hm.fin]; omega, fun r hr => by have := (hm.rows r hr).len; omega⟩

def zeroM : Mach := ⟨0, 0, [], []⟩
abbrev zeroV : Value := .agg (Array.mk [.int .i64 0, .int .i64 0, .slice none 0 0, .slice none 0 0])
theorem c23 {w : World} {m : Mach} {v : Value} {R : Res} (hm : MachAt w m v) (hlim : m.Lim) (bad : ¬ m.Valid → R (.tuple (Array.mk [zeroV, .int .i64 1])) [] w)
    (ok : m.Valid → ∀ w' mm v', MachNew w w' mm v' → IsLeast m mm → mm.next.length ≤ m.next.length → R (.tuple (Array.mk [v', .int .i64 0])) [] w') : CallsI Try.prog 23 [v] w [] R := by
  have hm0 := hm
  obtain ⟨_, _, rfl, ⟨A, c, hs, rfl, hA, hl, hx⟩, ⟨B, d, rfl, hB⟩⟩ := hm
  refine s23 _ _ _ _ _ _ _ _ _ _ fun _ _ => c18 hm0 hlim ⟨_, rfl, rfl, ?_⟩
  refine condK_bne (fun h => bad fun e => h (Mach.code_ok.2 e)) fun h => ?_
  have hv := Mach.code_ok.1 h
  refine c54 hm0 hv.shaped (by have := hv.next; omega) (by have := hv.letters; omega) fun w' mm v' hnew hleast hle => ?_
  have ok' := ok hv w' mm v' hnew hleast hle
  obtain ⟨F, A, n, c, B, k, d, rfl, _⟩ := hnew
  exact ⟨_, _, _, _, _, _, _, _, rfl, rfl, ok'⟩
end Go.Proofs.Ytnkpjlhbojjneaa.VC
