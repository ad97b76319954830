/- How code of the given machine is turned into a proposition, part two: it is sound; the table of types. -/
import Derived.Test.YtnkpjlhbojjneaaGa
import Derived.Deep.LoopGhost
import Derived.Scope
import Derived.Test.YtnkpjlhbojjneaaProg
import Derived.KernelRfl
import Derived.Laws.StructEq
/- One operation; a region in the order of the text. -/
namespace Go.Proofs.Ytnkpjlhbojjneaa.VC
open Go Go.RowKit

/-- What the soundness asks of the program. -/
structure GoodP (P : Program) (T : Tab) : Prop where
  types : GoodT P T
  names : ∀ (f : Nat) (fn : Func), P.funcs[f]? = some fn → (fn.name == "runtime.NumGoroutine") = false
  mixed : P.follows .mixedOrders = true

section
variable {P : Program} {T : Tab} {env : Env} {L : List LB} {F0 : List (Nat × Obj)} {w wa : World} {a : Act} {J : List (Nat × Bool)} {rt : TypeId} {K : SV → List LB → World → Prop} {N : Nat} {H : Hints}

theorem effect_sem (hP : GoodP P T) (he : EnvOK env L a) (hI : InvL L F0 w wa) (o : Oper) (hq : isQ o.op = false) (h : opv P T J rt o.op env L w K) : ES P J F0 o a env L wa K := by
  cases ho : o.op with
  | alloc t => rw [ho] at h; exact es_alloc hP.types hI o t ho h
  | box t x => rw [ho] at h; exact es_box hI he o t x ho h
  | buildSlice t len parts => rw [ho] at h; exact es_buildSlice hP.types hI he o t len parts ho h
  | store t x y => rw [ho] at h; exact es_store hP.types hI he o t x y ho h
  | makeMap t r => rw [ho] at h; exact es_makeMap hI o t r ho h
  | makeSlice t l c => rw [ho] at h; exact es_makeSlice hP.types hI he o t l c ho h
  | mapUpdate t m k x => rw [ho] at h; exact es_mapUpdate (rt := rt) hP.types hI he o t m k x (.inl ho) h
  | insert t m k x => rw [ho] at h; exact es_mapUpdate (rt := rt) hP.types hI he o t m k x (.inr ho) h
  | call c =>
    rw [ho] at h hq
    cases hc : c.callee with
    | value f => exact es_call he hI hP.names o c f ho hc h
    | invoke r m => simp [opv, hc] at h
    | builtin b =>
      cases b with
      | append => exact es_append hP.types hI he o c ho hc h
      | min =>
        intro M hn
        simp only [opv, hc] at h
        split at h
        · rename_i h1 _; cases h1
        · rename_i h1 _; cases h1
        · rename_i h1 _; cases h1
        · rename_i x y _ hargs
          have hev := (evs_ok he hargs).1
          have ea : c.args.map a.eval = #[.int .i64 x, .int .i64 y] := by
            rw [← Array.toArray_toList (xs := c.args.map a.eval), Array.toList_map, hev]; rfl
          have hrun : (execOp a.eval o).run P wa = .ok (.value (.int .i64 (if y < x then y else x))) wa := by
            simp [execOp, ho, resolve, hc, invoke, builtin, ea, Builtin.min_, Builtin.min2]
          rw [hrun]
          exact hn (.v _) L w wa (Post.same hI (s := .v _) trivial hI.rel) h
        · rename_i h1 _; cases h1
        · exact h.elim
      | max =>
        intro M hn
        simp only [opv, hc] at h
        split at h
        · rename_i h1 _; cases h1
        · rename_i h1 _; cases h1
        · rename_i h1 _; cases h1
        · rename_i h1 _; cases h1
        · rename_i x y _ hargs
          have hev := (evs_ok he hargs).1
          have ea : c.args.map a.eval = #[.int .i64 x, .int .i64 y] := by
            rw [← Array.toArray_toList (xs := c.args.map a.eval), Array.toList_map, hev]; rfl
          have hrun : (execOp a.eval o).run P wa = .ok (.value (.int .i64 (if x < y then y else x))) wa := by
            simp [execOp, ho, resolve, hc, invoke, builtin, ea, Builtin.max_, Builtin.max2]
          rw [hrun]
          exact hn (.v _) L w wa (Post.same hI (s := .v _) trivial hI.rel) h
        · exact h.elim
      | len => simp [isQ, hc] at hq
      | _ => simp [opv, hc] at h
  | _ => first | (simp [ho, isQ] at hq; done) | (rw [ho] at h; exact h.elim)

def Keys (L L' : List LB) : Prop := ∀ (q : Nat) l, L[q]? = some l → ∃ l', L'[q]? = some l' ∧ l'.b = l.b ∧ l'.t = l.t
theorem Keys.refl (L : List LB) : Keys L L := fun _ l h => ⟨l, h, rfl, rfl⟩
theorem Keys.trans {L1 L2 L3 : List LB} (h : Keys L1 L2) (k : Keys L2 L3) : Keys L1 L3 := fun q l hq => by
  obtain ⟨l2, h1, h2, h3⟩ := h q l hq
  obtain ⟨l3, h4, h5, h6⟩ := k q l2 h1
  exact ⟨l3, h4, h5.trans h2, h6.trans h3⟩

/-- What a piece of code leaves alone: slots outside W, blocks in lk. -/
structure Ctx where
  W : List Nat
  env0 : Env
  lk : List Nat
  LK : List LB
structure Ctx.Holds (c : Ctx) (env : Env) (L : List LB) : Prop where
  env : ∀ t, t ∉ c.W → List.lookup t env = List.lookup t c.env0
  blk : ∀ q, q ∈ c.lk → ∃ l, c.LK[q]? = some l ∧ L[q]? = some l
/-- The walk's state and the machine's. -/
structure Sim (C : Ctx) (N : Nat) (L0 : List LB) (F0 : List (Nat × Obj)) (env : Env) (L : List LB) (w : World) (a : Act) (wa : World) : Prop where
  ev : EnvOK env L a
  size : a.tmps.size = N
  inv : InvL L F0 w wa
  keys : Keys L0 L
  df : a.defers = []
  ctx : C.Holds env L

theorem EnvOK.keys {L' : List LB} (h : EnvOK env L a) (hk : Keys L L') : EnvOK env L' a := fun t s ht => ⟨(h t s ht).1, okp_keys hk (h t s ht).2⟩

theorem wanted_of (he : EnvOK env L a) (all : List Oper) {g : Option (Nat × Bool)} {o : Oper} (ho : o.guard = g) {b : Bool} (h : wantedE env all g = some b) : Region.wanted o (yielded all.toArray a.tmps) = b := by
  unfold wantedE at h
  unfold Region.wanted
  rw [ho]
  split at h
  · simp only [Option.some.injEq] at h; rw [← h]
  · rename_i j want
    split at h
    · rename_i d hd
      have hslot : (all.toArray[j]?).bind (·.dst) = some d := by
        unfold slotOf at hd
        split at hd
        · rename_i o' ho'; simp [ho', hd]
        · simp at hd
      split at h
      · rename_i v hv
        have := (he d _ hv).1
        simp only [Option.some.injEq] at h
        simp only [yielded, hslot, Option.bind_some, this, real]
        rw [← h]
        cases v <;> cases want <;> rfl
      · rename_i vs hv
        have := (he d _ hv).1
        simp only [Option.some.injEq] at h
        simp only [yielded, hslot, Option.bind_some, this, real]
        rw [← h]; rfl
      · simp at h
    · simp at h

theorem putK_of {dst : Option Nat} {s : SV} {F : Env → Prop} (h : putK N dst s env F) : ∃ env', F env' ∧ (dst = none ∧ env' = env ∨ ∃ d, dst = some d ∧ d < N ∧ env' = (d, s) :: env) := by
  unfold putK at h
  split at h
  · exact ⟨env, h, .inl ⟨rfl, rfl⟩⟩
  · rename_i d
    split at h
    · rename_i hd
      exact ⟨_, h, .inr ⟨d, rfl, by simpa using hd, rfl⟩⟩
    · exact h.elim
theorem EnvOK.put {L' : List LB} (h : EnvOK env L a) (hk : Keys L L') {dst : Option Nat} {s : SV} {env' : Env} (hs : okp L' s) (hsz : a.tmps.size = N) (he : dst = none ∧ env' = env ∨ ∃ d, dst = some d ∧ d < N ∧ env' = (d, s) :: env) :
    EnvOK env' L' (a.put dst (real s)) ∧ (a.put dst (real s)).tmps.size = N ∧ (a.put dst (real s)).defers = a.defers := by
  rcases he with ⟨rfl, rfl⟩ | ⟨d, rfl, hd, rfl⟩
  · exact ⟨h.keys hk, hsz, rfl⟩
  · refine ⟨fun t s' ht => ?_, by simp [Act.put, hsz], rfl⟩
    simp only [List.lookup] at ht
    split at ht
    · rename_i he
      have : t = d := by simpa using he
      subst this
      simp only [Option.some.injEq] at ht; subst ht
      exact ⟨by simp [Act.put, hsz, hd], hs⟩
    · rename_i he
      have hne : d ≠ t := fun e => by simp [e] at he
      have := h t s' ht
      exact ⟨by simp [Act.put, Array.getElem?_setIfInBounds_ne hne, this.1], okp_keys hk this.2⟩
theorem Ctx.Holds.put {C : Ctx} {env env' : Env} {L L' : List LB} {s : SV} {dst : Option Nat} (h : C.Holds env L) (hd : ∀ d, dst = some d → d ∈ C.W) (he : dst = none ∧ env' = env ∨ ∃ d, dst = some d ∧ d < N ∧ env' = (d, s) :: env)
    (hb : ∀ q, q ∈ C.lk → ∀ l, L[q]? = some l → L'[q]? = some l) : C.Holds env' L' := by
  refine ⟨fun t ht => ?_, fun q hq => ?_⟩
  · rcases he with ⟨_, rfl⟩ | ⟨d, h1, _, rfl⟩
    · exact h.env t ht
    · have hne : (t == d) = false := by
        have := hd d h1
        simp only [beq_eq_false_iff_ne, ne_eq]
        intro e; subst e; exact ht this
      simp only [List.lookup, hne]
      exact h.env t ht
  · obtain ⟨l, h1, h2⟩ := h.blk q hq
    exact ⟨l, h1, hb q hq l h2⟩
theorem splitK_of {g : Bool} {s : SV} {F : SV → Prop} (h : splitK g s F) : ∃ s', F s' ∧ real s' = real s ∧ ∀ L, okp L s → okp L s' := by
  unfold splitK at h
  split at h
  · rename_i b
    cases b with
    | true => exact ⟨_, h, rfl, fun _ h => h⟩
    | false => exact ⟨_, h, rfl, fun _ h => h⟩
  · exact ⟨s, h, rfl, fun _ h => h⟩

/-- One operation: what it comes to. 'M' : its value (undef where it is passed over) and the world. -/
theorem stepK_sem (hP : GoodP P T) {C : Ctx} {L0 : List LB} {rid i : Nat} {all : List Oper} {o : Oper} {K : SV → Env → List LB → World → Prop} (h : stepK P T N H C.lk rid all i o env L w K) (hS : Sim C N L0 F0 env L w a wa) (hW : ∀ d, o.dst = some d → d ∈ C.W) :
    (Region.wanted o (yielded all.toArray a.tmps) = true ∧ wantedE env all o.guard = some true ∧
      ∀ (M : Value → World → Prop), (∀ s s' env' L' w' wa', Post (writesL (H.lendAt L rid i) o.op env) L F0 L' w' wa' s → real s' = real s → Sim C N L0 F0 env' L' w' (a.put o.dst (real s)) wa' → K s' env' L' w' → M (real s) wa') → RunPost P M ((execOp a.eval o).run P wa)) ∨
    (Region.wanted o (yielded all.toArray a.tmps) = false ∧ wantedE env all o.guard = some false ∧ ∃ env', K (.v undef) env' L w ∧ Sim C N L0 F0 env' L w (a.put o.dst undef) wa) := by
  unfold stepK at h
  split at h
  · rename_i hw
    refine .inl ⟨wanted_of hS.ev all rfl hw, hw, fun M hM => ?_⟩
    split at h
    · exact h.elim
    rename_i hlk
    have hlk' : ∀ q, q ∈ C.lk → q ∉ writesL (H.lendAt L rid i) o.op env := fun q hq hm => by
      have := List.any_eq_false.1 hlk q hm
      simp [hq] at this
    have fin : ∀ s L' w' wa', Post (writesL (H.lendAt L rid i) o.op env) L F0 L' w' wa' s → (splitK (isGuard all i) s fun s => putK N o.dst s env fun env' => K s env' L' w') → M (real s) wa' := by
      intro s L' w' wa' hp hk
      obtain ⟨s', hk, hr, hok⟩ := splitK_of hk
      obtain ⟨env', hk, hput⟩ := putK_of hk
      obtain ⟨e1, e2, e3⟩ := EnvOK.put hS.ev (fun q l hq => hp.keys q l hq) (hok L' hp.ok) hS.size hput
      rw [hr] at e1 e2 e3
      exact hM s s' env' L' w' wa' hp hr ⟨e1, e2, hp.inv, hS.keys.trans hp.keys, e3.trans hS.df, hS.ctx.put hW hput (fun q hq l hl => hp.keep q l hl (hlk' q hq))⟩ hk
    cases hq : isQ o.op with
    | true =>
      obtain ⟨s, hk, hok, hc, hrun⟩ := quiet_sem hP.types hS.ev hS.inv.ok o hq h (F0 := F0)
      rw [hrun L w wa hc hS.inv]
      exact fin s L w wa (Post.same hS.inv hok hS.inv.rel) hk
    | false => exact effect_sem hP hS.ev hS.inv o hq h M fin
  · rename_i hw
    obtain ⟨env', hk, hput⟩ := putK_of h
    obtain ⟨e1, e2, e3⟩ := EnvOK.put hS.ev (Keys.refl L) (s := .v undef) trivial hS.size hput
    exact .inr ⟨wanted_of hS.ev all rfl hw, hw, env', hk, ⟨e1, e2, hS.inv, hS.keys, e3.trans hS.df, hS.ctx.put hW hput (fun _ _ _ h => h)⟩⟩
  · exact h.elim

theorem upon_of_runPost {o : Oper} {next : Act → World → Prop} {Q : Exit → Act → World → Prop} : ∀ {r : Result Next}, RunPost P (fun v w' => next (a.put o.dst v) w') r → o.upon P a next Q r
  | .ok n w', h => by
    cases n <;> simp only [RunPost] at h <;> first
      | exact h
      | exact h.elim
      | (rw [Oper.upon_enter]; refine Calls.mono h fun e w'' he => ?_; obtain ⟨v, rfl, he⟩ := he; exact he)
  | .halt x w', h => h.elim

theorem vcOps_sound (hP : GoodP P T) {C : Ctx} {L0 : List LB} {rid : Nat} {all : List Oper} {Kf : Env → List LB → World → Prop} {Q : Exit → Act → World → Prop}
    (hQ : ∀ env L w a wa, Kf env L w → Sim C N L0 F0 env L w a wa → Q .normal a wa) :
    ∀ (l : List Oper) (i : Nat) (env : Env) (L : List LB) (w : World) (a : Act) (wa : World), vcOps P T N H C.lk rid all i l env L w Kf → (∀ o ∈ l, ∀ d, o.dst = some d → d ∈ C.W) → Sim C N L0 F0 env L w a wa → wpList P all.toArray Q l a wa
  | [], i, env, L, w, a, wa, h, _, hS => hQ _ _ _ _ _ h hS
  | o :: l, i, env, L, w, a, wa, h, hW, hS => by
    simp only [vcOps] at h
    have ih := vcOps_sound (rid := rid) (all := all) hP hQ l (i + 1)
    have hW' := fun o ho => hW o (List.mem_cons_of_mem _ ho)
    rcases stepK_sem hP h hS (hW o (List.mem_cons_self ..)) with ⟨hw, _, hrun⟩ | ⟨hw, _, env', hk, hS'⟩
    · unfold wpList
      rw [if_pos hw]
      refine .inl (upon_of_runPost (hrun _ ?_))
      intro s s' env' L' w' wa' _ _ hS' hk
      exact ih env' L' w' _ _ hk hW' hS'
    · exact wpList_skip hw (ih env' L w _ _ hk hW' hS')
end
end Go.Proofs.Ytnkpjlhbojjneaa.VC

/- A region that draws its order. -/
namespace Go.Proofs.Ytnkpjlhbojjneaa.VC
open Go Go.RowKit

def lst (l : List Bool) (i : Nat) : Bool := (l[i]?).getD false
def ancI (all : List Oper) (i : Nat) : List Nat := ((ancs all)[i]?).getD []

theorem ancGo_len : ∀ (r : List Oper) (acc : List (List Nat)), (ancGo r acc).length = acc.length + r.length
  | [], acc => rfl
  | o :: r, acc => by simp [ancGo, ancGo_len r]; omega
theorem ancGo_pre : ∀ (r : List Oper) (acc : List (List Nat)) (i : Nat) l, acc[i]? = some l → (ancGo r acc)[i]? = some l
  | [], acc, i, l, h => h
  | o :: r, acc, i, l, h => ancGo_pre r _ i l (by rw [List.getElem?_append_left (List.getElem?_eq_some_iff.1 h).1]; exact h)
theorem ancGo_spec : ∀ (r pre : List Oper) (acc : List (List Nat)), acc.length = pre.length →
    (∀ (i : Nat) l o, acc[i]? = some l → pre[i]? = some o → ∀ j ∈ l, ∃ k ∈ predsOf o, j = k ∨ j ∈ (acc[k]?).getD []) →
    ∀ (i : Nat) l o, (ancGo r acc)[i]? = some l → (pre ++ r)[i]? = some o → ∀ j ∈ l, ∃ k ∈ predsOf o, j = k ∨ j ∈ ((ancGo r acc)[k]?).getD []
  | [], pre, acc, hl, h, i, l, o, hi, ho, j, hj => by
    simp only [List.append_nil] at ho
    exact h i l o hi ho j hj
  | o' :: r, pre, acc, hl, h, i, l, o, hi, ho, j, hj => by
    have := ancGo_spec r (pre ++ [o']) (acc ++ [ancF acc (predsOf o')]) (by simp [hl]) (by
      intro i l o hi ho j hj
      have mono : ∀ (k x : Nat), x ∈ (acc[k]?).getD [] → x ∈ ((acc ++ [ancF acc (predsOf o')])[k]?).getD [] := by
        intro k x hx
        cases hk : acc[k]? with
        | none => simp [hk] at hx
        | some y => rw [List.getElem?_append_left (List.getElem?_eq_some_iff.1 hk).1]; exact hx
      rcases Nat.lt_or_ge i acc.length with hlt | hge
      · rw [List.getElem?_append_left hlt] at hi
        rw [List.getElem?_append_left (by omega)] at ho
        obtain ⟨k, hk, h'⟩ := h i l o hi ho j hj
        exact ⟨k, hk, h'.imp id (mono k j)⟩
      · have hia : i = acc.length := by
          have := (List.getElem?_eq_some_iff.1 hi).1
          simp at this; omega
        subst hia
        simp only [List.getElem?_append_right (Nat.le_refl _), Nat.sub_self, List.getElem?_cons_zero, Option.some.injEq] at hi
        rw [hl] at ho
        simp only [List.getElem?_append_right (Nat.le_refl _), Nat.sub_self, List.getElem?_cons_zero, Option.some.injEq] at ho
        subst hi; subst ho
        obtain ⟨k, hk, h'⟩ := (mem_ancAdd hj).resolve_left (by simp)
        exact ⟨k, hk, h'.imp id (mono k j)⟩) i l o (by simpa [ancGo] using hi) (by simpa using ho) j hj
    simpa [ancGo] using this
theorem anc_spec {all : List Oper} {i j : Nat} {o : Oper} (ho : all[i]? = some o) (hj : j ∈ ancI all i) : ∃ k ∈ predsOf o, j = k ∨ j ∈ ancI all k := by
  unfold ancI at hj
  cases h : (ancs all)[i]? with
  | none => simp [h] at hj
  | some l =>
    simp only [h, Option.getD_some] at hj
    exact ancGo_spec all [] [] rfl (fun i l o h => by simp at h) i l o h (by simpa using ho) j hj

theorem mem_predsOf {o : Oper} {j : Nat} : j ∈ predsOf o ↔ ∃ e ∈ o.after, Region.binds .any e = true ∧ e.on = j := by
  simp only [predsOf, List.mem_filterMap, Array.mem_toList_iff]
  constructor
  · rintro ⟨e, he, h⟩
    split at h
    · rename_i hb; simp only [Option.some.injEq] at h; exact ⟨e, he, hb, h⟩
    · simp at h
  · rintro ⟨e, he, hb, rfl⟩
    exact ⟨e, he, by rw [hb]⟩

/-- What 'drawOk' says. -/
structure DrawOk (all : List Oper) : Prop where
  sel : ∀ (i : Nat) o cs b, all[i]? = some o → o.op ≠ .select cs b
  lt : ∀ (i : Nat) o j, all[i]? = some o → j ∈ predsOf o → j < i
  own : ∀ (i : Nat) o d, all[i]? = some o → o.dst = some d → d ∉ o.looksAt all.toArray
  dst : ∀ (i j : Nat) o o' d, all[i]? = some o → all[j]? = some o' → i ≠ j → o.dst = some d → o'.dst ≠ some d
  looks : ∀ (i j : Nat) o o' d, all[i]? = some o → all[j]? = some o' → i ≠ j → o.dst = some d → d ∈ o'.looksAt all.toArray → i ∈ ancI all j ∨ (lateB all (ancs all) i o = true ∧ j ∈ ancI all i)
theorem drawOk_spec {all : List Oper} (h : drawOk all (ancs all) = true) : DrawOk all := by
  unfold drawOk at h
  simp only [List.all_eq_true, List.mem_range] at h
  have key : ∀ (i : Nat) o, all[i]? = some o → _ := fun i o ho => by
    have := h i (List.getElem?_eq_some_iff.1 ho).1
    rw [ho] at this
    exact this
  refine ⟨fun i o cs b ho hs => ?_, fun i o j ho hj => ?_, fun i o d ho hd => ?_, fun i j o o' d ho ho' hne hd => ?_, fun i j o o' d ho ho' hne hd hl => ?_⟩
  · have := key i o ho
    simp [hs] at this
  · have := key i o ho
    simp only [Bool.and_eq_true, List.all_eq_true, decide_eq_true_eq] at this
    exact this.1.2 j hj
  · have := key i o ho
    simp only [hd, Bool.and_eq_true] at this
    simpa using this.2.1
  · have := key i o ho
    simp only [hd, Bool.and_eq_true, List.all_eq_true, List.mem_range] at this
    have := this.2.2 j (List.getElem?_eq_some_iff.1 ho').1
    rw [ho'] at this
    simp only [Bool.or_eq_true, beq_iff_eq, hne, false_or, Bool.and_eq_true, bne_iff_ne, ne_eq] at this
    exact this.1
  · have := key i o ho
    simp only [hd, Bool.and_eq_true, List.all_eq_true, List.mem_range] at this
    have := this.2.2 j (List.getElem?_eq_some_iff.1 ho').1
    rw [ho'] at this
    simp only [Bool.or_eq_true, beq_iff_eq, hne, false_or, Bool.and_eq_true, Bool.not_eq_true'] at this
    by_cases hin : i ∈ ancI all j
    · exact .inl hin
    refine .inr ?_
    rcases this.2 with h | h | h
    · rw [List.contains_eq_mem] at h; simp [hl] at h
    · rw [List.contains_eq_mem] at h; exact absurd (by simpa [ancI] using h) hin
    · rw [List.contains_eq_mem] at h
      refine ⟨?_, by simpa [ancI] using h⟩
      unfold lateB
      rw [hd]
      simp only [List.any_eq_true, List.mem_range]
      refine ⟨j, (List.getElem?_eq_some_iff.1 ho').1, ?_⟩
      rw [ho']
      simp only [Bool.and_eq_true, bne_iff_ne, ne_eq, Bool.not_eq_true']
      refine ⟨hne, by rw [List.contains_eq_mem]; simpa using hl, ?_⟩
      rw [List.contains_eq_mem]
      simpa [ancI] using hin

theorem exec_agree {all : List Oper} {a A : Act} {o : Oper} (hsel : ∀ cs b, o.op ≠ .select cs b) (h : ∀ t ∈ o.looksAt all.toArray, a.tmps[t]? = A.tmps[t]?) :
    execOp a.eval o = execOp A.eval o ∧ Region.wanted o (yielded all.toArray a.tmps) = Region.wanted o (yielded all.toArray A.tmps) := by
  constructor
  · refine execOp_congr o hsel fun x hx => ?_
    cases x with
    | tmp t =>
      have := h t (List.mem_append_left _ (List.mem_filterMap.2 ⟨.tmp t, by simpa using hx, rfl⟩))
      simp [Act.eval, this]
    | _ => rfl
  · unfold Region.wanted
    cases hg : o.guard with
    | none => rfl
    | some gw =>
      obtain ⟨g, wnt⟩ := gw
      simp only
      congr 1
      unfold yielded
      cases hd : (all.toArray[g]?).bind (·.dst) with
      | none => rfl
      | some d =>
        simp only [Option.bind_some]
        rw [h d (List.mem_append_right _ (by rw [hg]; simp only; rw [hd]; simp))]

section
variable {P : Program} {T : Tab} {F0 : List (Nat × Obj)} {N : Nat} {H : Hints}

def YY (P : Program) (all : List Oper) (o : Oper) (v : Value) (A : Act) (wa : World) : Prop :=
  (Region.wanted o (yielded all.toArray A.tmps) = true ∧ (execOp A.eval o).run P wa = .ok (.value v) wa) ∨ (Region.wanted o (yielded all.toArray A.tmps) = false ∧ v = undef)

structure UE where
  i : Nat
  o : Oper
  v : Value
  pd : Pend
  L1 : List LB
  w1 : World

structure DInv (C : Ctx) (P : Program) (N : Nat) (L0 : List LB) (F0 : List (Nat × Obj)) (all : List Oper) (listed : List Bool) (pend : List (Nat × Pend)) (env : Env) (L : List LB) (w : World)
    (lA : Array Bool) (a A : Act) (wa : World) (U : List UE) : Prop where
  sim : Sim C N L0 F0 env L w A wa
  sz : lA.size = all.length
  szl : listed.length = all.length
  l1 : ∀ i, lA.getD i false = true → lst listed i = true
  l2 : ∀ i, lst listed i = true → lA.getD i false = true ∨ ∃ u ∈ U, u.i = i
  uq : ∀ u ∈ U, lateB all (ancs all) u.i u.o = false
  u1 : ∀ u ∈ U, all[u.i]? = some u.o ∧ lst listed u.i = true ∧ lA.getD u.i true = false
  un : ∀ u ∈ U, ∀ u' ∈ U, u.i = u'.i → u = u'
  fr1 : ∀ t, (∀ u ∈ U, u.o.dst ≠ some t) → a.tmps[t]? = A.tmps[t]?
  fr2 : ∀ u ∈ U, ∀ d, u.o.dst = some d → A.tmps[d]? = (a.put (some d) u.v).tmps[d]?
  asz : a.tmps.size = N
  adf : a.defers = []
  uy : ∀ u ∈ U, PCond u.pd u.L1 u.w1 L w ∧ ∀ L' w' wa', PCond u.pd u.L1 u.w1 L' w' → InvL L' F0 w' wa' → YY P all u.o u.v A wa'
  up : ∀ u ∈ U, (u.i, u.pd) ∈ pend
  cl : ∀ (i : Nat) o, all[i]? = some o → lst listed i = true → ∀ j ∈ predsOf o, lst listed j = true
  clA : ∀ (i : Nat) o, all[i]? = some o → lA.getD i false = true → ∀ j ∈ predsOf o, lA.getD j false = true

theorem clos_anc {all : List Oper} (hok : DrawOk all) {L : Nat → Bool} (h : ∀ (i : Nat) o, all[i]? = some o → L i = true → ∀ j ∈ predsOf o, L j = true) :
    ∀ (n i : Nat), i ≤ n → ∀ o, all[i]? = some o → (∀ j ∈ predsOf o, L j = true) → ∀ j ∈ ancI all i, L j = true := by
  intro n
  induction n with
  | zero =>
    intro i hi o ho hp j hj
    obtain ⟨k, hk, _⟩ := anc_spec ho hj
    have := hok.lt i o k ho hk
    omega
  | succ n ih =>
    intro i hi o ho hp j hj
    obtain ⟨k, hk, h'⟩ := anc_spec ho hj
    have hLk := hp k hk
    rcases h' with rfl | h'
    · exact hLk
    · have hki := hok.lt i o k ho hk
      have hil := (List.getElem?_eq_some_iff.1 ho).1
      have hko : all[k]? = some all[k] := List.getElem?_eq_getElem (by omega)
      exact ih k (by omega) _ hko (h k _ hko hLk) j h'

theorem findFirst_mem {all : List Oper} {anc : List (List Nat)} {listed : List Bool} {q : Bool} {x : Nat × Oper} {l : List Nat} (h : x ∈ findFirst all anc listed q l) : all[x.1]? = some x.2 ∧ (listed[x.1]?).getD true = false ∧ qOp all anc x.1 x.2 = q ∧ readyE x.2 listed = true := by
  induction l with
  | nil => simp [findFirst] at h
  | cons i r ih =>
    unfold findFirst at h
    split at h
    · rename_i o ho hl
      split at h
      · rename_i hq hr
        rcases List.mem_cons.1 h with h | h
        · subst h; exact ⟨ho, hl, by simpa using hq, hr⟩
        · exact ih h
      · exact ih h
    · exact ih h
theorem findFirst_complete {all : List Oper} {anc : List (List Nat)} {listed : List Bool} {q : Bool} {i : Nat} {o : Oper} (ho : all[i]? = some o) (hl : (listed[i]?).getD true = false) (hq : qOp all anc i o = q) (hr : readyE o listed = true) {l : List Nat} (hm : i ∈ l) :
    (i, o) ∈ findFirst all anc listed q l := by
  induction l with
  | nil => simp at hm
  | cons i' r ih =>
    unfold findFirst
    rcases List.mem_cons.1 hm with rfl | hm
    · simp [ho, hl, hq, hr]
    · have ih := ih hm
      split
      · split
        · exact List.mem_cons_of_mem _ ih
        · exact ih
      · exact ih
theorem conjK_mem {α : Type} {F : α → Prop} : ∀ {l : List α}, conjK F l → ∀ x ∈ l, F x
  | [x], h, y, hy => by simp only [List.mem_singleton] at hy; subst hy; exact h
  | x :: y :: r, h, z, hz => by
    rcases List.mem_cons.1 hz with rfl | hz
    · exact h.1
    · exact conjK_mem h.2 z hz
theorem pendK_spec {wr anc : List Nat} {w' : World} {K : Prop} : ∀ {l : List (Nat × Pend)}, pendK wr anc w' l K → K ∧ ∀ x ∈ l, x.1 ∈ anc ∨ (match x.2 with | .none => True | .priv q => q ∉ wr | .vis a vs => CellsAt w' a 0 vs True | .any => False)
  | [], h => ⟨h, by simp⟩
  | (i, pd) :: r, h => by
    simp only [pendK] at h
    split at h
    · rename_i hc
      obtain ⟨h1, h2⟩ := pendK_spec h
      refine ⟨h1, fun x hx => ?_⟩
      rcases List.mem_cons.1 hx with rfl | hx
      · exact .inl (by simpa using hc)
      · exact h2 x hx
    · split at h
      · obtain ⟨h1, h2⟩ := pendK_spec h
        refine ⟨h1, fun x hx => ?_⟩
        rcases List.mem_cons.1 hx with rfl | hx
        · exact .inr trivial
        · exact h2 x hx
      · split at h
        · exact h.elim
        · rename_i hw
          obtain ⟨h1, h2⟩ := pendK_spec h
          refine ⟨h1, fun x hx => ?_⟩
          rcases List.mem_cons.1 hx with rfl | hx
          · exact .inr (by simpa using hw)
          · exact h2 x hx
      · obtain ⟨h1, h2⟩ := pendK_spec (CellsAt_get h).1
        refine ⟨h1, fun x hx => ?_⟩
        rcases List.mem_cons.1 hx with rfl | hx
        · exact .inr (CellsAt_imp (fun _ => trivial) h)
        · exact h2 x hx
      · exact h.elim

theorem stepK_quiet (hP : GoodP P T) {C : Ctx} {L0 : List LB} {rid i : Nat} {all : List Oper} {o : Oper} {env : Env} {L : List LB} {w wa : World} {A : Act} {K : SV → Env → List LB → World → Prop} (hq : isQ o.op = true)
    (h : stepK P T N H C.lk rid all i o env L w K) (hS : Sim C N L0 F0 env L w A wa) (hW : ∀ d, o.dst = some d → d ∈ C.W) :
    ∃ s env' v, K s env' L w ∧ Sim C N L0 F0 env' L w (A.put o.dst v) wa ∧
      PCond (match wantedE env all o.guard with | some true => pendOf o.op env s | _ => .none) L w L w ∧
      ∀ L' w' wa', PCond (match wantedE env all o.guard with | some true => pendOf o.op env s | _ => .none) L w L' w' → InvL L' F0 w' wa' → YY P all o v A wa' := by
  unfold stepK at h
  split at h
  · rename_i hw
    split at h
    · exact h.elim
    obtain ⟨s, hk, hok, hc, hrun⟩ := quiet_sem hP.types hS.ev hS.inv.ok o hq h (F0 := F0)
    obtain ⟨s', hk, hr, hok'⟩ := splitK_of hk
    obtain ⟨env', hk, hput⟩ := putK_of hk
    obtain ⟨e1, e2, e3⟩ := EnvOK.put hS.ev (Keys.refl L) (hok' L hok) hS.size hput
    have hpo : pendOf o.op env s' = pendOf o.op env s := by
      unfold pendOf
      split
      · split
        · rfl
        · rw [← real_cells, hr, real_cells]
        · rfl
      · rfl
      · rfl
      · rfl
    refine ⟨s', env', real s', hk, ⟨e1, e2, hS.inv, hS.keys, e3.trans hS.df, hS.ctx.put hW hput (fun _ _ _ h => h)⟩, ?_, fun L' w' wa' hc' hI => ?_⟩
    · simp only [hw, hpo]; exact hc
    · simp only [hw, hpo] at hc'
      exact .inl ⟨wanted_of hS.ev all rfl hw, by rw [hr]; exact hrun L' w' wa' hc' hI⟩
  · rename_i hw
    obtain ⟨env', hk, hput⟩ := putK_of h
    obtain ⟨e1, e2, e3⟩ := EnvOK.put hS.ev (Keys.refl L) (s := .v undef) trivial hS.size hput
    exact ⟨_, env', undef, hk, ⟨e1, e2, hS.inv, hS.keys, e3.trans hS.df, hS.ctx.put hW hput (fun _ _ _ h => h)⟩, by simp only [hw]; trivial, fun L' w' wa' _ _ => .inr ⟨wanted_of hS.ev all rfl hw, rfl⟩⟩
  · exact h.elim
end
end Go.Proofs.Ytnkpjlhbojjneaa.VC

/- A region that draws its order is sound. -/
namespace Go.Proofs.Ytnkpjlhbojjneaa.VC
open Go Go.RowKit

theorem lst_set {l : List Bool} {i j : Nat} (h : i < l.length) : lst (l.set i true) j = (if i = j then true else lst l j) := by
  unfold lst
  rw [List.getElem?_set]
  split
  · simp
  · rfl
theorem arr_set {l : Array Bool} {i j : Nat} (d : Bool) (h : i < l.size) : (l.setIfInBounds i true).getD j d = (if i = j then true else l.getD j d) := by
  simp only [Array.getD_eq_getD_getElem?, Array.getElem?_setIfInBounds]
  split
  · simp
  · rfl
theorem put_ne {a : Act} {dst : Option Tmp} {v : Value} {t : Nat} (h : dst ≠ some t) : (a.put dst v).tmps[t]? = a.tmps[t]? := by
  cases dst with
  | none => rfl
  | some d => simp only [Act.put]; rw [Array.getElem?_setIfInBounds_ne (by intro e; subst e; exact h rfl)]
theorem put_eq {a A : Act} {t : Nat} {v : Value} (h : a.tmps.size = A.tmps.size) : (a.put (some t) v).tmps[t]? = (A.put (some t) v).tmps[t]? := by
  simp only [Act.put, Array.getElem?_setIfInBounds, if_true, h]
theorem put_size (a : Act) (dst : Option Tmp) (v : Value) : (a.put dst v).tmps.size = a.tmps.size := by cases dst <;> simp [Act.put]
theorem put_defers (a : Act) (dst : Option Tmp) (v : Value) : (a.put dst v).defers = a.defers := by cases dst <;> rfl

section
variable {P : Program} {T : Tab} {F0 : List (Nat × Obj)} {N : Nat} {H : Hints}
variable {C : Ctx} {L0 : List LB} {all : List Oper} {listed : List Bool} {pend : List (Nat × Pend)} {env : Env} {L : List LB} {w wa : World} {lA : Array Bool} {a A : Act} {U : List UE}

theorem DInv.notin (hI : DInv C P N L0 F0 all listed pend env L w lA a A wa U) (hok : DrawOk all) {j : Nat} {o : Oper} (ho : all[j]? = some o) (hp : ∀ k ∈ predsOf o, lA.getD k false = true)
    {u : UE} (hu : u ∈ U) {d : Nat} (hd : u.o.dst = some d) (hne : u.i ≠ j) : d ∉ o.looksAt all.toArray := by
  intro hl
  obtain ⟨h1, h2, h3⟩ := hI.u1 u hu
  have := (hok.looks u.i j u.o o d h1 ho hne hd hl).resolve_right (fun h => by rw [hI.uq u hu] at h; exact absurd h.1 (by simp))
  have := clos_anc hok (L := fun i => lA.getD i false) hI.clA j j (Nat.le_refl _) o ho hp _ this
  simp only [Array.getD_eq_getD_getElem?] at this h3
  cases hq : lA[u.i]? <;> simp_all

/-- Nothing is ready: all is done. -/
theorem DInv.empty (hI : DInv C P N L0 F0 all listed pend env L w lA a A wa U) (hok : DrawOk all) (hr : Region.ready .any all.toArray lA = []) : U = [] ∧ a = A := by
  have hU : U = [] := by
    apply Classical.byContradiction
    intro hne
    have key : ∀ n : Nat, ∀ u ∈ U, u.i ≤ n → False := by
      intro n
      induction n with
      | zero =>
        intro u hu hle
        obtain ⟨h1, h2, h3⟩ := hI.u1 u hu
        have : u.i ∈ Region.ready .any all.toArray lA := mem_ready.2 ⟨h3, u.o, by simpa using h1, fun e he hb => by
          have := hok.lt u.i u.o e.on h1 (mem_predsOf.2 ⟨e, he, hb, rfl⟩)
          omega⟩
        rw [hr] at this; simp at this
      | succ n ih =>
        intro u hu hle
        obtain ⟨h1, h2, h3⟩ := hI.u1 u hu
        have : u.i ∈ Region.ready .any all.toArray lA := mem_ready.2 ⟨h3, u.o, by simpa using h1, fun e he hb => by
          have hm := mem_predsOf.2 ⟨e, he, hb, rfl⟩
          have hlt := hok.lt u.i u.o e.on h1 hm
          rcases hI.l2 e.on (hI.cl u.i u.o h1 h2 e.on hm) with h | ⟨u', hu', hi'⟩
          · exact h
          · exact (ih u' hu' (by omega)).elim⟩
        rw [hr] at this; simp at this
    obtain ⟨u, hu⟩ := List.exists_mem_of_ne_nil U hne
    exact key u.i u hu (Nat.le_refl _)
  subst hU
  refine ⟨rfl, ?_⟩
  have h1 : a.tmps = A.tmps := by
    apply Array.ext_getElem?
    intro t
    exact hI.fr1 t (by simp)
  cases a; cases A
  simp only at h1
  have h2 := hI.adf
  have h3 := hI.sim.df
  simp only at h2 h3
  rw [h1, h2, h3]

/-- A quiet operation is taken in the walk. -/
theorem DInv.take (hI : DInv C P N L0 F0 all listed pend env L w lA a A wa U) (hok : DrawOk all) {i : Nat} {o : Oper} (hlate : lateB all (ancs all) i o = false) (ho : all[i]? = some o) (hl : (listed[i]?).getD true = false) (hr : readyE o listed = true)
    {env' : Env} {v : Value} {pd : Pend} (hS : Sim C N L0 F0 env' L w (A.put o.dst v) wa) (hc : PCond pd L w L w) (hy : ∀ L' w' wa', PCond pd L w L' w' → InvL L' F0 w' wa' → YY P all o v A wa') :
    DInv C P N L0 F0 all (listed.set i true) ((i, pd) :: pend) env' L w lA a (A.put o.dst v) wa (⟨i, o, v, pd, L, w⟩ :: U) := by
  have hil : i < listed.length := by rw [hI.szl]; exact (List.getElem?_eq_some_iff.1 ho).1
  have hli : lst listed i = false := by
    unfold lst
    cases hq : listed[i]? with
    | none => rfl
    | some b => simp [hq] at hl; simp [hl]
  have hnew : ∀ u ∈ U, u.i ≠ i := fun u hu e => by have := (hI.u1 u hu).2.1; rw [e, hli] at this; cases this
  have hlA : lA.getD i true = false := by
    have hiA : i < lA.size := by rw [hI.sz]; exact (List.getElem?_eq_some_iff.1 ho).1
    cases hq : lA[i]'hiA with
    | false => simp [hiA, hq]
    | true =>
      have := hI.l1 i (by simp [hiA, hq])
      rw [hli] at this; cases this
  have hpre : ∀ j ∈ predsOf o, lst listed j = true := fun j hj => by
    have := List.all_eq_true.1 hr j hj
    exact this
  -- no operation that is listed looks at what this one writes
  have hlook : ∀ u ∈ U, ∀ d, o.dst = some d → d ∉ u.o.looksAt all.toArray := by
    intro u hu d hd hm
    obtain ⟨h1, h2, _⟩ := hI.u1 u hu
    have := (hok.looks i u.i o u.o d ho h1 (fun e => hnew u hu e.symm) hd hm).resolve_right (fun h => by rw [hlate] at h; exact absurd h.1 (by simp))
    have := clos_anc hok (L := lst listed) hI.cl u.i u.i (Nat.le_refl _) u.o h1 (hI.cl u.i u.o h1 h2) _ this
    rw [hli] at this; cases this
  have hYput : ∀ (o' : Oper), (∀ cs b, o'.op ≠ .select cs b) → (∀ d, o.dst = some d → d ∉ o'.looksAt all.toArray) → ∀ v' wa', YY P all o' v' A wa' → YY P all o' v' (A.put o.dst v) wa' := by
    intro o' hs hn v' wa' h
    unfold YY at *
    rw [execOp_put (ops := all.toArray) o' hs A o.dst v hn, wanted_put (ops := all.toArray) o' A o.dst v hn]
    exact h
  refine ⟨hS, hI.sz, by simpa using hI.szl, fun j hj => ?_, fun j hj => ?_, fun u hu => ?_, fun u hu => ?_, fun u hu u' hu' e => ?_, fun t ht => ?_, fun u hu d hd => ?_, hI.asz, hI.adf, fun u hu => ?_, fun u hu => ?_, fun j o' ho' hj k hk => ?_, hI.clA⟩
  · rw [lst_set hil]; split
    · rfl
    · exact hI.l1 j hj
  · rw [lst_set hil] at hj
    split at hj
    · rename_i e; exact .inr ⟨_, List.mem_cons_self .., e⟩
    · rcases hI.l2 j hj with h | ⟨u, hu, h⟩
      · exact .inl h
      · exact .inr ⟨u, List.mem_cons_of_mem _ hu, h⟩
  · rcases List.mem_cons.1 hu with rfl | hu
    · exact hlate
    · exact hI.uq u hu
  · rcases List.mem_cons.1 hu with rfl | hu
    · exact ⟨ho, by rw [lst_set hil, if_pos rfl], hlA⟩
    · obtain ⟨h1, h2, h3⟩ := hI.u1 u hu
      refine ⟨h1, ?_, h3⟩
      rw [lst_set hil]; split
      · rfl
      · exact h2
  · rcases List.mem_cons.1 hu with rfl | hu <;> rcases List.mem_cons.1 hu' with rfl | hu'
    · rfl
    · exact absurd e.symm (hnew u' hu')
    · exact absurd e (hnew u hu)
    · exact hI.un u hu u' hu' e
  · rw [put_ne (ht _ (List.mem_cons_self ..))]
    exact hI.fr1 t fun u hu => ht u (List.mem_cons_of_mem _ hu)
  · rcases List.mem_cons.1 hu with rfl | hu
    · simp only at hd
      rw [hd]
      exact put_eq (by rw [hI.sim.size, hI.asz])
    · have h1 := (hI.u1 u hu).1
      have hne : o.dst ≠ some d := hok.dst u.i i u.o o d h1 ho (hnew u hu) hd
      rw [put_ne hne]
      exact hI.fr2 u hu d hd
  · rcases List.mem_cons.1 hu with rfl | hu
    · exact ⟨hc, fun L' w' wa' hc' hI' => hYput o (fun cs b => hok.sel i o cs b ho) (fun d hd => hok.own i o d ho hd) v wa' (hy L' w' wa' hc' hI')⟩
    · obtain ⟨h1, h2⟩ := hI.uy u hu
      exact ⟨h1, fun L' w' wa' hc' hI' => hYput u.o (fun cs b => hok.sel u.i u.o cs b (hI.u1 u hu).1) (hlook u hu) u.v wa' (h2 L' w' wa' hc' hI')⟩
  · rcases List.mem_cons.1 hu with rfl | hu
    · exact List.mem_cons_self ..
    · exact List.mem_cons_of_mem _ (hI.up u hu)
  · rw [lst_set hil] at hj ⊢
    split
    · rfl
    · split at hj
      · rename_i e
        subst e
        rw [ho] at ho'; injection ho' with ho'; subst ho'
        exact hpre k hk
      · exact hI.cl j o' ho' hj k hk

/-- The machine carries out a quiet operation that was taken. -/
theorem DInv.do_ (hI : DInv C P N L0 F0 all listed pend env L w lA a A wa U) (hok : DrawOk all) {u : UE} (hu : u ∈ U) (hr : ∀ k ∈ predsOf u.o, lA.getD k false = true) :
    YY P all u.o u.v a wa ∧ DInv C P N L0 F0 all listed pend env L w (lA.setIfInBounds u.i true) (a.put u.o.dst u.v) A wa (U.filter fun x => !(x.i == u.i)) := by
  obtain ⟨h1, h2, h3⟩ := hI.u1 u hu
  have hiA : u.i < lA.size := by rw [hI.sz]; exact (List.getElem?_eq_some_iff.1 h1).1
  obtain ⟨hc, hy⟩ := hI.uy u hu
  have hag := exec_agree (a := a) (A := A) (o := u.o) (all := all) (fun cs b => hok.sel u.i u.o cs b h1) (fun t ht => hI.fr1 t fun u' hu' hd => by
    by_cases hne : u'.i = u.i
    · have := hI.un u' hu' u hu hne
      subst this
      exact hok.own _ _ t h1 hd ht
    · exact hI.notin hok h1 hr hu' hd hne ht)
  have hY := hy L w wa hc hI.sim.inv
  refine ⟨?_, hI.sim, by simp [hI.sz], hI.szl, fun j hj => ?_, fun j hj => ?_, fun x hx => hI.uq x (List.mem_filter.1 hx).1, fun x hx => ?_, fun x hx x' hx' e => ?_, fun t ht => ?_, fun x hx d hd => ?_, by rw [put_size]; exact hI.asz, by rw [put_defers]; exact hI.adf, fun x hx => ?_, fun x hx => ?_, hI.cl, fun j o' ho' hj k hk => ?_⟩
  · unfold YY at *
    rw [hag.1, hag.2]; exact hY
  · rw [arr_set false hiA] at hj
    split at hj
    · rename_i e; subst e; exact h2
    · exact hI.l1 j hj
  · rw [arr_set false hiA]
    split
    · exact .inl rfl
    · rename_i hne
      rcases hI.l2 j hj with h | ⟨x, hx, rfl⟩
      · exact .inl h
      · exact .inr ⟨x, List.mem_filter.2 ⟨hx, by simp; exact fun e => hne e.symm⟩, rfl⟩
  · obtain ⟨hx, hne⟩ := List.mem_filter.1 hx
    obtain ⟨g1, g2, g3⟩ := hI.u1 x hx
    refine ⟨g1, g2, ?_⟩
    rw [arr_set true hiA, if_neg (by intro e; simp [e] at hne)]
    exact g3
  · exact hI.un x (List.mem_filter.1 hx).1 x' (List.mem_filter.1 hx').1 e
  · by_cases htd : u.o.dst = some t
    · rw [htd]
      exact (hI.fr2 u hu t htd).symm
    · rw [put_ne htd]
      refine hI.fr1 t fun x hx hd => ?_
      by_cases hne : x.i = u.i
      · have := hI.un x hx u hu hne
        subst this; exact htd hd
      · exact ht x (List.mem_filter.2 ⟨hx, by simpa using hne⟩) hd
  · obtain ⟨hx, hne⟩ := List.mem_filter.1 hx
    rw [hI.fr2 x hx d hd]
    exact put_eq (by rw [put_size])
  · exact hI.uy x (List.mem_filter.1 hx).1
  · exact hI.up x (List.mem_filter.1 hx).1
  · rw [arr_set false hiA] at hj ⊢
    split
    · rfl
    · split at hj
      · rename_i e
        subst e
        rw [h1] at ho'; injection ho' with ho'; subst ho'
        exact hr k hk
      · exact hI.clA j o' ho' hj k hk

/-- The machine and the walk carry out an operation that is not quiet. -/
theorem DInv.eff (hI : DInv C P N L0 F0 all listed pend env L w lA a A wa U) (hok : DrawOk all) {i : Nat} {o : Oper} (ho : all[i]? = some o) (hl : lst listed i = false) (hr : ∀ k ∈ predsOf o, lA.getD k false = true)
    {env' : Env} {L' : List LB} {w' wa' : World} {v : Value} {wr : List Nat} (hS : Sim C N L0 F0 env' L' w' (A.put o.dst v) wa') (hkeep : ∀ (q : Nat) l, L[q]? = some l → q ∉ wr → L'[q]? = some l)
    (hp : ∀ x ∈ pend, x.1 ∈ ancI all i ∨ (match x.2 with | .none => True | .priv q => q ∉ wr | .vis a vs => CellsAt w' a 0 vs True | .any => False)) :
    DInv C P N L0 F0 all (listed.set i true) (pend.filter fun y => !(ancI all i).contains y.1) env' L' w' (lA.setIfInBounds i true) (a.put o.dst v) (A.put o.dst v) wa' U := by
  have hil : i < listed.length := by rw [hI.szl]; exact (List.getElem?_eq_some_iff.1 ho).1
  have hiA : i < lA.size := by rw [hI.sz]; exact (List.getElem?_eq_some_iff.1 ho).1
  have hnew : ∀ u ∈ U, u.i ≠ i := fun u hu e => by have := (hI.u1 u hu).2.1; rw [e, hl] at this; cases this
  have hanc : ∀ u ∈ U, u.i ∉ ancI all i := by
    intro u hu hm
    have := clos_anc hok (L := fun i => lA.getD i false) hI.clA i i (Nat.le_refl _) o ho hr _ hm
    have h3 := (hI.u1 u hu).2.2
    simp only [Array.getD_eq_getD_getElem?] at this h3
    cases hq : lA[u.i]? <;> simp_all
  have hlook : ∀ u ∈ U, ∀ d, o.dst = some d → d ∉ u.o.looksAt all.toArray := by
    intro u hu d hd hm
    obtain ⟨h1, h2, _⟩ := hI.u1 u hu
    have := (hok.looks i u.i o u.o d ho h1 (fun e => hnew u hu e.symm) hd hm).resolve_right (fun h => hanc u hu h.2)
    have := clos_anc hok (L := lst listed) hI.cl u.i u.i (Nat.le_refl _) u.o h1 (hI.cl u.i u.o h1 h2) _ this
    rw [hl] at this; cases this
  refine ⟨hS, by simp [hI.sz], by simpa using hI.szl, fun j hj => ?_, fun j hj => ?_, hI.uq, fun u hu => ?_, hI.un, fun t ht => ?_, fun u hu d hd => ?_, by rw [put_size]; exact hI.asz, by rw [put_defers]; exact hI.adf, fun u hu => ?_, fun u hu => ?_, fun j o' ho' hj k hk => ?_, fun j o' ho' hj k hk => ?_⟩
  · rw [arr_set false hiA] at hj
    rw [lst_set hil]
    split
    · rfl
    · split at hj
      · rename_i h1 h2; exact absurd h2 h1
      · exact hI.l1 j hj
  · rw [lst_set hil] at hj
    rw [arr_set false hiA]
    split
    · exact .inl rfl
    · split at hj
      · rename_i h1 h2; exact absurd h2 h1
      · exact hI.l2 j hj
  · obtain ⟨h1, h2, h3⟩ := hI.u1 u hu
    refine ⟨h1, ?_, ?_⟩
    · rw [lst_set hil]; split
      · rfl
      · exact h2
    · rw [arr_set true hiA, if_neg (fun e => hnew u hu e.symm)]; exact h3
  · by_cases htd : o.dst = some t
    · rw [htd]; exact put_eq (by rw [hI.asz, hI.sim.size])
    · rw [put_ne htd, put_ne htd]; exact hI.fr1 t ht
  · have h1 := (hI.u1 u hu).1
    have hne : o.dst ≠ some d := hok.dst u.i i u.o o d h1 ho (hnew u hu) hd
    rw [put_ne hne, hI.fr2 u hu d hd]
    exact put_eq (by rw [put_size])
  · obtain ⟨hc, hy⟩ := hI.uy u hu
    refine ⟨?_, fun L2 w2 wa2 hc2 hI2 => ?_⟩
    · rcases hp _ (hI.up u hu) with h | h
      · exact absurd h (hanc u hu)
      · cases hpd : u.pd with
        | none => trivial
        | priv q =>
          rw [hpd] at hc h
          obtain ⟨l, h1, h2⟩ := hc
          exact ⟨l, h1, hkeep q l h2 h⟩
        | vis ad vs => rw [hpd] at h; exact h
        | any => rw [hpd] at h; exact h.elim
    · have := hy L2 w2 wa2 hc2 hI2
      unfold YY at *
      rw [execOp_put (ops := all.toArray) u.o (fun cs b => hok.sel u.i u.o cs b (hI.u1 u hu).1) A o.dst v (hlook u hu), wanted_put (ops := all.toArray) u.o A o.dst v (hlook u hu)]
      exact this
  · exact List.mem_filter.2 ⟨hI.up u hu, by simpa using hanc u hu⟩
  · rw [lst_set hil] at hj ⊢
    split
    · rfl
    · split at hj
      · rename_i e
        subst e
        rw [ho] at ho'; injection ho' with ho'; subst ho'
        exact hI.l1 k (hr k hk)
      · exact hI.cl j o' ho' hj k hk
  · rw [arr_set false hiA] at hj ⊢
    split
    · rfl
    · split at hj
      · rename_i e
        subst e
        rw [ho] at ho'; injection ho' with ho'; subst ho'
        exact hr k hk
      · exact hI.clA j o' ho' hj k hk
end
end Go.Proofs.Ytnkpjlhbojjneaa.VC

/- Regions, code, functions: the condition is sound. -/
namespace Go.Proofs.Ytnkpjlhbojjneaa.VC
open Go Go.RowKit

section
variable {P : Program} {T : Tab} {F0 : List (Nat × Obj)} {N : Nat} {H : Hints} {C : Ctx} {L0 : List LB}

theorem vcD_sound (hP : GoodP P T) {rid : Nat} {all : List Oper} (hok : DrawOk all) {Kf : Env → List LB → World → Prop} {Q : Exit → Act → World → Prop} (hW : ∀ (i : Nat) o, all[i]? = some o → ∀ d, o.dst = some d → d ∈ C.W)
    (hQ : ∀ env L w a wa, Kf env L w → Sim C N L0 F0 env L w a wa → Q .normal a wa) :
    ∀ (f : Nat) (listed : List Bool) (pend : List (Nat × Pend)) (env : Env) (L : List LB) (w : World), vcD P T N H C.lk rid all (ancs all) f listed pend env L w Kf →
      ∀ (fuel : Nat) (lA : Array Bool) (a A : Act) (wa : World) (U : List UE), DInv C P N L0 F0 all listed pend env L w lA a A wa U →
        (∀ i, i < all.length → lA.getD i true = false → fuel ≠ 0) → (∀ m : Nat, ((List.range all.length).filter fun i => !lA.getD i true).length ≤ m → True) →
        ((List.range all.length).filter fun i => !lA.getD i true).length ≤ fuel → wpAny P .any all.toArray Q fuel lA a wa := by
  intro f
  induction f with
  | zero => intro listed pend env L w h; exact h.elim
  | succ f ih =>
    intro listed pend env L w h
    simp only [vcD] at h
    split at h
    · -- a quiet operation is taken
      rename_i i o rest hff
      obtain ⟨ho, hl, hq, hr⟩ := findFirst_mem (x := (i, o)) (by rw [hff]; exact List.mem_cons_self ..)
      intro fuel lA a A wa U hI h0 h1 h2
      have hq' : isQ o.op = true ∧ lateB all (ancs all) i o = false := by simpa [qOp] using hq
      obtain ⟨s, env', v, hk, hS, hc, hy⟩ := stepK_quiet hP hq'.1 h hI.sim (hW i o ho)
      exact ih _ _ _ _ _ hk fuel lA a _ wa _ (hI.take hok hq'.2 ho hl hr hS hc hy) h0 h1 h2
    · rename_i hff
      intro fuel
      induction fuel with
      | zero =>
        intro lA a A wa U hI h0 h1 h2
        have hr : Region.ready .any all.toArray lA = [] := by
          apply List.eq_nil_iff_forall_not_mem.2
          intro j hj
          obtain ⟨g1, o, g2, _⟩ := mem_ready.1 hj
          exact h0 j (by have := (Array.getElem?_eq_some_iff.1 g2).1; simpa using this) g1 rfl
        refine ⟨hr, ?_⟩
        obtain ⟨rfl, rfl⟩ := hI.empty hok hr
        split at h
        · exact hQ _ _ _ _ _ h hI.sim
        · rename_i e es hee
          obtain ⟨g1, g2, g3, g4⟩ := findFirst_mem (x := e) (by rw [hee]; exact List.mem_cons_self ..)
          exfalso
          have hlt := (List.getElem?_eq_some_iff.1 g1).1
          refine h0 e.1 hlt ?_ rfl
          cases hq : lA.getD e.1 true with
          | false => rfl
          | true =>
            have : lA.getD e.1 false = true := by
              have hs : e.1 < lA.size := by rw [hI.sz]; exact hlt
              simpa [hs] using hq
            have := hI.l1 e.1 this
            unfold lst at this
            cases hq2 : listed[e.1]? with
            | none => simp [hq2] at this
            | some b => simp [hq2] at this g2; simp [this] at g2
      | succ fuel ihf =>
        intro lA a A wa U hI h0 h1 h2
        -- the count of what is left falls
        have hcount : ∀ j, j < all.length → lA.getD j true = false → ((List.range all.length).filter fun i => !(lA.setIfInBounds j true).getD i true).length ≤ fuel := by
          intro j hj hlj
          have hjA : j < lA.size := by rw [hI.sz]; exact hj
          have hsub : ((List.range all.length).filter fun i => !(lA.setIfInBounds j true).getD i true) = ((List.range all.length).filter fun i => !lA.getD i true).filter fun i => !(i == j) := by
            rw [List.filter_filter]
            apply List.filter_congr
            intro i _
            rw [arr_set true hjA]
            by_cases hij : j = i
            · subst hij; simp
            · have : ¬ i = j := fun e => hij e.symm
              simp [hij, this]
          rw [hsub]
          have hm : j ∈ (List.range all.length).filter fun i => !lA.getD i true := List.mem_filter.2 ⟨List.mem_range.2 hj, by simp [hlj]⟩
          have := List.length_filter_lt_length_iff_exists (p := fun i => !(i == j)) (l := (List.range all.length).filter fun i => !lA.getD i true)
          have := this.2 ⟨j, hm, by simp⟩
          omega
        have hfuel : ∀ j, j < all.length → lA.getD j true = false → ∀ i, i < all.length → (lA.setIfInBounds j true).getD i true = false → fuel ≠ 0 := by
          intro j hj hlj i hi hli e
          have h3 := hcount j hj hlj
          have hm : i ∈ (List.range all.length).filter fun i => !(lA.setIfInBounds j true).getD i true := List.mem_filter.2 ⟨List.mem_range.2 hi, by simp [hli]⟩
          have := List.length_pos_of_mem hm
          omega
        refine ⟨fun hr => ?_, fun j hj => ?_⟩
        · obtain ⟨rfl, rfl⟩ := hI.empty hok hr
          split at h
          · exact hQ _ _ _ _ _ h hI.sim
          · rename_i e es hee
            obtain ⟨g1, g2, g3, g4⟩ := findFirst_mem (x := e) (by rw [hee]; exact List.mem_cons_self ..)
            exfalso
            have hlt := (List.getElem?_eq_some_iff.1 g1).1
            have hs : e.1 < lA.size := by rw [hI.sz]; exact hlt
            have : e.1 ∈ Region.ready .any all.toArray lA := mem_ready.2 ⟨by
              cases hq : lA.getD e.1 true with
              | false => rfl
              | true =>
                have := hI.l1 e.1 (by simpa [hs] using hq)
                unfold lst at this
                cases hq2 : listed[e.1]? with
                | none => simp [hq2] at this
                | some b => simp [hq2] at this g2; simp [this] at g2, e.2, by simpa using g1, fun x hx hb => by
              have := List.all_eq_true.1 g4 _ (mem_predsOf.2 ⟨x, hx, hb, rfl⟩)
              rcases hI.l2 x.on this with h | ⟨u, hu, _⟩
              · exact h
              · simp at hu⟩
            rw [hr] at this; simp at this
        · obtain ⟨hlj, o, hoj, hpre⟩ := mem_ready.1 hj
          have ho : all[j]? = some o := by simpa using hoj
          have hjl := (List.getElem?_eq_some_iff.1 ho).1
          have hpre' : ∀ k ∈ predsOf o, lA.getD k false = true := fun k hk => by
            obtain ⟨e, he, hb, rfl⟩ := mem_predsOf.1 hk
            exact hpre e he hb
          cases hlst : lst listed j with
          | true =>
            -- an operation that the walk has taken
            rcases hI.l2 j hlst with hx | ⟨u, hu, rfl⟩
            · have hs : j < lA.size := by rw [hI.sz]; exact hjl
              simp [hs] at hx hlj; simp [hx] at hlj
            · obtain ⟨g1, g2, g3⟩ := hI.u1 u hu
              rw [ho] at g1; injection g1 with g1; subst g1
              obtain ⟨hY, hI'⟩ := hI.do_ hok hu hpre'
              have hrec := ihf _ _ _ _ _ hI' (hfuel u.i hjl hlj) (fun _ _ => trivial) (hcount u.i hjl hlj)
              unfold wpOp
              rw [hoj]
              simp only
              rcases hY with ⟨hw, hrun⟩ | ⟨hw, hv⟩
              · rw [if_pos hw]
                refine .inl ?_
                unfold Oper.wp
                rw [hrun]
                exact hrec
              · rw [hw]
                simp only [Bool.false_eq_true, if_false]
                rw [← hv]
                exact hrec
          | false =>
            have hlistd : (listed[j]?).getD true = false := by
              have hjl2 : j < listed.length := by rw [hI.szl]; exact hjl
              unfold lst at hlst
              simp [hjl2] at hlst ⊢; exact hlst
            have hrdy : readyE o listed = true := List.all_eq_true.2 fun k hk => hI.l1 k (hpre' k hk)
            cases hq : qOp all (ancs all) j o with
            | true =>
              have := findFirst_complete ho hlistd hq hrdy (List.mem_range.2 hjl)
              rw [hff] at this; simp at this
            | false =>
              have hmem := findFirst_complete ho hlistd hq hrdy (List.mem_range.2 hjl)
              split at h
              · rename_i hee; rw [hee] at hmem; simp at hmem
              · rename_i e es hee
                rw [hee] at hmem
                have hk := conjK_mem h (j, o) hmem
                have hag := exec_agree (a := a) (A := A) (o := o) (all := all) (fun cs b => hok.sel j o cs b ho) (fun t ht => hI.fr1 t fun u hu hd =>
                  hI.notin hok ho hpre' hu hd (fun e => by have := (hI.u1 u hu).2.1; rw [e, hlst] at this; cases this) ht)
                unfold wpOp
                rw [hoj]
                simp only
                rcases stepK_sem hP hk hI.sim (hW j o ho) with ⟨hw, _, hrun⟩ | ⟨hw, _, env', hk', hS'⟩
                · rw [if_pos (by rw [hag.2]; exact hw)]
                  refine .inl ?_
                  unfold Oper.wp
                  rw [hag.1]
                  refine upon_of_runPost (hrun _ ?_)
                  intro s s' env' L' w' wa' hpost _ hS' hk'
                  obtain ⟨hk'', hpp⟩ := pendK_spec hk'
                  have hI' := hI.eff hok ho hlst hpre' hS' hpost.keep hpp
                  exact ih _ _ _ _ _ hk'' fuel _ _ _ _ _ hI' (hfuel j hjl hlj) (fun _ _ => trivial) (hcount j hjl hlj)
                · rw [hag.2, hw]
                  simp only [Bool.false_eq_true, if_false]
                  obtain ⟨hk'', hpp⟩ := pendK_spec hk'
                  have hI' := hI.eff hok ho hlst hpre' hS' (fun _ _ h _ => h) hpp
                  exact ih _ _ _ _ _ hk'' fuel _ _ _ _ _ hI' (hfuel j hjl hlj) (fun _ _ => trivial) (hcount j hjl hlj)

theorem region_sound (hP : GoodP P T) {rid : Nat} {ops : Array Oper} {dr : Bool} {env : Env} {L : List LB} {w wa : World} {a : Act} {Kf : Ex → Env → List LB → World → Prop} {Q : Exit → Act → World → Prop}
    (h : vcCode P T N H (.region rid ops dr) C.lk env L w Kf) (hW : ∀ d ∈ writes (.region rid ops dr), d ∈ C.W) (hS : Sim C N L0 F0 env L w a wa)
    (hQ : ∀ env L w a wa, Kf .nrm env L w → Sim C N L0 F0 env L w a wa → Q .normal a wa) : (Code.region rid ops dr).wp P Q a wa := by
  simp only [vcCode] at h
  cases dr with
  | false =>
    refine wp_region_list ?_
    have := vcOps_sound (Q := Q) hP hQ ops.toList 0 env L w a wa h (fun o ho d hd => hW d (List.mem_filterMap.2 ⟨o, ho, hd⟩)) hS
    simpa using this
  | true =>
    simp only at h
    split at h
    · rename_i hd
      rw [forceR_eq, vcE_eq _ _ _ _ _ _ _ _ _ _ _ _ _ _ _ (by simp)] at h
      have hok := drawOk_spec hd
      refine wp_region_any hP.mixed ?_
      have hS' : Sim C N L0 F0 env L w a { wa with drawn := wa.drawn + 1 } := ⟨hS.ev, hS.size, ⟨hS.inv.ok, hS.inv.rel.drew⟩, hS.keys, hS.df, hS.ctx⟩
      have hlr : ∀ i, lst (List.replicate ops.toList.length false) i = false := by
        intro i
        unfold lst
        rw [List.getElem?_replicate]
        split <;> rfl
      have har : ∀ i, (Array.replicate ops.size false).getD i false = false := by
        intro i; simp [Array.getD_eq_getD_getElem?, Array.getElem?_replicate]; split <;> rfl
      have := vcD_sound (Q := Q) hP hok (fun i o ho d hd => hW d (List.mem_filterMap.2 ⟨o, List.mem_of_getElem? ho, hd⟩)) hQ _ _ _ _ _ _ h ops.size (Array.replicate ops.size false) a a _ [] ⟨hS', by simp, by simp, fun i hi => (by rw [har] at hi; cases hi), fun i hi => (by rw [hlr] at hi; cases hi), by simp, by simp, by simp, fun _ _ => rfl, by simp, hS.size, hS.df, by simp, by simp,
        fun i o _ hi => (by rw [hlr] at hi; cases hi), fun i o _ hi => (by rw [har] at hi; cases hi)⟩ (fun i hi _ e => by simp at hi; omega) (fun _ _ => trivial) (by refine Nat.le_trans (List.length_filter_le _ _) ?_; simp)
      simpa using this
    · exact h.elim
end
end Go.Proofs.Ytnkpjlhbojjneaa.VC

/- Loops: the state at a loop's head. -/
namespace Go.Proofs.Ytnkpjlhbojjneaa.VC
open Go Go.RowKit

section
variable {P : Program} {T : Tab} {F0 : List (Nat × Obj)} {N : Nat} {H : Hints} {L0 : List LB}

theorem appC_all {c : CT} {α : Type 1} {f : CurC c α} {v : Value} {g : α} (h : appC c f v = some g) {F : Value → Prop} (hF : allC c F) : F v := by
  cases c <;> cases v <;> simp only [appC, reduceCtorEq] at h <;> first
    | exact hF _
    | exact hF _ _ _
    | (split at h
       · rename_i hk; have hk := of_decide_eq_true hk; subst hk; exact hF _
       · simp at h)
theorem app_all : ∀ {cs : List CT} {α : Type 1} {f : Cur cs α} {vs : List Value} {g : α}, app cs f vs = some g → ∀ {F : List Value → Prop}, allCs cs F → F vs
  | [], _, _, [], _, _, F, hF => hF
  | [], _, _, _ :: _, _, h, _, _ => by simp [app] at h
  | c :: cs, _, _, [], _, h, _, _ => by simp [app] at h
  | c :: cs, _, f, v :: vs, g, h, F, hF => by
    simp only [app] at h
    split at h
    · rename_i g' hg
      exact app_all h (appC_all hg hF)
    · simp at h
theorem app_len : ∀ {cs : List CT} {α : Type 1} {f : Cur cs α} {vs : List Value} {g : α}, app cs f vs = some g → vs.length = cs.length
  | [], _, _, [], _, _ => rfl
  | [], _, _, _ :: _, _, h => by simp [app] at h
  | c :: cs, _, _, [], _, h => by simp [app] at h
  | c :: cs, _, f, v :: vs, g, h => by
    simp only [app] at h
    split at h
    · simp [app_len h]
    · simp at h
theorem lpK_spec {cs : List CT} {I : Cur cs Lp} {sv bv : Option (List Value)} {F : Lp → Prop} (h : lpK cs I sv bv F) : ∃ s b l, sv = some s ∧ bv = some b ∧ app cs I (s ++ b) = some l ∧ F l := by
  unfold lpK at h
  split at h
  · split at h
    · exact ⟨_, _, _, rfl, rfl, ‹_›, h⟩
    · exact h.elim
  · exact h.elim

theorem slotVals_len {env : Env} : ∀ {keep : List (Nat × CT)} {vs : List Value}, slotVals env keep = some vs → vs.length = keep.length
  | [], vs, h => by simp only [slotVals, Option.some.injEq] at h; subst h; rfl
  | (d, c) :: r, vs, h => by
    simp only [slotVals] at h
    split at h
    · simp only [Option.some.injEq] at h; subst h
      simp [slotVals_len ‹_›]
    · simp at h
theorem lookup_drops {ws : List Nat} {env : Env} {t : Nat} : List.lookup t (drops ws env) = if t ∈ ws then none else List.lookup t env := by
  induction env with
  | nil => simp [drops]
  | cons x r ih =>
    obtain ⟨d, s⟩ := x
    unfold drops at ih ⊢
    simp only [List.filter_cons]
    by_cases hd : d ∈ ws
    · have : ws.contains d = true := by simpa using hd
      simp only [this, Bool.not_true, Bool.false_eq_true, if_false, ih, List.lookup]
      split
      · rfl
      · rename_i ht
        have : (t == d) = false := by simp; intro e; subst e; exact ht hd
        rw [this]
    · have : ws.contains d = false := by simpa using hd
      simp only [this, Bool.not_false, if_true, List.lookup]
      by_cases htd : t = d
      · subst htd; simp [hd]
      · have : (t == d) = false := by simp [htd]
        rw [this]; exact ih
theorem lookup_setSlots {env2 base : Env} : ∀ {keep : List (Nat × CT)} {vs ws : List Value} {t : Nat}, slotVals env2 keep = some vs →
    List.lookup t (setSlots keep (vs ++ ws) base) = if t ∈ keep.map Prod.fst then List.lookup t env2 else List.lookup t base
  | [], vs, ws, t, h => by
    simp only [slotVals, Option.some.injEq] at h; subst h
    cases ws <;> simp [setSlots]
  | (d, c) :: r, vs, ws, t, h => by
    simp only [slotVals] at h
    split at h
    · rename_i x vs' h1 h2
      simp only [Option.some.injEq] at h; subst h
      simp only [List.cons_append, setSlots, List.lookup]
      by_cases htd : t = d
      · subst htd; simp [h1]
      · have : (t == d) = false := by simp [htd]
        rw [this]
        rw [lookup_setSlots h2]
        simp only [List.map_cons, List.mem_cons, htd, false_or]
    · simp at h

/-- The blocks behind 'setBlks', one by one. -/
theorem setBlks_spec : ∀ {blks : List Nat} {L L2 : List LB} {bv : List Value}, blks.Nodup → blkVals T L2 blks = some bv → (∀ q ∈ blks, ∃ l l2, L[q]? = some l ∧ L2[q]? = some l2 ∧ l2.b = l.b ∧ l2.t = l.t) →
    (setBlks T blks bv L).length = L.length ∧ (∀ q, q ∉ blks → (setBlks T blks bv L)[q]? = L[q]?) ∧ ∀ q ∈ blks, ∃ l l2, L[q]? = some l ∧ L2[q]? = some l2 ∧ (setBlks T blks bv L)[q]? = some ⟨l.b, l.t, (l2.cs.map real).map .v⟩
  | [], L, L2, bv, _, h, _ => by simp [setBlks]
  | i :: r, L, L2, bv, hn, h, hL => by
    obtain ⟨l, l2, hl, hl2, hb, ht⟩ := hL i (by simp)
    simp only [blkVals, hl2] at h
    split at h
    · rename_i l2' vs heq h2
      simp only [Option.some.injEq] at heq; subst heq
      split at h
      · rename_i hlen
        have hlen : l2.cs.length = lenOf T l2 := of_decide_eq_true hlen
        simp only [Option.some.injEq] at h; subst h
        have hlen' : lenOf T l = (l2.cs.map real).length := by rw [List.length_map, hlen]; simp [lenOf, ht]
        have e : setBlks T (i :: r) (l2.cs.map real ++ vs) L = setBlks T r vs (L.set i ⟨l.b, l.t, (l2.cs.map real).map .v⟩) := by
          simp only [setBlks, hl, hlen', List.drop_left, List.take_left]
        rw [e]
        simp only [List.nodup_cons] at hn
        obtain ⟨s1, s2, s3⟩ := setBlks_spec (L := L.set i ⟨l.b, l.t, (l2.cs.map real).map .v⟩) hn.2 h2 (fun q hq => by
          have hne : i ≠ q := fun e => hn.1 (e ▸ hq)
          obtain ⟨l', l2', g1, g2, g3⟩ := hL q (by simp [hq])
          exact ⟨l', l2', by rw [List.getElem?_set_ne hne]; exact g1, g2, g3⟩)
        refine ⟨by simpa using s1, fun q hq => ?_, fun q hq => ?_⟩
        · simp only [List.mem_cons, not_or] at hq
          rw [s2 q hq.2, List.getElem?_set_ne (fun e => hq.1 e.symm)]
        · rcases List.mem_cons.1 hq with rfl | hq
          · exact ⟨l, l2, hl, hl2, by rw [s2 q hn.1, List.getElem?_set_self (List.getElem?_eq_some_iff.1 hl).1]⟩
          · have hne : i ≠ q := fun e => hn.1 (e ▸ hq)
            obtain ⟨l', l2', g1, g2, g3⟩ := s3 q hq
            rw [List.getElem?_set_ne hne] at g1
            exact ⟨l', l2', g1, g2, g3⟩
      · simp at h
    · simp at h
theorem blkVals_mem : ∀ {blks : List Nat} {L : List LB} {bv : List Value}, blkVals T L blks = some bv → ∀ q ∈ blks, ∃ l, L[q]? = some l
  | i :: r, L, bv, h, q, hq => by
    simp only [blkVals] at h
    split at h
    · rename_i l vs h1 h2
      rcases List.mem_cons.1 hq with rfl | hq
      · exact ⟨l, h1⟩
      · exact blkVals_mem h2 q hq
    · simp at h
theorem raw_v (l : LB) : LB.obj ⟨l.b, l.t, (l.cs.map real).map .v⟩ = l.obj := by
  simp [LB.obj, Function.comp_def, real]

/-- The state at a loop's head, made of the state where a round begins or ends. -/
theorem Sim.head {C C1 : Ctx} {env env2 : Env} {L L2 : List LB} {w w2 : World} {a a2 : Act} {wa wa2 : World} (hS : Sim C N L0 F0 env L w a wa) {keep : List (Nat × CT)} {blks ws : List Nat}
    (hk : ∀ x ∈ keep, x.1 ∈ ws) (hn : blks.Nodup) (hS2 : Sim C1 N L0 F0 env2 L2 w2 a2 wa2) {sv bv : List Value} (hsv : slotVals env2 keep = some sv) (hbv : blkVals T L2 blks = some bv)
    (henv : ∀ t, t ∉ ws → List.lookup t env2 = List.lookup t env) (hblk : ∀ q, q ∉ blks → ∀ l, L[q]? = some l → L2[q]? = some l) (hkey : Keys L L2) (hlt : ∀ q ∈ blks, q < L.length) :
    Sim ⟨ws, setSlots keep (sv ++ bv) (drops ws env), lockOf L.length blks, setBlks T blks bv L⟩ N L0 F0 (setSlots keep (sv ++ bv) (drops ws env)) (setBlks T blks bv L) w2 a2 wa2 := by
  have hLL : ∀ q ∈ blks, ∃ l l2, L[q]? = some l ∧ L2[q]? = some l2 ∧ l2.b = l.b ∧ l2.t = l.t := fun q hq => by
    have hl := List.getElem?_eq_getElem (hlt q hq)
    obtain ⟨l2, h1, h2, h3⟩ := hkey q _ hl
    exact ⟨_, l2, hl, h1, h2, h3⟩
  obtain ⟨s1, s2, s3⟩ := setBlks_spec hn hbv hLL
  -- each block: what it is in L and in L2
  have each : ∀ (q : Nat) l', (setBlks T blks bv L)[q]? = some l' → ∃ l l2, L[q]? = some l ∧ L2[q]? = some l2 ∧ l'.b = l2.b ∧ l'.b = l.b ∧ l'.t = l.t ∧ l'.obj = l2.obj ∧ (∀ x ∈ l'.cs, (∃ v, x = .v v) ∨ x ∈ l.cs) := by
    intro q l' hq
    by_cases hqb : q ∈ blks
    · obtain ⟨l, l2, g1, g2, g3⟩ := s3 q hqb
      rw [hq] at g3; injection g3 with g3; subst g3
      obtain ⟨l1, l3, h1, h2, h3, h4⟩ := hLL q hqb
      rw [g1] at h1; injection h1 with h1; subst h1
      rw [g2] at h2; injection h2 with h2; subst h2
      refine ⟨l, l2, g1, g2, h3.symm, rfl, rfl, ?_, fun x hx => ?_⟩
      · rw [← raw_v l2, h3, h4]
      · obtain ⟨v, _, rfl⟩ := List.mem_map.1 hx
        exact .inl ⟨v, rfl⟩
    · rw [s2 q hqb] at hq
      exact ⟨l', l', hq, hblk q hqb l' hq, rfl, rfl, rfl, rfl, fun x hx => .inr hx⟩
  have hkeys1 : Keys L (setBlks T blks bv L) := by
    intro q l hl
    have hq : q < (setBlks T blks bv L).length := by rw [s1]; exact (List.getElem?_eq_some_iff.1 hl).1
    obtain ⟨l1, l2, g1, g2, g3, g4, g5, g6⟩ := each q _ (List.getElem?_eq_getElem hq)
    rw [hl] at g1; injection g1 with g1; subst g1
    exact ⟨_, List.getElem?_eq_getElem hq, g4, g5⟩
  refine ⟨fun t s ht => ?_, hS2.size, ⟨fun l' hl' x hx => ?_, ?_⟩, ?_, hS2.df, ⟨fun _ _ => rfl, fun q hq => ?_⟩⟩
  · rw [lookup_setSlots hsv] at ht
    split at ht
    · rename_i hm
      -- a slot that is kept: a value
      have hv : ∃ v, s = .v v := by
        clear each hkeys1 s1 s2 s3 hLL
        induction keep generalizing sv with
        | nil => simp at hm
        | cons y r ih =>
          obtain ⟨d, c⟩ := y
          simp only [slotVals] at hsv
          split at hsv
          · rename_i x vs h1 h2
            by_cases htd : t = d
            · subst htd; rw [h1] at ht; injection ht with ht; exact ⟨x, ht.symm⟩
            · simp only [List.map_cons, List.mem_cons, htd, false_or] at hm
              exact ih (fun x hx => hk x (List.mem_cons_of_mem _ hx)) h2 hm
          · simp at hsv
      obtain ⟨v, rfl⟩ := hv
      exact ⟨(hS2.ev t _ ht).1, trivial⟩
    · rw [lookup_drops] at ht
      split at ht
      · simp at ht
      · rename_i hw
        have h1 := hS.ev t s ht
        rw [← henv t hw] at ht
        exact ⟨(hS2.ev t s ht).1, okp_keys hkeys1 h1.2⟩
  · obtain ⟨q, hq⟩ := List.mem_iff_getElem?.1 hl'
    obtain ⟨l, l2, g1, _, _, _, _, _, hcs⟩ := each q l' hq
    rcases hcs x hx with ⟨v, rfl⟩ | hx
    · trivial
    · exact okp_keys hkeys1 (hS.inv.ok l (List.mem_of_getElem? g1) x hx)
  · refine hS2.inv.rel.sub (fun x hx => ?_) ?_
    · rcases List.mem_append.1 hx with hx | hx
      · obtain ⟨l', hl', rfl⟩ := List.mem_map.1 hx
        obtain ⟨q, hq⟩ := List.mem_iff_getElem?.1 hl'
        obtain ⟨l, l2, g1, g2, g3, _, _, g6, _⟩ := each q l' hq
        rw [g3, g6]
        exact List.mem_append_left _ (raw_mem g2)
      · exact List.mem_append_right _ hx
    · have e : (raw (setBlks T blks bv L)).map Prod.fst = (raw L).map Prod.fst := by
        simp only [raw, List.map_map, Function.comp_def]
        apply List.ext_getElem?
        intro q
        simp only [List.getElem?_map]
        cases hq : (setBlks T blks bv L)[q]? with
        | none =>
          have : L[q]? = none := by rw [List.getElem?_eq_none_iff, ← s1, ← List.getElem?_eq_none_iff]; exact hq
          simp [this]
        | some l' =>
          obtain ⟨l, l2, g1, _, _, g4, _⟩ := each q l' hq
          simp [g1, g4]
      rw [List.map_append, e, ← List.map_append]
      exact hS.inv.rel.nd
  · exact hS.keys.trans hkeys1
  · simp only [lockOf, List.mem_filter, List.mem_range] at hq
    have hq' : q < (setBlks T blks bv L).length := by rw [s1]; exact hq.1
    exact ⟨_, List.getElem?_eq_getElem hq', List.getElem?_eq_getElem hq'⟩
end
end Go.Proofs.Ytnkpjlhbojjneaa.VC

/- Code and functions: the condition is sound. -/
namespace Go.Proofs.Ytnkpjlhbojjneaa.VC
open Go Go.RowKit

def exOf : Ex → Exit
  | .nrm => .normal
  | .ret => .ret
  | .ext id => .exit id

section
variable {P : Program} {T : Tab} {F0 : List (Nat × Obj)} {N : Nat} {H : Hints} {L0 : List LB}

theorem Sim.recast {C C' : Ctx} {env : Env} {L : List LB} {w wa : World} {a : Act} (h : Sim C N L0 F0 env L w a wa) (hc : C'.Holds env L) : Sim C' N L0 F0 env L w a wa :=
  ⟨h.ev, h.size, h.inv, h.keys, h.df, hc⟩

theorem Sim.rekey {C : Ctx} {L0' : List LB} {env : Env} {L : List LB} {w wa : World} {a : Act} (h : Sim C N L0 F0 env L w a wa) (hk : Keys L0' L) : Sim C N L0' F0 env L w a wa :=
  ⟨h.ev, h.size, h.inv, hk, h.df, h.ctx⟩
theorem setBlks_keys : ∀ (blks : List Nat) (vs : List Value) (L : List LB), Keys L (setBlks T blks vs L)
  | [], vs, L => by simp only [setBlks]; exact Keys.refl L
  | i :: r, vs, L => by
    simp only [setBlks]
    split
    · rename_i l hl
      refine Keys.trans ?_ (setBlks_keys r _ _)
      intro q l' hq
      by_cases hqi : i = q
      · subst hqi
        rw [hl] at hq; injection hq with hq; subst hq
        exact ⟨⟨l.b, l.t, (vs.take (lenOf T l)).map .v⟩, by rw [List.getElem?_set_self (List.getElem?_eq_some_iff.1 hl).1], rfl, rfl⟩
      · exact ⟨l', by rw [List.getElem?_set_ne hqi]; exact hq, rfl, rfl⟩
    · exact Keys.refl L
theorem setBlks_other {q : Nat} : ∀ (blks : List Nat) (vs : List Value) (L : List LB), q ∉ blks → (setBlks T blks vs L)[q]? = L[q]?
  | [], vs, L, _ => by simp only [setBlks]
  | i :: r, vs, L, hq => by
    simp only [List.mem_cons, not_or] at hq
    simp only [setBlks]
    split
    · rw [setBlks_other r _ _ hq.2, List.getElem?_set_ne (fun e => hq.1 e.symm)]
    · rfl
theorem setSlots_other {ws : List Nat} {t : Nat} {env : Env} (ht : t ∉ ws) : ∀ (keep : List (Nat × CT)) (vs : List Value), (∀ x ∈ keep, x.1 ∈ ws) → List.lookup t (setSlots keep vs env) = List.lookup t env
  | [], vs, _ => by simp only [setSlots]
  | (d, c) :: r, [], _ => by simp only [setSlots]
  | (d, c) :: r, v :: vs, hk => by
    simp only [setSlots, List.lookup]
    have : (t == d) = false := by
      simp only [beq_eq_false_iff_ne, ne_eq]
      intro e; subst e
      exact ht (hk (t, c) (by simp))
    rw [this]
    exact setSlots_other ht r vs fun x hx => hk x (List.mem_cons_of_mem _ hx)
theorem loopOk_spec {lk : List Nat} {n : Nat} {ws : List Nat} {keep : List (Nat × CT)} {blks : List Nat} (h : loopOk lk n ws keep blks = true) :
    (∀ x ∈ keep, x.1 ∈ ws) ∧ (∀ q ∈ lk, q ∉ blks ∧ q < n) ∧ blks.Nodup := by
  unfold loopOk at h
  simp only [Bool.and_eq_true, List.all_eq_true, decide_eq_true_eq] at h
  obtain ⟨⟨⟨h1, h2⟩, h3⟩, _⟩ := h
  refine ⟨fun x hx => by simpa using h1 x hx, fun q hq => ?_, h3⟩
  have := h2 q hq
  simpa using this

theorem loop_sound {id : Nat} {body : Code} (ih : ∀ {C : Ctx} {L0 : List LB} (_ : ∀ d ∈ writes body, d ∈ C.W) {env : Env} {L : List LB} {w wa : World} {a : Act} {Kf : Ex → Env → List LB → World → Prop} {Q : Exit → Act → World → Prop},
      vcCode P T N H body C.lk env L w Kf → Sim C N L0 F0 env L w a wa → (∀ e env L w a wa, Kf e env L w → Sim C N L0 F0 env L w a wa → Q (exOf e) a wa) → body.wp P Q a wa)
    {C : Ctx} (hW : ∀ d ∈ writes body, d ∈ C.W) {env : Env} {L : List LB} {w wa : World} {a : Act} {Kf : Ex → Env → List LB → World → Prop} {Q : Exit → Act → World → Prop}
    (h : vcCode P T N H (.block id (.loop body)) C.lk env L w Kf) (hS : Sim C N L0 F0 env L w a wa) (hQ : ∀ e env L w a wa, Kf e env L w → Sim C N L0 F0 env L w a wa → Q (exOf e) a wa) :
    (Code.block id (.loop body)).wp P Q a wa := by
  simp only [vcCode] at h
  split at h
  · rename_i keep blks0 hlook
    generalize rsv L blks0 = blks at h
    split at h
    · rename_i hok
      obtain ⟨hk, hlk, hn⟩ := loopOk_spec hok
      obtain ⟨I, h0, hround⟩ := h
      obtain ⟨sv, bv, l, hsv, hbv, happ, hinv⟩ := lpK_spec h0
      have hlt : ∀ q ∈ blks, q < L.length := fun q hq => by
        obtain ⟨l, hl⟩ := blkVals_mem hbv q hq
        exact (List.getElem?_eq_some_iff.1 hl).1
      refine wp_block (wp_loop_ghost (fun n a wa => ∃ vs l0 w', app _ I vs = some l0 ∧ l0.inv w' ∧ l0.m w' = n ∧
        Sim ⟨writes body, setSlots keep vs (drops (writes body) env), lockOf L.length blks, setBlks T blks (vs.drop keep.length) L⟩ N L0 F0 (setSlots keep vs (drops (writes body) env)) (setBlks T blks (vs.drop keep.length) L) w' a wa) (l.m w) ?_ ?_)
      · have hhead := hS.head hk hn hS hsv hbv (fun _ _ => rfl) (fun _ _ _ h => h) (Keys.refl L) hlt
        have e : (sv ++ bv).drop keep.length = bv := by rw [← slotVals_len hsv, List.drop_left]
        exact ⟨sv ++ bv, l, w, happ, hinv, rfl, by rw [e]; exact hhead⟩
      · rintro n a1 wa1 ⟨vs, l0, w', happ1, hinv1, rfl, hS1⟩
        have hr := app_all happ1 hround
        obtain ⟨s', b', l0', e1, e2, happ', hr⟩ := lpK_spec hr
        simp only [Option.some.injEq] at e1 e2
        subst e1; subst e2
        rw [List.append_nil, happ1] at happ'
        injection happ' with happ'; subst happ'
        have hbody := hr w' hinv1 _ rfl
        refine ih (C := ⟨writes body, setSlots keep vs (drops (writes body) env), lockOf L.length blks, setBlks T blks (vs.drop keep.length) L⟩) (L0 := setBlks T blks (vs.drop keep.length) L) (fun d hd => hd) hbody (hS1.rekey (Keys.refl _)) ?_
        intro e env2 L2 w2 a2 wa2 hK hS2
        -- what the body left alone
        have hL1 : ∀ (q : Nat) l, q ∉ blks → L[q]? = some l → L2[q]? = some l := by
          intro q l hq hl
          have hql := (List.getElem?_eq_some_iff.1 hl).1
          obtain ⟨l1, g1, g2⟩ := hS2.ctx.blk q (by simp [lockOf, List.mem_filter, hql, hq])
          have hsb := setBlks_other (T := T) blks (vs.drop keep.length) L hq
          rw [hsb, hl] at g1
          injection g1 with g1; subst g1
          exact g2
        have hkey : Keys L L2 := (setBlks_keys blks _ L).trans hS2.keys
        have henv : ∀ t, t ∉ writes body → List.lookup t env2 = List.lookup t env := by
          intro t ht
          rw [hS2.ctx.env t ht, setSlots_other ht keep vs hk, lookup_drops, if_neg ht]
        have hS2 := hS2.rekey (hS.keys.trans hkey)
        have hout : C.Holds env2 L2 := ⟨fun t ht => by
          rw [henv t (fun h => ht (hW t h))]; exact hS.ctx.env t ht, fun q hq => by
          obtain ⟨l, g1, g2⟩ := hS.ctx.blk q hq
          exact ⟨l, g1, hL1 q l (hlk q hq).1 g2⟩⟩
        cases e with
        | nrm =>
          simp only [exOf, Exit.then]
          obtain ⟨sv2, bv2, l2, hsv2, hbv2, happ2, hinv2, hm2⟩ := lpK_spec hK
          have hhead := hS.head hk hn hS2 hsv2 hbv2 henv (fun q hq l hl => hL1 q l hq hl) hkey hlt
          have e : (sv2 ++ bv2).drop keep.length = bv2 := by rw [← slotVals_len hsv2, List.drop_left]
          exact ⟨l2.m w2, hm2, sv2 ++ bv2, l2, w2, happ2, hinv2, rfl, by rw [e]; exact hhead⟩
        | ret =>
          simp only [exOf, Exit.then, Exit.inBlock]
          exact hQ .ret _ _ _ _ _ hK (hS2.recast hout)
        | ext j =>
          simp only [exOf, Exit.then, Exit.inBlock]
          by_cases hj : j = id
          · rw [if_pos hj]
            have hd : decide (j = id) = true := by simpa using hj
            simp only [hd] at hK
            exact hQ .nrm _ _ _ _ _ hK (hS2.recast hout)
          · rw [if_neg hj]
            have hd : decide (j = id) = false := by simpa using hj
            simp only [hd] at hK
            exact hQ (.ext j) _ _ _ _ _ hK (hS2.recast hout)
    · exact h.elim
  · exact h.elim

theorem block_sound {id : Nat} {c : Code} {C : Ctx} {env : Env} {L : List LB} {w wa : World} {a : Act} {Kf : Ex → Env → List LB → World → Prop} {Q : Exit → Act → World → Prop}
    (ih : ∀ {Kf : Ex → Env → List LB → World → Prop} {Q : Exit → Act → World → Prop}, vcCode P T N H c C.lk env L w Kf → (∀ e env L w a wa, Kf e env L w → Sim C N L0 F0 env L w a wa → Q (exOf e) a wa) → c.wp P Q a wa)
    (h : vcCode P T N H c C.lk env L w fun e env' L' w' => (match e with
       | .ext j => (match decide (j = id) with | true => Kf .nrm env' L' w' | false => Kf (.ext j) env' L' w')
       | e => Kf e env' L' w'))
    (hQ : ∀ e env L w a wa, Kf e env L w → Sim C N L0 F0 env L w a wa → Q (exOf e) a wa) : (Code.block id c).wp P Q a wa := by
  refine wp_block (ih h ?_)
  intro e env2 L2 w2 a2 wa2 hK hS2
  cases e with
  | nrm => exact hQ .nrm _ _ _ _ _ hK hS2
  | ret => exact hQ .ret _ _ _ _ _ hK hS2
  | ext j =>
    simp only [exOf, Exit.inBlock]
    by_cases hj : j = id
    · rw [if_pos hj]
      have hd : decide (j = id) = true := by simpa using hj
      simp only [hd] at hK
      exact hQ .nrm _ _ _ _ _ hK hS2
    · rw [if_neg hj]
      have hd : decide (j = id) = false := by simpa using hj
      simp only [hd] at hK
      exact hQ (.ext j) _ _ _ _ _ hK hS2

theorem vcCode_sound (hP : GoodP P T) : ∀ (c : Code) {C : Ctx} {L0 : List LB} (_ : ∀ d ∈ writes c, d ∈ C.W) {env : Env} {L : List LB} {w wa : World} {a : Act} {Kf : Ex → Env → List LB → World → Prop} {Q : Exit → Act → World → Prop},
    vcCode P T N H c C.lk env L w Kf → Sim C N L0 F0 env L w a wa → (∀ e env L w a wa, Kf e env L w → Sim C N L0 F0 env L w a wa → Q (exOf e) a wa) → c.wp P Q a wa
  | .skip, C, L0, hW, env, L, w, wa, a, Kf, Q, h, hS, hQ => by
    simp only [vcCode] at h
    exact wp_skip (hQ .nrm _ _ _ _ _ h hS)
  | .ret, C, L0, hW, env, L, w, wa, a, Kf, Q, h, hS, hQ => by
    simp only [vcCode] at h
    exact wp_ret (hQ .ret _ _ _ _ _ h hS)
  | .exit id, C, L0, hW, env, L, w, wa, a, Kf, Q, h, hS, hQ => by
    simp only [vcCode] at h
    exact wp_exit (hQ (.ext id) _ _ _ _ _ h hS)
  | .region rid ops dr, C, L0, hW, env, L, w, wa, a, Kf, Q, h, hS, hQ => region_sound hP h hW hS fun env L w a wa hk hS => hQ .nrm env L w a wa hk hS
  | .seq x y, C, L0, hW, env, L, w, wa, a, Kf, Q, h, hS, hQ => by
    simp only [vcCode] at h
    simp only [writes, List.mem_append] at hW
    refine wp_seq (vcCode_sound hP x (fun d hd => hW d (.inl hd)) h hS ?_)
    intro e env2 L2 w2 a2 wa2 hK hS2
    cases e with
    | nrm => exact vcCode_sound hP y (fun d hd => hW d (.inr hd)) hK hS2 hQ
    | ret => exact hQ .ret _ _ _ _ _ hK hS2
    | ext j => exact hQ (.ext j) _ _ _ _ _ hK hS2
  | .cond c x y, C, L0, hW, env, L, w, wa, a, Kf, Q, h, hS, hQ => by
    simp only [vcCode] at h
    simp only [writes, List.mem_append] at hW
    split at h
    · rename_i t ht
      have hev := (evE_ok hS.ev ht).1
      have h := condK_and h
      exact wp_cond_split hev (fun ht => vcCode_sound hP x (fun d hd => hW d (.inl hd)) (h.1 ht) hS hQ) (fun ht => vcCode_sound hP y (fun d hd => hW d (.inr hd)) (h.2 ht) hS hQ)
    · exact h.elim
  | .block id (.loop body), C, L0, hW, env, L, w, wa, a, Kf, Q, h, hS, hQ =>
    loop_sound (fun {C L0} hW {env L w wa a Kf Q} h hS hQ => vcCode_sound hP body (C := C) (L0 := L0) hW h hS hQ) hW h hS hQ
  | .block id .skip, C, L0, hW, env, L, w, wa, a, Kf, Q, h, hS, hQ => block_sound (c := .skip) (fun h hq => vcCode_sound hP (.skip) hW h hS hq) h hQ
  | .block id .ret, C, L0, hW, env, L, w, wa, a, Kf, Q, h, hS, hQ => block_sound (c := .ret) (fun h hq => vcCode_sound hP (.ret) hW h hS hq) h hQ
  | .block id (.exit j), C, L0, hW, env, L, w, wa, a, Kf, Q, h, hS, hQ => block_sound (c := .exit j) (fun h hq => vcCode_sound hP (.exit j) hW h hS hq) h hQ
  | .block id (.region r o d), C, L0, hW, env, L, w, wa, a, Kf, Q, h, hS, hQ => block_sound (c := .region r o d) (fun h hq => vcCode_sound hP (.region r o d) hW h hS hq) h hQ
  | .block id (.seq x y), C, L0, hW, env, L, w, wa, a, Kf, Q, h, hS, hQ => block_sound (c := .seq x y) (fun h hq => vcCode_sound hP (.seq x y) hW h hS hq) h hQ
  | .block id (.cond c x y), C, L0, hW, env, L, w, wa, a, Kf, Q, h, hS, hQ => block_sound (c := .cond c x y) (fun h hq => vcCode_sound hP (.cond c x y) hW h hS hq) h hQ
  | .block id (.block j x), C, L0, hW, env, L, w, wa, a, Kf, Q, h, hS, hQ => block_sound (c := .block j x) (fun h hq => vcCode_sound hP (.block j x) hW h hS hq) h hQ
  | .block id (.rangeFunc ..), C, L0, hW, env, L, w, wa, a, Kf, Q, h, hS, hQ => by simp only [vcCode] at h
  | .block id (.scope x), C, L0, hW, env, L, w, wa, a, Kf, Q, h, hS, hQ => block_sound (c := .scope x) (fun h hq => vcCode_sound hP (.scope x) hW h hS hq) h hQ
  | .block id (.label l), C, L0, hW, env, L, w, wa, a, Kf, Q, h, hS, hQ => block_sound (c := .label l) (fun h hq => vcCode_sound hP (.label l) hW h hS hq) h hQ
  | .block id (.goto _), C, L0, hW, env, L, w, wa, a, Kf, Q, h, hS, hQ => by simp only [vcCode] at h
  | .block id (.refuse _), C, L0, hW, env, L, w, wa, a, Kf, Q, h, hS, hQ => by simp only [vcCode] at h
  | .loop _, C, L0, hW, env, L, w, wa, a, Kf, Q, h, hS, hQ => by simp only [vcCode] at h
  | .rangeFunc .., C, L0, hW, env, L, w, wa, a, Kf, Q, h, hS, hQ => by simp only [vcCode] at h
  | .scope x, C, L0, hW, env, L, w, wa, a, Kf, Q, h, hS, hQ => by
    simp only [vcCode] at h
    refine wp_scope_straight (vcCode_sound hP x hW h hS fun e env L w a wa hk hS => ?_)
    have := hQ e env L w a wa hk hS
    cases e <;> exact this
  | .label _, C, L0, hW, env, L, w, wa, a, Kf, Q, h, hS, hQ => by
    simp only [vcCode] at h
    exact wp_label (hQ .nrm _ _ _ _ _ h hS)
  | .goto _, C, L0, hW, env, L, w, wa, a, Kf, Q, h, hS, hQ => by simp only [vcCode] at h
  | .refuse _, C, L0, hW, env, L, w, wa, a, Kf, Q, h, hS, hQ => by simp only [vcCode] at h
end
end Go.Proofs.Ytnkpjlhbojjneaa.VC

/- A function whose condition holds does what it says, whatever else is private. -/
namespace Go.Proofs.Ytnkpjlhbojjneaa.VC
open Go Go.RowKit

section
variable {P : Program} {T : Tab} {F0 : List (Nat × Obj)} {N : Nat} {H : Hints} {L0 : List LB}

def resS (tmps : Array Value) : ResultVar → Sem Value
  | .tmp t => pure (tmps.getD t undef)
  | .cell x t => do loadVar t (← asAddr (tmps.getD x undef))
theorem resV_run (hP : GoodP P T) {C : Ctx} {env : Env} {L : List LB} {w wa : World} {a : Act} (hS : Sim C N L0 F0 env L w a wa) {r : ResultVar} {v : Value} (h : resV T env L r = some v) :
    (resS a.tmps r).run P wa = .ok v wa := by
  cases r with
  | tmp t =>
    simp only [resV] at h
    split at h
    · rename_i s hs
      simp only [Option.some.injEq] at h; subst h
      have := (hS.ev t s hs).1
      simp [resS, this]
    · simp at h
  | cell x t =>
    simp only [resV] at h
    split at h
    · rename_i i b off ti hx ht
      obtain ⟨hx1, l', hl', hb⟩ := hS.ev x _ hx
      split at h
      · rename_i l hl
        rw [hl] at hl'; injection hl' with hl'; subst hl'
        have hblk := blk_at hS.inv.rel hl
        have key : ∀ vs : List Value, vs.length = ti.size → (∀ j v, vs[j]? = some v → (l.cs.map real)[off + j]? = some v) → (loadVar t ⟨b, off, none⟩).run P wa = .ok (mkv ti.agg vs) wa :=
          fun vs hlen hv => run_loadVar_at hP.types ht wa ⟨b, off, none⟩ vs hlen fun j v hj => by
            rw [add_none, ← hb, cell_blk hblk]; simpa using hv j v hj
        have hrun : ∀ v, (loadVar t ⟨b, off, none⟩).run P wa = .ok v wa → (resS a.tmps (.cell x t)).run P wa = .ok v wa := by
          intro v hv
          have : a.tmps.getD x undef = .pointer (some ⟨b, off, none⟩) := by simp [hx1, real]
          simp [resS, this, asAddr, hv]
        split at h
        · rename_i hle hag
          have hle : off + ti.size ≤ l.cs.length := by simpa using hle
          simp only [Option.some.injEq] at h; subst h
          refine hrun _ ?_
          rw [key (((l.cs.drop off).take ti.size).map real) (by simp; omega) (fun j v hj => by
            simp only [List.getElem?_map, List.getElem?_take, List.getElem?_drop] at hj ⊢
            split at hj
            · exact hj
            · simp at hj)]
          simp [mkv, hag]
        · rename_i hle hag
          split at h
          · rename_i s hs
            simp only [Option.some.injEq] at h; subst h
            refine hrun _ ?_
            have h1 := (hP.types t ti ht).single hag
            rw [key [real s] (by simp [h1]) (fun j v hj => by
              cases j with
              | zero =>
                simp only [List.getElem?_cons_zero, Option.some.injEq] at hj; subst hj
                simp [hs]
              | succ j => simp at hj)]
            simp [mkv, hag]
          · simp at h
        · simp at h
      · simp at h
    · simp at h
theorem resVs_run (hP : GoodP P T) {C : Ctx} {env : Env} {L : List LB} {w wa : World} {a : Act} (hS : Sim C N L0 F0 env L w a wa) : ∀ {rs : List ResultVar} {vs : List Value}, resVs T env L rs = some vs →
    (rs.mapM (resS a.tmps)).run P wa = .ok vs wa
  | [], vs, h => by simp only [resVs, Option.some.injEq] at h; subst h; rfl
  | r :: rs, vs, h => by
    simp only [resVs] at h
    split at h
    · rename_i v vs' h1 h2
      simp only [Option.some.injEq] at h; subst h
      have hr := resV_run hP hS h1
      have hrs := resVs_run hP hS h2
      rw [List.mapM_cons]
      simp only [Sem.run_bind]
      rw [hr]
      simp only [Result.andThen_ok]
      rw [hrs]
      rfl
    · simp at h
theorem results_run (hP : GoodP P T) {C : Ctx} {env : Env} {L : List LB} {w wa : World} {a : Act} (hS : Sim C N L0 F0 env L w a wa) {fn : Func} {vs : List Value} (h : resVs T env L fn.results.toList = some vs) :
    (results fn a.tmps).run P wa = .ok (resOf vs) wa := by
  have hrun := resVs_run hP hS h
  have e : results fn a.tmps = (do let vs ← fn.results.mapM (resS a.tmps); pure (if h : vs.size = 1 then vs[0] else .tuple vs)) := by
    unfold results
    congr 1
  rw [e, Array.mapM_eq_mapM_toList]
  simp only [Sem.run_bind, Sem.run_map]
  rw [hrun]
  simp only [Result.andThen_ok, Sem.run_pure]
  congr 1
  match vs with
  | [] => rfl
  | [v] => rfl
  | v :: v' :: r => simp [resOf]

theorem lookup_argEnv : ∀ (args : List SV) (i t : Nat) (s : SV), List.lookup t (argEnv N i args) = some s → ∃ j, t = i + j ∧ args[j]? = some s
  | [], i, t, s, h => by simp [argEnv] at h
  | x :: r, i, t, s, h => by
    simp only [argEnv, List.lookup] at h
    split at h
    · rename_i he
      have : t = i := by simpa using he
      simp only [Option.some.injEq] at h; subst h
      exact ⟨0, by omega, rfl⟩
    · obtain ⟨j, h1, h2⟩ := lookup_argEnv r (i + 1) t s h
      exact ⟨j + 1, by omega, by simpa using h2⟩

theorem keys_len {L L' : List LB} (h : Keys L L') : L.length ≤ L'.length := by
  rcases Nat.lt_or_ge L'.length L.length with hl | hl
  · obtain ⟨l, hq, _⟩ := h L'.length _ (List.getElem?_eq_getElem hl)
    simp at hq
  · exact hl
def impOf (L : List LB) : Imp := L.map fun l => (l.b, l.t, l.cs.map real)
theorem rawI_impOf (L : List LB) : rawI (impOf L) = raw L := by simp [rawI, impOf, raw, LB.obj, Function.comp_def]
theorem setI_contents : ∀ {L L' : List LB}, (∀ (q : Nat) l, L[q]? = some l → ∃ l', L'[q]? = some l' ∧ l'.b = l.b ∧ l'.t = l.t) → rawI (setI (impOf L) (contents L.length L')) = raw (L'.take L.length)
  | [], L', h => by cases L' <;> rfl
  | l :: L, [], h => by obtain ⟨l', h, _⟩ := h 0 l rfl; simp at h
  | l :: L, l' :: L', h => by
    obtain ⟨l2, h1, h2, h3⟩ := h 0 l rfl
    simp only [List.getElem?_cons_zero, Option.some.injEq] at h1; subst h1
    have ih := setI_contents (L := L) (L' := L') (fun q l0 hq => by
      obtain ⟨l3, g1, g2⟩ := h (q + 1) l0 (by simpa using hq)
      exact ⟨l3, by simpa using g1, g2⟩)
    have e1 : rawI (setI (impOf (l :: L)) (contents (l :: L).length (l' :: L'))) = (l.b, .cells (l'.cs.map real).toArray l.t (0, 0)) :: rawI (setI (impOf L) (contents L.length L')) := rfl
    have e2 : raw ((l' :: L').take (l :: L).length) = (l'.b, l'.obj) :: raw (L'.take L.length) := rfl
    rw [e1, e2, ih]
    simp [LB.obj, h2, h3]

/-- **A function whose condition holds does what the condition says.** -/
theorem vcFun_sound (hP : GoodP P T) {f : Nat} {fn : Func} {args : List SV} {L : List LB} {w : World} {R : Value → List (List Value) → World → Prop} (hf : P.funcs[f]? = some fn)
    (hL : ∀ l ∈ L, ∀ x ∈ l.cs, okp L x) (hlen : args.length ≤ fn.ntmps) (hargs : ∀ s ∈ args, okp L s) (h : vcFun P T H fn args L w R) : CallsI P f (args.map real) w (impOf L) R := by
  intro F wa hr
  unfold vcFun at h
  split at h
  · rename_i c hb
    refine calls_of_wp hf hb ?_
    have hsz : ((args.map real).toArray ++ Array.replicate (fn.ntmps - (args.map real).toArray.size) undef).size = fn.ntmps := by simp; omega
    have hS : Sim ⟨writes c, argEnv fn.ntmps 0 args, [], L⟩ fn.ntmps L F (argEnv fn.ntmps 0 args) L w
        { tmps := (args.map real).toArray ++ Array.replicate (fn.ntmps - (args.map real).toArray.size) undef, defers := [] } wa := by
      refine ⟨fun t s ht => ?_, hsz, ⟨hL, by rw [← rawI_impOf]; exact hr⟩, Keys.refl L, rfl, ⟨fun _ _ => rfl, fun q hq => by simp at hq⟩⟩
      obtain ⟨j, rfl, hj⟩ := lookup_argEnv args 0 t s ht
      have hlt := (List.getElem?_eq_some_iff.1 hj).1
      refine ⟨?_, hargs s (List.mem_of_getElem? hj)⟩
      rw [Nat.zero_add, Array.getElem?_append_left (by simpa using hlt)]
      simp [hj]
    refine vcCode_sound (H := H) hP c (C := ⟨writes c, argEnv fn.ntmps 0 args, [], L⟩) (L0 := L) (fun d hd => hd) h hS ?_
    intro e env' L' w' a' wa' hk hS'
    have fin : ∀ vs, resVs T env' L' fn.results.toList = some vs → R (resOf vs) (contents L.length L') w' →
        (results fn a'.tmps).run P wa' = .ok (resOf vs) wa' ∧ ∃ v css w2, Ending.returned (resOf vs) = .returned v ∧ css.length = (impOf L).length ∧ Rel (rawI (setI (impOf L) css) ++ F) w2 wa' ∧ R v css w2 := by
      intro vs hvs hR
      have hlen : L.length ≤ L'.length := keys_len hS'.keys
      refine ⟨results_run hP hS' hvs, resOf vs, contents L.length L', w', rfl, by simp [contents, impOf]; omega, ?_, hR⟩
      rw [setI_contents (fun q l hq => hS'.keys q l hq)]
      refine hS'.inv.rel.sub (fun x hx => ?_) ?_
      · rcases List.mem_append.1 hx with hx | hx
        · refine List.mem_append_left _ ?_
          simp only [raw, List.mem_map] at hx ⊢
          obtain ⟨l, hl, rfl⟩ := hx
          exact ⟨l, List.mem_of_mem_take hl, rfl⟩
        · exact List.mem_append_right _ hx
      · refine List.Nodup.sublist ?_ hS'.inv.rel.nd
        refine List.Sublist.map _ (List.Sublist.append ?_ (List.Sublist.refl _))
        exact List.Sublist.map _ (List.take_sublist _ _)
    have hdf : a'.defers = [] := hS'.df
    cases e with
    | ext j => exact hk.elim
    | nrm =>
      simp only [] at hk
      split at hk
      · rename_i vs hvs
        exact ⟨hdf, resOf vs, (fin vs hvs hk).1, (fin vs hvs hk).2⟩
      · exact hk.elim
    | ret =>
      simp only [] at hk
      split at hk
      · rename_i vs hvs
        exact ⟨hdf, resOf vs, (fin vs hvs hk).1, (fin vs hvs hk).2⟩
      · exact hk.elim
  · exact h.elim
end
end Go.Proofs.Ytnkpjlhbojjneaa.VC

/- The table of types, and that the program fits it. Printed by wip/tools/tab.py. -/
namespace Go.Proofs.Ytnkpjlhbojjneaa.VC
open Go Go.RowKit
theorem nil_all : ∀ x ∈ ([] : List (TypeId × TI)), GoodTI Try.prog x.1 x.2 := fun x h => absurd h (by simp)
theorem cons_all {t : TypeId} {i : TI} {l : List (TypeId × TI)} (h : GoodTI Try.prog t i) (hl : ∀ x ∈ l, GoodTI Try.prog x.1 x.2) : ∀ x ∈ (t, i) :: l, GoodTI Try.prog x.1 x.2 := fun x hx => by rcases List.mem_cons.1 hx with rfl | hx; exact h; exact hl x hx

def i2 : TI := ⟨.int .i64, 1, 8, [.int .i64 0], [.int .i64]⟩
def i3 : TI := ⟨.int .i64, 1, 8, [.int .i64 0], [.int .i64]⟩
def i4 : TI := ⟨.bool, 1, 1, [.bool false], [.bool]⟩
def i5 : TI := ⟨.int .u8, 1, 1, [.int .u8 0], [.int .u8]⟩
def i9 : TI := ⟨.str, 1, 16, [.string ⟨#[]⟩], [.str]⟩
def i12 : TI := ⟨.int .u64, 1, 8, [.int .u64 0], [.int .u64]⟩
def i22 : TI := ⟨.slice 26, 1, 24, [.slice none 0 0], [.slice]⟩
def i23 : TI := ⟨.slice 4, 1, 24, [.slice none 0 0], [.slice]⟩
def i25 : TI := ⟨.struct [0, 1, 2, 3], 4, 64, [.int .i64 0, .int .i64 0, .slice none 0 0, .slice none 0 0], [.int .i64, .int .i64, .slice, .slice]⟩
def i26 : TI := ⟨.slice 3, 1, 24, [.slice none 0 0], [.slice]⟩
def i27 : TI := ⟨.func, 1, 8, [.nilFunc], [.func]⟩
def i28 : TI := ⟨.int .i64, 1, 8, [.int .i64 0], [.int .i64]⟩
def i29 : TI := ⟨.func, 1, 8, [.nilFunc], [.func]⟩
def i30 : TI := ⟨.func, 1, 8, [.nilFunc], [.func]⟩
def i31 : TI := ⟨.func, 1, 8, [.nilFunc], [.func]⟩
def i32 : TI := ⟨.func, 1, 8, [.nilFunc], [.func]⟩
def i34 : TI := ⟨.func, 1, 8, [.nilFunc], [.func]⟩
def i35 : TI := ⟨.func, 1, 8, [.nilFunc], [.func]⟩
def i36 : TI := ⟨.func, 1, 8, [.nilFunc], [.func]⟩
def i38 : TI := ⟨.func, 1, 8, [.nilFunc], [.func]⟩
def i39 : TI := ⟨.slice 50, 1, 24, [.slice none 0 0], [.slice]⟩
def i41 : TI := ⟨.func, 1, 8, [.nilFunc], [.func]⟩
def i42 : TI := ⟨.func, 1, 8, [.nilFunc], [.func]⟩
def i43 : TI := ⟨.func, 1, 8, [.nilFunc], [.func]⟩
def i44 : TI := ⟨.func, 1, 8, [.nilFunc], [.func]⟩
def i45 : TI := ⟨.int .u64, 1, 8, [.int .u64 0], [.int .u64]⟩
def i47 : TI := ⟨.func, 1, 8, [.nilFunc], [.func]⟩
def i48 : TI := ⟨.func, 1, 8, [.nilFunc], [.func]⟩
def i49 : TI := ⟨.struct [0, 1], 2, 16, [.int .i64 0, .int .i64 0], [.int .i64, .int .i64]⟩
def i50 : TI := ⟨.struct [0, 1], 2, 16, [.int .i64 0, .int .i64 0], [.int .i64, .int .i64]⟩
def i51 : TI := ⟨.func, 1, 8, [.nilFunc], [.func]⟩
def i52 : TI := ⟨.func, 1, 8, [.nilFunc], [.func]⟩
def i53 : TI := ⟨.func, 1, 8, [.nilFunc], [.func]⟩
def i54 : TI := ⟨.func, 1, 8, [.nilFunc], [.func]⟩
def i55 : TI := ⟨.func, 1, 8, [.nilFunc], [.func]⟩
def i56 : TI := ⟨.func, 1, 8, [.nilFunc], [.func]⟩
def i57 : TI := ⟨.func, 1, 8, [.nilFunc], [.func]⟩
def i58 : TI := ⟨.func, 1, 8, [.nilFunc], [.func]⟩
def i59 : TI := ⟨.func, 1, 8, [.nilFunc], [.func]⟩
def i60 : TI := ⟨.func, 1, 8, [.nilFunc], [.func]⟩
def i61 : TI := ⟨.func, 1, 8, [.nilFunc], [.func]⟩
def i62 : TI := ⟨.func, 1, 8, [.nilFunc], [.func]⟩
def i63 : TI := ⟨.func, 1, 8, [.nilFunc], [.func]⟩
def i64 : TI := ⟨.func, 1, 8, [.nilFunc], [.func]⟩
def i65 : TI := ⟨.func, 1, 8, [.nilFunc], [.func]⟩
def i66 : TI := ⟨.map 50 3, 1, 8, [.map none], [.map]⟩
def i67 : TI := ⟨.struct [0, 1], 2, 32, [.slice none 0 0, .map none], [.slice, .map]⟩
def i68 : TI := ⟨.struct [0, 1], 2, 32, [.slice none 0 0, .map none], [.slice, .map]⟩
def i69 : TI := ⟨.func, 1, 8, [.nilFunc], [.func]⟩
def i70 : TI := ⟨.func, 1, 8, [.nilFunc], [.func]⟩
def i71 : TI := ⟨.func, 1, 8, [.nilFunc], [.func]⟩
def i72 : TI := ⟨.func, 1, 8, [.nilFunc], [.func]⟩
def i73 : TI := ⟨.map 50 4, 1, 8, [.map none], [.map]⟩
def i74 : TI := ⟨.struct [0, 1, 2], 3, 72, [.slice none 0 0, .slice none 0 0, .slice none 0 0], [.slice, .slice, .slice]⟩
def i75 : TI := ⟨.struct [0, 1, 2], 3, 72, [.slice none 0 0, .slice none 0 0, .slice none 0 0], [.slice, .slice, .slice]⟩
def i76 : TI := ⟨.func, 1, 8, [.nilFunc], [.func]⟩
def i77 : TI := ⟨.slice 78, 1, 24, [.slice none 0 0], [.slice]⟩
def i78 : TI := ⟨.array 2 3, 2, 16, [.int .i64 0, .int .i64 0], [.int .i64, .int .i64]⟩
def i79 : TI := ⟨.slice 45, 1, 24, [.slice none 0 0], [.slice]⟩
def i80 : TI := ⟨.func, 1, 8, [.nilFunc], [.func]⟩
def i81 : TI := ⟨.func, 1, 8, [.nilFunc], [.func]⟩
def i82 : TI := ⟨.func, 1, 8, [.nilFunc], [.func]⟩
def i83 : TI := ⟨.func, 1, 8, [.nilFunc], [.func]⟩
def i84 : TI := ⟨.func, 1, 8, [.nilFunc], [.func]⟩
def i85 : TI := ⟨.func, 1, 8, [.nilFunc], [.func]⟩
def i86 : TI := ⟨.slice 23, 1, 24, [.slice none 0 0], [.slice]⟩
def i87 : TI := ⟨.func, 1, 8, [.nilFunc], [.func]⟩
def i88 : TI := ⟨.map 9 26, 1, 8, [.map none], [.map]⟩
def i89 : TI := ⟨.func, 1, 8, [.nilFunc], [.func]⟩
def i90 : TI := ⟨.slice 5, 1, 24, [.slice none 0 0], [.slice]⟩
def i91 : TI := ⟨.int .u64, 1, 8, [.int .u64 0], [.int .u64]⟩
def i92 : TI := ⟨.func, 1, 8, [.nilFunc], [.func]⟩
def i94 : TI := ⟨.func, 1, 8, [.nilFunc], [.func]⟩
def i95 : TI := ⟨.func, 1, 8, [.nilFunc], [.func]⟩
def i96 : TI := ⟨.func, 1, 8, [.nilFunc], [.func]⟩
def i97 : TI := ⟨.func, 1, 8, [.nilFunc], [.func]⟩
def i98 : TI := ⟨.func, 1, 8, [.nilFunc], [.func]⟩
def i99 : TI := ⟨.func, 1, 8, [.nilFunc], [.func]⟩
def i100 : TI := ⟨.func, 1, 8, [.nilFunc], [.func]⟩
def i102 : TI := ⟨.func, 1, 8, [.nilFunc], [.func]⟩
def i103 : TI := ⟨.func, 1, 8, [.nilFunc], [.func]⟩
def i104 : TI := ⟨.func, 1, 8, [.nilFunc], [.func]⟩
def i105 : TI := ⟨.map 3 3, 1, 8, [.map none], [.map]⟩
def i106 : TI := ⟨.func, 1, 8, [.nilFunc], [.func]⟩
def i107 : TI := ⟨.func, 1, 8, [.nilFunc], [.func]⟩
def i108 : TI := ⟨.func, 1, 8, [.nilFunc], [.func]⟩
def i109 : TI := ⟨.func, 1, 8, [.nilFunc], [.func]⟩
def i110 : TI := ⟨.ptr, 1, 8, [.pointer none], [.ptr]⟩
def i112 : TI := ⟨.func, 1, 8, [.nilFunc], [.func]⟩
def i113 : TI := ⟨.func, 1, 8, [.nilFunc], [.func]⟩
def i114 : TI := ⟨.ptr, 1, 8, [.pointer none], [.ptr]⟩
def i115 : TI := ⟨.func, 1, 8, [.nilFunc], [.func]⟩
def i116 : TI := ⟨.func, 1, 8, [.nilFunc], [.func]⟩
def i117 : TI := ⟨.func, 1, 8, [.nilFunc], [.func]⟩
def i118 : TI := ⟨.func, 1, 8, [.nilFunc], [.func]⟩
def i119 : TI := ⟨.func, 1, 8, [.nilFunc], [.func]⟩
def i120 : TI := ⟨.func, 1, 8, [.nilFunc], [.func]⟩
def i121 : TI := ⟨.func, 1, 8, [.nilFunc], [.func]⟩
def i122 : TI := ⟨.slice 9, 1, 24, [.slice none 0 0], [.slice]⟩
def i123 : TI := ⟨.map 9 3, 1, 8, [.map none], [.map]⟩
def i124 : TI := ⟨.struct [0, 1], 2, 32, [.slice none 0 0, .map none], [.slice, .map]⟩
def i125 : TI := ⟨.struct [0, 1], 2, 32, [.slice none 0 0, .map none], [.slice, .map]⟩
def i126 : TI := ⟨.func, 1, 8, [.nilFunc], [.func]⟩
def i128 : TI := ⟨.func, 1, 8, [.nilFunc], [.func]⟩
def i129 : TI := ⟨.func, 1, 8, [.nilFunc], [.func]⟩
def i130 : TI := ⟨.slice 22, 1, 24, [.slice none 0 0], [.slice]⟩
def i131 : TI := ⟨.ptr, 1, 8, [.pointer none], [.ptr]⟩
def i132 : TI := ⟨.struct [0, 1, 2, 3, 4], 5, 120, [.slice none 0 0, .slice none 0 0, .slice none 0 0, .slice none 0 0, .slice none 0 0], [.slice, .slice, .slice, .slice, .slice]⟩
def i133 : TI := ⟨.struct [0, 1, 2, 3, 4], 5, 120, [.slice none 0 0, .slice none 0 0, .slice none 0 0, .slice none 0 0, .slice none 0 0], [.slice, .slice, .slice, .slice, .slice]⟩
def i134 : TI := ⟨.func, 1, 8, [.nilFunc], [.func]⟩
def i135 : TI := ⟨.func, 1, 8, [.nilFunc], [.func]⟩
def i136 : TI := ⟨.func, 1, 8, [.nilFunc], [.func]⟩
def i137 : TI := ⟨.struct [0, 1], 2, 32, [.slice none 0 0, .map none], [.slice, .map]⟩
def i138 : TI := ⟨.struct [0, 1], 2, 32, [.slice none 0 0, .map none], [.slice, .map]⟩
def i139 : TI := ⟨.func, 1, 8, [.nilFunc], [.func]⟩
def i140 : TI := ⟨.func, 1, 8, [.nilFunc], [.func]⟩
def i141 : TI := ⟨.int .i64, 1, 8, [.int .i64 0], [.int .i64]⟩
def i143 : TI := ⟨.func, 1, 8, [.nilFunc], [.func]⟩
def i144 : TI := ⟨.func, 1, 8, [.nilFunc], [.func]⟩
def i145 : TI := ⟨.func, 1, 8, [.nilFunc], [.func]⟩
def i146 : TI := ⟨.func, 1, 8, [.nilFunc], [.func]⟩
def i147 : TI := ⟨.func, 1, 8, [.nilFunc], [.func]⟩
def i148 : TI := ⟨.int .u32, 1, 4, [.int .u32 0], [.int .u32]⟩
def i149 : TI := ⟨.func, 1, 8, [.nilFunc], [.func]⟩
def i151 : TI := ⟨.func, 1, 8, [.nilFunc], [.func]⟩
def i152 : TI := ⟨.func, 1, 8, [.nilFunc], [.func]⟩
def i153 : TI := ⟨.func, 1, 8, [.nilFunc], [.func]⟩
def i154 : TI := ⟨.func, 1, 8, [.nilFunc], [.func]⟩
def i155 : TI := ⟨.func, 1, 8, [.nilFunc], [.func]⟩
def i156 : TI := ⟨.func, 1, 8, [.nilFunc], [.func]⟩
def i157 : TI := ⟨.ptr, 1, 8, [.pointer none], [.ptr]⟩
def i158 : TI := ⟨.ptr, 1, 8, [.pointer none], [.ptr]⟩
def i159 : TI := ⟨.int .u64, 1, 8, [.int .u64 0], [.int .u64]⟩
def i160 : TI := ⟨.func, 1, 8, [.nilFunc], [.func]⟩
def i161 : TI := ⟨.func, 1, 8, [.nilFunc], [.func]⟩
def i162 : TI := ⟨.func, 1, 8, [.nilFunc], [.func]⟩
def i163 : TI := ⟨.ptr, 1, 8, [.pointer none], [.ptr]⟩
def i164 : TI := ⟨.func, 1, 8, [.nilFunc], [.func]⟩
def i165 : TI := ⟨.func, 1, 8, [.nilFunc], [.func]⟩
def i166 : TI := ⟨.func, 1, 8, [.nilFunc], [.func]⟩
def i167 : TI := ⟨.ptr, 1, 8, [.pointer none], [.ptr]⟩
def i169 : TI := ⟨.func, 1, 8, [.nilFunc], [.func]⟩
def i170 : TI := ⟨.func, 1, 8, [.nilFunc], [.func]⟩
def tab : Tab := ⟨[(2, i2), (3, i3), (4, i4), (5, i5), (9, i9), (12, i12), (22, i22), (23, i23), (25, i25), (26, i26), (27, i27), (28, i28), (29, i29), (30, i30), (31, i31), (32, i32), (34, i34), (35, i35), (36, i36), (38, i38), (39, i39), (41, i41), (42, i42), (43, i43), (44, i44), (45, i45), (47, i47), (48, i48), (49, i49), (50, i50), (51, i51), (52, i52), (53, i53), (54, i54), (55, i55), (56, i56), (57, i57), (58, i58), (59, i59), (60, i60), (61, i61), (62, i62), (63, i63), (64, i64), (65, i65), (66, i66), (67, i67), (68, i68), (69, i69), (70, i70), (71, i71), (72, i72), (73, i73), (74, i74), (75, i75), (76, i76), (77, i77), (78, i78), (79, i79), (80, i80), (81, i81), (82, i82), (83, i83), (84, i84), (85, i85), (86, i86), (87, i87), (88, i88), (89, i89), (90, i90), (91, i91), (92, i92), (94, i94), (95, i95), (96, i96), (97, i97), (98, i98), (99, i99), (100, i100), (102, i102), (103, i103), (104, i104), (105, i105), (106, i106), (107, i107), (108, i108), (109, i109), (110, i110), (112, i112), (113, i113), (114, i114), (115, i115), (116, i116), (117, i117), (118, i118), (119, i119), (120, i120), (121, i121), (122, i122), (123, i123), (124, i124), (125, i125), (126, i126), (128, i128), (129, i129), (130, i130), (131, i131), (132, i132), (133, i133), (134, i134), (135, i135), (136, i136), (137, i137), (138, i138), (139, i139), (140, i140), (141, i141), (143, i143), (144, i144), (145, i145), (146, i146), (147, i147), (148, i148), (149, i149), (151, i151), (152, i152), (153, i153), (154, i154), (155, i155), (156, i156), (157, i157), (158, i158), (159, i159), (160, i160), (161, i161), (162, i162), (163, i163), (164, i164), (165, i165), (166, i166), (167, i167), (169, i169), (170, i170)],
  [(0, .tup []), (2, .one (.int .i64)), (3, .one (.int .i64)), (4, .one .bool), (5, .one (.int .u8)), (9, .one .str), (12, .one (.int .u64)), (22, .one .slice), (23, .one .slice), (25, .agg [.int .i64, .int .i64, .slice, .slice]), (26, .one .slice), (27, .one .func), (28, .one (.int .i64)), (29, .one .func), (30, .one .func), (31, .one .func), (32, .one .func), (33, .tup [.agg [.int .i64, .int .i64, .slice, .slice], .one (.int .i64)]), (34, .one .func), (35, .one .func), (36, .one .func), (37, .tup [.one .slice, .one .bool, .one (.int .i64)]), (38, .one .func), (39, .one .slice), (40, .tup [.one .slice, .one (.int .i64)]), (41, .one .func), (42, .one .func), (43, .one .func), (44, .one .func), (45, .one (.int .u64)), (46, .tup [.one (.int .u64), .one (.int .i64)]), (47, .one .func), (48, .one .func), (49, .agg [.int .i64, .int .i64]), (50, .agg [.int .i64, .int .i64]), (51, .one .func), (52, .one .func), (53, .one .func), (54, .one .func), (55, .one .func), (56, .one .func), (57, .one .func), (58, .one .func), (59, .one .func), (60, .one .func), (61, .one .func), (62, .one .func), (63, .one .func), (64, .one .func), (65, .one .func), (66, .one .map), (67, .agg [.slice, .map]), (68, .agg [.slice, .map]), (69, .one .func), (70, .one .func), (71, .one .func), (72, .one .func), (73, .one .map), (74, .agg [.slice, .slice, .slice]), (75, .agg [.slice, .slice, .slice]), (76, .one .func), (77, .one .slice), (78, .agg [.int .i64, .int .i64]), (79, .one .slice), (80, .one .func), (81, .one .func), (82, .one .func), (83, .one .func), (84, .one .func), (85, .one .func), (86, .one .slice), (87, .one .func), (88, .one .map), (89, .one .func), (90, .one .slice), (91, .one (.int .u64)), (92, .one .func), (93, .tup [.agg [.int .i64, .int .i64, .slice, .slice], .one .bool]), (94, .one .func), (95, .one .func), (96, .one .func), (97, .one .func), (98, .one .func), (99, .one .func), (100, .one .func), (101, .tup [.one .slice, .one .slice]), (102, .one .func), (103, .one .func), (104, .one .func), (105, .one .map), (106, .one .func), (107, .one .func), (108, .one .func), (109, .one .func), (110, .one .ptr), (111, .tup [.one (.int .i64), .one .bool]), (112, .one .func), (113, .one .func), (114, .one .ptr), (115, .one .func), (116, .one .func), (117, .one .func), (118, .one .func), (119, .one .func), (120, .one .func), (121, .one .func), (122, .one .slice), (123, .one .map), (124, .agg [.slice, .map]), (125, .agg [.slice, .map]), (126, .one .func), (127, .tup [.one .str, .one .bool]), (128, .one .func), (129, .one .func), (130, .one .slice), (131, .one .ptr), (132, .agg [.slice, .slice, .slice, .slice, .slice]), (133, .agg [.slice, .slice, .slice, .slice, .slice]), (134, .one .func), (135, .one .func), (136, .one .func), (137, .agg [.slice, .map]), (138, .agg [.slice, .map]), (139, .one .func), (140, .one .func), (141, .one (.int .i64)), (142, .tup [.one (.int .i64), .one (.int .i64)]), (143, .one .func), (144, .one .func), (145, .one .func), (146, .one .func), (147, .one .func), (148, .one (.int .u32)), (149, .one .func), (150, .tup [.agg [.int .i64, .int .i64], .one .bool]), (151, .one .func), (152, .one .func), (153, .one .func), (154, .one .func), (155, .one .func), (156, .one .func), (157, .one .ptr), (158, .one .ptr), (159, .one (.int .u64)), (160, .one .func), (161, .one .func), (162, .one .func), (163, .one .ptr), (164, .one .func), (165, .one .func), (166, .one .func), (167, .one .ptr), (168, .tup [.one (.int .i64), .one (.int .i64)]), (169, .one .func), (170, .one .func)]⟩

theorem info_type {P : Program} {t : TypeId} {i : TypeInfo} (h : P.types[t]? = some i) : P.info? t = some i := by
  unfold Tables.info?
  rw [if_pos (Array.getElem?_eq_some_iff.1 h).1]; exact h
def okTI (i : TypeInfo) (ti : TI) : Bool :=
  i.size == ti.size && i.bytes == ti.bytes && ti.zero.length == ti.size && ti.zero.all one1 && ti.cts.length == ti.size && decide (0 < ti.size) && decide (0 < ti.bytes) && (ti.agg || ti.size == 1)
theorem goodTI_of {P : Program} {t : TypeId} {ti : TI} {i : TypeInfo} {d : TypeDesc} (hu : P.underlying t = some d) (hi : P.types[t]? = some i) (hm : MatchD P ti.d d)
    (h : okTI i ti = true) (hz : i.zero = some (mkv ti.agg ti.zero)) (hp : ti.isPair = true → PairFacts P t) : GoodTI P t ti := by
  unfold okTI at h
  simp only [Bool.and_eq_true, beq_iff_eq, decide_eq_true_eq, List.all_eq_true, Bool.or_eq_true] at h
  obtain ⟨⟨⟨⟨⟨⟨⟨h1, h2⟩, h3⟩, h4⟩, h5⟩, h6⟩, h7⟩, h8⟩ := h
  exact ⟨⟨d, hu, hm⟩, ⟨i, info_type hi, h1, h2, hz⟩, h3, h4, h5, ⟨h6, h7⟩, fun ha => by simpa [ha] using h8, hp⟩
inductive Flds : List Field → List Nat → Prop where
  | nil : Flds [] []
  | cons {f : Field} {off : Nat} {fs : List Field} {offs : List Nat} (h : f.offset = off ∧ ∃ i, Try.prog.types[f.type]? = some i ∧ i.size = 1) (hs : Flds fs offs) : Flds (f :: fs) (off :: offs)
theorem struct_of : ∀ {fs : List Field} {offs : List Nat} (_ : Flds fs offs), fs.length = offs.length ∧ (∀ (j off : Nat), offs[j]? = some off → ∃ f fi, fs[j]? = some f ∧ f.offset = off ∧ Try.prog.info? f.type = some fi ∧ fi.size = 1) ∧
    ∀ w, (fs.mapM fun f => (do pure (f.offset, ← sizeOf f.type) : Sem (Nat × Nat))).run Try.prog w = .ok (offs.map fun off => (off, 1)) w
  | [], [], _ => ⟨rfl, fun j off h => by simp at h, fun w => rfl⟩
  | f :: fs, off :: offs, .cons ⟨h1, i, h2, h3⟩ h => by
    obtain ⟨a, b, c⟩ := struct_of h
    refine ⟨by simp [a], fun j o ho => ?_, fun w => ?_⟩
    · cases j with
      | zero => simp only [List.getElem?_cons_zero, Option.some.injEq] at ho; subst ho; exact ⟨f, i, rfl, h1, info_type h2, h3⟩
      | succ j => simpa using b j o (by simpa using ho)
    · rw [List.mapM_cons]
      have hs : (sizeOf f.type).run Try.prog w = .ok 1 w := by simp [sizeOf, typeInfo, info_type h2, h3]
      simp only [Sem.run_bind, hs, Sem.run_pure, Result.andThen_ok, c w, h1, List.map_cons]
theorem matchStruct {fs : Array Field} {offs : List Nat} (h : Flds fs.toList offs) : MatchD Try.prog (.struct offs) (.struct fs) := by
  obtain ⟨a, b, c⟩ := struct_of h
  refine ⟨fs, rfl, by rw [← a]; simp, fun j off hj => ?_, fun w => ?_⟩
  · obtain ⟨f, fi, h1, h2⟩ := b j off hj
    exact ⟨f, fi, by simpa using h1, h2⟩
  · rw [Array.mapM_eq_mapM_toList]
    simp only [Sem.run_map, c w]
    rfl
theorem p49 : PairFacts Try.prog 49 := ⟨by
    intro w a b c d
    have h := run_equalIn_struct (P := Try.prog) w 9999 49 #[.int .i64 a, .int .i64 b] #[.int .i64 c, .int .i64 d] (by unfold Program.fieldsOf; rw [Try.underlying49]) Try.stoodInHeld49
    unfold Op.equal Op.maxDepth
    rw [h]
    simp [Program.fieldsOf, Try.underlying49, Op.eqFields, part, Try.isAgg3, run_equalIn_int w _ 3 .i64 .i64 _ _ Try.underlying3]
    by_cases h1 : a = c <;> by_cases h2 : b = d <;> simp [h1, h2], by
    intro op x y w a b c d
    exact run_eqGuard_agg w op 49 x y _ _ Try.eqGuardType49, by
    intro e w a b
    have key : ∀ (n : Nat) (k : IntKind) (x : Int), (Instr.checkKey e (n + 1) 3 (.int k x)).run Try.prog w = .ok () w := fun n k x => by
      rw [Instr.checkKey]; simp [Try.runUnderlying3]
    have : ∀ n : Nat, (Instr.checkKey e (n + 2) 49 (.agg #[.int .i64 a, .int .i64 b])).run Try.prog w = .ok () w := fun n => by
      rw [Instr.checkKey]; simp [Try.runUnderlying49, part, Try.isAgg3, key]
    exact this 9998⟩
theorem p50 : PairFacts Try.prog 50 := ⟨by
    intro w a b c d
    have h := run_equalIn_struct (P := Try.prog) w 9999 50 #[.int .i64 a, .int .i64 b] #[.int .i64 c, .int .i64 d] (by unfold Program.fieldsOf; rw [Try.underlying50]) Try.stoodInHeld50
    unfold Op.equal Op.maxDepth
    rw [h]
    simp [Program.fieldsOf, Try.underlying50, Op.eqFields, part, Try.isAgg3, run_equalIn_int w _ 3 .i64 .i64 _ _ Try.underlying3]
    by_cases h1 : a = c <;> by_cases h2 : b = d <;> simp [h1, h2], by
    intro op x y w a b c d
    exact run_eqGuard_agg w op 50 x y _ _ Try.eqGuardType50, by
    intro e w a b
    have key : ∀ (n : Nat) (k : IntKind) (x : Int), (Instr.checkKey e (n + 1) 3 (.int k x)).run Try.prog w = .ok () w := fun n k x => by
      rw [Instr.checkKey]; simp [Try.runUnderlying3]
    have : ∀ n : Nat, (Instr.checkKey e (n + 2) 50 (.agg #[.int .i64 a, .int .i64 b])).run Try.prog w = .ok () w := fun n => by
      rw [Instr.checkKey]; simp [Try.runUnderlying50, part, Try.isAgg3, key]
    exact this 9998⟩
theorem g2 : GoodTI Try.prog 2 i2 := goodTI_of Try.underlying2 Try.type2 rfl (by kernel_rfl) (by kernel_rfl) (by intro h; cases h)
theorem g3 : GoodTI Try.prog 3 i3 := goodTI_of Try.underlying3 Try.type3 rfl (by kernel_rfl) (by kernel_rfl) (by intro h; cases h)
theorem g4 : GoodTI Try.prog 4 i4 := goodTI_of Try.underlying4 Try.type4 rfl (by kernel_rfl) (by kernel_rfl) (by intro h; cases h)
theorem g5 : GoodTI Try.prog 5 i5 := goodTI_of Try.underlying5 Try.type5 rfl (by kernel_rfl) (by kernel_rfl) (by intro h; cases h)
theorem g9 : GoodTI Try.prog 9 i9 := goodTI_of Try.underlying9 Try.type9 rfl (by kernel_rfl) (by kernel_rfl) (by intro h; cases h)
theorem g12 : GoodTI Try.prog 12 i12 := goodTI_of Try.underlying12 Try.type12 rfl (by kernel_rfl) (by kernel_rfl) (by intro h; cases h)
theorem g22 : GoodTI Try.prog 22 i22 := goodTI_of Try.underlying22 Try.type22 rfl (by kernel_rfl) (by kernel_rfl) (by intro h; cases h)
theorem g23 : GoodTI Try.prog 23 i23 := goodTI_of Try.underlying23 Try.type23 rfl (by kernel_rfl) (by kernel_rfl) (by intro h; cases h)
theorem g25 : GoodTI Try.prog 25 i25 := goodTI_of Try.underlying25 Try.type25 (matchStruct (.cons ⟨rfl, _, Try.type3, by kernel_rfl⟩ (.cons ⟨rfl, _, Try.type3, by kernel_rfl⟩ (.cons ⟨rfl, _, Try.type22, by kernel_rfl⟩ (.cons ⟨rfl, _, Try.type23, by kernel_rfl⟩ .nil))))) (by kernel_rfl) (by kernel_rfl) (by intro h; cases h)
theorem g26 : GoodTI Try.prog 26 i26 := goodTI_of Try.underlying26 Try.type26 rfl (by kernel_rfl) (by kernel_rfl) (by intro h; cases h)
theorem g27 : GoodTI Try.prog 27 i27 := goodTI_of Try.underlying27 Try.type27 ⟨_, _, _, rfl⟩ (by kernel_rfl) (by kernel_rfl) (by intro h; cases h)
theorem g28 : GoodTI Try.prog 28 i28 := goodTI_of Try.underlying28 Try.type28 rfl (by kernel_rfl) (by kernel_rfl) (by intro h; cases h)
theorem g29 : GoodTI Try.prog 29 i29 := goodTI_of Try.underlying29 Try.type29 ⟨_, _, _, rfl⟩ (by kernel_rfl) (by kernel_rfl) (by intro h; cases h)
theorem g30 : GoodTI Try.prog 30 i30 := goodTI_of Try.underlying30 Try.type30 ⟨_, _, _, rfl⟩ (by kernel_rfl) (by kernel_rfl) (by intro h; cases h)
theorem g31 : GoodTI Try.prog 31 i31 := goodTI_of Try.underlying31 Try.type31 ⟨_, _, _, rfl⟩ (by kernel_rfl) (by kernel_rfl) (by intro h; cases h)
theorem g32 : GoodTI Try.prog 32 i32 := goodTI_of Try.underlying32 Try.type32 ⟨_, _, _, rfl⟩ (by kernel_rfl) (by kernel_rfl) (by intro h; cases h)
theorem g34 : GoodTI Try.prog 34 i34 := goodTI_of Try.underlying34 Try.type34 ⟨_, _, _, rfl⟩ (by kernel_rfl) (by kernel_rfl) (by intro h; cases h)
theorem g35 : GoodTI Try.prog 35 i35 := goodTI_of Try.underlying35 Try.type35 ⟨_, _, _, rfl⟩ (by kernel_rfl) (by kernel_rfl) (by intro h; cases h)
theorem g36 : GoodTI Try.prog 36 i36 := goodTI_of Try.underlying36 Try.type36 ⟨_, _, _, rfl⟩ (by kernel_rfl) (by kernel_rfl) (by intro h; cases h)
theorem g38 : GoodTI Try.prog 38 i38 := goodTI_of Try.underlying38 Try.type38 ⟨_, _, _, rfl⟩ (by kernel_rfl) (by kernel_rfl) (by intro h; cases h)
theorem g39 : GoodTI Try.prog 39 i39 := goodTI_of Try.underlying39 Try.type39 rfl (by kernel_rfl) (by kernel_rfl) (by intro h; cases h)
theorem g41 : GoodTI Try.prog 41 i41 := goodTI_of Try.underlying41 Try.type41 ⟨_, _, _, rfl⟩ (by kernel_rfl) (by kernel_rfl) (by intro h; cases h)
theorem g42 : GoodTI Try.prog 42 i42 := goodTI_of Try.underlying42 Try.type42 ⟨_, _, _, rfl⟩ (by kernel_rfl) (by kernel_rfl) (by intro h; cases h)
theorem g43 : GoodTI Try.prog 43 i43 := goodTI_of Try.underlying43 Try.type43 ⟨_, _, _, rfl⟩ (by kernel_rfl) (by kernel_rfl) (by intro h; cases h)
theorem g44 : GoodTI Try.prog 44 i44 := goodTI_of Try.underlying44 Try.type44 ⟨_, _, _, rfl⟩ (by kernel_rfl) (by kernel_rfl) (by intro h; cases h)
theorem g45 : GoodTI Try.prog 45 i45 := goodTI_of Try.underlying45 Try.type45 rfl (by kernel_rfl) (by kernel_rfl) (by intro h; cases h)
theorem g47 : GoodTI Try.prog 47 i47 := goodTI_of Try.underlying47 Try.type47 ⟨_, _, _, rfl⟩ (by kernel_rfl) (by kernel_rfl) (by intro h; cases h)
theorem g48 : GoodTI Try.prog 48 i48 := goodTI_of Try.underlying48 Try.type48 ⟨_, _, _, rfl⟩ (by kernel_rfl) (by kernel_rfl) (by intro h; cases h)
theorem g49 : GoodTI Try.prog 49 i49 := goodTI_of Try.underlying49 Try.type49 (matchStruct (.cons ⟨rfl, _, Try.type3, by kernel_rfl⟩ (.cons ⟨rfl, _, Try.type3, by kernel_rfl⟩ .nil))) (by kernel_rfl) (by kernel_rfl) (fun _ => p49)
theorem g50 : GoodTI Try.prog 50 i50 := goodTI_of Try.underlying50 Try.type50 (matchStruct (.cons ⟨rfl, _, Try.type3, by kernel_rfl⟩ (.cons ⟨rfl, _, Try.type3, by kernel_rfl⟩ .nil))) (by kernel_rfl) (by kernel_rfl) (fun _ => p50)
theorem g51 : GoodTI Try.prog 51 i51 := goodTI_of Try.underlying51 Try.type51 ⟨_, _, _, rfl⟩ (by kernel_rfl) (by kernel_rfl) (by intro h; cases h)
theorem g52 : GoodTI Try.prog 52 i52 := goodTI_of Try.underlying52 Try.type52 ⟨_, _, _, rfl⟩ (by kernel_rfl) (by kernel_rfl) (by intro h; cases h)
theorem g53 : GoodTI Try.prog 53 i53 := goodTI_of Try.underlying53 Try.type53 ⟨_, _, _, rfl⟩ (by kernel_rfl) (by kernel_rfl) (by intro h; cases h)
theorem g54 : GoodTI Try.prog 54 i54 := goodTI_of Try.underlying54 Try.type54 ⟨_, _, _, rfl⟩ (by kernel_rfl) (by kernel_rfl) (by intro h; cases h)
theorem g55 : GoodTI Try.prog 55 i55 := goodTI_of Try.underlying55 Try.type55 ⟨_, _, _, rfl⟩ (by kernel_rfl) (by kernel_rfl) (by intro h; cases h)
theorem g56 : GoodTI Try.prog 56 i56 := goodTI_of Try.underlying56 Try.type56 ⟨_, _, _, rfl⟩ (by kernel_rfl) (by kernel_rfl) (by intro h; cases h)
theorem g57 : GoodTI Try.prog 57 i57 := goodTI_of Try.underlying57 Try.type57 ⟨_, _, _, rfl⟩ (by kernel_rfl) (by kernel_rfl) (by intro h; cases h)
theorem g58 : GoodTI Try.prog 58 i58 := goodTI_of Try.underlying58 Try.type58 ⟨_, _, _, rfl⟩ (by kernel_rfl) (by kernel_rfl) (by intro h; cases h)
theorem g59 : GoodTI Try.prog 59 i59 := goodTI_of Try.underlying59 Try.type59 ⟨_, _, _, rfl⟩ (by kernel_rfl) (by kernel_rfl) (by intro h; cases h)
theorem g60 : GoodTI Try.prog 60 i60 := goodTI_of Try.underlying60 Try.type60 ⟨_, _, _, rfl⟩ (by kernel_rfl) (by kernel_rfl) (by intro h; cases h)
theorem g61 : GoodTI Try.prog 61 i61 := goodTI_of Try.underlying61 Try.type61 ⟨_, _, _, rfl⟩ (by kernel_rfl) (by kernel_rfl) (by intro h; cases h)
theorem g62 : GoodTI Try.prog 62 i62 := goodTI_of Try.underlying62 Try.type62 ⟨_, _, _, rfl⟩ (by kernel_rfl) (by kernel_rfl) (by intro h; cases h)
theorem g63 : GoodTI Try.prog 63 i63 := goodTI_of Try.underlying63 Try.type63 ⟨_, _, _, rfl⟩ (by kernel_rfl) (by kernel_rfl) (by intro h; cases h)
theorem g64 : GoodTI Try.prog 64 i64 := goodTI_of Try.underlying64 Try.type64 ⟨_, _, _, rfl⟩ (by kernel_rfl) (by kernel_rfl) (by intro h; cases h)
theorem g65 : GoodTI Try.prog 65 i65 := goodTI_of Try.underlying65 Try.type65 ⟨_, _, _, rfl⟩ (by kernel_rfl) (by kernel_rfl) (by intro h; cases h)
theorem g66 : GoodTI Try.prog 66 i66 := goodTI_of Try.underlying66 Try.type66 rfl (by kernel_rfl) (by kernel_rfl) (by intro h; cases h)
theorem g67 : GoodTI Try.prog 67 i67 := goodTI_of Try.underlying67 Try.type67 (matchStruct (.cons ⟨rfl, _, Try.type39, by kernel_rfl⟩ (.cons ⟨rfl, _, Try.type66, by kernel_rfl⟩ .nil))) (by kernel_rfl) (by kernel_rfl) (by intro h; cases h)
theorem g68 : GoodTI Try.prog 68 i68 := goodTI_of Try.underlying68 Try.type68 (matchStruct (.cons ⟨rfl, _, Try.type39, by kernel_rfl⟩ (.cons ⟨rfl, _, Try.type66, by kernel_rfl⟩ .nil))) (by kernel_rfl) (by kernel_rfl) (by intro h; cases h)
theorem g69 : GoodTI Try.prog 69 i69 := goodTI_of Try.underlying69 Try.type69 ⟨_, _, _, rfl⟩ (by kernel_rfl) (by kernel_rfl) (by intro h; cases h)
theorem g70 : GoodTI Try.prog 70 i70 := goodTI_of Try.underlying70 Try.type70 ⟨_, _, _, rfl⟩ (by kernel_rfl) (by kernel_rfl) (by intro h; cases h)
theorem g71 : GoodTI Try.prog 71 i71 := goodTI_of Try.underlying71 Try.type71 ⟨_, _, _, rfl⟩ (by kernel_rfl) (by kernel_rfl) (by intro h; cases h)
theorem g72 : GoodTI Try.prog 72 i72 := goodTI_of Try.underlying72 Try.type72 ⟨_, _, _, rfl⟩ (by kernel_rfl) (by kernel_rfl) (by intro h; cases h)
theorem g73 : GoodTI Try.prog 73 i73 := goodTI_of Try.underlying73 Try.type73 rfl (by kernel_rfl) (by kernel_rfl) (by intro h; cases h)
theorem g74 : GoodTI Try.prog 74 i74 := goodTI_of Try.underlying74 Try.type74 (matchStruct (.cons ⟨rfl, _, Try.type39, by kernel_rfl⟩ (.cons ⟨rfl, _, Try.type26, by kernel_rfl⟩ (.cons ⟨rfl, _, Try.type26, by kernel_rfl⟩ .nil)))) (by kernel_rfl) (by kernel_rfl) (by intro h; cases h)
theorem g75 : GoodTI Try.prog 75 i75 := goodTI_of Try.underlying75 Try.type75 (matchStruct (.cons ⟨rfl, _, Try.type39, by kernel_rfl⟩ (.cons ⟨rfl, _, Try.type26, by kernel_rfl⟩ (.cons ⟨rfl, _, Try.type26, by kernel_rfl⟩ .nil)))) (by kernel_rfl) (by kernel_rfl) (by intro h; cases h)
theorem g76 : GoodTI Try.prog 76 i76 := goodTI_of Try.underlying76 Try.type76 ⟨_, _, _, rfl⟩ (by kernel_rfl) (by kernel_rfl) (by intro h; cases h)
theorem g77 : GoodTI Try.prog 77 i77 := goodTI_of Try.underlying77 Try.type77 rfl (by kernel_rfl) (by kernel_rfl) (by intro h; cases h)
theorem g78 : GoodTI Try.prog 78 i78 := goodTI_of Try.underlying78 Try.type78 ⟨rfl, _, info_type Try.type3, by kernel_rfl⟩ (by kernel_rfl) (by kernel_rfl) (by intro h; cases h)
theorem g79 : GoodTI Try.prog 79 i79 := goodTI_of Try.underlying79 Try.type79 rfl (by kernel_rfl) (by kernel_rfl) (by intro h; cases h)
theorem g80 : GoodTI Try.prog 80 i80 := goodTI_of Try.underlying80 Try.type80 ⟨_, _, _, rfl⟩ (by kernel_rfl) (by kernel_rfl) (by intro h; cases h)
theorem g81 : GoodTI Try.prog 81 i81 := goodTI_of Try.underlying81 Try.type81 ⟨_, _, _, rfl⟩ (by kernel_rfl) (by kernel_rfl) (by intro h; cases h)
theorem g82 : GoodTI Try.prog 82 i82 := goodTI_of Try.underlying82 Try.type82 ⟨_, _, _, rfl⟩ (by kernel_rfl) (by kernel_rfl) (by intro h; cases h)
theorem g83 : GoodTI Try.prog 83 i83 := goodTI_of Try.underlying83 Try.type83 ⟨_, _, _, rfl⟩ (by kernel_rfl) (by kernel_rfl) (by intro h; cases h)
theorem g84 : GoodTI Try.prog 84 i84 := goodTI_of Try.underlying84 Try.type84 ⟨_, _, _, rfl⟩ (by kernel_rfl) (by kernel_rfl) (by intro h; cases h)
theorem g85 : GoodTI Try.prog 85 i85 := goodTI_of Try.underlying85 Try.type85 ⟨_, _, _, rfl⟩ (by kernel_rfl) (by kernel_rfl) (by intro h; cases h)
theorem g86 : GoodTI Try.prog 86 i86 := goodTI_of Try.underlying86 Try.type86 rfl (by kernel_rfl) (by kernel_rfl) (by intro h; cases h)
theorem g87 : GoodTI Try.prog 87 i87 := goodTI_of Try.underlying87 Try.type87 ⟨_, _, _, rfl⟩ (by kernel_rfl) (by kernel_rfl) (by intro h; cases h)
theorem g88 : GoodTI Try.prog 88 i88 := goodTI_of Try.underlying88 Try.type88 rfl (by kernel_rfl) (by kernel_rfl) (by intro h; cases h)
theorem g89 : GoodTI Try.prog 89 i89 := goodTI_of Try.underlying89 Try.type89 ⟨_, _, _, rfl⟩ (by kernel_rfl) (by kernel_rfl) (by intro h; cases h)
theorem g90 : GoodTI Try.prog 90 i90 := goodTI_of Try.underlying90 Try.type90 rfl (by kernel_rfl) (by kernel_rfl) (by intro h; cases h)
theorem g91 : GoodTI Try.prog 91 i91 := goodTI_of Try.underlying91 Try.type91 rfl (by kernel_rfl) (by kernel_rfl) (by intro h; cases h)
theorem g92 : GoodTI Try.prog 92 i92 := goodTI_of Try.underlying92 Try.type92 ⟨_, _, _, rfl⟩ (by kernel_rfl) (by kernel_rfl) (by intro h; cases h)
theorem g94 : GoodTI Try.prog 94 i94 := goodTI_of Try.underlying94 Try.type94 ⟨_, _, _, rfl⟩ (by kernel_rfl) (by kernel_rfl) (by intro h; cases h)
theorem g95 : GoodTI Try.prog 95 i95 := goodTI_of Try.underlying95 Try.type95 ⟨_, _, _, rfl⟩ (by kernel_rfl) (by kernel_rfl) (by intro h; cases h)
theorem g96 : GoodTI Try.prog 96 i96 := goodTI_of Try.underlying96 Try.type96 ⟨_, _, _, rfl⟩ (by kernel_rfl) (by kernel_rfl) (by intro h; cases h)
theorem g97 : GoodTI Try.prog 97 i97 := goodTI_of Try.underlying97 Try.type97 ⟨_, _, _, rfl⟩ (by kernel_rfl) (by kernel_rfl) (by intro h; cases h)
theorem g98 : GoodTI Try.prog 98 i98 := goodTI_of Try.underlying98 Try.type98 ⟨_, _, _, rfl⟩ (by kernel_rfl) (by kernel_rfl) (by intro h; cases h)
theorem g99 : GoodTI Try.prog 99 i99 := goodTI_of Try.underlying99 Try.type99 ⟨_, _, _, rfl⟩ (by kernel_rfl) (by kernel_rfl) (by intro h; cases h)
theorem g100 : GoodTI Try.prog 100 i100 := goodTI_of Try.underlying100 Try.type100 ⟨_, _, _, rfl⟩ (by kernel_rfl) (by kernel_rfl) (by intro h; cases h)
theorem g102 : GoodTI Try.prog 102 i102 := goodTI_of Try.underlying102 Try.type102 ⟨_, _, _, rfl⟩ (by kernel_rfl) (by kernel_rfl) (by intro h; cases h)
theorem g103 : GoodTI Try.prog 103 i103 := goodTI_of Try.underlying103 Try.type103 ⟨_, _, _, rfl⟩ (by kernel_rfl) (by kernel_rfl) (by intro h; cases h)
theorem g104 : GoodTI Try.prog 104 i104 := goodTI_of Try.underlying104 Try.type104 ⟨_, _, _, rfl⟩ (by kernel_rfl) (by kernel_rfl) (by intro h; cases h)
theorem g105 : GoodTI Try.prog 105 i105 := goodTI_of Try.underlying105 Try.type105 rfl (by kernel_rfl) (by kernel_rfl) (by intro h; cases h)
theorem g106 : GoodTI Try.prog 106 i106 := goodTI_of Try.underlying106 Try.type106 ⟨_, _, _, rfl⟩ (by kernel_rfl) (by kernel_rfl) (by intro h; cases h)
theorem g107 : GoodTI Try.prog 107 i107 := goodTI_of Try.underlying107 Try.type107 ⟨_, _, _, rfl⟩ (by kernel_rfl) (by kernel_rfl) (by intro h; cases h)
theorem g108 : GoodTI Try.prog 108 i108 := goodTI_of Try.underlying108 Try.type108 ⟨_, _, _, rfl⟩ (by kernel_rfl) (by kernel_rfl) (by intro h; cases h)
theorem g109 : GoodTI Try.prog 109 i109 := goodTI_of Try.underlying109 Try.type109 ⟨_, _, _, rfl⟩ (by kernel_rfl) (by kernel_rfl) (by intro h; cases h)
theorem g110 : GoodTI Try.prog 110 i110 := goodTI_of Try.underlying110 Try.type110 ⟨_, rfl⟩ (by kernel_rfl) (by kernel_rfl) (by intro h; cases h)
theorem g112 : GoodTI Try.prog 112 i112 := goodTI_of Try.underlying112 Try.type112 ⟨_, _, _, rfl⟩ (by kernel_rfl) (by kernel_rfl) (by intro h; cases h)
theorem g113 : GoodTI Try.prog 113 i113 := goodTI_of Try.underlying113 Try.type113 ⟨_, _, _, rfl⟩ (by kernel_rfl) (by kernel_rfl) (by intro h; cases h)
theorem g114 : GoodTI Try.prog 114 i114 := goodTI_of Try.underlying114 Try.type114 ⟨_, rfl⟩ (by kernel_rfl) (by kernel_rfl) (by intro h; cases h)
theorem g115 : GoodTI Try.prog 115 i115 := goodTI_of Try.underlying115 Try.type115 ⟨_, _, _, rfl⟩ (by kernel_rfl) (by kernel_rfl) (by intro h; cases h)
theorem g116 : GoodTI Try.prog 116 i116 := goodTI_of Try.underlying116 Try.type116 ⟨_, _, _, rfl⟩ (by kernel_rfl) (by kernel_rfl) (by intro h; cases h)
theorem g117 : GoodTI Try.prog 117 i117 := goodTI_of Try.underlying117 Try.type117 ⟨_, _, _, rfl⟩ (by kernel_rfl) (by kernel_rfl) (by intro h; cases h)
theorem g118 : GoodTI Try.prog 118 i118 := goodTI_of Try.underlying118 Try.type118 ⟨_, _, _, rfl⟩ (by kernel_rfl) (by kernel_rfl) (by intro h; cases h)
theorem g119 : GoodTI Try.prog 119 i119 := goodTI_of Try.underlying119 Try.type119 ⟨_, _, _, rfl⟩ (by kernel_rfl) (by kernel_rfl) (by intro h; cases h)
theorem g120 : GoodTI Try.prog 120 i120 := goodTI_of Try.underlying120 Try.type120 ⟨_, _, _, rfl⟩ (by kernel_rfl) (by kernel_rfl) (by intro h; cases h)
theorem g121 : GoodTI Try.prog 121 i121 := goodTI_of Try.underlying121 Try.type121 ⟨_, _, _, rfl⟩ (by kernel_rfl) (by kernel_rfl) (by intro h; cases h)
theorem g122 : GoodTI Try.prog 122 i122 := goodTI_of Try.underlying122 Try.type122 rfl (by kernel_rfl) (by kernel_rfl) (by intro h; cases h)
theorem g123 : GoodTI Try.prog 123 i123 := goodTI_of Try.underlying123 Try.type123 rfl (by kernel_rfl) (by kernel_rfl) (by intro h; cases h)
theorem g124 : GoodTI Try.prog 124 i124 := goodTI_of Try.underlying124 Try.type124 (matchStruct (.cons ⟨rfl, _, Try.type122, by kernel_rfl⟩ (.cons ⟨rfl, _, Try.type123, by kernel_rfl⟩ .nil))) (by kernel_rfl) (by kernel_rfl) (by intro h; cases h)
theorem g125 : GoodTI Try.prog 125 i125 := goodTI_of Try.underlying125 Try.type125 (matchStruct (.cons ⟨rfl, _, Try.type122, by kernel_rfl⟩ (.cons ⟨rfl, _, Try.type123, by kernel_rfl⟩ .nil))) (by kernel_rfl) (by kernel_rfl) (by intro h; cases h)
theorem g126 : GoodTI Try.prog 126 i126 := goodTI_of Try.underlying126 Try.type126 ⟨_, _, _, rfl⟩ (by kernel_rfl) (by kernel_rfl) (by intro h; cases h)
theorem g128 : GoodTI Try.prog 128 i128 := goodTI_of Try.underlying128 Try.type128 ⟨_, _, _, rfl⟩ (by kernel_rfl) (by kernel_rfl) (by intro h; cases h)
theorem g129 : GoodTI Try.prog 129 i129 := goodTI_of Try.underlying129 Try.type129 ⟨_, _, _, rfl⟩ (by kernel_rfl) (by kernel_rfl) (by intro h; cases h)
theorem g130 : GoodTI Try.prog 130 i130 := goodTI_of Try.underlying130 Try.type130 rfl (by kernel_rfl) (by kernel_rfl) (by intro h; cases h)
theorem g131 : GoodTI Try.prog 131 i131 := goodTI_of Try.underlying131 Try.type131 ⟨_, rfl⟩ (by kernel_rfl) (by kernel_rfl) (by intro h; cases h)
theorem g132 : GoodTI Try.prog 132 i132 := goodTI_of Try.underlying132 Try.type132 (matchStruct (.cons ⟨rfl, _, Try.type26, by kernel_rfl⟩ (.cons ⟨rfl, _, Try.type26, by kernel_rfl⟩ (.cons ⟨rfl, _, Try.type26, by kernel_rfl⟩ (.cons ⟨rfl, _, Try.type26, by kernel_rfl⟩ (.cons ⟨rfl, _, Try.type26, by kernel_rfl⟩ .nil)))))) (by kernel_rfl) (by kernel_rfl) (by intro h; cases h)
theorem g133 : GoodTI Try.prog 133 i133 := goodTI_of Try.underlying133 Try.type133 (matchStruct (.cons ⟨rfl, _, Try.type26, by kernel_rfl⟩ (.cons ⟨rfl, _, Try.type26, by kernel_rfl⟩ (.cons ⟨rfl, _, Try.type26, by kernel_rfl⟩ (.cons ⟨rfl, _, Try.type26, by kernel_rfl⟩ (.cons ⟨rfl, _, Try.type26, by kernel_rfl⟩ .nil)))))) (by kernel_rfl) (by kernel_rfl) (by intro h; cases h)
theorem g134 : GoodTI Try.prog 134 i134 := goodTI_of Try.underlying134 Try.type134 ⟨_, _, _, rfl⟩ (by kernel_rfl) (by kernel_rfl) (by intro h; cases h)
theorem g135 : GoodTI Try.prog 135 i135 := goodTI_of Try.underlying135 Try.type135 ⟨_, _, _, rfl⟩ (by kernel_rfl) (by kernel_rfl) (by intro h; cases h)
theorem g136 : GoodTI Try.prog 136 i136 := goodTI_of Try.underlying136 Try.type136 ⟨_, _, _, rfl⟩ (by kernel_rfl) (by kernel_rfl) (by intro h; cases h)
theorem g137 : GoodTI Try.prog 137 i137 := goodTI_of Try.underlying137 Try.type137 (matchStruct (.cons ⟨rfl, _, Try.type26, by kernel_rfl⟩ (.cons ⟨rfl, _, Try.type105, by kernel_rfl⟩ .nil))) (by kernel_rfl) (by kernel_rfl) (by intro h; cases h)
theorem g138 : GoodTI Try.prog 138 i138 := goodTI_of Try.underlying138 Try.type138 (matchStruct (.cons ⟨rfl, _, Try.type26, by kernel_rfl⟩ (.cons ⟨rfl, _, Try.type105, by kernel_rfl⟩ .nil))) (by kernel_rfl) (by kernel_rfl) (by intro h; cases h)
theorem g139 : GoodTI Try.prog 139 i139 := goodTI_of Try.underlying139 Try.type139 ⟨_, _, _, rfl⟩ (by kernel_rfl) (by kernel_rfl) (by intro h; cases h)
theorem g140 : GoodTI Try.prog 140 i140 := goodTI_of Try.underlying140 Try.type140 ⟨_, _, _, rfl⟩ (by kernel_rfl) (by kernel_rfl) (by intro h; cases h)
theorem g141 : GoodTI Try.prog 141 i141 := goodTI_of Try.underlying141 Try.type141 rfl (by kernel_rfl) (by kernel_rfl) (by intro h; cases h)
theorem g143 : GoodTI Try.prog 143 i143 := goodTI_of Try.underlying143 Try.type143 ⟨_, _, _, rfl⟩ (by kernel_rfl) (by kernel_rfl) (by intro h; cases h)
theorem g144 : GoodTI Try.prog 144 i144 := goodTI_of Try.underlying144 Try.type144 ⟨_, _, _, rfl⟩ (by kernel_rfl) (by kernel_rfl) (by intro h; cases h)
theorem g145 : GoodTI Try.prog 145 i145 := goodTI_of Try.underlying145 Try.type145 ⟨_, _, _, rfl⟩ (by kernel_rfl) (by kernel_rfl) (by intro h; cases h)
theorem g146 : GoodTI Try.prog 146 i146 := goodTI_of Try.underlying146 Try.type146 ⟨_, _, _, rfl⟩ (by kernel_rfl) (by kernel_rfl) (by intro h; cases h)
theorem g147 : GoodTI Try.prog 147 i147 := goodTI_of Try.underlying147 Try.type147 ⟨_, _, _, rfl⟩ (by kernel_rfl) (by kernel_rfl) (by intro h; cases h)
theorem g148 : GoodTI Try.prog 148 i148 := goodTI_of Try.underlying148 Try.type148 rfl (by kernel_rfl) (by kernel_rfl) (by intro h; cases h)
theorem g149 : GoodTI Try.prog 149 i149 := goodTI_of Try.underlying149 Try.type149 ⟨_, _, _, rfl⟩ (by kernel_rfl) (by kernel_rfl) (by intro h; cases h)
theorem g151 : GoodTI Try.prog 151 i151 := goodTI_of Try.underlying151 Try.type151 ⟨_, _, _, rfl⟩ (by kernel_rfl) (by kernel_rfl) (by intro h; cases h)
theorem g152 : GoodTI Try.prog 152 i152 := goodTI_of Try.underlying152 Try.type152 ⟨_, _, _, rfl⟩ (by kernel_rfl) (by kernel_rfl) (by intro h; cases h)
theorem g153 : GoodTI Try.prog 153 i153 := goodTI_of Try.underlying153 Try.type153 ⟨_, _, _, rfl⟩ (by kernel_rfl) (by kernel_rfl) (by intro h; cases h)
theorem g154 : GoodTI Try.prog 154 i154 := goodTI_of Try.underlying154 Try.type154 ⟨_, _, _, rfl⟩ (by kernel_rfl) (by kernel_rfl) (by intro h; cases h)
theorem g155 : GoodTI Try.prog 155 i155 := goodTI_of Try.underlying155 Try.type155 ⟨_, _, _, rfl⟩ (by kernel_rfl) (by kernel_rfl) (by intro h; cases h)
theorem g156 : GoodTI Try.prog 156 i156 := goodTI_of Try.underlying156 Try.type156 ⟨_, _, _, rfl⟩ (by kernel_rfl) (by kernel_rfl) (by intro h; cases h)
theorem g157 : GoodTI Try.prog 157 i157 := goodTI_of Try.underlying157 Try.type157 ⟨_, rfl⟩ (by kernel_rfl) (by kernel_rfl) (by intro h; cases h)
theorem g158 : GoodTI Try.prog 158 i158 := goodTI_of Try.underlying158 Try.type158 ⟨_, rfl⟩ (by kernel_rfl) (by kernel_rfl) (by intro h; cases h)
theorem g159 : GoodTI Try.prog 159 i159 := goodTI_of Try.underlying159 Try.type159 rfl (by kernel_rfl) (by kernel_rfl) (by intro h; cases h)
theorem g160 : GoodTI Try.prog 160 i160 := goodTI_of Try.underlying160 Try.type160 ⟨_, _, _, rfl⟩ (by kernel_rfl) (by kernel_rfl) (by intro h; cases h)
theorem g161 : GoodTI Try.prog 161 i161 := goodTI_of Try.underlying161 Try.type161 ⟨_, _, _, rfl⟩ (by kernel_rfl) (by kernel_rfl) (by intro h; cases h)
theorem g162 : GoodTI Try.prog 162 i162 := goodTI_of Try.underlying162 Try.type162 ⟨_, _, _, rfl⟩ (by kernel_rfl) (by kernel_rfl) (by intro h; cases h)
theorem g163 : GoodTI Try.prog 163 i163 := goodTI_of Try.underlying163 Try.type163 ⟨_, rfl⟩ (by kernel_rfl) (by kernel_rfl) (by intro h; cases h)
theorem g164 : GoodTI Try.prog 164 i164 := goodTI_of Try.underlying164 Try.type164 ⟨_, _, _, rfl⟩ (by kernel_rfl) (by kernel_rfl) (by intro h; cases h)
theorem g165 : GoodTI Try.prog 165 i165 := goodTI_of Try.underlying165 Try.type165 ⟨_, _, _, rfl⟩ (by kernel_rfl) (by kernel_rfl) (by intro h; cases h)
theorem g166 : GoodTI Try.prog 166 i166 := goodTI_of Try.underlying166 Try.type166 ⟨_, _, _, rfl⟩ (by kernel_rfl) (by kernel_rfl) (by intro h; cases h)
theorem g167 : GoodTI Try.prog 167 i167 := goodTI_of Try.underlying167 Try.type167 ⟨_, rfl⟩ (by kernel_rfl) (by kernel_rfl) (by intro h; cases h)
theorem g169 : GoodTI Try.prog 169 i169 := goodTI_of Try.underlying169 Try.type169 ⟨_, _, _, rfl⟩ (by kernel_rfl) (by kernel_rfl) (by intro h; cases h)
theorem g170 : GoodTI Try.prog 170 i170 := goodTI_of Try.underlying170 Try.type170 ⟨_, _, _, rfl⟩ (by kernel_rfl) (by kernel_rfl) (by intro h; cases h)
theorem goodT : GoodT Try.prog tab := by
  intro t ti h
  have key : ∀ l : List (TypeId × TI), (∀ x ∈ l, GoodTI Try.prog x.1 x.2) → ∀ ti, List.lookup t l = some ti → GoodTI Try.prog t ti := by
    intro l
    induction l with
    | nil => intro _ ti h; simp at h
    | cons x l ih =>
      intro hl ti h
      obtain ⟨k, v⟩ := x
      simp only [List.lookup] at h
      split at h
      · rename_i he
        simp only [Option.some.injEq] at h; subst h
        have he : t = k := by simpa using he
        subst he
        exact hl _ (List.mem_cons_self ..)
      · exact ih (fun x hx => hl x (List.mem_cons_of_mem _ hx)) ti h
  refine key tab.tis ?_ ti h
  exact cons_all g2 (cons_all g3 (cons_all g4 (cons_all g5 (cons_all g9 (cons_all g12 (cons_all g22 (cons_all g23 (cons_all g25 (cons_all g26 (cons_all g27 (cons_all g28 (cons_all g29 (cons_all g30 (cons_all g31 (cons_all g32 (cons_all g34 (cons_all g35 (cons_all g36 (cons_all g38 (cons_all g39 (cons_all g41 (cons_all g42 (cons_all g43 (cons_all g44 (cons_all g45 (cons_all g47 (cons_all g48 (cons_all g49 (cons_all g50 (cons_all g51 (cons_all g52 (cons_all g53 (cons_all g54 (cons_all g55 (cons_all g56 (cons_all g57 (cons_all g58 (cons_all g59 (cons_all g60 (cons_all g61 (cons_all g62 (cons_all g63 (cons_all g64 (cons_all g65 (cons_all g66 (cons_all g67 (cons_all g68 (cons_all g69 (cons_all g70 (cons_all g71 (cons_all g72 (cons_all g73 (cons_all g74 (cons_all g75 (cons_all g76 (cons_all g77 (cons_all g78 (cons_all g79 (cons_all g80 (cons_all g81 (cons_all g82 (cons_all g83 (cons_all g84 (cons_all g85 (cons_all g86 (cons_all g87 (cons_all g88 (cons_all g89 (cons_all g90 (cons_all g91 (cons_all g92 (cons_all g94 (cons_all g95 (cons_all g96 (cons_all g97 (cons_all g98 (cons_all g99 (cons_all g100 (cons_all g102 (cons_all g103 (cons_all g104 (cons_all g105 (cons_all g106 (cons_all g107 (cons_all g108 (cons_all g109 (cons_all g110 (cons_all g112 (cons_all g113 (cons_all g114 (cons_all g115 (cons_all g116 (cons_all g117 (cons_all g118 (cons_all g119 (cons_all g120 (cons_all g121 (cons_all g122 (cons_all g123 (cons_all g124 (cons_all g125 (cons_all g126 (cons_all g128 (cons_all g129 (cons_all g130 (cons_all g131 (cons_all g132 (cons_all g133 (cons_all g134 (cons_all g135 (cons_all g136 (cons_all g137 (cons_all g138 (cons_all g139 (cons_all g140 (cons_all g141 (cons_all g143 (cons_all g144 (cons_all g145 (cons_all g146 (cons_all g147 (cons_all g148 (cons_all g149 (cons_all g151 (cons_all g152 (cons_all g153 (cons_all g154 (cons_all g155 (cons_all g156 (cons_all g157 (cons_all g158 (cons_all g159 (cons_all g160 (cons_all g161 (cons_all g162 (cons_all g163 (cons_all g164 (cons_all g165 (cons_all g166 (cons_all g167 (cons_all g169 (cons_all g170 (nil_all)))))))))))))))))))))))))))))))))))))))))))))))))))))))))))))))))))))))))))))))))))))))))))))))))))))))))))))))))))))))))))))))))))))))))))))))
theorem goodP : GoodP Try.prog tab where
  types := goodT
  names := by
    intro f fn hf
    have h : (Try.prog.funcs.toList.all fun fn => !(fn.name == "runtime.NumGoroutine")) = true := by kernel_rfl
    have := List.all_eq_true.1 h fn (by rw [Array.mem_toList_iff]; exact Array.mem_of_getElem? hf)
    simpa using this
  mixed := by kernel_rfl
end Go.Proofs.Ytnkpjlhbojjneaa.VC
