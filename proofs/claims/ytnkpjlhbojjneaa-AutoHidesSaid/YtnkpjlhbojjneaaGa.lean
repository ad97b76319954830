/- How code of the given machine is turned into a proposition, part one. -/
import Derived.Below
import Derived.Calls
import Derived.Tactics
import Derived.Orders
import Derived.WalkKit
import Derived.Laws.BytesArg
import Derived.Laws.CopyRow
import Derived.Deep.OwnRows
import Derived.MapKept
/- Private memory: the actual world and the visible one. -/
namespace Go.Proofs.Ytnkpjlhbojjneaa.VC
open Go Go.RowKit

/-- What stands in the visible world where a private block lies. -/
def hid : Obj := .number ⟨0, 0, none⟩ true

/-- The actual world 'wa' is the visible world 'w' with the private blocks F. -/
structure Rel (F : List (Nat × Obj)) (w wa : World) : Prop where
  os : wa.os = w.os
  tape : wa.tape = w.tape
  output : wa.output = w.output
  size : w.heap.size ≤ wa.heap.size
  vis : ∀ (i : Nat) (o : Obj), w.heap[i]? = some o → o ≠ hid → wa.heap[i]? = some o
  loc : ∀ (b : Nat) (o : Obj), (b, o) ∈ F → wa.heap[b]? = some o
  cov : ∀ (b : Nat) (o : Obj), (b, o) ∈ F → ∀ o', w.heap[b]? = some o' → o' = hid
  nd : (F.map Prod.fst).Nodup

theorem Rel.nil (w : World) : Rel [] w w :=
  ⟨rfl, rfl, rfl, Nat.le_refl _, fun _ _ h _ => h, fun _ _ h => by simp at h, fun _ _ h => by simp at h, List.nodup_nil⟩

theorem cell_block {w : World} {a : Addr} {v : Value} (h : w.cell? a = some v) : ∃ c e f, w.heap[a.block]? = some (.cells c e f) ∧ a.spot.isSome = false ∧ c[a.off]? = some v := by
  unfold World.cell? at h
  split at h
  · rename_i c e f hb
    split at h
    · simp at h
    · rename_i hs
      exact ⟨c, e, f, hb, by simpa using hs, h⟩
  · simp at h

theorem cells_ne_hid (c : Array Value) (e : TypeId) (f : Nat × Nat) : Obj.cells c e f ≠ hid := by intro h; cases h
theorem map_ne_hid (c : Array MapEntry) (e : Nat) : Obj.map c e ≠ hid := by intro h; cases h

section
variable {F : List (Nat × Obj)} {w wa : World}
theorem Rel.same (h : Rel F w wa) {a : Addr} {v : Value} (hc : w.cell? a = some v) : wa.heap[a.block]? = w.heap[a.block]? := by
  obtain ⟨c, e, f, hb, _, _⟩ := cell_block hc
  rw [hb]; exact h.vis _ _ hb (cells_ne_hid _ _ _)
theorem Rel.cell (h : Rel F w wa) {a : Addr} {v : Value} (hc : w.cell? a = some v) : wa.cell? a = some v := by
  rw [World.cell?_of_block (w := w) (h.same hc)]; exact hc
theorem Rel.frozen (h : Rel F w wa) {a : Addr} {v : Value} (hc : w.cell? a = some v) : wa.frozen? a = w.frozen? a :=
  World.frozen?_of_block (w := w) (h.same hc)
theorem Rel.map (h : Rel F w wa) {r : Nat} {es : Array MapEntry} {k : Nat} (hm : w.heap[r]? = some (.map es k)) : wa.heap[r]? = some (.map es k) :=
  h.vis _ _ hm (map_ne_hid _ _)
theorem Rel.drew (h : Rel F w wa) : Rel F w wa.drew := ⟨h.os, h.tape, h.output, h.size, h.vis, h.loc, h.cov, h.nd⟩
theorem Rel.sub {F' : List (Nat × Obj)} (h : Rel F w wa) (hs : ∀ x ∈ F', x ∈ F) (hn : (F'.map Prod.fst).Nodup) : Rel F' w wa :=
  ⟨h.os, h.tape, h.output, h.size, h.vis, fun b o hb => h.loc b o (hs _ hb), fun b o hb => h.cov b o (hs _ hb), hn⟩
theorem Rel.lt (h : Rel F w wa) {b : Nat} {o : Obj} (hb : (b, o) ∈ F) : b < wa.heap.size := (Array.getElem?_eq_some_iff.1 (h.loc b o hb)).1

theorem Rel.set (h : Rel F w wa) {a : Addr} {v : Value} (hc : w.cell? a = some v) (u : Value) : Rel F (w.setCell a u) (wa.setCell a u) := by
  have hs := h.same hc
  obtain ⟨c, e, f, hb, _, _⟩ := cell_block hc
  refine ⟨h.os, h.tape, h.output, by simpa using h.size, fun i o hi hne => ?_, fun b o hm => ?_, fun b o hm o' ho' => ?_, h.nd⟩
  · by_cases hi' : i = a.block
    · subst hi'
      have : (wa.setCell a u).heap[a.block]? = (w.setCell a u).heap[a.block]? := by
        simp only [World.setCell, Array.getElem?_modify, if_true, hs]
      rw [this]; exact hi
    · rw [Below.heap_setCell _ _ _ _ hi'] at hi ⊢
      exact h.vis i o hi hne
  · have hne : b ≠ a.block := by
      intro hba; subst hba
      exact cells_ne_hid _ _ _ (h.cov _ _ hm _ hb)
    rw [Below.heap_setCell _ _ _ _ hne]; exact h.loc b o hm
  · have hne : b ≠ a.block := by
      intro hba; subst hba
      exact cells_ne_hid _ _ _ (h.cov _ _ hm _ hb)
    rw [Below.heap_setCell _ _ _ _ hne] at ho'; exact h.cov b o hm o' ho'

/-- A new private block. -/
theorem Rel.priv (h : Rel F w wa) (o : Obj) : Rel (F ++ [(wa.heap.size, o)]) w (wa.alloc o) := by
  refine ⟨h.os, h.tape, h.output, by have := h.size; simp; omega, fun i o' hi hne => ?_, fun b o' hm => ?_, fun b o' hm o2 ho2 => ?_, ?_⟩
  · have := h.vis i o' hi hne
    rw [Below.heap_alloc _ _ _ (Array.getElem?_eq_some_iff.1 this).1]; exact this
  · rcases List.mem_append.1 hm with hm | hm
    · rw [Below.heap_alloc _ _ _ (h.lt hm)]; exact h.loc _ _ hm
    · simp only [List.mem_singleton, Prod.mk.injEq] at hm
      obtain ⟨rfl, rfl⟩ := hm
      exact heap_alloc_new _ _
  · rcases List.mem_append.1 hm with hm | hm
    · exact h.cov _ _ hm _ ho2
    · simp only [List.mem_singleton, Prod.mk.injEq] at hm
      obtain ⟨rfl, rfl⟩ := hm
      have := (Array.getElem?_eq_some_iff.1 ho2).1
      have := h.size
      omega
  · simp only [List.map_append, List.map_cons, List.map_nil]
    rw [List.nodup_append]
    refine ⟨h.nd, by simp, fun x hx y hy => ?_⟩
    simp only [List.mem_singleton] at hy
    subst hy
    obtain ⟨⟨b, o'⟩, hm, rfl⟩ := List.mem_map.1 hx
    have := h.lt hm
    simp; omega

/-- A new visible block: number b, in the new world w'. -/
structure NewV (w : World) (o : Obj) (b : Nat) (w' : World) : Prop where
  os : w'.os = w.os
  tape : w'.tape = w.tape
  output : w'.output = w.output
  lo : w.heap.size ≤ b
  size : w'.heap.size = b + 1
  new : w'.heap[b]? = some o
  old : ∀ i, i < w.heap.size → w'.heap[i]? = w.heap[i]?

theorem Rel.new (h : Rel F w wa) (o : Obj) : ∃ w', NewV w o wa.heap.size w' ∧ Rel F w' (wa.alloc o) := by
  have hsz := h.size
  refine ⟨{ w with heap := (w.heap ++ Array.replicate (wa.heap.size - w.heap.size) hid).push o }, ⟨rfl, rfl, rfl, h.size, ?_, ?_, fun i hi => ?_⟩, ⟨h.os, h.tape, h.output, ?_, fun i o' hi hne => ?_, fun b o' hm => ?_, fun b o' hm o2 ho2 => ?_, h.nd⟩⟩
  · simp; omega
  · have e : wa.heap.size = (w.heap ++ Array.replicate (wa.heap.size - w.heap.size) hid).size := by simp; omega
    show ((w.heap ++ Array.replicate (wa.heap.size - w.heap.size) hid).push o)[wa.heap.size]? = some o
    rw [Array.getElem?_push, if_pos e]
  · show ((w.heap ++ Array.replicate (wa.heap.size - w.heap.size) hid).push o)[i]? = _
    rw [Array.getElem?_push, if_neg (by simp; omega), Array.getElem?_append_left hi]
  · simp; omega
  · have hi : ((w.heap ++ Array.replicate (wa.heap.size - w.heap.size) hid).push o)[i]? = some o' := hi
    rw [Array.getElem?_push] at hi
    split at hi
    · rename_i e
      have e : i = wa.heap.size := by rw [e]; simp; omega
      rw [e, ← hi]
      exact heap_alloc_new _ _
    · rcases Nat.lt_or_ge i w.heap.size with hl | hl
      · rw [Array.getElem?_append_left hl] at hi
        have := h.vis i o' hi hne
        rw [Below.heap_alloc _ _ _ (Array.getElem?_eq_some_iff.1 this).1]; exact this
      · rw [Array.getElem?_append_right hl, Array.getElem?_replicate] at hi
        split at hi
        · simp only [Option.some.injEq] at hi
          exact absurd hi.symm hne
        · simp at hi
  · rw [Below.heap_alloc _ _ _ (h.lt hm)]; exact h.loc _ _ hm
  · have hlt := h.lt hm
    have ho2 : ((w.heap ++ Array.replicate (wa.heap.size - w.heap.size) hid).push o)[b]? = some o2 := ho2
    rw [Array.getElem?_push, if_neg (by simp; omega)] at ho2
    rcases Nat.lt_or_ge b w.heap.size with hl | hl
    · rw [Array.getElem?_append_left hl] at ho2
      exact h.cov _ _ hm _ ho2
    · rw [Array.getElem?_append_right hl, Array.getElem?_replicate] at ho2
      split at ho2
      · simp only [Option.some.injEq] at ho2; exact ho2.symm
      · simp at ho2

/-- A visible object that is no row of cells (a map) is written. -/
def setObjAt (w : World) (r : Nat) (o : Obj) : World := { w with heap := w.heap.setIfInBounds r o }
theorem Rel.setMap (h : Rel F w wa) {r : Nat} {o1 o2 : Obj} (hm : w.heap[r]? = some o1) (h1 : o1 ≠ hid) : Rel F (setObjAt w r o2) (setObjAt wa r o2) := by
  have hv := h.vis _ _ hm h1
  have hlt := (Array.getElem?_eq_some_iff.1 hm).1
  have hlta := (Array.getElem?_eq_some_iff.1 hv).1
  refine ⟨h.os, h.tape, h.output, by simpa [setObjAt] using h.size, fun i o hi hne => ?_, fun b o hb => ?_, fun b o hb o' ho' => ?_, h.nd⟩
  · simp only [setObjAt, Array.getElem?_setIfInBounds] at hi ⊢
    split at hi
    · rename_i e; subst e
      rw [if_pos rfl, if_pos hlta]; simpa [hlt] using hi
    · rename_i e
      rw [if_neg e]; exact h.vis i o hi hne
  · have hne : r ≠ b := fun e => by subst e; exact h1 (h.cov _ _ hb _ hm)
    simp only [setObjAt, Array.getElem?_setIfInBounds]
    rw [if_neg hne]; exact h.loc b o hb
  · have hne : r ≠ b := fun e => by subst e; exact h1 (h.cov _ _ hb _ hm)
    simp only [setObjAt, Array.getElem?_setIfInBounds] at ho'
    rw [if_neg hne] at ho'; exact h.cov b o hb o' ho'
end
end Go.Proofs.Ytnkpjlhbojjneaa.VC

/- A verification condition for each function: the definitions. -/
namespace Go.Proofs.Ytnkpjlhbojjneaa.VC
open Go Go.RowKit

inductive TD where
  | int (k : IntKind) | bool | str | slice (e : TypeId) | map (k e : TypeId) | ptr | func | struct (offs : List Nat) | array (n : Nat) (e : TypeId)
inductive CT where
  | int (k : IntKind) | bool | str | slice | map | ptr | func
inductive Sh where
  | one (c : CT) | agg (cs : List CT) | tup (l : List Sh)
structure TI where
  d : TD
  size : Nat
  bytes : Nat
  zero : List Value
  cts : List CT
structure Tab where
  tis : List (TypeId × TI)
  shs : List (TypeId × Sh)
def Tab.get (T : Tab) (t : TypeId) : Option TI := List.lookup t T.tis
def Tab.shape (T : Tab) (t : TypeId) : Option Sh := List.lookup t T.shs
def TI.agg (i : TI) : Bool := match i.d with | .struct _ | .array _ _ => true | _ => false
def TI.isPair (i : TI) : Bool := match i.d, i.cts with | .struct [0, 1], [.int .i64, .int .i64] => true | _, _ => false
def mkv (agg : Bool) (cs : List Value) : Value := match agg with | true => .agg cs.toArray | false => (match cs with | [] => undef | c :: _ => c)

/-- A value of the walk: a value, or the address of a private block. -/
inductive SV where
  | v (x : Value)
  | p (i b off : Nat)
structure LB where
  b : Nat
  t : TypeId
  cs : List SV
def real : SV → Value
  | .v x => x
  | .p _ b off => .pointer (some ⟨b, off, none⟩)
def LB.obj (l : LB) : Obj := .cells (l.cs.map real).toArray l.t (0, 0)
def raw (L : List LB) : List (Nat × Obj) := L.map fun l => (l.b, l.obj)
abbrev Env := List (Nat × SV)
def evE (env : Env) : Operand → Option SV
  | .tmp t => List.lookup t env
  | .const v => some (.v v)
  | .global _ => none
  | .func f => some (.v (.func (.func f) #[] #[]))
def evs (env : Env) : List Operand → Option (List SV)
  | [] => some []
  | x :: xs => match evE env x, evs env xs with
    | some s, some l => some (s :: l)
    | _, _ => none
def sCells : SV → List SV
  | .v (.agg cs) => cs.toList.map .v
  | s => [s]

/-! shapes -/
def exC : CT → (Value → Prop) → Prop
  | .int k, F => ∃ n : Int, F (.int k n)
  | .bool, F => ∃ b : Bool, F (.bool b)
  | .str, F => ∃ s : ByteArray, F (.string s)
  | .slice, F => ∃ (A : Option Addr) (n c : Nat), F (.slice A n c)
  | .map, F => ∃ r : Option Nat, F (.map r)
  | .ptr, F => ∃ a : Option Addr, F (.pointer a)
  | .func, F => ∃ (f : Fn) (x y : Array Value), F (.func f x y)
def exCs : List CT → (List Value → Prop) → Prop
  | [], F => F []
  | c :: cs, F => exC c fun v => exCs cs fun vs => F (v :: vs)
def exCss : List (List CT) → (List (List Value) → Prop) → Prop
  | [], F => F []
  | c :: cs, F => exCs c fun v => exCss cs fun vs => F (v :: vs)
mutual
def exSh : Sh → (Value → Prop) → Prop
  | .one c, F => exC c F
  | .agg cs, F => exCs cs fun vs => F (.agg vs.toArray)
  | .tup l, F => exShs l fun vs => F (.tuple vs.toArray)
def exShs : List Sh → (List Value → Prop) → Prop
  | [], F => F []
  | c :: cs, F => exSh c fun v => exShs cs fun vs => F (v :: vs)
end
/-- Functions of the values of a shape. -/
def CurC : CT → Type 1 → Type 1
  | .int _, α => Int → α
  | .bool, α => Bool → α
  | .str, α => ByteArray → α
  | .slice, α => Option Addr → Nat → Nat → α
  | .map, α => Option Nat → α
  | .ptr, α => Option Addr → α
  | .func, α => Fn → Array Value → Array Value → α

/-! memory -/
def at_ (a : Addr) : Nat → Addr
  | 0 => a
  | i + 1 => a.add (i + 1)
theorem at_eq (a : Addr) (i : Nat) : at_ a i = a.add i := by cases i <;> simp [at_, Addr.add]
def CellsAt (w : World) (a : Addr) : Nat → List Value → Prop → Prop
  | _, [], p => p
  | i, v :: vs, p => w.cell? (at_ a i) = some v ∧ CellsAt w a (i + 1) vs p
def LdV (w : World) (a : Addr) (cts : List CT) (K : List Value → Prop) : Prop := exCs cts fun vs => CellsAt w a 0 vs (K vs)
def one1 : Value → Bool
  | .agg _ => false
  | .tuple _ => false
  | _ => true
/-- A cell of visible memory is written. -/
def SetK (w : World) (a : Addr) (x : Value) (K : World → Prop) : Prop := (∃ o, w.cell? a = some o) ∧ w.frozen? a = false ∧ one1 x = true ∧ ∀ w', w' = w.setCell a x → K w'
def StV (a : Addr) (K : World → Prop) : Nat → List Value → World → Prop
  | _, [], w => K w
  | i, x :: xs, w => SetK w (at_ a i) x fun w' => StV a K (i + 1) xs w'
def IxV (A : Option Addr) (n size : Nat) (i : Int) (K : Addr → Prop) : Prop := ∃ ad, A = some ad ∧ 0 ≤ i ∧ i < n ∧ K (ad.add (i.toNat * size))
def NewK (w : World) (o : Obj) (K : Nat → World → Prop) : Prop := ∀ b w', NewV w o b w' → K b w'
/-- n cells from an address on. -/
def Row (w : World) (A : Option Addr) (xs : List Value) : Prop := xs ≠ [] → ∃ ad, A = some ad ∧ ∀ j v, xs[j]? = some v → w.cell? (ad.add j) = some v
def rep (n : Nat) (zs : List Value) : List Value := (Builtin.zeroCells zs.toArray n).toList
/-- append(s, x...): s = (A, n, c), x = (B, m). -/
def AppK (bytes size : Nat) (zs : List Value) (e : TypeId) (A : Option Addr) (n c : Nat) (B : Option Addr) (m : Nat) (w : World) (K : Option Addr → Nat → Nat → World → Prop) : Prop :=
  ∃ olds news : List Value, olds.length = n * size ∧ news.length = m * size ∧ Row w A olds ∧ Row w B news ∧ (∀ v ∈ news, one1 v = true) ∧ (n + m) * bytes ≤ 140737488355328 ∧
    (n + m ≤ c → ((m = 0 ∧ K A n c w) ∨ ∃ ad, A = some ad ∧ StV (ad.add (n * size)) (fun w' => K A (n + m) c w') 0 news w)) ∧
    (c < n + m → ∀ cap, n + m ≤ cap → NewK w (.cells (olds ++ news ++ rep (cap - (n + m)) zs).toArray e (0, 0)) fun b w' => K (some ⟨b, 0, none⟩) (n + m) cap w')

/-! maps: keys of one kind -/
inductive KT where
  | int | str | pair
def KT.ok : KT → Value → Bool
  | .int, .int .i64 _ => true
  | .str, .string _ => true
  | .pair, .agg cs => (match cs.toList with | [.int .i64 _, .int .i64 _] => true | _ => false)
  | _, _ => false
def KT.eq : KT → Value → Value → Bool
  | .int, .int _ a, .int _ b => a == b
  | .str, .string a, .string b => a == b
  | .pair, .agg x, .agg y => (match x.toList, y.toList with | [.int _ a, .int _ b], [.int _ c, .int _ d] => a == c && b == d | _, _ => false)
  | _, _, _ => false
def MapAt (w : World) (kt : KT) (r : Nat) (kvs : List (Value × Value)) : Prop :=
  ∃ es clock, w.heap[r]? = some (.map es clock) ∧ es.toList.map (fun e => (e.key, e.val)) = kvs ∧ ∀ kv ∈ kvs, kt.ok kv.1 = true
def MapOpt (w : World) (kt : KT) (r : Option Nat) (kvs : List (Value × Value)) : Prop := match r with | none => kvs = [] | some r => MapAt w kt r kvs
def assoc (kt : KT) (kvs : List (Value × Value)) (k : Value) : Option Value := (kvs.find? fun kv => kt.eq k kv.1).map Prod.snd
/-- The entry of a key is written, or one is added behind all. -/
def assocSet (kt : KT) (k x : Value) : List (Value × Value) → List (Value × Value)
  | [] => [(k, x)]
  | kv :: r => match kt.eq k kv.1 with | true => (k, x) :: r | false => kv :: assocSet kt k x r
structure MapUpd (w : World) (kt : KT) (r : Nat) (kvs : List (Value × Value)) (w' : World) : Prop where
  os : w'.os = w.os
  tape : w'.tape = w.tape
  output : w'.output = w.output
  size : w'.heap.size = w.heap.size
  map : MapAt w' kt r kvs
  old : ∀ i, i ≠ r → w'.heap[i]? = w.heap[i]?

/-! calls -/
abbrev Imp := List (Nat × TypeId × List Value)
def rawI (I : Imp) : List (Nat × Obj) := I.map fun x => (x.1, .cells x.2.2.toArray x.2.1 (0, 0))
def setI : Imp → List (List Value) → Imp
  | (b, t, _) :: I, c :: css => (b, t, c) :: setI I css
  | I, _ => I
/-- A call in the visible world w, to which the blocks I are lent: it returns, in a visible world again, whatever else is private. -/
def CallsI (P : Program) (f : FuncId) (args : List Value) (w : World) (I : Imp) (R : Value → List (List Value) → World → Prop) : Prop :=
  ∀ F wa, Rel (rawI I ++ F) w wa → Calls P f args.toArray wa fun e wa' => ∃ v css w', e = .returned v ∧ css.length = I.length ∧ Rel (rawI (setI I css) ++ F) w' wa' ∧ R v css w'
/-- lend: the places in L, and whether the callee may write there. -/
def lentI (L : List LB) : List (Nat × Bool) → Imp
  | [] => []
  | (i, _) :: r => match L[i]? with | some l => (l.b, l.t, l.cs.map real) :: lentI L r | none => []
def lentSh (T : Tab) (L : List LB) : List (Nat × Bool) → List (List CT)
  | [] => []
  | (i, true) :: r => (match L[i]? with | some l => (match T.get l.t with | some ti => ti.cts | none => []) | none => []) :: lentSh T L r
  | (_, false) :: r => lentSh T L r
/-- the blocks' cells behind the call, where xs are those that were written -/
def lentCs (L : List LB) : List (Nat × Bool) → List (List Value) → List (List Value)
  | [], _ => []
  | (_, true) :: r, x :: xs => x :: lentCs L r xs
  | (_, true) :: r, [] => [] :: lentCs L r []
  | (i, false) :: r, xs => (match L[i]? with | some l => l.cs.map real | none => []) :: lentCs L r xs
def lentL (L : List LB) : List (Nat × Bool) → List (List Value) → List LB
  | [], _ => L
  | (i, true) :: r, x :: xs => (match L[i]? with | some l => lentL (L.set i ⟨l.b, l.t, x.map .v⟩) r xs | none => L)
  | (_, true) :: _, [] => L
  | (_, false) :: r, xs => lentL L r xs
def goodLend (n : Nat) (J : List (Nat × Bool)) : Bool := (J.map Prod.fst).all (· < n) && decide (J.map Prod.fst).Nodup
def CallK (P : Program) (T : Tab) (sh : Sh) (f : FuncId) (args : List Value) (J : List (Nat × Bool)) (L : List LB) (w : World) (K : SV → List LB → World → Prop) : Prop :=
  match goodLend L.length J with
  | true => CallsI P f args w (lentI L J) fun v css w' => exSh sh fun x => v = x ∧ exCss (lentSh T L J) fun xs => css = lentCs L J xs ∧ K (.v x) (lentL L J xs) w'
  | false => False

/-! operations -/
def pick2 (b : Bool) (x y : Prop) : Prop := match b with | true => x | false => y
def intOp (op : BinOp) (k : IntKind) (a b : Int) : Option Value :=
  match op with
  | .add => some (.int k (k.wrap (a + b)))
  | .sub => some (.int k (k.wrap (a - b)))
  | .mul => some (.int k (k.wrap (a * b)))
  | .eql => some (.bool (a == b))
  | .neq => some (.bool (a != b))
  | .lss => some (.bool (decide (a < b)))
  | .leq => some (.bool (decide (a ≤ b)))
  | .gtr => some (.bool (decide (a > b)))
  | .geq => some (.bool (decide (a ≥ b)))
  | _ => none
def isEq : BinOp → Option Bool
  | .eql => some true
  | .neq => some false
  | _ => none
def eqB (e b : Bool) : Bool := match e with | true => b | false => !b
/-- a shift by eight to the right -/
def shrK (k : IntKind) (a b : Int) (K : Value → Prop) : Prop := match decide (b = 8), k with | true, .i64 => K (.int .i64 (a / 256)) | _, _ => False
def binK (T : Tab) (op : BinOp) (t : TypeId) (x y : Value) (K : Value → Prop) : Prop :=
  match x, y with
  | .int k a, .int k' b =>
    match op with
    | .shr => shrK k a b K
    | _ => (match decide (k = k') with
    | true => (match op with
      | .quo => b ≠ 0 ∧ K (.int k (k.wrap (a.tdiv b)))
      | .rem => b ≠ 0 ∧ K (.int k (a.tmod b))
      | _ => (match intOp op k a b with | some v => K v | none => False))
    | false => False)
  | .bool a, .bool b => (match isEq op, (T.get t).map TI.d with | some e, some .bool => K (.bool (eqB e (a == b))) | _, _ => False)
  | .slice A _ _, .slice none _ _ => (match isEq op, (T.get t).map TI.d with | some e, some (.slice _) => K (.bool (eqB e A.isNone)) | _, _ => False)
  | .map A, .map none => (match isEq op, (T.get t).map TI.d with | some e, some (.map _ _) => K (.bool (eqB e A.isNone)) | _, _ => False)
  | .agg xs, .agg ys =>
    (match isEq op, (T.get t).map TI.isPair, xs.toList, ys.toList with
     | some e, some true, [.int .i64 a, .int .i64 b], [.int .i64 c, .int .i64 d] => K (.bool (eqB e (a == c && b == d)))
     | _, _, _, _ => False)
  | _, _ => False
def splice (cs : List SV) (off : Nat) (xs : List SV) : List SV := cs.take off ++ xs ++ cs.drop (off + xs.length)
def buildCells (offs : List Nat) (env : Env) : List (Nat × Operand) → List Value → Option (List Value)
  | [], cs => some cs
  | (i, o) :: r, cs => match offs[i]?, evE env o with
    | some off, some (.v x) => (match one1 x, decide (off < cs.length) with | true, true => buildCells offs env r (cs.set off x) | _, _ => none)
    | _, _ => none
def rowCells (size : Nat) (env : Env) : Nat → List (Nat × Operand) → Option (List Value)
  | _, [] => some []
  | i, (j, o) :: r => match decide (i = j), evE env o, rowCells size env (i + 1) r with
    | true, some s, some cs => (match decide ((sCells s).length = size) with | true => some ((sCells s).map real ++ cs) | false => none)
    | _, _, _ => none
def boundK (lo : Option SV) (dflt hi : Nat) (K : Nat → Prop) : Prop :=
  match lo with
  | none => K dflt
  | some (.v (.int _ i)) => 0 ≤ i ∧ i ≤ hi ∧ K i.toNat
  | some _ => False
def optE (env : Env) : Option Operand → Option (Option SV)
  | none => some none
  | some o => (match evE env o with | some s => some (some s) | none => none)
def keyT (T : Tab) (k : TypeId) : Option KT :=
  match (T.get k).map TI.d with
  | some (.int .i64) => some .int
  | some .str => some .str
  | some (.struct _) => (match (T.get k).map TI.isPair with | some true => some .pair | _ => none)
  | _ => none

def opv (P : Program) (T : Tab) (J : List (Nat × Bool)) (rt : TypeId) (op : Op) (env : Env) (L : List LB) (w : World) (K : SV → List LB → World → Prop) : Prop :=
  match op with
  | .move x | .assign x => (match evE env x with | some s => K s L w | none => False)
  | .pick c a b => (match evE env c, evE env a, evE env b with | some (.v (.bool c)), some a, some b => (match c with | true => K a L w | false => K b L w) | _, _, _ => False)
  | .alloc t => (match T.get t with | some ti => ∀ b : Nat, K (.p L.length b 0) (L ++ [⟨b, t, ti.zero.map .v⟩]) w | none => False)
  | .box t x => (match evE env x with | some s => ∀ b : Nat, K (.p L.length b 0) (L ++ [⟨b, t, sCells s⟩]) w | none => False)
  | .build t parts => (match T.get t with
    | some ti => (match ti.d with
      | .struct offs => (match buildCells offs env parts.toList ti.zero with | some cs => K (.v (.agg cs.toArray)) L w | none => False)
      | .array n _ => (match buildCells (List.range n) env parts.toList ti.zero with | some cs => K (.v (.agg cs.toArray)) L w | none => False)
      | _ => False)
    | none => False)
  | .buildSlice t len parts => (match (T.get t).map TI.d with
    | some (.slice e) => (match T.get e with
      | some ei => (match rowCells ei.size env 0 parts.toList, decide (parts.size = len ∧ len * ei.size ≤ 16777216) with
        | some cs, true => NewK w (.cells cs.toArray e (0, 0)) fun b w' => K (.v (.slice (some ⟨b, 0, none⟩) len len)) L w'
        | _, _ => False)
      | none => False)
    | _ => False)
  | .load t x => (match T.get t, evE env x with
    | some ti, some (.p i _ off) => (match L[i]? with
      | some l => (match decide (off + ti.size ≤ l.cs.length), ti.agg with
        | true, true => K (.v (.agg (((l.cs.drop off).take ti.size).map real).toArray)) L w
        | true, false => (match l.cs[off]? with | some s => K s L w | none => False)
        | false, _ => False)
      | none => False)
    | some ti, some (.v (.pointer (some a))) => LdV w a ti.cts fun vs => K (.v (mkv ti.agg vs)) L w
    | _, _ => False)
  | .store t x y => (match T.get t, evE env x, evE env y with
    | some ti, some (.p i _ off), some s => (match L[i]? with
      | some l => (match decide ((sCells s).length = ti.size), decide (off + ti.size ≤ l.cs.length), ((sCells s).map real).all one1 with
        | true, true, true => K (.v undef) (L.set i ⟨l.b, l.t, splice l.cs off (sCells s)⟩) w
        | _, _, _ => False)
      | none => False)
    | some ti, some (.v (.pointer (some a))), some s => (match decide ((sCells s).length = ti.size) with
      | true => StV a (fun w' => K (.v undef) L w') 0 ((sCells s).map real) w
      | false => False)
    | _, _, _ => False)
  | .nilCheck x => (match evE env x with
    | some (.p i b off) => K (.p i b off) L w
    | some (.v (.pointer (some a))) => K (.v (.pointer (some a))) L w
    | _ => False)
  | .binOp op t x y _ => (match evE env x, evE env y with | some (.v x), some (.v y) => binK T op t x y fun v => K (.v v) L w | _, _ => False)
  | .unOp op _ x => (match op, evE env x with
    | .not, some (.v (.bool b)) => K (.v (.bool (!b))) L w
    | _, _ => False)
  | .convert src dst x => (match (T.get src).map TI.d, (T.get dst).map TI.d, evE env x with
    | some (.int _), some (.int k), some (.v (.int _ n)) => K (.v (.int k (k.wrap n))) L w
    | some (.slice e), some .str, some (.v (.slice A n _)) => (match (T.get e).map TI.d with
      | some (.int .u8) => ∃ xs : List Int, xs.length = n ∧ Row w A (xs.map (Value.int .u8)) ∧ K (.v (.string (strOfNums xs))) L w
      | _ => False)
    | _, _, _ => False)
  | .makeFunc fn first captured => (match evs env first.toList, evs env captured.toList with
    | some a, some b => K (.v (.func fn (a.map real).toArray (b.map real).toArray)) L w
    | _, _ => False)
  | .makeMap _ r => (match r with | none => NewK w (.map #[] 0) fun b w' => K (.v (.map (some b))) L w' | some _ => False)
  | .makeSlice t l c => (match (T.get t).map TI.d, evE env l, evE env c with
    | some (.slice e), some (.v (.int .i64 n)), some (.v (.int .i64 m)) => (match T.get e with
      | some ei => (match ei.zero with
        | [z] => n = m ∧ 0 ≤ n ∧ n * (ei.bytes : Int) ≤ 281474976710656 ∧ n ≤ 9223372036854775807 ∧ NewK w (.cells (Array.replicate n.toNat z) e (0, 0)) fun b w' => K (.v (.slice (some ⟨b, 0, none⟩) n.toNat n.toNat)) L w'
        | _ => False)
      | none => False)
    | _, _, _ => False)
  | .slice t x lo hi mx => (match (T.get t).map TI.d, evE env x, optE env lo, optE env hi, mx with
    | some (.slice e), some (.v (.slice A n c)), some lo, some hi, none => (match T.get e with
      | some ei => boundK hi n c fun h => boundK lo 0 h fun l => K (.v (.slice (if c = l then A else A.map (·.add (l * ei.size))) (h - l) (c - l))) L w
      | none => False)
    | _, _, _, _, _ => False)
  | .fieldAddr t x f => (match (T.get t).map TI.d, evE env x with
    | some (.struct offs), some (.p i b off) => (match offs[f]? with | some o => K (.p i b (off + o)) L w | none => False)
    | some (.struct offs), some (.v (.pointer (some a))) => (match offs[f]? with | some o => K (.v (.pointer (some (at_ a o)))) L w | none => False)
    | _, _ => False)
  | .indexAddr t x i => (match (T.get t).map TI.d, evE env x, evE env i with
    | some (.slice e), some (.v (.slice A n _)), some (.v (.int _ i)) => (match T.get e with
      | some ei => IxV A n ei.size i fun a => K (.v (.pointer (some a))) L w
      | none => False)
    | some (.array n e), some (.p q b off), some (.v (.int _ i)) => (match T.get e with
      | some ei => (match decide (0 ≤ i ∧ i < (n : Int)), decide (1 < n) with | true, true => K (.p q b (off + i.toNat * ei.size)) L w | _, _ => False)
      | none => False)
    | _, _, _ => False)
  | .lookup t m k ok => (match (T.get t).map TI.d, evE env m, evE env k with
    | some (.map kt et), some (.v (.map r)), some (.v k) => (match keyT T kt, T.get et with
      | some kt, some ei => (match ei.zero, kt.ok k, ei.agg with
        | [z], true, false =>
          ∃ kvs, MapOpt w kt r kvs ∧
            exCs ei.cts fun vs => (assoc kt kvs k).getD z = mkv ei.agg vs ∧
              (match ok with
               | true => K (.v (.tuple #[mkv ei.agg vs, .bool (assoc kt kvs k).isSome])) L w
               | false => K (.v (mkv ei.agg vs)) L w)
        | _, _, _ => False)
      | _, _ => False)
    | _, _, _ => False)
  | .mapUpdate t m k x | .insert t m k x => (match (T.get t).map TI.d, evE env m, evE env k, evE env x with
    | some (.map kt _), some (.v (.map r)), some (.v k), some (.v x) => (match keyT T kt with
      | some kt => (match kt.ok k with
        | true => ∃ r0 kvs, r = some r0 ∧ MapAt w kt r0 kvs ∧ ∀ w', MapUpd w kt r0 (assocSet kt k x kvs) w' → K (.v undef) L w'
        | false => False)
      | none => False)
    | _, _, _, _ => False)
  | .extract x i => (match evE env x with | some (.v (.tuple vs)) => (match vs.toList[i]? with | some v => K (.v v) L w | none => False) | _ => False)
  | .call c => (match c.callee, evs env c.args.toList with
    | .value f, some args => (match evE env f, T.shape rt with
      | some (.v (.func (.func f) first captured)), some sh => CallK P T sh f (first.toList ++ args.map real ++ captured.toList) J L w K
      | _, _ => False)
    | .builtin .len, some [.v (.slice _ n _)] => (match c.argTypes.toList with
      | [t] => (match (T.get t).map TI.d with | some (.slice _) => K (.v (.int .i64 n)) L w | _ => False)
      | _ => False)
    | .builtin .append, some [.v (.slice A n c'), .v (.slice B m _)] => (match c.argTypes.toList with
      | [t, t'] => (match (T.get t).map TI.d, (T.get t').map TI.d with
        | some (.slice e), some (.slice _) => (match T.get e with
          | some ei => AppK ei.bytes ei.size ei.zero e A n c' B m w fun A n c' w' => K (.v (.slice A n c')) L w'
          | none => False)
        | _, _ => False)
      | _ => False)
    | .builtin .min, some [.v (.int .i64 a), .v (.int .i64 b)] => K (.v (.int .i64 (if b < a then b else a))) L w
    | .builtin .max, some [.v (.int .i64 a), .v (.int .i64 b)] => K (.v (.int .i64 (if a < b then b else a))) L w
    | _, _ => False)
  | _ => False
end Go.Proofs.Ytnkpjlhbojjneaa.VC

/- The verification condition of regions, code and functions. -/
namespace Go.Proofs.Ytnkpjlhbojjneaa.VC
open Go Go.RowKit

/-- What a proof has to tell beside the code: which blocks are lent at a call (region, operation), and what a loop (in a block) keeps: slots, and blocks in L that are written. -/
structure Hints where
  lend : List ((Nat × Nat) × List ((TypeId × Nat) × Bool))
  loop : List (Nat × List (Nat × CT) × List (TypeId × Nat))
/-- the place of the k-th block of a type -/
def findB : List LB → TypeId → Nat → Nat → Nat
  | [], _, _, i => i
  | l :: r, t, k, i => match l.t == t, k with
    | true, 0 => i
    | true, k + 1 => findB r t k (i + 1)
    | false, k => findB r t k (i + 1)
def rsv (L : List LB) (l : List (TypeId × Nat)) : List Nat := l.map fun x => findB L x.1 x.2 0
def Hints.lendAt (H : Hints) (L : List LB) (r i : Nat) : List (Nat × Bool) := match List.lookup (r, i) H.lend with | some l => l.map fun x => (findB L x.1.1 x.1.2 0, x.2) | none => []

def isGuard (all : List Oper) (i : Nat) : Bool := all.any fun o => match o.guard with | some (j, _) => j == i | none => false
def condK (t : Bool) (A B : Prop) : Prop := match t with | true => A | false => B
theorem condK_and {t : Bool} {A B : Prop} (h : condK t A B) : (t = true → A) ∧ (t = false → B) := by
  cases t
  · exact ⟨(fun e => by cases e), fun _ => h⟩
  · exact ⟨fun _ => h, (fun e => by cases e)⟩
theorem condK_of {t : Bool} {A B : Prop} (h1 : t = true → A) (h2 : t = false → B) : condK t A B := by
  cases t
  · exact h2 rfl
  · exact h1 rfl
def splitK (g : Bool) (s : SV) (F : SV → Prop) : Prop :=
  match g, s with
  | true, .v (.bool b) => condK b (F (.v (.bool true))) (F (.v (.bool false)))
  | _, _ => F s
def slotOf (all : List Oper) (j : Nat) : Option Nat := match all[j]? with | some o => o.dst | none => none
def wantedE (env : Env) (all : List Oper) : Option (Nat × Bool) → Option Bool
  | none => some true
  | some (j, want) => match slotOf all j with
    | some d => (match List.lookup d env with
      | some (.v (.bool b)) => some (b == want)
      | some (.v (.tuple _)) => some false
      | _ => none)
    | none => none
def putK (N : Nat) (dst : Option Nat) (s : SV) (env : Env) (F : Env → Prop) : Prop :=
  match dst with
  | none => F env
  | some d => (match decide (d < N) with | true => F ((d, s) :: env) | false => False)

def wrIdx : List (Nat × Bool) → List Nat
  | [] => []
  | (i, true) :: r => i :: wrIdx r
  | (_, false) :: r => wrIdx r
/-- the private blocks that an operation may write -/
def writesL (J : List (Nat × Bool)) (op : Op) (env : Env) : List Nat :=
  match op with
  | .store _ x _ => (match evE env x with | some (.p q _ _) => [q] | _ => [])
  | .call _ => wrIdx J
  | _ => []
section
variable (P : Program) (T : Tab) (N : Nat) (H : Hints)
/-- One operation, guard and all. -/
def stepK (lk : List Nat) (rid : Nat) (all : List Oper) (i : Nat) (o : Oper) (env : Env) (L : List LB) (w : World) (K : SV → Env → List LB → World → Prop) : Prop :=
  match wantedE env all o.guard with
  | some true => (match (writesL (H.lendAt L rid i) o.op env).any fun q => lk.contains q with
    | true => False
    | false => opv P T (H.lendAt L rid i) o.type o.op env L w fun s L' w' => splitK (isGuard all i) s fun s => putK N o.dst s env fun env' => K s env' L' w')
  | some false => putK N o.dst (.v undef) env fun env' => K (.v undef) env' L w
  | none => False
def vcOps (lk : List Nat) (rid : Nat) (all : List Oper) : Nat → List Oper → Env → List LB → World → (Env → List LB → World → Prop) → Prop
  | _, [], env, L, w, K => K env L w
  | i, o :: rest, env, L, w, K => stepK P T N H lk rid all i o env L w fun _ env' L' w' => vcOps lk rid all (i + 1) rest env' L' w' K

/-! a region that draws its order -/
def predsOf (o : Oper) : List Nat := o.after.toList.filterMap fun e => match Region.binds .any e with | true => some e.on | false => none
def readyE (o : Oper) (listed : List Bool) : Bool := (predsOf o).all fun j => (listed[j]?).getD false
def isQ : Op → Bool
  | .move _ | .assign _ | .pick .. | .build .. | .nilCheck _ | .binOp .. | .unOp .. | .makeFunc .. | .slice .. | .fieldAddr .. | .indexAddr .. | .extract .. | .load .. | .lookup .. => true
  | .convert .. => true
  | .call c => (match c.callee with | .builtin .len => true | _ => false)
  | _ => false
/-- What a quiet operation's value hangs on. -/
inductive Pend where
  | none
  | priv (q : Nat)
  | vis (a : Addr) (vs : List Value)
  | any
def pendOf (op : Op) (env : Env) (s : SV) : Pend :=
  match op with
  | .load _ x => (match evE env x with
    | some (.p q _ _) => .priv q
    | some (.v (.pointer (some a))) => .vis a ((sCells s).map real)
    | _ => .any)
  | .lookup .. => .any
  | .convert _ _ x => (match evE env x with | some (.v (.int ..)) => .none | _ => .any)
  | _ => .none
def insN (x : Nat) (l : List Nat) : List Nat := match l.contains x with | true => l | false => x :: l
theorem mem_insN {j x : Nat} {l : List Nat} (h : j ∈ insN x l) : j = x ∨ j ∈ l := by
  unfold insN at h
  split at h
  · exact .inr h
  · exact List.mem_cons.1 h
def insAll : List Nat → List Nat → List Nat
  | [], r => r
  | x :: a, r => insAll a (insN x r)
theorem mem_insAll {j : Nat} : ∀ {a r : List Nat}, j ∈ insAll a r → j ∈ a ∨ j ∈ r
  | [], _, h => .inr h
  | x :: a, r, h => by
    rcases mem_insAll (a := a) h with h | h
    · exact .inl (List.mem_cons_of_mem _ h)
    · rcases mem_insN h with rfl | h
      · exact .inl (List.mem_cons_self ..)
      · exact .inr h
def ancAdd (acc : List (List Nat)) : List Nat → List Nat → List Nat
  | [], r => r
  | k :: ps, r => match r.contains k with
    | true => ancAdd acc ps r
    | false => ancAdd acc ps (k :: insAll ((acc[k]?).getD []) r)
theorem mem_ancAdd {acc : List (List Nat)} {j : Nat} : ∀ {ps r : List Nat}, j ∈ ancAdd acc ps r → j ∈ r ∨ ∃ k ∈ ps, j = k ∨ j ∈ (acc[k]?).getD []
  | [], _, h => .inl h
  | k :: ps, r, h => by
    unfold ancAdd at h
    split at h
    · rcases mem_ancAdd (ps := ps) h with h | ⟨k', hk, h⟩
      · exact .inl h
      · exact .inr ⟨k', List.mem_cons_of_mem _ hk, h⟩
    · rcases mem_ancAdd (ps := ps) h with h | ⟨k', hk, h⟩
      · rcases List.mem_cons.1 h with rfl | h
        · exact .inr ⟨j, List.mem_cons_self .., .inl rfl⟩
        · rcases mem_insAll h with h | h
          · exact .inr ⟨k, List.mem_cons_self .., .inr h⟩
          · exact .inl h
      · exact .inr ⟨k', List.mem_cons_of_mem _ hk, h⟩
def ancF (acc : List (List Nat)) (ps : List Nat) : List Nat := ancAdd acc ps []
def ancGo : List Oper → List (List Nat) → List (List Nat)
  | [], acc => acc
  | o :: r, acc => ancGo r (acc ++ [ancF acc (predsOf o)])
def ancs (all : List Oper) : List (List Nat) := ancGo all []
def pendK (wr anc : List Nat) (w' : World) : List (Nat × Pend) → Prop → Prop
  | [], K => K
  | (i, pd) :: r, K => match anc.contains i with
    | true => pendK wr anc w' r K
    | false => (match pd with
      | .none => pendK wr anc w' r K
      | .priv q => (match wr.contains q with | true => False | false => pendK wr anc w' r K)
      | .vis a vs => CellsAt w' a 0 vs (pendK wr anc w' r K)
      | .any => False)
/-- An operation writes what one looks at that does not wait for it. -/
def lateB (all : List Oper) (anc : List (List Nat)) (i : Nat) (o : Oper) : Bool := match o.dst with
  | none => false
  | some d => (List.range all.length).any fun j => i != j && (match all[j]? with | some o' => (o'.looksAt all.toArray).contains d && !((anc[j]?).getD []).contains i | none => false)
def qOp (all : List Oper) (anc : List (List Nat)) (i : Nat) (o : Oper) : Bool := isQ o.op && !lateB all anc i o
def findFirst (all : List Oper) (anc : List (List Nat)) (listed : List Bool) (q : Bool) : List Nat → List (Nat × Oper)
  | [] => []
  | i :: r => match all[i]?, (listed[i]?).getD true with
    | some o, false => (match qOp all anc i o == q, readyE o listed with | true, true => (i, o) :: findFirst all anc listed q r | _, _ => findFirst all anc listed q r)
    | _, _ => findFirst all anc listed q r
def conjK {α : Type} (F : α → Prop) : List α → Prop
  | [] => True
  | [x] => F x
  | x :: r => F x ∧ conjK F r
def vcD (lk : List Nat) (rid : Nat) (all : List Oper) (anc : List (List Nat)) : Nat → List Bool → List (Nat × Pend) → Env → List LB → World → (Env → List LB → World → Prop) → Prop
  | 0, _, _, _, _, _, _ => False
  | f + 1, listed, pend, env, L, w, K =>
    match findFirst all anc listed true (List.range all.length) with
    | (i, o) :: _ => stepK P T N H lk rid all i o env L w fun s env' L' w' => vcD lk rid all anc f (listed.set i true) ((i, match wantedE env all o.guard with | some true => pendOf o.op env s | _ => .none) :: pend) env' L' w' K
    | [] => match findFirst all anc listed false (List.range all.length) with
      | [] => K env L w
      | e :: es => conjK (fun (x : Nat × Oper) => stepK P T N H lk rid all x.1 x.2 env L w fun _ env' L' w' =>
          pendK (writesL (H.lendAt L rid x.1) x.2.op env) ((anc[x.1]?).getD []) w' pend (vcD lk rid all anc f (listed.set x.1 true) (pend.filter fun y => !((anc[x.1]?).getD []).contains y.1) env' L' w' K)) (e :: es)
/-! the same, with tables that are worked out once -/
def forceB : List Bool → (List Bool → Prop) → Prop
  | [], k => k []
  | true :: r, k => forceB r fun r' => k (true :: r')
  | false :: r, k => forceB r fun r' => k (false :: r')
theorem forceB_eq : ∀ (l : List Bool) (k : List Bool → Prop), forceB l k = k l
  | [], _ => rfl
  | true :: r, k => by simp only [forceB, forceB_eq r]
  | false :: r, k => by simp only [forceB, forceB_eq r]
def forceL : List Nat → (List Nat → Prop) → Prop
  | [], k => k []
  | x :: r, k => forceL r fun r' => k (x :: r')
theorem forceL_eq : ∀ (l : List Nat) (k : List Nat → Prop), forceL l k = k l
  | [], _ => rfl
  | x :: r, k => by simp only [forceL, forceL_eq r]
def forceP (p : Pend) (k : Pend → Prop) : Prop := match p with
  | .none => k .none
  | .priv q => k (.priv q)
  | .vis a vs => k (.vis a vs)
  | .any => k .any
theorem forceP_eq (p : Pend) (k : Pend → Prop) : forceP p k = k p := by cases p <;> rfl
abbrev RowD := Nat × Oper × Bool × List Nat
def rowsGo (all : List Oper) (anc : List (List Nat)) : List Oper → Nat → List RowD
  | [], _ => []
  | o :: r, i => (i, o, qOp all anc i o, predsOf o) :: rowsGo all anc r (i + 1)
def forceR : List RowD → (List RowD → Prop) → Prop
  | [], k => k []
  | (i, o, true, ps) :: r, k => forceL ps fun ps => forceR r fun r' => k ((i, o, true, ps) :: r')
  | (i, o, false, ps) :: r, k => forceL ps fun ps => forceR r fun r' => k ((i, o, false, ps) :: r')
theorem forceR_eq : ∀ (l : List RowD) (k : List RowD → Prop), forceR l k = k l
  | [], _ => rfl
  | (i, o, true, ps) :: r, k => by simp only [forceR, forceR_eq r, forceL_eq]
  | (i, o, false, ps) :: r, k => by simp only [forceR, forceR_eq r, forceL_eq]
def ffG (q : Bool) (L : List Bool) : List RowD → List Bool → List (Nat × Oper)
  | [], _ => []
  | _ :: _, [] => []
  | (i, o, qb, ps) :: r, b :: lb => match b with
    | true => ffG q L r lb
    | false => (match qb == q, ps.all fun j => (L[j]?).getD false with | true, true => (i, o) :: ffG q L r lb | _, _ => ffG q L r lb)
theorem ffG_eq (all : List Oper) (anc : List (List Nat)) (q : Bool) (L : List Bool) (hL : L.length = all.length) : ∀ (r : List Oper) (i : Nat) (lb : List Bool), i + r.length = all.length → (∀ k, r[k]? = all[i + k]?) → (∀ k, lb[k]? = L[i + k]?) →
    ffG q L (rowsGo all anc r i) lb = findFirst all anc L q (List.range' i r.length) := by
  intro r
  induction r with
  | nil => intro i lb _ _ _; rfl
  | cons o r ih =>
    intro i lb hlen hr hlb
    rw [List.length_cons] at hlen
    have ho : all[i]? = some o := by have := hr 0; simpa using this.symm
    have hb := hlb 0
    rw [Nat.add_zero] at hb
    have hlt : i < L.length := by omega
    rw [List.getElem?_eq_getElem hlt] at hb
    cases lb with
    | nil => simp at hb
    | cons b lb =>
      simp only [List.getElem?_cons_zero, Option.some.injEq] at hb
      have ih' := ih (i + 1) lb (by omega) (fun k => by have := hr (k + 1); rw [List.getElem?_cons_succ] at this; rw [this]; congr 1; omega) (fun k => by have := hlb (k + 1); rw [List.getElem?_cons_succ] at this; rw [this]; congr 1; omega)
      simp only [rowsGo, ffG, List.length_cons, List.range'_succ, findFirst]
      rw [ih', ho, List.getElem?_eq_getElem hlt, ← hb]
      cases b with
      | true => rfl
      | false => rfl
def vcE (lk : List Nat) (rid : Nat) (all : List Oper) (anc : List (List Nat)) (rows : List RowD) : Nat → List Bool → List (Nat × Pend) → Env → List LB → World → (Env → List LB → World → Prop) → Prop
  | 0, _, _, _, _, _, _ => False
  | f + 1, listed, pend, env, L, w, K => forceB listed fun listed =>
    match ffG true listed rows listed with
    | (i, o) :: _ => stepK P T N H lk rid all i o env L w fun s env' L' w' => forceP (match wantedE env all o.guard with | some true => pendOf o.op env s | _ => .none) fun pd => vcE lk rid all anc rows f (listed.set i true) ((i, pd) :: pend) env' L' w' K
    | [] => match ffG false listed rows listed with
      | [] => K env L w
      | e :: es => conjK (fun (x : Nat × Oper) => stepK P T N H lk rid all x.1 x.2 env L w fun _ env' L' w' =>
          pendK (writesL (H.lendAt L rid x.1) x.2.op env) ((anc[x.1]?).getD []) w' pend (vcE lk rid all anc rows f (listed.set x.1 true) (pend.filter fun y => !((anc[x.1]?).getD []).contains y.1) env' L' w' K)) (e :: es)
theorem vcE_eq (lk : List Nat) (rid : Nat) (all : List Oper) (anc : List (List Nat)) : ∀ (f : Nat) (listed : List Bool) (pend : List (Nat × Pend)) (env : Env) (L : List LB) (w : World) (K : Env → List LB → World → Prop), listed.length = all.length →
    vcE P T N H lk rid all anc (rowsGo all anc all 0) f listed pend env L w K = vcD P T N H lk rid all anc f listed pend env L w K := by
  intro f
  induction f with
  | zero => intros; rfl
  | succ f ih =>
    intro listed pend env L w K hl
    have e : ∀ q, ffG q listed (rowsGo all anc all 0) listed = findFirst all anc listed q (List.range all.length) := fun q => by
      rw [List.range_eq_range']
      exact ffG_eq all anc q listed hl all 0 listed (by simp) (fun k => by simp) (fun k => by simp)
    have ih' : ∀ (i : Nat) (pend : List (Nat × Pend)) (env : Env) (L : List LB) (w : World), vcE P T N H lk rid all anc (rowsGo all anc all 0) f (listed.set i true) pend env L w K = vcD P T N H lk rid all anc f (listed.set i true) pend env L w K :=
      fun i pend env L w => ih _ pend env L w K (by simp [hl])
    simp only [vcE, vcD, forceB_eq, forceP_eq, e, ih']
/-- slots: each written once at most, and what reads it waits for it -/
def drawOk (all : List Oper) (anc : List (List Nat)) : Bool :=
  (List.range all.length).all fun i => match all[i]? with
    | some o => (match o.op with | .select .. => false | _ => true) && (predsOf o).all (· < i) && (match o.dst with
      | some d => !(o.looksAt all.toArray).contains d && (List.range all.length).all fun j => i == j || (match all[j]? with
        | some o' => o'.dst != some d && (!(o'.looksAt all.toArray).contains d || (((anc[j]?).getD []).contains i || ((anc[i]?).getD []).contains j))
        | none => true)
      | none => true)
    | none => true

/-! code -/
inductive Ex where
  | nrm | ret | ext (id : Nat)
def writes : Code → List Nat
  | .region _ ops _ => ops.toList.filterMap (·.dst)
  | .seq a b => writes a ++ writes b
  | .cond _ a b => writes a ++ writes b
  | .block _ a => writes a
  | .loop a => writes a
  | .scope a => writes a
  | _ => []
def Cur : List CT → Type 1 → Type 1
  | [], α => α
  | c :: r, α => CurC c (Cur r α)
def appC : (c : CT) → {α : Type 1} → CurC c α → Value → Option α
  | .int k, _, f, .int k' n => (match decide (k = k') with | true => some (f n) | false => none)
  | .bool, _, f, .bool b => some (f b)
  | .str, _, f, .string s => some (f s)
  | .slice, _, f, .slice A n c => some (f A n c)
  | .map, _, f, .map r => some (f r)
  | .ptr, _, f, .pointer a => some (f a)
  | .func, _, f, .func g x y => some (f g x y)
  | _, _, _, _ => none
def app : (cs : List CT) → {α : Type 1} → Cur cs α → List Value → Option α
  | [], _, f, [] => some f
  | c :: cs, _, f, v :: vs => (match appC c f v with | some g => app cs g vs | none => none)
  | _, _, _, _ => none
/-- An invariant and a measure. -/
structure Lp : Type 1 where
  inv : World → Prop
  m : World → Nat
def allC : CT → (Value → Prop) → Prop
  | .int k, F => ∀ n : Int, F (.int k n)
  | .bool, F => ∀ b : Bool, F (.bool b)
  | .str, F => ∀ s : ByteArray, F (.string s)
  | .slice, F => ∀ (A : Option Addr) (n c : Nat), F (.slice A n c)
  | .map, F => ∀ r : Option Nat, F (.map r)
  | .ptr, F => ∀ a : Option Addr, F (.pointer a)
  | .func, F => ∀ (f : Fn) (x y : Array Value), F (.func f x y)
def allCs : List CT → (List Value → Prop) → Prop
  | [], F => F []
  | c :: cs, F => allC c fun v => allCs cs fun vs => F (v :: vs)
def slotVals (env : Env) : List (Nat × CT) → Option (List Value)
  | [] => some []
  | (d, _) :: r => match List.lookup d env, slotVals env r with | some (.v x), some vs => some (x :: vs) | _, _ => none
def lenOf (T : Tab) (l : LB) : Nat := match T.get l.t with | some ti => ti.cts.length | none => 0
def blkVals (T : Tab) (L : List LB) : List Nat → Option (List Value)
  | [] => some []
  | i :: r => match L[i]?, blkVals T L r with | some l, some vs => (match decide (l.cs.length = lenOf T l) with | true => some (l.cs.map real ++ vs) | false => none) | _, _ => none
def blkCts (T : Tab) (L : List LB) : List Nat → List CT
  | [] => []
  | i :: r => (match L[i]? with | some l => (match T.get l.t with | some ti => ti.cts | none => []) | none => []) ++ blkCts T L r
def setSlots : List (Nat × CT) → List Value → Env → Env
  | (d, _) :: r, v :: vs, env => (d, .v v) :: setSlots r vs env
  | _, _, env => env
def setBlks (T : Tab) : List Nat → List Value → List LB → List LB
  | i :: r, vs, L => (match L[i]? with | some l => setBlks T r (vs.drop (lenOf T l)) (L.set i ⟨l.b, l.t, (vs.take (lenOf T l)).map .v⟩) | none => L)
  | [], _, L => L
def lpK (cs : List CT) (I : Cur cs Lp) (sv bv : Option (List Value)) (F : Lp → Prop) : Prop :=
  match sv, bv with
  | some sv, some bv => (match app cs I (sv ++ bv) with | some l => F l | none => False)
  | _, _ => False
def drops (ws : List Nat) (env : Env) : Env := env.filter fun x => !ws.contains x.1

def lockOf (n : Nat) (blks : List Nat) : List Nat := (List.range n).filter fun q => !blks.contains q
def loopOk (lk : List Nat) (n : Nat) (ws : List Nat) (keep : List (Nat × CT)) (blks : List Nat) : Bool :=
  (keep.all fun x => ws.contains x.1) && (lk.all fun q => !blks.contains q && decide (q < n)) && decide blks.Nodup && decide (keep.map Prod.fst).Nodup
/-- A mark between pieces of code. -/
def stopK (p : Prop) : Prop := p
def vcCode : Code → List Nat → Env → List LB → World → (Ex → Env → List LB → World → Prop) → Prop
  | .skip, _, env, L, w, K => K .nrm env L w
  | .ret, _, env, L, w, K => K .ret env L w
  | .exit id, _, env, L, w, K => K (.ext id) env L w
  | .label _, _, env, L, w, K => K .nrm env L w
  | .scope c, lk, env, L, w, K => vcCode c lk env L w K
  | .region rid ops dr, lk, env, L, w, K =>
    (match dr with
     | false => vcOps P T N H lk rid ops.toList 0 ops.toList env L w (K .nrm)
     | true => (match drawOk ops.toList (ancs ops.toList) with
       | true => forceR (rowsGo ops.toList (ancs ops.toList) ops.toList 0) fun rows => vcE P T N H lk rid ops.toList (ancs ops.toList) rows (ops.toList.length + 1) (List.replicate ops.toList.length false) [] env L w (K .nrm)
       | false => False))
  | .seq a b, lk, env, L, w, K => vcCode a lk env L w fun e env' L' w' => (match e with | .nrm => stopK (vcCode b lk env' L' w' K) | e => K e env' L' w')
  | .cond c a b, lk, env, L, w, K => (match evE env c with
    | some (.v (.bool t)) => condK t (vcCode a lk env L w K) (vcCode b lk env L w K)
    | _ => False)
  | .block id c, lk, env, L, w, K =>
    (match c with
     | .loop body => (match List.lookup id H.loop with
       | some (keep, blks0) => (match loopOk lk L.length (writes body) keep (rsv L blks0) with
         | true => ∃ I : Cur (keep.map Prod.snd ++ blkCts T L (rsv L blks0)) Lp, lpK _ I (slotVals env keep) (blkVals T L (rsv L blks0)) (fun l => l.inv w) ∧
           allCs (keep.map Prod.snd ++ blkCts T L (rsv L blks0)) fun vs => lpK _ I (some vs) (some []) fun l0 => ∀ w', l0.inv w' → ∀ k, l0.m w' = k →
             vcCode body (lockOf L.length (rsv L blks0)) (setSlots keep vs (drops (writes body) env)) (setBlks T (rsv L blks0) (vs.drop keep.length) L) w' fun e env2 L2 w2 => (match e with
               | .nrm => lpK _ I (slotVals env2 keep) (blkVals T L2 (rsv L blks0)) fun l => l.inv w2 ∧ l.m w2 < k
               | .ext j => (match decide (j = id) with | true => K .nrm env2 L2 w2 | false => K (.ext j) env2 L2 w2)
               | .ret => K .ret env2 L2 w2)
         | false => False)
       | none => False)
     | c => vcCode c lk env L w fun e env' L' w' => (match e with
       | .ext j => (match decide (j = id) with | true => K .nrm env' L' w' | false => K (.ext j) env' L' w')
       | e => K e env' L' w'))
  | _, _, _, _, _, _ => False

def resV (T : Tab) (env : Env) (L : List LB) : ResultVar → Option Value
  | .tmp t => (match List.lookup t env with | some s => some (real s) | none => none)
  | .cell a t => match List.lookup a env, T.get t with
    | some (.p i _ off), some ti => (match L[i]? with
      | some l => (match decide (off + ti.size ≤ l.cs.length), ti.agg with
        | true, true => some (.agg (((l.cs.drop off).take ti.size).map real).toArray)
        | true, false => (match l.cs[off]? with | some s => some (real s) | none => none)
        | false, _ => none)
      | none => none)
    | _, _ => none
def resVs (T : Tab) (env : Env) (L : List LB) : List ResultVar → Option (List Value)
  | [] => some []
  | r :: rs => match resV T env L r, resVs T env L rs with | some v, some vs => some (v :: vs) | _, _ => none
def resOf : List Value → Value
  | [v] => v
  | vs => .tuple vs.toArray
def contents (k : Nat) (L : List LB) : List (List Value) := (L.take k).map fun l => l.cs.map real
/-- The arguments: values, or pointers to the lent blocks (by their places). -/
def argEnv (N : Nat) : Nat → List SV → Env
  | _, [] => []
  | i, s :: r => (i, s) :: argEnv N (i + 1) r
def vcFun (fn : Func) (args : List SV) (L : List LB) (w : World) (R : Value → List (List Value) → World → Prop) : Prop :=
  match fn.body with
  | some c => vcCode P T fn.ntmps H c [] (argEnv fn.ntmps 0 args) L w fun e env' L' w' =>
      (match e with
       | .ext _ => False
       | _ => (match resVs T env' L' fn.results.toList with | some vs => R (resOf vs) (contents L.length L') w' | none => False))
  | none => False
end
end Go.Proofs.Ytnkpjlhbojjneaa.VC

/- The quiet operations do what their condition says. -/
namespace Go.Proofs.Ytnkpjlhbojjneaa.VC
open Go Go.RowKit

def MatchD (P : Program) : TD → TypeDesc → Prop
  | .int k, d => d = .int k
  | .bool, d => d = .bool
  | .str, d => d = .string
  | .slice e, d => d = .slice e
  | .map k e, d => d = .map k e
  | .ptr, d => ∃ e, d = .pointer e
  | .func, d => ∃ p r v, d = .func p r v
  | .struct offs, d => ∃ fs, d = .struct fs ∧ fs.size = offs.length ∧ (∀ (j off : Nat), offs[j]? = some off → ∃ f fi, fs[j]? = some f ∧ f.offset = off ∧ P.info? f.type = some fi ∧ fi.size = 1) ∧ ∀ w, (fs.mapM fun f => (do pure (f.offset, ← sizeOf f.type) : Sem (Nat × Nat))).run P w = .ok (offs.map fun off => (off, 1)).toArray w
  | .array n e, d => d = .array n e ∧ ∃ ei, P.info? e = some ei ∧ ei.size = 1
structure PairFacts (P : Program) (t : TypeId) : Prop where
  eq : ∀ w a b c d, (Op.equal t (.agg #[.int .i64 a, .int .i64 b]) (.agg #[.int .i64 c, .int .i64 d])).run P w = .ok (a == c && b == d) w
  guard : ∀ op x y w a b c d, (eqGuard op t x y (.agg #[.int .i64 a, .int .i64 b]) (.agg #[.int .i64 c, .int .i64 d])).run P w = .ok () w
  key : ∀ emp w a b, (Instr.checkKey emp 10000 t (.agg #[.int .i64 a, .int .i64 b])).run P w = .ok () w
structure GoodTI (P : Program) (t : TypeId) (ti : TI) : Prop where
  und : ∃ d, P.underlying t = some d ∧ MatchD P ti.d d
  info : ∃ i, P.info? t = some i ∧ i.size = ti.size ∧ i.bytes = ti.bytes ∧ i.zero = some (mkv ti.agg ti.zero)
  zero : ti.zero.length = ti.size
  one : ∀ v ∈ ti.zero, one1 v = true
  cts : ti.cts.length = ti.size
  pos : 0 < ti.size ∧ 0 < ti.bytes
  single : ti.agg = false → ti.size = 1
  pair : ti.isPair = true → PairFacts P t
def GoodT (P : Program) (T : Tab) : Prop := ∀ t ti, T.get t = some ti → GoodTI P t ti

def okp (L : List LB) : SV → Prop
  | .v _ => True
  | .p i b _ => ∃ l, L[i]? = some l ∧ l.b = b
structure InvL (L : List LB) (F0 : List (Nat × Obj)) (w wa : World) : Prop where
  ok : ∀ l ∈ L, ∀ x ∈ l.cs, okp L x
  rel : Rel (raw L ++ F0) w wa
def EnvOK (env : Env) (L : List LB) (a : Act) : Prop := ∀ t s, List.lookup t env = some s → a.tmps[t]? = some (real s) ∧ okp L s

theorem one1_eq (v : Value) : one1 v = v.oneCell' := by cases v <;> rfl
theorem one1_cells {v : Value} (h : one1 v = true) : v.cells = #[v] := by cases v <;> first | rfl | simp [one1] at h

section
variable {P : Program} {T : Tab} {env : Env} {L : List LB} {F0 : List (Nat × Obj)} {w wa : World} {a : Act}

theorem evE_ok (h : EnvOK env L a) {x : Operand} {s : SV} (he : evE env x = some s) : a.eval x = real s ∧ okp L s := by
  cases x with
  | tmp t =>
    have := h t s he
    exact ⟨by simp [Act.eval, this.1], this.2⟩
  | const v => simp only [evE, Option.some.injEq] at he; subst he; exact ⟨rfl, trivial⟩
  | global g => simp [evE] at he
  | func f => simp only [evE, Option.some.injEq] at he; subst he; exact ⟨rfl, trivial⟩
theorem evs_ok (h : EnvOK env L a) : ∀ {xs : List Operand} {l : List SV}, evs env xs = some l → xs.map a.eval = l.map real ∧ ∀ s ∈ l, okp L s
  | [], l, he => by simp only [evs, Option.some.injEq] at he; subst he; simp
  | x :: xs, l, he => by
    simp only [evs] at he
    split at he
    · rename_i s l' h1 h2
      simp only [Option.some.injEq] at he; subst he
      have h1 := evE_ok h h1
      have h2 := evs_ok h h2
      refine ⟨by simp [h1.1, h2.1], fun s' hs' => ?_⟩
      rcases List.mem_cons.1 hs' with rfl | hs'
      · exact h1.2
      · exact h2.2 _ hs'
    · simp at he

theorem raw_mem {l : LB} {i : Nat} (h : L[i]? = some l) : (l.b, l.obj) ∈ raw L := List.mem_map.2 ⟨l, List.mem_of_getElem? h, rfl⟩
theorem blk_at (hr : Rel (raw L ++ F0) w wa) {l : LB} {i : Nat} (h : L[i]? = some l) : wa.heap[l.b]? = some (.cells (l.cs.map real).toArray l.t (0, 0)) :=
  hr.loc _ _ (List.mem_append_left _ (raw_mem h))
theorem cell_blk {b off : Nat} {cs : Array Value} {t : TypeId} {fr : Nat × Nat} (h : wa.heap[b]? = some (.cells cs t fr)) : wa.cell? ⟨b, off, none⟩ = cs[off]? := cell_of_row wa b off cs t fr h
theorem add_none (b off j : Nat) : (⟨b, off, none⟩ : Addr).add j = ⟨b, off + j, none⟩ := by
  unfold Addr.add; split <;> simp_all

theorem run_loadVar_at (hT : GoodT P T) {t : TypeId} {ti : TI} (ht : T.get t = some ti) (wa : World) (ad : Addr) (vs : List Value) (hl : vs.length = ti.size)
    (hc : ∀ j v, vs[j]? = some v → wa.cell? (ad.add j) = some v) : (loadVar t ad).run P wa = .ok (mkv ti.agg vs) wa := by
  obtain ⟨⟨d, hd, hm⟩, ⟨i, hi, hsz, _, _⟩, _, _, _, _, hsingle, _⟩ := hT t ti ht
  by_cases hag : ti.agg = true
  · have hagg : (isAgg t).run P wa = .ok true wa := by
      unfold TI.agg at hag
      split at hag
      · rename_i offs hq; rw [hq] at hm; obtain ⟨fs, rfl, _⟩ := hm; simp [isAgg, run_underlying hd]
      · rename_i n e hq; rw [hq] at hm; obtain ⟨rfl, _⟩ := hm; simp [isAgg, run_underlying hd]
      · simp at hag
    have hcells := run_loadCells_list (P := P) (w := wa) ad vs hc
    simp only [loadVar, Sem.run_bind, hagg, Result.andThen_ok, if_true, sizeOf, typeInfo, run_program, hi, Sem.run_pure, hsz, ← hl]
    rw [hcells]
    simp [mkv, hag]
  · have hag' : ti.agg = false := by simpa using hag
    have hagg : (isAgg t).run P wa = .ok false wa := by
      unfold TI.agg at hag'
      cases htd : ti.d <;> rw [htd] at hm hag' <;> simp at hag' <;> simp only [MatchD] at hm <;>
        first
        | (subst hm; simp [isAgg, run_underlying hd])
        | (obtain ⟨x, rfl⟩ := hm; simp [isAgg, run_underlying hd])
        | (obtain ⟨x, y, z, rfl⟩ := hm; simp [isAgg, run_underlying hd])
    have h1 := hsingle hag'
    rw [h1] at hl
    obtain ⟨v, rfl⟩ := List.length_eq_one_iff.1 hl
    have := hc 0 v rfl
    simp only [Addr.add, if_true] at this
    simp [loadVar, hagg, this, mkv, hag']

theorem CellsAt_get {ad : Addr} {p : Prop} : ∀ {vs : List Value} {i : Nat}, CellsAt w ad i vs p → p ∧ ∀ j v, vs[j]? = some v → w.cell? (ad.add (i + j)) = some v
  | [], _, h => ⟨h, fun j v hj => by simp at hj⟩
  | v :: vs, i, h => by
    obtain ⟨h1, h2⟩ := h
    obtain ⟨h3, h4⟩ := CellsAt_get h2
    refine ⟨h3, fun j v' hj => ?_⟩
    cases j with
    | zero => simp only [List.getElem?_cons_zero, Option.some.injEq] at hj; subst hj; rw [at_eq] at h1; exact h1
    | succ j => simp only [List.getElem?_cons_succ] at hj; have := h4 j v' hj; rwa [show i + (j + 1) = i + 1 + j by omega]
theorem CellsAt_imp {ad : Addr} {p q : Prop} (hpq : p → q) : ∀ {vs : List Value} {i : Nat}, CellsAt w ad i vs p → CellsAt w ad i vs q
  | [], _, h => hpq h
  | _ :: _, _, h => ⟨h.1, CellsAt_imp hpq h.2⟩

theorem exC_el {c : CT} {F : Value → Prop} (h : exC c F) : ∃ v, one1 v = true ∧ F v := by
  cases c <;> first
    | (obtain ⟨x, h⟩ := h; exact ⟨_, rfl, h⟩)
    | (obtain ⟨x, y, z, h⟩ := h; exact ⟨_, rfl, h⟩)
theorem exCs_el : ∀ {cs : List CT} {F : List Value → Prop}, exCs cs F → ∃ vs, vs.length = cs.length ∧ (∀ v ∈ vs, one1 v = true) ∧ F vs
  | [], F, h => ⟨[], rfl, by simp, h⟩
  | c :: cs, F, h => by
    obtain ⟨v, h1, h⟩ := exC_el h
    obtain ⟨vs, hl, h2, h⟩ := exCs_el h
    exact ⟨v :: vs, by simp [hl], by simpa using ⟨h1, h2⟩, h⟩
theorem exCss_el : ∀ {cs : List (List CT)} {F : List (List Value) → Prop}, exCss cs F → ∃ vs, F vs
  | [], F, h => ⟨[], h⟩
  | c :: cs, F, h => by
    obtain ⟨v, _, _, h⟩ := exCs_el h
    obtain ⟨vs, h⟩ := exCss_el h
    exact ⟨v :: vs, h⟩
mutual
theorem exSh_el : ∀ {s : Sh} {F : Value → Prop}, exSh s F → ∃ v, F v
  | .one c, F, h => by unfold exSh at h; obtain ⟨v, _, h⟩ := exC_el h; exact ⟨v, h⟩
  | .agg cs, F, h => by unfold exSh at h; obtain ⟨v, _, _, h⟩ := exCs_el h; exact ⟨_, h⟩
  | .tup l, F, h => by unfold exSh at h; obtain ⟨v, h⟩ := exShs_el h; exact ⟨_, h⟩
theorem exShs_el : ∀ {s : List Sh} {F : List Value → Prop}, exShs s F → ∃ v, F v
  | [], F, h => by unfold exShs at h; exact ⟨_, h⟩
  | c :: cs, F, h => by unfold exShs at h; obtain ⟨v, h⟩ := exSh_el h; obtain ⟨vs, h⟩ := exShs_el h; exact ⟨_, h⟩
end

theorem sCells_len (s : SV) (x : Value) (h : real s = x) : (sCells s).map real = x.cells.toList := by
  subst h
  cases s with
  | v x => cases x <;> simp [sCells, real, Value.cells, Function.comp_def]
  | p i b off => simp [sCells, real, Value.cells]
theorem sCells_okp {s : SV} (h : okp L s) : ∀ x ∈ sCells s, okp L x := by
  cases s with
  | v x => cases x <;> simp [sCells, okp]
  | p i b off => simpa [sCells] using h
end
end Go.Proofs.Ytnkpjlhbojjneaa.VC

/- Maps; the quiet operations. -/
namespace Go.Proofs.Ytnkpjlhbojjneaa.VC
open Go Go.RowKit

section
variable {P : Program} {T : Tab}
def KeyFacts (P : Program) (kt : KT) (t : TypeId) : Prop :=
  match kt with
  | .int => P.underlying t = some (.int .i64)
  | .str => P.underlying t = some .string
  | .pair => (∃ fs, P.underlying t = some (.struct fs)) ∧ PairFacts P t
theorem keyT_facts (hT : GoodT P T) {t : TypeId} {kt : KT} (h : keyT T t = some kt) : KeyFacts P kt t := by
  unfold keyT at h
  cases hg : T.get t with
  | none => simp [hg] at h
  | some ti =>
    obtain ⟨⟨d, hd, hm⟩, _, _, _, _, _, _, hpair⟩ := hT t ti hg
    simp only [hg, Option.map_some] at h
    split at h
    · rename_i hq
      simp only [Option.some.injEq] at h; subst h
      simp only [Option.some.injEq] at hq
      rw [hq] at hm; simp only [MatchD] at hm; subst hm; exact hd
    · rename_i hq
      simp only [Option.some.injEq] at h; subst h
      simp only [Option.some.injEq] at hq
      rw [hq] at hm; simp only [MatchD] at hm; subst hm; exact hd
    · rename_i hq
      simp only [Option.some.injEq] at hq
      split at h <;> first | (simp only [Option.some.injEq] at h; subst h) | simp at h
      rename_i hp
      simp only [Option.some.injEq] at hp
      have := hpair hp
      rw [hq] at hm; obtain ⟨fs, rfl, _⟩ := hm
      exact ⟨⟨fs, hd⟩, this⟩
    · simp at h
def idxF (kt : KT) (k : Value) : List MapEntry → Nat → Option (Nat × Value)
  | [], _ => none
  | e :: es, i => match kt.eq k e.key with | true => some (i, e.val) | false => idxF kt k es (i + 1)
theorem pair_form {v : Value} (h : KT.ok .pair v = true) : ∃ a b, v = .agg #[.int .i64 a, .int .i64 b] := by
  cases v with
  | agg cs =>
    simp only [KT.ok] at h
    split at h
    · rename_i a b he
      refine ⟨a, b, ?_⟩
      congr 1
      have := congrArg List.toArray he
      simpa using this
    · simp at h
  | _ => simp [KT.ok] at h
theorem findKey_run {kt : KT} {t : TypeId} (hk : KeyFacts P kt t) {k : Value} (hok : kt.ok k = true) (w : World) (es : List MapEntry) (hes : ∀ e ∈ es, kt.ok e.key = true) :
    (Instr.findKey t k es).run P w = .ok (idxF kt k es 0) w := by
  cases kt with
  | int =>
    obtain ⟨a, rfl⟩ : ∃ a, k = .int .i64 a := by unfold KT.ok at hok; split at hok <;> simp_all
    have : ∀ (l : List MapEntry) (i : Nat), (∀ e ∈ l, KT.ok .int e.key = true) → Instr.findNow (.int .i64) (.int .i64 a) l i = some (idxF .int (.int .i64 a) l i) := by
      intro l
      induction l with
      | nil => intro i _; rfl
      | cons e l ih =>
        intro i h
        obtain ⟨b, hb⟩ : ∃ b, e.key = .int .i64 b := by have := h e (by simp); unfold KT.ok at this; split at this <;> simp_all
        have ih' := ih (i + 1) (fun e he => h e (by simp [he]))
        simp only [Instr.findNow, Instr.sameNow, hb, if_true, idxF, KT.eq]
        cases hab : (a == b) <;> simp [ih']
    simp [Instr.findKey, run_underlying hk, this es 0 hes]
  | str =>
    obtain ⟨a, rfl⟩ : ∃ a, k = .string a := by unfold KT.ok at hok; split at hok <;> simp_all
    have : ∀ (l : List MapEntry) (i : Nat), (∀ e ∈ l, KT.ok .str e.key = true) → Instr.findNow .string (.string a) l i = some (idxF .str (.string a) l i) := by
      intro l
      induction l with
      | nil => intro i _; rfl
      | cons e l ih =>
        intro i h
        obtain ⟨b, hb⟩ : ∃ b, e.key = .string b := by have := h e (by simp); unfold KT.ok at this; split at this <;> simp_all
        have ih' := ih (i + 1) (fun e he => h e (by simp [he]))
        simp only [Instr.findNow, Instr.sameNow, hb, idxF, KT.eq]
        cases hab : (a == b) <;> simp [ih']
    simp [Instr.findKey, run_underlying hk, this es 0 hes]
  | pair =>
    obtain ⟨⟨fs, hu⟩, hp⟩ := hk
    obtain ⟨a, b, rfl⟩ := pair_form hok
    have : ∀ (l : List MapEntry) (i : Nat), (∀ e ∈ l, KT.ok .pair e.key = true) → (Instr.findAsking t (.agg #[.int .i64 a, .int .i64 b]) l i).run P w = .ok (idxF .pair (.agg #[.int .i64 a, .int .i64 b]) l i) w := by
      intro l
      induction l with
      | nil => intro i _; simp [Instr.findAsking, idxF]
      | cons e l ih =>
        intro i h
        obtain ⟨c, d, hb⟩ := pair_form (h e (by simp))
        have ih' := ih (i + 1) (fun e he => h e (by simp [he]))
        simp only [Instr.findAsking, hb, Sem.run_bind, hp.eq, Result.andThen_ok, idxF, KT.eq]
        cases hab : (a == c && b == d) <;> simp [ih']
    cases es with
    | nil => simp [Instr.findKey, run_underlying hu, Instr.findNow, idxF]
    | cons e es =>
      obtain ⟨c, d, hb⟩ := pair_form (hes e (by simp))
      have hn : Instr.findNow (.struct fs) (.agg #[.int .i64 a, .int .i64 b]) (e :: es) 0 = none := by simp [Instr.findNow, Instr.sameNow]
      simp [Instr.findKey, run_underlying hu, hn, this (e :: es) 0 hes]
theorem checkKey_run {kt : KT} {t : TypeId} (hk : KeyFacts P kt t) {k : Value} (hok : kt.ok k = true) (emp : Bool) (w : World) : (Instr.checkKey emp 10000 t k).run P w = .ok () w := by
  cases kt with
  | int =>
    have : ∀ n, (Instr.checkKey emp (n + 1) t k).run P w = .ok () w := fun n => by simp [Instr.checkKey, run_underlying hk]
    exact this 9999
  | str =>
    have : ∀ n, (Instr.checkKey emp (n + 1) t k).run P w = .ok () w := fun n => by simp [Instr.checkKey, run_underlying hk]
    exact this 9999
  | pair =>
    obtain ⟨a, b, rfl⟩ := pair_form hok
    exact hk.2.key _ _ _ _
theorem idxF_assoc (kt : KT) (k : Value) : ∀ (es : List MapEntry) (i : Nat), (idxF kt k es i).map Prod.snd = assoc kt (es.map fun e => (e.key, e.val)) k
  | [], _ => rfl
  | e :: es, i => by
    have := idxF_assoc kt k es (i + 1)
    simp only [idxF, assoc, List.map_cons, List.find?_cons] at *
    cases hq : kt.eq k e.key <;> simp [this]

theorem buildCells_fill {env : Env} {L : List LB} {a : Act} (he : EnvOK env L a) (offs : List Nat) (place : Nat → Option (Nat × Nat)) (hp : ∀ j off, offs[j]? = some off → place j = some (off, 1)) :
    ∀ (parts : List (Nat × Operand)) (cs cs' : List Value), buildCells offs env parts cs = some cs' →
      Instr.fill place cs.toArray (parts.map fun x => (x.1, a.eval x.2)) = some cs'.toArray
  | [], cs, cs', h => by simp only [buildCells, Option.some.injEq] at h; subst h; rfl
  | (i, o) :: r, cs, cs', h => by
    simp only [buildCells] at h
    split at h
    · rename_i off x h1 h2
      split at h
      · rename_i h3 h4
        have hx := (evE_ok he h2).1
        simp only [real] at hx
        have hc := one1_cells h3
        have hlt : off < cs.length := by simpa using h4
        have ih := buildCells_fill he offs place hp r _ _ h
        simp only [List.map_cons, Instr.fill, hx, hp i off h1, hc]
        have : ¬ off + 1 > cs.length := by omega
        simp [this]
        simpa using ih
      · simp at h
    · simp at h
end
end Go.Proofs.Ytnkpjlhbojjneaa.VC

/- The quiet operations do what their condition says. -/
namespace Go.Proofs.Ytnkpjlhbojjneaa.VC
open Go Go.RowKit

def PCond (pd : Pend) (L : List LB) (w : World) (L' : List LB) (w' : World) : Prop :=
  match pd with
  | .none => True
  | .priv q => ∃ l, L[q]? = some l ∧ L'[q]? = some l
  | .vis a vs => CellsAt w' a 0 vs True
  | .any => L' = L ∧ w' = w

section
variable {P : Program} {T : Tab} {env : Env} {L : List LB} {F0 : List (Nat × Obj)} {w : World} {a : Act} {J : List (Nat × Bool)} {rt : TypeId} {K : SV → List LB → World → Prop}

/-- what has to be shown of a quiet operation -/
def QS (P : Program) (F0 : List (Nat × Obj)) (o : Oper) (a : Act) (env : Env) (L : List LB) (w : World) (K : SV → List LB → World → Prop) : Prop :=
  ∃ s, K s L w ∧ okp L s ∧ PCond (pendOf o.op env s) L w L w ∧
    ∀ L' w' wa', PCond (pendOf o.op env s) L w L' w' → InvL L' F0 w' wa' → (execOp a.eval o).run P wa' = .ok (.value (real s)) wa'

theorem optE_ok (he : EnvOK env L a) {o : Option Operand} {s : Option SV} (h : optE env o = some s) : o.map a.eval = s.map real := by
  cases o with
  | none => simp only [optE, Option.some.injEq] at h; subst h; rfl
  | some x =>
    simp only [optE] at h
    split at h
    · rename_i s' hs
      simp only [Option.some.injEq] at h; subst h
      simp [(evE_ok he hs).1]
    · simp at h
theorem intOp_run {op : BinOp} {k : IntKind} {x y : Int} {v : Value} (h : intOp op k x y = some v) (t : TypeId) (w : World) : (binOp op t (.int k x) (.int k y)).run P w = .ok v w := by
  cases op <;> simp only [intOp, Option.some.injEq, reduceCtorEq] at h <;> subst h <;> simp [binOp, Op.intArith, Op.intCmp]
theorem eqGuard_int (op : BinOp) (t : TypeId) (x y : Operand) (k k' : IntKind) (u v : Int) (w : World) : (eqGuard op t x y (.int k u) (.int k' v)).run P w = .ok () w := by cases op <;> rfl
theorem eqGuard_bool (op : BinOp) (t : TypeId) (x y : Operand) (u v : Bool) (w : World) : (eqGuard op t x y (.bool u) (.bool v)).run P w = .ok () w := by cases op <;> rfl
theorem eqGuard_slice (op : BinOp) (t : TypeId) (x y : Operand) (A B : Option Addr) (n c n' c' : Nat) (w : World) : (eqGuard op t x y (.slice A n c) (.slice B n' c')).run P w = .ok () w := by cases op <;> rfl
theorem eqGuard_map (op : BinOp) (t : TypeId) (x y : Operand) (A B : Option Nat) (w : World) : (eqGuard op t x y (.map A) (.map B)).run P w = .ok () w := by cases op <;> rfl
theorem equal_run (t : TypeId) (x y : Value) (b : Bool) (w : World) (h : ∀ d, (Op.equalIn (d + 1) t x y).run P w = .ok b w) : (Op.equal t x y).run P w = .ok b w := h 9999
theorem mem_take_drop {α : Type} {x : α} {l : List α} {i n : Nat} (h : x ∈ (l.drop i).take n) : x ∈ l := List.mem_of_mem_drop (List.mem_of_mem_take h)

theorem binK_run (hT : GoodT P T) (op : BinOp) (t : TypeId) (xo yo : Operand) (x y : Value) (K : Value → Prop) (h : binK T op t x y K) :
    ∃ v, K v ∧ ∀ w, (do eqGuard op t xo yo x y; binOp op t x y : Sem Value).run P w = .ok v w := by
  unfold binK at h
  split at h
  · rename_i k a k' b
    split at h
    · have hg := fun w => eqGuard_int (P := P) .shr t xo yo k k' a b w
      unfold shrK at h
      split at h
      · rename_i hb
        have hb : b = 8 := by simpa using hb
        subst hb
        refine ⟨_, h, fun w => ?_⟩
        have e : a.fdiv 256 = a / 256 := Int.fdiv_eq_ediv_of_nonneg _ (by decide)
        simp [hg, binOp, Op.shift, IntKind.bits, e]
      · exact h.elim
    split at h
    · rename_i hk
      have hk : k = k' := by simpa using hk
      subst hk
      have hg := fun w => eqGuard_int (P := P) op t xo yo k k a b w
      split at h
      · refine ⟨_, h.2, fun w => ?_⟩
        simp [hg, binOp, Op.intDiv, h.1]
      · refine ⟨_, h.2, fun w => ?_⟩
        simp [hg, binOp, Op.intDiv, h.1]
      · split at h
        · rename_i v hv
          exact ⟨v, h, fun w => by simp only [Sem.run_bind, hg, Result.andThen_ok]; exact intOp_run hv t w⟩
        · exact h.elim
    · exact h.elim
  · rename_i a b
    split at h
    · rename_i e he hd
      refine ⟨_, h, fun w => ?_⟩
      have hg := eqGuard_bool (P := P) op t xo yo a b w
      cases hti : T.get t with
      | none => simp [hti] at hd
      | some ti =>
        simp only [hti, Option.map_some, Option.some.injEq] at hd
        obtain ⟨⟨d, hu, hm⟩, _⟩ := hT t ti hti
        rw [hd] at hm; simp only [MatchD] at hm; subst hm
        have heq := equal_run (P := P) t (.bool a) (.bool b) (a == b) w (fun d => by simp [Op.equalIn, run_underlying hu])
        cases op <;> simp only [isEq, Option.some.injEq, reduceCtorEq] at he <;> subst he <;> simp [hg, binOp, heq, eqB]
    · exact h.elim
  · rename_i A n c n' c'
    split at h
    · rename_i e e1 he hd
      refine ⟨_, h, fun w => ?_⟩
      have hg := eqGuard_slice (P := P) op t xo yo A none n c n' c' w
      cases hti : T.get t with
      | none => simp [hti] at hd
      | some ti =>
        simp only [hti, Option.map_some, Option.some.injEq] at hd
        obtain ⟨⟨d, hu, hm⟩, _⟩ := hT t ti hti
        rw [hd] at hm; simp only [MatchD] at hm; subst hm
        have heq := equal_run (P := P) t (.slice A n c) (.slice none n' c') A.isNone w (fun d => by cases A <;> simp [Op.equalIn, run_underlying hu])
        cases op <;> simp only [isEq, Option.some.injEq, reduceCtorEq] at he <;> subst he <;> simp [hg, binOp, heq, eqB]
    · exact h.elim
  · rename_i A
    split at h
    · rename_i e k1 e1 he hd
      refine ⟨_, h, fun w => ?_⟩
      have hg := eqGuard_map (P := P) op t xo yo A none w
      cases hti : T.get t with
      | none => simp [hti] at hd
      | some ti =>
        simp only [hti, Option.map_some, Option.some.injEq] at hd
        obtain ⟨⟨d, hu, hm⟩, _⟩ := hT t ti hti
        rw [hd] at hm; simp only [MatchD] at hm; subst hm
        have heq := equal_run (P := P) t (.map A) (.map none) A.isNone w (fun d => by cases A <;> simp [Op.equalIn, run_underlying hu])
        cases op <;> simp only [isEq, Option.some.injEq, reduceCtorEq] at he <;> subst he <;> simp [hg, binOp, heq, eqB]
    · exact h.elim
  · rename_i xs ys
    split at h
    · rename_i e a b c d he hd hx hy
      refine ⟨_, h, fun w => ?_⟩
      have hx : xs = #[.int .i64 a, .int .i64 b] := by have := congrArg List.toArray hx; simpa using this
      have hy : ys = #[.int .i64 c, .int .i64 d] := by have := congrArg List.toArray hy; simpa using this
      subst hx; subst hy
      cases hti : T.get t with
      | none => simp [hti] at hd
      | some ti =>
        simp only [hti, Option.map_some, Option.some.injEq] at hd
        have hp := (hT t ti hti).pair hd
        cases op <;> simp only [isEq, Option.some.injEq, reduceCtorEq] at he <;> subst he <;> simp [hp.guard, binOp, hp.eq, eqB]
    · exact h.elim
  · exact h.elim

theorem map_get_d {t : TypeId} {d : TD} (h : (T.get t).map TI.d = some d) : ∃ ti, T.get t = some ti ∧ ti.d = d := by
  cases hti : T.get t with
  | none => simp [hti] at h
  | some ti => exact ⟨ti, rfl, by simpa [hti] using h⟩
theorem und_of (hT : GoodT P T) {t : TypeId} {d : TD} (h : (T.get t).map TI.d = some d) : ∃ dd, P.underlying t = some dd ∧ MatchD P d dd := by
  obtain ⟨ti, h1, rfl⟩ := map_get_d h
  exact (hT t ti h1).und
theorem info_of (hT : GoodT P T) {t : TypeId} {ti : TI} (h : T.get t = some ti) : ∃ i, P.info? t = some i ∧ i.size = ti.size ∧ i.bytes = ti.bytes := by
  obtain ⟨i, h1, h2, h3, _⟩ := (hT t ti h).info
  exact ⟨i, h1, h2, h3⟩

theorem boundK_run {s : Option SV} {o : Option Value} (ho : o = s.map real) {dflt hi : Nat} {K : Nat → Prop} (h : boundK s dflt hi K) (code : BoundsCode) :
    ∃ n, K n ∧ ((s = none ∧ n = dflt) ∨ (s ≠ none ∧ n ≤ hi)) ∧ ∀ w, (match o with | some v => Instr.sliceBound v hi code | none => pure dflt : Sem Nat).run P w = .ok n w := by
  subst ho
  unfold boundK at h
  split at h
  · exact ⟨_, h, .inl ⟨rfl, rfl⟩, fun w => rfl⟩
  · rename_i k i
    obtain ⟨h0, h1, h2⟩ := h
    refine ⟨_, h2, .inr ⟨by simp, by omega⟩, fun w => ?_⟩
    simp only [Option.map_some, real, Instr.sliceBound, asIntOf, Sem.run_bind, Sem.run_pure, Result.andThen_ok]
    rw [if_pos ⟨h0, h1⟩]; rfl
  · exact h.elim
end
end Go.Proofs.Ytnkpjlhbojjneaa.VC

/- The quiet operations do what their condition says: all of them. -/
namespace Go.Proofs.Ytnkpjlhbojjneaa.VC
open Go Go.RowKit

section
variable {P : Program} {T : Tab} {env : Env} {L : List LB} {F0 : List (Nat × Obj)} {w : World} {a : Act} {J : List (Nat × Bool)} {rt : TypeId} {K : SV → List LB → World → Prop}

theorem sCells_mkv {agg : Bool} {vs : List Value} (h1 : ∀ v ∈ vs, one1 v = true) (hs : agg = false → vs.length = 1) : (sCells (.v (mkv agg vs))).map real = vs := by
  cases agg with
  | true => simp [mkv, sCells, real, Function.comp_def]
  | false =>
    obtain ⟨v, rfl⟩ := List.length_eq_one_iff.1 (hs rfl)
    have := h1 v (by simp)
    cases v <;> first | rfl | simp [one1] at this

theorem qs_load (hT : GoodT P T) (he : EnvOK env L a) (hok : ∀ l ∈ L, ∀ x ∈ l.cs, okp L x) (o : Oper) (t : TypeId) (x : Operand) (ho : o.op = .load t x)
    (h : opv P T J rt (.load t x) env L w K) : QS P F0 o a env L w K := by
  simp only [opv] at h
  split at h
  · rename_i ti i b off ht hx
    have hev := evE_ok he hx
    split at h
    · rename_i l hl
      have key : ∀ L' w' wa' vs, vs.length = ti.size → (∀ j v, vs[j]? = some v → (l.cs.map real)[off + j]? = some v) → L'[i]? = L[i]? → InvL L' F0 w' wa' →
          (execOp a.eval o).run P wa' = .ok (.value (mkv ti.agg vs)) wa' := by
        intro L' w' wa' vs hlen hv hc hI
        rw [hl] at hc
        obtain ⟨l', hl', hb⟩ := hev.2
        rw [hl] at hl'; injection hl' with hl'; subst hl'
        have hblk := blk_at hI.rel hc
        have hrun := run_loadVar_at hT ht wa' ⟨b, off, none⟩ vs hlen (fun j v hj => by
          rw [add_none, ← hb, cell_blk hblk]
          simpa using hv j v hj)
        simp [execOp, ho, Instr.loadAt, hev.1, real, Instr.sureAddr, hrun]
      split at h
      · rename_i hle hag
        have hle : off + ti.size ≤ l.cs.length := by simpa using hle
        refine ⟨_, h, trivial, by simp [ho, pendOf, hx, PCond, hl], fun L' w' wa' hc hI => ?_⟩
        simp only [ho, pendOf, hx, PCond] at hc
        replace hc : L'[i]? = L[i]? := by obtain ⟨l2, h1, h2⟩ := hc; rw [h1, h2]
        rw [key L' w' wa' (((l.cs.drop off).take ti.size).map real) (by simp; omega) (fun j v hj => by
          simp only [List.getElem?_map, List.getElem?_take, List.getElem?_drop] at hj ⊢
          split at hj
          · exact hj
          · simp at hj) hc hI]
        simp [mkv, hag, real]
      · rename_i hle hag
        split at h
        · rename_i s hs
          refine ⟨s, h, hok l (List.mem_of_getElem? hl) s (List.mem_of_getElem? hs), by simp [ho, pendOf, hx, PCond, hl], fun L' w' wa' hc hI => ?_⟩
          simp only [ho, pendOf, hx, PCond] at hc
          replace hc : L'[i]? = L[i]? := by obtain ⟨l2, h1, h2⟩ := hc; rw [h1, h2]
          have h1 := (hT t ti ht).single hag
          rw [key L' w' wa' [real s] (by simp [h1]) (fun j v hj => by
            cases j with
            | zero =>
              simp only [List.getElem?_cons_zero, Option.some.injEq] at hj; subst hj
              simp [hs]
            | succ j => simp at hj) hc hI]
          simp [mkv, hag]
        · exact h.elim
      · exact h.elim
    · exact h.elim
  · rename_i ti ad ht hx
    have hev := evE_ok he hx
    obtain ⟨vs, hlen, h1, h⟩ := exCs_el h
    obtain ⟨hK, hc⟩ := CellsAt_get h
    have hg := hT t ti ht
    have hsc := sCells_mkv (agg := ti.agg) h1 (fun hag => by rw [hlen, hg.cts]; exact hg.single hag)
    refine ⟨_, hK, trivial, ?_, fun L' w' wa' hcond hI => ?_⟩
    · simp only [ho, pendOf, hx, PCond, hsc]
      exact CellsAt_imp (fun _ => trivial) h
    · simp only [ho, pendOf, hx, PCond, hsc] at hcond
      obtain ⟨_, hc'⟩ := CellsAt_get hcond
      have hrun := run_loadVar_at hT ht wa' ad vs (by rw [hlen, hg.cts]) (fun j v hj => hI.rel.cell (by simpa using hc' j v hj))
      simp [execOp, ho, Instr.loadAt, hev.1, real, Instr.sureAddr, hrun]
  · exact h.elim

theorem qs_lookup (hT : GoodT P T) (he : EnvOK env L a) (o : Oper) (t : TypeId) (m k : Operand) (ok : Bool) (ho : o.op = .lookup t m k ok)
    (h : opv P T J rt (.lookup t m k ok) env L w K) : QS P F0 o a env L w K := by
  simp only [opv] at h
  split at h
  · rename_i kt et r kv hd hm hk
    have hm := (evE_ok he hm).1
    have hk := (evE_ok he hk).1
    split at h
    · rename_i KT' ei hkt hei
      split at h
      · rename_i z hz hkok hagf
        obtain ⟨kvs, hmap, h⟩ := h
        unfold MapOpt at hmap
        obtain ⟨vs, hlen, h1, hval, hK⟩ := exCs_el h
        obtain ⟨dd, hu, hmd⟩ := und_of hT hd
        simp only [MatchD] at hmd; subst hmd
        have hkf := keyT_facts hT hkt
        obtain ⟨inf, hinf, _, _, hzero⟩ := (hT et ei hei).info
        have hsz : ei.size = 1 := by have := (hT et ei hei).zero; rw [hz] at this; simpa using this.symm
        have hzv : ∃ z', inf.zero = some z' ∧ z' = mkv ei.agg [z] := ⟨_, by rw [hzero, hz], rfl⟩
        have hrun : ∀ wa', Rel (raw L ++ F0) w wa' → (Instr.lookup t (.map r) kv ok).run P wa' = .ok (if ok then .tuple #[(assoc KT' kvs kv).getD (mkv ei.agg [z]), .bool (assoc KT' kvs kv).isSome] else (assoc KT' kvs kv).getD (mkv ei.agg [z])) wa' := by
          intro wa' hr
          obtain ⟨z', hz1, rfl⟩ := hzv
          cases r with
          | none =>
            simp only at hmap; subst hmap
            have hck := checkKey_run (P := P) hkf hkok true wa'
            have hfk := findKey_run (P := P) hkf hkok wa' [] (by simp)
            simp [Instr.lookup, run_underlying hu, hck, hfk, idxF, zeroValue, typeInfo, hinf, hz1, assoc]
          | some r =>
            simp only at hmap
            obtain ⟨es, clock, hb, hes, hkeys⟩ := hmap
            have hb' := hr.map hb
            have hgo : (getObj r).run P wa' = .ok (.map es clock) wa' := by simp [getObj, Sem.run, hb']
            have hkeys' : ∀ e ∈ es.toList, KT'.ok e.key = true := fun e hemem => hkeys (e.key, e.val) (by rw [← hes]; exact List.mem_map.2 ⟨e, hemem, rfl⟩)
            have hck := checkKey_run (P := P) hkf hkok es.isEmpty wa'
            have hfk := findKey_run (P := P) hkf hkok wa' es.toList hkeys'
            have hia := idxF_assoc KT' kv es.toList 0
            rw [hes] at hia
            cases hq : idxF KT' kv es.toList 0 with
            | none =>
              rw [hq] at hia hfk
              simp [Instr.lookup, run_underlying hu, hgo, hck, hfk, zeroValue, typeInfo, hinf, hz1, ← hia]
            | some iv =>
              rw [hq] at hia hfk
              simp [Instr.lookup, run_underlying hu, hgo, hck, hfk, ← hia]
        have hval' : (assoc KT' kvs kv).getD (mkv ei.agg [z]) = mkv ei.agg vs := by rw [hagf]; rw [hagf] at hval; exact hval
        cases ok with
        | true =>
          refine ⟨_, hK, trivial, by simp [ho, pendOf, PCond], fun L' w' wa' hc hI => ?_⟩
          simp only [ho, pendOf, PCond] at hc
          obtain ⟨rfl, rfl⟩ := hc
          simp [execOp, ho, hm, hk, real, hrun wa' hI.rel, hval']
        | false =>
          refine ⟨_, hK, trivial, by simp [ho, pendOf, PCond], fun L' w' wa' hc hI => ?_⟩
          simp only [ho, pendOf, PCond] at hc
          obtain ⟨rfl, rfl⟩ := hc
          simp [execOp, ho, hm, hk, real, hrun wa' hI.rel, hval']
      · exact h.elim
    · exact h.elim
  · exact h.elim

theorem qs_slice (hT : GoodT P T) (he : EnvOK env L a) (o : Oper) (t : TypeId) (x : Operand) (lo hi mx : Option Operand) (ho : o.op = .slice t x lo hi mx)
    (h : opv P T J rt (.slice t x lo hi mx) env L w K) : QS P F0 o a env L w K := by
  simp only [opv] at h
  split at h
  · rename_i e A n c slo shi hd hx hlo hhi
    have hx := (evE_ok he hx).1
    have hlo := optE_ok he hlo
    have hhi := optE_ok he hhi
    obtain ⟨dd, hu, hmd⟩ := und_of hT hd
    simp only [MatchD] at hmd; subst hmd
    split at h
    · rename_i ei hei
      obtain ⟨inf, hinf, hsz, _⟩ := info_of hT hei
      obtain ⟨hn, h, hnb, hrh⟩ := boundK_run (P := P) hhi h .sliceAcap
      obtain ⟨ln, h, hlb, hrl⟩ := boundK_run (P := P) hlo h .sliceB
      refine ⟨_, h, trivial, by simp [ho, pendOf, PCond], fun L' w' wa' _ _ => ?_⟩
      have hrh := hrh wa'
      have hrl := hrl wa'
      simp only [execOp, ho, Sem.run_bind, Instr.sliceAt, run_underlying hu, Result.andThen_ok, Instr.slice, hx, real, Instr.sliceBounds, Option.map_none, Sem.run_pure]
      cases hhi' : hi.map a.eval with
      | none =>
        rw [hhi'] at hrh
        have e1 : n = hn := by simpa using hrh
        subst e1
        cases hlo' : lo.map a.eval with
        | none =>
          rw [hlo'] at hrl
          have e2 : 0 = ln := by simpa using hrl
          subst e2
          simp [sizeOf, typeInfo, hinf, hsz]
        | some v =>
          rw [hlo'] at hrl; simp only at hrl
          simp [hrl, sizeOf, typeInfo, hinf, hsz]
      | some u =>
        rw [hhi'] at hrh; simp only at hrh
        cases hlo' : lo.map a.eval with
        | none =>
          rw [hlo'] at hrl
          have e2 : 0 = ln := by simpa using hrl
          subst e2
          simp [hrh, sizeOf, typeInfo, hinf, hsz]
        | some v =>
          rw [hlo'] at hrl; simp only at hrl
          simp [hrh, hrl, sizeOf, typeInfo, hinf, hsz]
    · exact h.elim
  · exact h.elim

theorem qs_field (hT : GoodT P T) (he : EnvOK env L a) (o : Oper) (t : TypeId) (x : Operand) (f : Nat) (ho : o.op = .fieldAddr t x f)
    (h : opv P T J rt (.fieldAddr t x f) env L w K) : QS P F0 o a env L w K := by
  have main : ∀ offs off (b : Addr), (T.get t).map TI.d = some (.struct offs) → offs[f]? = some off → a.eval x = .pointer (some b) → ∀ wa', (execOp a.eval o).run P wa' = .ok (.value (.pointer (some (b.add off)))) wa' := by
    intro offs off b hd hoff hx wa'
    obtain ⟨dd, hu, hmd⟩ := und_of hT hd
    obtain ⟨fs, rfl, _, hf, _⟩ := hmd
    obtain ⟨fd, fi, h1, h2, h3, h4⟩ := hf f off hoff
    simp [execOp, ho, Instr.fieldAt, run_underlying hu, h1, hx, Instr.sureAddr, fieldPlace, sizeOf, typeInfo, h3, h4, h2]
  simp only [opv] at h
  split at h
  · rename_i offs i b off hd hx
    have hev := evE_ok he hx
    split at h
    · rename_i o' hoff
      refine ⟨_, h, hev.2, by simp [ho, pendOf, PCond], fun L' w' wa' _ _ => ?_⟩
      rw [main offs o' ⟨b, off, none⟩ hd hoff hev.1 wa', add_none]; rfl
    · exact h.elim
  · rename_i offs ad hd hx
    have hev := evE_ok he hx
    split at h
    · rename_i o' hoff
      refine ⟨_, h, trivial, by simp [ho, pendOf, PCond], fun L' w' wa' _ _ => ?_⟩
      rw [main offs o' ad hd hoff hev.1 wa']; simp [real, at_eq]
    · exact h.elim
  · exact h.elim

theorem qs_index (hT : GoodT P T) (he : EnvOK env L a) (o : Oper) (t : TypeId) (x i : Operand) (ho : o.op = .indexAddr t x i)
    (h : opv P T J rt (.indexAddr t x i) env L w K) : QS P F0 o a env L w K := by
  simp only [opv] at h
  split at h
  · rename_i e A n c k i' hd hx hi
    have hx := (evE_ok he hx).1
    have hi := (evE_ok he hi).1
    obtain ⟨dd, hu, hmd⟩ := und_of hT hd
    simp only [MatchD] at hmd; subst hmd
    split at h
    · rename_i ei hei
      obtain ⟨inf, hinf, hsz, _⟩ := info_of hT hei
      obtain ⟨ad, rfl, h0, h1, h⟩ := h
      refine ⟨_, h, trivial, by simp [ho, pendOf, PCond], fun L' w' wa' _ _ => ?_⟩
      simp [execOp, ho, Instr.indexAt, hx, hi, real, asIntOf, run_underlying hu, sizeOf, typeInfo, hinf, hsz, h0, h1]
    · exact h.elim
  · rename_i n e q b off k i' hd hx hi
    have hev := evE_ok he hx
    have hi := (evE_ok he hi).1
    obtain ⟨dd, hu, hmd⟩ := und_of hT hd
    obtain ⟨rfl, _⟩ := hmd
    split at h
    · rename_i ei hei
      obtain ⟨inf, hinf, hsz, _⟩ := info_of hT hei
      split at h
      · rename_i hb hn
        have hb : 0 ≤ i' ∧ i' < (n : Int) := by simpa using hb
        refine ⟨_, h, hev.2, by simp [ho, pendOf, PCond], fun L' w' wa' _ _ => ?_⟩
        simp [execOp, ho, Instr.indexAt, hev.1, hi, real, asIntOf, run_underlying hu, sizeOf, typeInfo, hinf, hsz, hb.1, hb.2, Instr.sureAddr, add_none]
      · exact h.elim
    · exact h.elim
  · exact h.elim

theorem qs_build (hT : GoodT P T) (he : EnvOK env L a) (o : Oper) (t : TypeId) (parts : Array (Nat × Operand)) (ho : o.op = .build t parts)
    (h : opv P T J rt (.build t parts) env L w K) : QS P F0 o a env L w K := by
  simp only [opv] at h
  split at h
  · rename_i ti ht
    obtain ⟨inf, hinf, hsz, _, hzero⟩ := (hT t ti ht).info
    split at h
    · rename_i offs hd
      split at h
      · rename_i cs hcs
        obtain ⟨dd, hu, hmd⟩ := (hT t ti ht).und
        rw [hd] at hmd
        obtain ⟨fs, rfl, hfsz, hf, hmap⟩ := hmd
        have hag : ti.agg = true := by simp [TI.agg, hd]
        refine ⟨_, h, trivial, by simp [ho, pendOf, PCond], fun L' w' wa' _ _ => ?_⟩
        have hfill := buildCells_fill he offs (fun j => (offs.map fun off => (off, 1)).toArray[j]?) (fun j off hj => by simp [hj]) parts.toList ti.zero cs hcs
        have hz : (zeroValue t).run P wa' = .ok (.agg ti.zero.toArray) wa' := by simp [zeroValue, typeInfo, hinf, hzero, hag, mkv]
        simp only [execOp, ho, Instr.build, Sem.run_bind, hz, Result.andThen_ok, run_underlying hu, hmap, Value.cells, Array.toList_map]
        rw [hfill]
        simp [real]
      · exact h.elim
    · rename_i n e hd
      split at h
      · rename_i cs hcs
        obtain ⟨dd, hu, hmd⟩ := (hT t ti ht).und
        rw [hd] at hmd
        obtain ⟨rfl, ei, hei, hes⟩ := hmd
        have hag : ti.agg = true := by simp [TI.agg, hd]
        refine ⟨_, h, trivial, by simp [ho, pendOf, PCond], fun L' w' wa' _ _ => ?_⟩
        have hfill := buildCells_fill he (List.range n) (fun j => some (j * 1, 1)) (fun j off hj => by
          rw [List.getElem?_range] at hj <;> simp_all
          have := (List.getElem?_eq_some_iff.1 hj).1
          simpa using this) parts.toList ti.zero cs hcs
        have hz : (zeroValue t).run P wa' = .ok (.agg ti.zero.toArray) wa' := by simp [zeroValue, typeInfo, hinf, hzero, hag, mkv]
        simp only [execOp, ho, Instr.build, Sem.run_bind, hz, Result.andThen_ok, run_underlying hu, Value.cells, Array.toList_map, sizeOf, typeInfo, run_program, hei, Sem.run_pure, hes]
        rw [hfill]
        simp [real]
      · exact h.elim
    · exact h.elim
  · exact h.elim
end
end Go.Proofs.Ytnkpjlhbojjneaa.VC

/- The quiet operations, together. -/
namespace Go.Proofs.Ytnkpjlhbojjneaa.VC
open Go Go.RowKit

section
variable {P : Program} {T : Tab} {env : Env} {L : List LB} {F0 : List (Nat × Obj)} {w : World} {a : Act} {J : List (Nat × Bool)} {rt : TypeId} {K : SV → List LB → World → Prop}

theorem Row_reads {w : World} {A : Option Addr} {n : Nat} {xs : List Int} (hl : xs.length = n) (h : Row w A (xs.map (Value.int .u8))) : (n = 0) ∨ ∃ b off, A = some ⟨b, off, none⟩ ∧ ∀ i, i < n → w.cell? ⟨b, off + i, none⟩ = some (.int .u8 (xs.getD i 0)) := by
  rcases Nat.eq_zero_or_pos n with h0 | h0
  · exact .inl h0
  · have hne : xs.map (Value.int .u8) ≠ [] := by intro e; have := congrArg List.length e; simp only [List.length_map, List.length_nil] at this; omega
    obtain ⟨ad, rfl, hc⟩ := h hne
    obtain ⟨b, off, sp⟩ := ad
    have h00 := hc 0 (.int .u8 (xs.getD 0 0)) (by simp [List.getD, List.getElem?_eq_getElem (show 0 < xs.length by omega)])
    simp only [Addr.add, if_true] at h00
    obtain ⟨c, e, f, _, hs, _⟩ := cell_block h00
    have hsp : sp = none := by simpa using hs
    subst hsp
    refine .inr ⟨b, off, rfl, fun i hi => ?_⟩
    have := hc i (.int .u8 (xs.getD i 0)) (by simp [List.getD, List.getElem?_eq_getElem (show i < xs.length by omega)])
    rwa [add_none] at this

theorem quiet_sem (hT : GoodT P T) (he : EnvOK env L a) (hok : ∀ l ∈ L, ∀ x ∈ l.cs, okp L x) (o : Oper) (hq : isQ o.op = true)
    (h : opv P T J rt o.op env L w K) : QS P F0 o a env L w K := by
  cases ho : o.op with
  | move x =>
    rw [ho] at h
    simp only [opv] at h
    split at h
    · rename_i s hs
      have hev := evE_ok he hs
      exact ⟨s, h, hev.2, by simp [ho, pendOf, PCond], fun L' w' wa' _ _ => by simp [execOp, ho, hev.1]⟩
    · exact h.elim
  | assign x =>
    rw [ho] at h
    simp only [opv] at h
    split at h
    · rename_i s hs
      have hev := evE_ok he hs
      exact ⟨s, h, hev.2, by simp [ho, pendOf, PCond], fun L' w' wa' _ _ => by simp [execOp, ho, hev.1]⟩
    · exact h.elim
  | pick c x y =>
    rw [ho] at h
    simp only [opv] at h
    split at h
    · rename_i b sx sy hc hx hy
      have hc := (evE_ok he hc).1
      have hx := evE_ok he hx
      have hy := evE_ok he hy
      split at h
      · exact ⟨sx, h, hx.2, by simp [ho, pendOf, PCond], fun L' w' wa' _ _ => by simp [execOp, ho, hc, real, asBool, hx.1]⟩
      · exact ⟨sy, h, hy.2, by simp [ho, pendOf, PCond], fun L' w' wa' _ _ => by simp [execOp, ho, hc, real, asBool, hy.1]⟩
    · exact h.elim
  | build t parts => rw [ho] at h; exact qs_build hT he o t parts ho h
  | load t x => rw [ho] at h; exact qs_load hT he hok o t x ho h
  | lookup t m k ok => rw [ho] at h; exact qs_lookup hT he o t m k ok ho h
  | slice t x lo hi mx => rw [ho] at h; exact qs_slice hT he o t x lo hi mx ho h
  | fieldAddr t x f => rw [ho] at h; exact qs_field hT he o t x f ho h
  | indexAddr t x i => rw [ho] at h; exact qs_index hT he o t x i ho h
  | nilCheck x =>
    rw [ho] at h
    simp only [opv] at h
    split at h
    · rename_i i b off hs
      have hev := evE_ok he hs
      exact ⟨_, h, hev.2, by simp [ho, pendOf, PCond], fun L' w' wa' _ _ => by simp [execOp, ho, hev.1, real]⟩
    · rename_i ad hs
      have hev := evE_ok he hs
      exact ⟨_, h, hev.2, by simp [ho, pendOf, PCond], fun L' w' wa' _ _ => by simp [execOp, ho, hev.1, real]⟩
    · exact h.elim
  | binOp op t x y t' =>
    rw [ho] at h
    simp only [opv] at h
    split at h
    · rename_i vx vy hx hy
      have hx := (evE_ok he hx).1
      have hy := (evE_ok he hy).1
      obtain ⟨v, hK, hrun⟩ := binK_run hT op t x y vx vy _ h
      refine ⟨_, hK, trivial, by simp [ho, pendOf, PCond], fun L' w' wa' _ _ => ?_⟩
      have := hrun wa'
      simp only [execOp, ho, hx, hy, real]
      simp only [Sem.run_bind] at this ⊢
      rw [this]; rfl
    · exact h.elim
  | unOp op t x =>
    rw [ho] at h
    simp only [opv] at h
    split at h
    · rename_i b hs
      have hev := evE_ok he hs
      exact ⟨_, h, trivial, by simp [ho, pendOf, PCond], fun L' w' wa' _ _ => by simp [execOp, ho, hev.1, real, Op.unary]⟩
    · exact h.elim
  | convert src dst x =>
    rw [ho] at h
    simp only [opv] at h
    split at h
    · rename_i k k' k2 n hd1 hd2 hs
      have hev := evE_ok he hs
      obtain ⟨d1, hu1, hm1⟩ := und_of hT hd1
      obtain ⟨d2, hu2, hm2⟩ := und_of hT hd2
      simp only [MatchD] at hm1 hm2; subst hm1; subst hm2
      exact ⟨_, h, trivial, by simp [ho, pendOf, PCond, hs], fun L' w' wa' _ _ => by simp [execOp, ho, hev.1, real, convert, run_underlying hu1, run_underlying hu2, Conv.intToInt]⟩
    · rename_i e A n c hd1 hd2 hs
      have hev := evE_ok he hs
      obtain ⟨d1, hu1, hm1⟩ := und_of hT hd1
      obtain ⟨d2, hu2, hm2⟩ := und_of hT hd2
      simp only [MatchD] at hm1 hm2; subst hm1; subst hm2
      split at h
      · rename_i hd3
        obtain ⟨d3, hu3, hm3⟩ := und_of hT hd3
        simp only [MatchD] at hm3; subst hm3
        obtain ⟨xs, hlen, hrow, h⟩ := h
        refine ⟨_, h, trivial, by simp [ho, pendOf, PCond, hs], fun L' w' wa' hc hI => ?_⟩
        simp only [ho, pendOf, PCond, hs] at hc
        obtain ⟨rfl, rfl⟩ := hc
        have hrow' : Row wa' A (xs.map (Value.int .u8)) := fun hne => by
          obtain ⟨ad, hA, hcc⟩ := hrow hne
          exact ⟨ad, hA, fun j v hj => hI.rel.cell (hcc j v hj)⟩
        have hrun : (convert src dst (.slice A n c)).run P wa' = .ok (.string (strOfNums xs)) wa' := by
          rcases Row_reads hlen hrow' with h0 | ⟨b, off, rfl, hcc⟩
          · subst h0
            have hx0 : xs = [] := List.eq_nil_of_length_eq_zero hlen
            subst hx0
            cases A with
            | none =>
              have := run_convert_bytes_nil (P := P) wa' src e hu1 hu3 0 c dst hu2
              rw [this]; rfl
            | some ad =>
              simp [convert, run_underlying hu1, run_underlying hu2, run_underlying hu3, Conv.bytesToString, loadCells, loadCellsFrom]
              rfl
          · exact run_convert_bytes_arg wa' src e hu1 hu3 b off n c xs hlen hcc dst hu2
        simp [execOp, ho, hev.1, real, hrun]
      · exact h.elim
    · exact h.elim
  | makeFunc fn first captured =>
    rw [ho] at h
    simp only [opv] at h
    split at h
    · rename_i x y hx hy
      have hx := (evs_ok he hx).1
      have hy := (evs_ok he hy).1
      refine ⟨_, h, trivial, by simp [ho, pendOf, PCond], fun L' w' wa' _ _ => ?_⟩
      have e1 : first.map a.eval = (x.map real).toArray := by rw [← hx, ← Array.toList_map, Array.toArray_toList]
      have e2 : captured.map a.eval = (y.map real).toArray := by rw [← hy, ← Array.toList_map, Array.toArray_toList]
      simp [execOp, ho, Instr.makeFunc, e1, e2, real]
    · exact h.elim
  | extract x i =>
    rw [ho] at h
    simp only [opv] at h
    split at h
    · rename_i vs hs
      have hev := evE_ok he hs
      split at h
      · rename_i v hv
        refine ⟨_, h, trivial, by simp [ho, pendOf, PCond], fun L' w' wa' _ _ => ?_⟩
        have hv : vs[i]? = some v := by simpa using hv
        simp [execOp, ho, hev.1, real, Instr.extract, hv]
      · exact h.elim
    · exact h.elim
  | call c =>
    rw [ho] at h hq
    simp only [isQ] at hq
    split at hq
    · rename_i hcal
      simp only [opv, hcal] at h
      split at h
      · rename_i h1 _; cases h1
      · rename_i A n c' _ hargs
        have hev := (evs_ok he hargs).1
        split at h
        · rename_i t ht
          split at h
          · rename_i e hd
            obtain ⟨d1, hu1, hm1⟩ := und_of hT hd
            simp only [MatchD] at hm1; subst hm1
            refine ⟨_, h, trivial, by simp [ho, pendOf, PCond], fun L' w' wa' _ _ => ?_⟩
            have ea : c.args.map a.eval = #[.slice A n c'] := by
              rw [← Array.toArray_toList (xs := c.args.map a.eval), Array.toList_map, hev]; rfl
            have et : c.argTypes = #[t] := by have := congrArg List.toArray ht; simpa using this
            simp [execOp, ho, resolve, hcal, invoke, builtin, ea, et, Builtin.len_, run_underlying hu1, goInt, real]
          · exact h.elim
        · exact h.elim
      · rename_i h1 _; cases h1
      · rename_i h1 _; cases h1
      · rename_i h1 _; cases h1
      · exact h.elim
    · simp at hq
  | _ => simp [ho, isQ] at hq
end
end Go.Proofs.Ytnkpjlhbojjneaa.VC

/- The operations that write or make memory. -/
namespace Go.Proofs.Ytnkpjlhbojjneaa.VC
open Go Go.RowKit

theorem Rel.perm {F F' : List (Nat × Obj)} {w wa : World} (h : Rel F w wa) (hp : F.Perm F') : Rel F' w wa :=
  h.sub (fun _ hx => hp.mem_iff.2 hx) ((hp.map Prod.fst).nodup_iff.1 h.nd)

structure Post (wr : List Nat) (L : List LB) (F0 : List (Nat × Obj)) (L' : List LB) (w' wa' : World) (s : SV) : Prop where
  inv : InvL L' F0 w' wa'
  ok : okp L' s
  keep : ∀ (q : Nat) l, L[q]? = some l → q ∉ wr → L'[q]? = some l
  keys : ∀ (q : Nat) l, L[q]? = some l → ∃ l', L'[q]? = some l' ∧ l'.b = l.b ∧ l'.t = l.t
theorem okp_keys {L L' : List LB} (h : ∀ (q : Nat) l, L[q]? = some l → ∃ l', L'[q]? = some l' ∧ l'.b = l.b ∧ l'.t = l.t) {s : SV} (hs : okp L s) : okp L' s := by
  cases s with
  | v x => trivial
  | p i b off =>
    obtain ⟨l, h1, h2⟩ := hs
    obtain ⟨l', h3, h4, _⟩ := h i l h1
    exact ⟨l', h3, h4.trans h2⟩

section
variable {P : Program} {T : Tab} {env : Env} {L : List LB} {F0 : List (Nat × Obj)} {w wa : World} {a : Act} {J : List (Nat × Bool)} {rt : TypeId} {K : SV → List LB → World → Prop}

theorem InvL.nd (h : InvL L F0 w wa) : (L.map LB.b ++ F0.map Prod.fst).Nodup := by
  have := h.rel.nd
  simpa [raw, Function.comp_def] using this
theorem real_cells (s : SV) : (real s).cells.toList = (sCells s).map real := (sCells_len s _ rfl).symm

/-- A world in which only the private block b has turned. -/
theorem Rel.privSet {F1 F2 : List (Nat × Obj)} {b : Nat} {o o' : Obj} {wa' : World} (h : Rel (F1 ++ (b, o) :: F2) w wa) (ho : wa'.os = wa.os) (ht : wa'.tape = wa.tape) (hu : wa'.output = wa.output)
    (hs : wa'.heap.size = wa.heap.size) (hb : wa'.heap[b]? = some o') (hne : ∀ i, i ≠ b → wa'.heap[i]? = wa.heap[i]?) : Rel (F1 ++ (b, o') :: F2) w wa' := by
  have hbm : (b, o) ∈ F1 ++ (b, o) :: F2 := by simp
  refine ⟨ho.trans h.os, ht.trans h.tape, hu.trans h.output, by rw [hs]; exact h.size, fun i x hi hx => ?_, fun c x hc => ?_, fun c x hc => ?_, ?_⟩
  · rw [hne i]
    · exact h.vis i x hi hx
    · intro e; subst e
      exact hx (h.cov _ _ hbm _ hi)
  · have hnd := h.nd
    rcases List.mem_append.1 hc with hc1 | hc1
    · rw [hne c]
      · exact h.loc c x (by simp [hc1])
      · intro e; subst e
        simp only [List.map_append, List.map_cons] at hnd
        exact (List.nodup_append.1 hnd).2.2 c (List.mem_map.2 ⟨(c, x), hc1, rfl⟩) c (by simp) rfl
    · rcases List.mem_cons.1 hc1 with hc2 | hc2
      · simp only [Prod.mk.injEq] at hc2; obtain ⟨rfl, rfl⟩ := hc2; exact hb
      · rw [hne c]
        · exact h.loc c x (by simp [hc2])
        · intro e; subst e
          simp only [List.map_append, List.map_cons] at hnd
          have := (List.nodup_append.1 hnd).2.1
          exact (List.nodup_cons.1 this).1 (List.mem_map.2 ⟨(c, x), hc2, rfl⟩)
  · rcases List.mem_append.1 hc with hc | hc
    · exact h.cov c x (by simp [hc])
    · rcases List.mem_cons.1 hc with hc | hc
      · simp only [Prod.mk.injEq] at hc; obtain ⟨rfl, rfl⟩ := hc; exact h.cov _ o (by simp)
      · exact h.cov c x (by simp [hc])
  · have := h.nd
    simpa using this

theorem list_split {α : Type} {l : List α} {i : Nat} {x : α} (h : l[i]? = some x) (y : α) : l = l.take i ++ x :: l.drop (i + 1) ∧ l.set i y = l.take i ++ y :: l.drop (i + 1) := by
  obtain ⟨hi, rfl⟩ := List.getElem?_eq_some_iff.1 h
  exact ⟨by rw [← List.drop_eq_getElem_cons hi, List.take_append_drop], List.set_eq_take_append_cons_drop.trans (if_pos hi)⟩

theorem InvL.privSet (h : InvL L F0 w wa) {i : Nat} {l : LB} (hi : L[i]? = some l) (cs : List SV) (hcs : ∀ x ∈ cs, okp L x) {wa' : World} (ho : wa'.os = wa.os) (ht : wa'.tape = wa.tape) (hu : wa'.output = wa.output)
    (hs : wa'.heap.size = wa.heap.size) (hb : wa'.heap[l.b]? = some (.cells (cs.map real).toArray l.t (0, 0))) (hne : ∀ i, i ≠ l.b → wa'.heap[i]? = wa.heap[i]?) :
    InvL (L.set i ⟨l.b, l.t, cs⟩) F0 w wa' ∧ (∀ (q : Nat) l0, L[q]? = some l0 → q ∉ [i] → (L.set i ⟨l.b, l.t, cs⟩)[q]? = some l0) ∧
      (∀ (q : Nat) l0, L[q]? = some l0 → ∃ l', (L.set i ⟨l.b, l.t, cs⟩)[q]? = some l' ∧ l'.b = l0.b ∧ l'.t = l0.t) := by
  obtain ⟨e1, e2⟩ := list_split hi ⟨l.b, l.t, cs⟩
  have hkeys : ∀ (q : Nat) l0, L[q]? = some l0 → ∃ l', (L.set i ⟨l.b, l.t, cs⟩)[q]? = some l' ∧ l'.b = l0.b ∧ l'.t = l0.t := by
    intro q l0 hq
    by_cases hqi : i = q
    · subst hqi
      rw [hi] at hq; injection hq with hq; subst hq
      exact ⟨⟨l.b, l.t, cs⟩, by rw [List.getElem?_set_self (List.getElem?_eq_some_iff.1 hi).1], rfl, rfl⟩
    · exact ⟨l0, by rw [List.getElem?_set_ne hqi]; exact hq, rfl, rfl⟩
  refine ⟨⟨fun l1 hl1 x hx => okp_keys hkeys ?_, ?_⟩, fun q l0 hq hne' => ?_, hkeys⟩
  · rcases List.mem_or_eq_of_mem_set hl1 with hl1 | rfl
    · exact h.ok l1 hl1 x hx
    · exact hcs x hx
  · have hr := h.rel
    rw [e1] at hr
    rw [e2]
    simp only [raw, List.map_append, List.map_cons, List.append_assoc, List.cons_append] at hr ⊢
    exact hr.privSet ho ht hu hs hb hne
  · rw [List.getElem?_set_ne (by intro e; exact hne' (by simp [e]))]; exact hq

/-- what comes of an operation -/
def RunPost (P : Program) (M : Value → World → Prop) : Result Next → Prop
  | .ok (.value v) w' => M v w'
  | .ok .skip w' => M undef w'
  | .ok (.enter f args) w' => Calls P f args w' fun e w'' => ∃ v, e = .returned v ∧ M v w''
  | _ => False
/-- what has to be shown of an operation that is not quiet -/
def ES (P : Program) (J : List (Nat × Bool)) (F0 : List (Nat × Obj)) (o : Oper) (a : Act) (env : Env) (L : List LB) (wa : World) (K : SV → List LB → World → Prop) : Prop :=
  ∀ (M : Value → World → Prop), (∀ s L' w' wa', Post (writesL J o.op env) L F0 L' w' wa' s → K s L' w' → M (real s) wa') → RunPost P M ((execOp a.eval o).run P wa)

theorem Post.same (h : InvL L F0 w wa) {wr : List Nat} {s : SV} (hs : okp L s) {w' wa' : World} (hr : Rel (raw L ++ F0) w' wa') : Post wr L F0 L w' wa' s :=
  ⟨⟨h.ok, hr⟩, hs, fun _ _ hq _ => hq, fun _ l hq => ⟨l, hq, rfl, rfl⟩⟩

/-- A new private block at the end of L. -/
theorem Post.new (h : InvL L F0 w wa) {wr : List Nat} (t : TypeId) (cs : List SV) (hcs : ∀ x ∈ cs, okp L x) :
    Post wr L F0 (L ++ [⟨wa.heap.size, t, cs⟩]) w (wa.alloc (.cells (cs.map real).toArray t (0, 0))) (.p L.length wa.heap.size 0) := by
  have hkeys : ∀ (q : Nat) l, L[q]? = some l → (L ++ [⟨wa.heap.size, t, cs⟩])[q]? = some l := fun q l hq => by
    rw [List.getElem?_append_left (List.getElem?_eq_some_iff.1 hq).1]; exact hq
  refine ⟨⟨fun l hl x hx => okp_keys (fun q l hq => ⟨l, hkeys q l hq, rfl, rfl⟩) ?_, ?_⟩, ⟨⟨wa.heap.size, t, cs⟩, by simp, rfl⟩, fun q l hq _ => hkeys q l hq, fun q l hq => ⟨l, hkeys q l hq, rfl, rfl⟩⟩
  · rcases List.mem_append.1 hl with hl | hl
    · exact h.ok l hl x hx
    · simp only [List.mem_singleton] at hl; subst hl; exact hcs x hx
  · have := h.rel.priv (.cells (cs.map real).toArray t (0, 0))
    refine this.perm ?_
    simp only [raw, List.map_append, List.map_cons, List.map_nil, List.append_assoc]
    exact (List.Perm.append_left _ List.perm_append_comm)

theorem es_alloc (hT : GoodT P T) (hI : InvL L F0 w wa) (o : Oper) (t : TypeId) (ho : o.op = .alloc t) (h : opv P T J rt (.alloc t) env L w K) : ES P J F0 o a env L wa K := by
  intro M hn
  simp only [opv] at h
  split at h
  · rename_i ti ht
    obtain ⟨inf, hinf, _, _, hz⟩ := (hT t ti ht).info
    have hzl := (hT t ti ht).zero
    have hcells : (mkv ti.agg ti.zero).cells = ti.zero.toArray := by
      cases hag : ti.agg with
      | true => simp [mkv, Value.cells]
      | false =>
        have h1 := (hT t ti ht).single hag
        rw [h1] at hzl
        obtain ⟨v, hv⟩ := List.length_eq_one_iff.1 hzl
        rw [hv]
        exact one1_cells ((hT t ti ht).one v (by simp [hv]))
    have hrun : (execOp a.eval o).run P wa = .ok (.value (.pointer (some ⟨wa.heap.size, 0, none⟩))) (wa.alloc (.cells ti.zero.toArray t (0, 0))) := by
      simp [execOp, ho, Instr.alloc, zeroValue, typeInfo, hinf, hz, newVar, newRow, hcells]
    rw [hrun]
    have hp := Post.new (wr := writesL J o.op env) hI t (ti.zero.map .v) (by simp [okp])
    have e : ((ti.zero.map SV.v).map real) = ti.zero := by simp [Function.comp_def, real]
    rw [e] at hp
    exact hn _ _ _ _ hp (h wa.heap.size)
  · exact h.elim

theorem es_box (hI : InvL L F0 w wa) (he : EnvOK env L a) (o : Oper) (t : TypeId) (x : Operand) (ho : o.op = .box t x) (h : opv P T J rt (.box t x) env L w K) : ES P J F0 o a env L wa K := by
  intro M hn
  simp only [opv] at h
  split at h
  · rename_i s hs
    have hev := evE_ok he hs
    have hrun : (execOp a.eval o).run P wa = .ok (.value (.pointer (some ⟨wa.heap.size, 0, none⟩))) (wa.alloc (.cells ((sCells s).map real).toArray t (0, 0))) := by
      rw [← real_cells, Array.toArray_toList]
      simp [execOp, ho, Instr.box, newVar, newRow, hev.1]
    rw [hrun]
    exact hn _ _ _ _ (Post.new hI t (sCells s) (sCells_okp hev.2)) (h wa.heap.size)
  · exact h.elim

theorem splice_real (cs xs : List SV) (off : Nat) : (splice cs off xs).map real = (cs.map real).take off ++ xs.map real ++ (cs.map real).drop (off + (xs.map real).length) := by
  simp [splice, List.map_take, List.map_drop]

theorem StV_run (ad : Addr) (Kw : World → Prop) (F : List (Nat × Obj)) : ∀ (vs : List Value) (i : Nat) (w wa : World), StV ad Kw i vs w → Rel F w wa →
    ∃ w' wa', Kw w' ∧ Rel F w' wa' ∧ (storeCells ad vs i).run P wa = .ok () wa'
  | [], i, w, wa, h, hr => ⟨w, wa, h, hr, rfl⟩
  | v :: vs, i, w, wa, ⟨⟨o, hc⟩, hf, h1, h⟩, hr => by
    obtain ⟨w', wa', hk, hr', hrun⟩ := StV_run ad Kw F vs (i + 1) _ _ (h _ rfl) (hr.set hc v)
    refine ⟨w', wa', hk, hr', ?_⟩
    have hca := hr.cell hc
    have hfa := (hr.frozen hc).trans hf
    rw [at_eq] at hca hfa hrun
    have hst : (store (ad.add i) v).run P wa = .ok () (wa.setCell (ad.add i) v) := by
      have := run_store P wa (ad.add i) v .plain (by rw [← one1_eq]; exact h1)
      rw [this]; simp [hca, hfa]
    simp only [storeCells, Sem.run_bind, hst, Result.andThen_ok]
    exact hrun

theorem es_store (hT : GoodT P T) (hI : InvL L F0 w wa) (he : EnvOK env L a) (o : Oper) (t : TypeId) (x y : Operand) (ho : o.op = .store t x y) (h : opv P T J rt (.store t x y) env L w K) : ES P J F0 o a env L wa K := by
  intro M hn
  simp only [opv] at h
  split at h
  · rename_i ti i b off s ht hx hy
    have hx' := evE_ok he hx
    have hy' := evE_ok he hy
    obtain ⟨inf, hinf, hsz, _⟩ := info_of hT ht
    split at h
    · rename_i l hl
      split at h
      · rename_i hlen hle hall
        have hlen : (sCells s).length = ti.size := by simpa using hlen
        have hle : off + ti.size ≤ l.cs.length := by simpa using hle
        obtain ⟨l', hl', hb⟩ := hx'.2
        rw [hl] at hl'; injection hl' with hl'; subst hl'
        have hblk := blk_at hI.rel hl
        have hcs := real_cells s
        have hrun := run_storeCells_at (P := P) l.b off l.t ((sCells s).map real) 0 (l.cs.map real).toArray wa hblk (by simp; omega) (fun v hv => by rw [← one1_eq]; exact List.all_eq_true.1 hall v hv)
        have hrun' : (execOp a.eval o).run P wa = .ok .skip (wa.setRow l.b ((splice l.cs off (sCells s)).map real).toArray) := by
          have hsz2 : (real s).cells.size = inf.size := by
            rw [← Array.length_toList, hcs]; simp [hlen, hsz]
          simp only [Nat.add_zero] at hrun
          rw [splice_real]
          have hxe : a.eval x = .pointer (some ⟨b, off, none⟩) := hx'.1
          simp only [execOp, ho, Instr.storeAt, hxe, hy'.1, Instr.sureAddr, Sem.run_bind, Sem.run_pure, Result.andThen_ok, storeVar, sizeOf, typeInfo, run_program, hinf, hsz2, ne_eq, not_true_eq_false, if_false, hcs, ← hb, hrun]
        rw [hrun']
        obtain ⟨h1, h2, h3⟩ := hI.privSet hl (splice l.cs off (sCells s)) (fun z hz => by
          simp only [splice, List.mem_append] at hz
          rcases hz with (hz | hz) | hz
          · exact hI.ok l (List.mem_of_getElem? hl) z (List.mem_of_mem_take hz)
          · exact sCells_okp hy'.2 z hz
          · exact hI.ok l (List.mem_of_getElem? hl) z (List.mem_of_mem_drop hz)) (wa' := wa.setRow l.b ((splice l.cs off (sCells s)).map real).toArray) rfl rfl rfl (by simp) (setRow_heap wa l.b _ _ _ _ hblk) (fun j hj => setRow_other wa l.b j _ hj)
        have hw : writesL J o.op env = [i] := by simp [writesL, ho, hx]
        exact hn (.v undef) _ _ _ ⟨h1, trivial, by rw [hw]; exact h2, h3⟩ h
      · exact h.elim
    · exact h.elim
  · rename_i ti ad s ht hx hy
    have hx' := evE_ok he hx
    have hy' := evE_ok he hy
    obtain ⟨inf, hinf, hsz, _⟩ := info_of hT ht
    split at h
    · rename_i hlen
      have hlen : (sCells s).length = ti.size := by simpa using hlen
      obtain ⟨w', wa', hk, hr', hrun⟩ := StV_run (P := P) ad _ _ _ _ _ _ h hI.rel
      have hcs := real_cells s
      have hrun' : (execOp a.eval o).run P wa = .ok .skip wa' := by
        have hsz2 : (real s).cells.size = inf.size := by
          rw [← Array.length_toList, hcs]; simp [hlen, hsz]
        have hxe : a.eval x = .pointer (some ad) := hx'.1
        simp only [execOp, ho, Instr.storeAt, hxe, hy'.1, Instr.sureAddr, Sem.run_bind, Sem.run_pure, Result.andThen_ok, storeVar, sizeOf, typeInfo, run_program, hinf, hsz2, ne_eq, not_true_eq_false, if_false, hcs, hrun]
      rw [hrun']
      exact hn (.v undef) _ _ _ (Post.same hI (s := .v undef) trivial hr') hk
    · exact h.elim
  · exact h.elim
end
end Go.Proofs.Ytnkpjlhbojjneaa.VC

/- The operations that make visible memory; maps; calls. -/
namespace Go.Proofs.Ytnkpjlhbojjneaa.VC
open Go Go.RowKit

section
variable {P : Program} {T : Tab} {env : Env} {L : List LB} {F0 : List (Nat × Obj)} {w wa : World} {a : Act} {J : List (Nat × Bool)} {rt : TypeId} {K : SV → List LB → World → Prop}

theorem es_new (hI : InvL L F0 w wa) (o : Oper) (ob : Obj) (v : Nat → Value) (hrun : (execOp a.eval o).run P wa = .ok (.value (v wa.heap.size)) (wa.alloc ob))
    (h : NewK w ob fun b w' => K (.v (v b)) L w') : ES P J F0 o a env L wa K := by
  intro M hn
  rw [hrun]
  obtain ⟨w', hnew, hr⟩ := hI.rel.new ob
  exact hn (.v (v wa.heap.size)) L w' _ (Post.same hI (s := .v _) trivial hr) (h _ _ hnew)

theorem rowCells_fill (he : EnvOK env L a) (size : Nat) (h0 : 0 < size) : ∀ (parts : List (Nat × Operand)) (i : Nat) (cs : List Value), rowCells size env i parts = some cs →
    cs.length = parts.length * size ∧ ∀ pre post : List Value, pre.length = i * size → post.length = parts.length * size →
      Instr.fill (fun i => some (i * size, size)) (pre ++ post).toArray (parts.map fun x => (x.1, a.eval x.2)) = some (pre ++ cs).toArray
  | [], i, cs, h => by
    simp only [rowCells, Option.some.injEq] at h; subst h
    refine ⟨by simp, fun pre post _ hp => ?_⟩
    have : post = [] := List.eq_nil_of_length_eq_zero (by simpa using hp)
    subst this; rfl
  | (j, o) :: r, i, cs, h => by
    simp only [rowCells] at h
    split at h
    · rename_i s cs' hij hs hr
      split at h
      · rename_i hlen
        simp only [Option.some.injEq] at h; subst h
        have hij : i = j := by simpa using hij
        subst hij
        have hlen : (sCells s).length = size := by simpa using hlen
        obtain ⟨h1, h2⟩ := rowCells_fill he size h0 r (i + 1) cs' hr
        refine ⟨by simp [h1, hlen, Nat.add_mul, Nat.add_comm], fun pre post hp hq => ?_⟩
        have hev := (evE_ok he hs).1
        have hcl := real_cells s
        have hsz : (real s).cells.size = size := by rw [← Array.length_toList, hcl]; simp [hlen]
        simp only [List.length_cons, Nat.add_mul, Nat.one_mul] at hq
        have hfold : ∀ (xs : List Value) (k : Nat) (c : List Value), i * size + k + xs.length ≤ c.length →
            (xs.zipIdx k).foldl (fun cs (x : Value × Nat) => cs.setIfInBounds (i * size + x.2) x.1) c.toArray = (c.take (i * size + k) ++ xs ++ c.drop (i * size + k + xs.length)).toArray := by
          intro xs
          induction xs with
          | nil => intro k c _; simp
          | cons x xs ih =>
            intro k c hc
            simp only [List.length_cons] at hc
            simp only [List.zipIdx_cons, List.foldl_cons, List.setIfInBounds_toArray]
            rw [ih (k + 1) _ (by simp; omega)]
            congr 1
            have hlt : i * size + k < c.length := by omega
            rw [show i * size + (k + 1) = i * size + k + 1 by omega, List.take_add_one, List.take_set_of_le (Nat.le_refl _), List.getElem?_set_self hlt, List.drop_set_of_lt (by omega)]
            simp [Nat.add_assoc, Nat.add_comm 1]
        have e0 : ((real s).cells.zipIdx.foldl (fun cs (x : Value × Nat) => cs.setIfInBounds (i * size + x.2) x.1) (pre ++ post).toArray) = (pre ++ ((sCells s).map real) ++ post.drop size).toArray := by
          have := hfold ((sCells s).map real) 0 (pre ++ post) (by simp [hlen]; omega)
          rw [← Array.foldl_toList, Array.toList_zipIdx, hcl]
          rw [this]
          simp only [Nat.add_zero, List.length_map, hlen]
          rw [← hp, List.take_left, ← List.drop_drop, List.drop_left]
        simp only [List.map_cons, Instr.fill, hev, hsz]
        rw [if_neg (by simp; omega)]
        rw [e0]
        have := h2 (pre ++ (sCells s).map real) (post.drop size) (by simp [hlen, Nat.add_mul, hp]) (by simp; omega)
        simp only [List.append_assoc] at this ⊢
        exact this
      · simp at h
    · simp at h

theorem es_buildSlice (hT : GoodT P T) (hI : InvL L F0 w wa) (he : EnvOK env L a) (o : Oper) (t : TypeId) (len : Nat) (parts : Array (Nat × Operand)) (ho : o.op = .buildSlice t len parts)
    (h : opv P T J rt (.buildSlice t len parts) env L w K) : ES P J F0 o a env L wa K := by
  simp only [opv] at h
  split at h
  · rename_i e hd
    obtain ⟨dd, hu, hmd⟩ := und_of hT hd
    simp only [MatchD] at hmd; subst hmd
    split at h
    · rename_i ei hei
      obtain ⟨inf, hinf, hsz, _, hz⟩ := (hT e ei hei).info
      have hpos := (hT e ei hei).pos.1
      split at h
      · rename_i cs hcs hlen
        have hlen : parts.size = len ∧ len * ei.size ≤ 16777216 := by simpa using hlen
        obtain ⟨h1, h2⟩ := rowCells_fill he ei.size hpos parts.toList 0 cs hcs
        refine es_new hI o _ (fun b => .slice (some ⟨b, 0, none⟩) len len) ?_ h
        have hbase : ∀ arr : Array Value, arr.size = len * ei.size → Instr.fill (fun i => some (i * ei.size, ei.size)) arr (parts.toList.map fun x => (x.1, a.eval x.2)) = some cs.toArray := by
          intro arr harr
          have h3 := h2 [] arr.toList (by simp) (by simp [hlen.1, harr])
          simpa using h3
        have hle : ¬ len * ei.size > 2 ^ 24 := by have := hlen.2; omega
        by_cases h0 : len * ei.size = 0
        · have h4 := hbase ((Array.range (len * ei.size)).map fun x => (#[] : Array Value)[x % (#[] : Array Value).size]!) (by simp)
          rw [h0] at h4 hle
          simp only [execOp, ho, Instr.buildSlice, Sem.run_bind, run_underlying hu, Result.andThen_ok, sizeOf, typeInfo, run_program, hinf, Sem.run_pure, hsz, h0, hle, if_false, if_true, Array.toList_map, h4, newRow, run_newObj]
          rfl
        · have h4 := hbase ((Array.range (len * ei.size)).map fun x => (mkv ei.agg ei.zero).cells[x % (mkv ei.agg ei.zero).cells.size]!) (by simp)
          simp only [execOp, ho, Instr.buildSlice, Sem.run_bind, run_underlying hu, Result.andThen_ok, sizeOf, typeInfo, run_program, hinf, Sem.run_pure, hsz, hle, if_false, h0, zeroValue, hz, Array.toList_map, h4, newRow, run_newObj]
          rfl
      · exact h.elim
    · exact h.elim
  · exact h.elim

theorem es_makeMap (hI : InvL L F0 w wa) (o : Oper) (t : TypeId) (r : Option Operand) (ho : o.op = .makeMap t r)
    (h : opv P T J rt (.makeMap t r) env L w K) : ES P J F0 o a env L wa K := by
  simp only [opv] at h
  split at h
  · refine es_new hI o _ (fun b => .map (some b)) ?_ h
    simp [execOp, ho, Instr.makeMap]
  · exact h.elim

theorem es_makeSlice (hT : GoodT P T) (hI : InvL L F0 w wa) (he : EnvOK env L a) (o : Oper) (t : TypeId) (l c : Operand) (ho : o.op = .makeSlice t l c)
    (h : opv P T J rt (.makeSlice t l c) env L w K) : ES P J F0 o a env L wa K := by
  simp only [opv] at h
  split at h
  · rename_i e n m hd hl hc
    have hl := (evE_ok he hl).1
    have hc := (evE_ok he hc).1
    obtain ⟨dd, hu, hmd⟩ := und_of hT hd
    simp only [MatchD] at hmd; subst hmd
    split at h
    · rename_i ei hei
      obtain ⟨inf, hinf, hsz, hby, hz⟩ := (hT e ei hei).info
      have hzl := (hT e ei hei).zero
      split at h
      · rename_i z hzero
        obtain ⟨rfl, h0, hb, hm, h⟩ := h
        refine es_new hI o _ (fun b => .slice (some ⟨b, 0, none⟩) n.toNat n.toNat) ?_ h
        have hs1 : ei.size = 1 := by rw [hzero] at hzl; simpa using hzl.symm
        have h1z := (hT e ei hei).one z (by simp [hzero])
        have hcz : (mkv ei.agg ei.zero).cells = #[z] := by
          rw [hzero]
          cases ei.agg with
          | true => simp [mkv, Value.cells]
          | false => exact one1_cells h1z
        obtain ⟨m, rfl⟩ := Int.eq_ofNat_of_zero_le h0
        have hbz : inf.bytes * m ≤ 281474976710656 := by
          have h2 : ((m * ei.bytes : Nat) : Int) ≤ 281474976710656 := by rw [Int.natCast_mul]; exact hb
          rw [hby, Nat.mul_comm]; omega
        have hrow : madeCells #[z] m = Array.replicate m z := by
          apply Array.ext
          · simp [madeCells]
          · intro i h1 h2
            simp [madeCells, Nat.mod_one]
        have hrun := run_make (P := P) wa t e inf (mkv ei.agg ei.zero) hu hinf hz .i64 .i64 m m (by omega) (Int.le_refl _) (by
          have h : ((inf.bytes * m : Nat) : Int) ≤ 281474976710656 := by omega
          rwa [Int.natCast_mul] at h) (by omega)
        simp only [Int.toNat_natCast, hsz, hs1, Nat.mul_one, hcz] at hrun
        rw [hrow] at hrun
        simp only [execOp, ho, hl, hc, real, Sem.run_bind, hrun, Result.andThen_ok, Int.toNat_natCast, Sem.run_pure]
      · exact h.elim
    · exact h.elim
  · exact h.elim
end
end Go.Proofs.Ytnkpjlhbojjneaa.VC

/- Maps written; append. -/
namespace Go.Proofs.Ytnkpjlhbojjneaa.VC
open Go Go.RowKit

section
variable {P : Program} {T : Tab} {env : Env} {L : List LB} {F0 : List (Nat × Obj)} {w wa : World} {a : Act} {J : List (Nat × Bool)} {rt : TypeId} {K : SV → List LB → World → Prop}

theorem ba_eq {a b : ByteArray} (h : (a == b) = true) : a = b := (Go.MapKept.bytes_beq a b).1 h
theorem ba_refl (a : ByteArray) : (a == a) = true := (Go.MapKept.bytes_beq a a).2 rfl
theorem eq_sameBits {kt : KT} {k o : Value} (hk : kt.ok k = true) (ho : kt.ok o = true) (h : kt.eq k o = true) : Instr.sameBits 10000 o k = true := by
  cases kt with
  | int =>
    obtain ⟨a, rfl⟩ : ∃ a, k = .int .i64 a := by unfold KT.ok at hk; split at hk <;> simp_all
    obtain ⟨b, rfl⟩ : ∃ a, o = .int .i64 a := by unfold KT.ok at ho; split at ho <;> simp_all
    simp only [KT.eq, beq_iff_eq] at h
    subst h
    have : ∀ n, Instr.sameBits n (.int .i64 a) (.int .i64 a) = true := fun n => by unfold Instr.sameBits; simp
    exact this _
  | str =>
    obtain ⟨a, rfl⟩ : ∃ a, k = .string a := by unfold KT.ok at hk; split at hk <;> simp_all
    obtain ⟨b, rfl⟩ : ∃ a, o = .string a := by unfold KT.ok at ho; split at ho <;> simp_all
    simp only [KT.eq] at h
    obtain rfl := ba_eq h
    have : ∀ n, Instr.sameBits n (.string a) (.string a) = true := fun n => by unfold Instr.sameBits; simp [ba_refl]
    exact this _
  | pair =>
    obtain ⟨a, b, rfl⟩ := pair_form hk
    obtain ⟨c, d, rfl⟩ := pair_form ho
    simp only [KT.eq, Bool.and_eq_true, beq_iff_eq] at h
    obtain ⟨rfl, rfl⟩ := h
    have : ∀ n, Instr.sameBits (n + 1) (.agg #[.int .i64 a, .int .i64 b]) (.agg #[.int .i64 a, .int .i64 b]) = true := fun n => by
      have h1 : ∀ m x, Instr.sameBits m (.int .i64 x) (.int .i64 x) = true := fun m x => by unfold Instr.sameBits; simp
      simp [Instr.sameBits, h1]
    exact this 9999

theorem idxF_some {kt : KT} {k x : Value} : ∀ {es : List MapEntry} {i i' : Nat} {v : Value}, idxF kt k es i = some (i', v) →
    ∃ j e, i' = i + j ∧ es[j]? = some e ∧ kt.eq k e.key = true ∧ assocSet kt k x (es.map fun e => (e.key, e.val)) = (es.map fun e => (e.key, e.val)).set j (k, x)
  | [], _, _, _, h => by simp [idxF] at h
  | e :: es, i, i', v, h => by
    simp only [idxF] at h
    split at h
    · rename_i hq
      simp only [Option.some.injEq, Prod.mk.injEq] at h
      exact ⟨0, e, by omega, rfl, hq, by simp [assocSet, hq]⟩
    · rename_i hq
      obtain ⟨j, e', h1, h2, h3, h4⟩ := idxF_some (x := x) h
      exact ⟨j + 1, e', by omega, by simpa using h2, h3, by simp [assocSet, hq, h4]⟩
theorem idxF_none {kt : KT} {k x : Value} : ∀ {es : List MapEntry} {i : Nat}, idxF kt k es i = none → assocSet kt k x (es.map fun e => (e.key, e.val)) = (es.map fun e => (e.key, e.val)) ++ [(k, x)]
  | [], _, _ => rfl
  | e :: es, i, h => by
    simp only [idxF] at h
    split at h
    · simp at h
    · rename_i hq
      have := idxF_none (x := x) h
      simp [assocSet, hq, this]

theorem es_mapUpdate (hT : GoodT P T) (hI : InvL L F0 w wa) (he : EnvOK env L a) (o : Oper) (t : TypeId) (m k x : Operand) (ho : o.op = .mapUpdate t m k x ∨ o.op = .insert t m k x)
    (h : opv P T J rt (.mapUpdate t m k x) env L w K) : ES P J F0 o a env L wa K := by
  intro M hn
  simp only [opv] at h
  split at h
  · rename_i kt et r kv xv hd hm hk hx
    have hm := (evE_ok he hm).1
    have hk := (evE_ok he hk).1
    have hx := (evE_ok he hx).1
    split at h
    · rename_i KT' hkt
      split at h
      · rename_i hkok
        obtain ⟨r, kvs, rfl, ⟨es, clock, hb, hes, hkeys⟩, h⟩ := h
        obtain ⟨dd, hu, hmd⟩ := und_of hT hd
        simp only [MatchD] at hmd; subst hmd
        have hkf := keyT_facts hT hkt
        have hb' := hI.rel.map hb
        have hgo : (getObj r).run P wa = .ok (.map es clock) wa := by simp [getObj, Sem.run, hb']
        have hso : ∀ ob, (setObj r ob).run P wa = .ok () (setObjAt wa r ob) := fun ob => by simp [setObj, Sem.run, hb', setObjAt]
        have hkeys' : ∀ e ∈ es.toList, KT'.ok e.key = true := fun e hemem => hkeys (e.key, e.val) (by rw [← hes]; exact List.mem_map.2 ⟨e, hemem, rfl⟩)
        have hck := checkKey_run (P := P) hkf hkok false wa
        have hfk := findKey_run (P := P) hkf hkok wa es.toList hkeys'
        obtain ⟨es', clock', hrun, hset⟩ : ∃ es' clock', (Instr.mapUpdate t (.map (some r)) kv xv).run P wa = .ok () (setObjAt wa r (.map es' clock')) ∧ es'.toList.map (fun e => (e.key, e.val)) = assocSet KT' kv xv kvs := by
          cases hq : idxF KT' kv es.toList 0 with
          | none =>
            rw [hq] at hfk
            refine ⟨es.push { key := kv, val := xv, born := clock }, clock + 1, ?_, ?_⟩
            · simp [Instr.mapUpdate, run_underlying hu, hgo, hck, hfk, hso]
            · rw [← hes, idxF_none hq]; simp
          | some iv =>
            obtain ⟨i, v⟩ := iv
            rw [hq] at hfk
            obtain ⟨j, e, h1, h2, h3, h4⟩ := idxF_some (x := xv) hq
            rw [Nat.zero_add] at h1; subst h1
            have hsb := eq_sameBits hkok (hkeys' e (List.mem_of_getElem? h2)) h3
            have h2' : es[i]? = some e := by simpa using h2
            refine ⟨es.modify i fun e => { e with key := kv, val := xv }, clock, ?_, ?_⟩
            · simp only [Instr.mapUpdate, Sem.run_bind, run_underlying hu, Result.andThen_ok, hgo, hck, hfk, h2', Option.map_some, Option.getD_some, Instr.keyThatStays, hsb, if_true, Sem.run_pure, hso]
            · rw [← hes, h4]
              apply List.ext_getElem?
              intro q
              simp only [List.getElem?_map, List.getElem?_set, Array.getElem?_toList, Array.getElem?_modify, List.length_map, Array.length_toList]
              by_cases hqi : i = q
              · subst hqi
                have := (Array.getElem?_eq_some_iff.1 h2').1
                simp [this]
              · simp [hqi]
        have hrun2 : (execOp a.eval o).run P wa = .ok .skip (setObjAt wa r (.map es' clock')) := by
          rcases ho with ho | ho <;> simp [execOp, ho, hm, hk, hx, real, hrun]
        rw [hrun2]
        have hlt := (Array.getElem?_eq_some_iff.1 hb).1
        refine hn (.v undef) L (setObjAt w r (.map es' clock')) _ (Post.same hI (s := .v undef) trivial (hI.rel.setMap hb (map_ne_hid _ _))) (h _ ⟨rfl, rfl, rfl, by simp [setObjAt], ⟨es', clock', by simp [setObjAt, hlt], hset, ?_⟩, fun i hi => ?_⟩)
        · rw [← hset]
          intro kv2 hkv2
          obtain ⟨e, hmem, rfl⟩ := List.mem_map.1 hkv2
          have : (e.key, e.val) ∈ assocSet KT' kv xv kvs := by rw [← hset]; exact hkv2
          have hall : ∀ (l : List (Value × Value)), (∀ kv ∈ l, KT'.ok kv.1 = true) → ∀ z ∈ assocSet KT' kv xv l, KT'.ok z.1 = true := by
            intro l
            induction l with
            | nil => intro _ z hz; simp [assocSet] at hz; subst hz; exact hkok
            | cons y l ih =>
              intro hl z hz
              simp only [assocSet] at hz
              split at hz
              · rcases List.mem_cons.1 hz with rfl | hz
                · exact hkok
                · exact hl z (by simp [hz])
              · rcases List.mem_cons.1 hz with rfl | hz
                · exact hl z (by simp)
                · exact ih (fun y hy => hl y (by simp [hy])) z hz
          exact hall kvs hkeys _ this
        · simp only [setObjAt, Array.getElem?_setIfInBounds]
          rw [if_neg (fun e => hi e.symm)]
      · exact h.elim
    · exact h.elim
  · exact h.elim

theorem Row_load {w wa : World} {F : List (Nat × Obj)} (hr : Rel F w wa) {A : Option Addr} {xs : List Value} (h : Row w A xs) (n c size : Nat) (hl : xs.length = n * size) :
    (Builtin.firstCells size n (.slice A n c)).run P wa = .ok xs.toArray wa := by
  cases A with
  | none =>
    have : xs = [] := Classical.byContradiction fun hne => by obtain ⟨ad, hA, _⟩ := h hne; cases hA
    subst this
    simp [Builtin.firstCells]
  | some ad =>
    have hc : ∀ j v, xs[j]? = some v → wa.cell? (ad.add j) = some v := by
      intro j v hj
      have hne : xs ≠ [] := fun e => by subst e; simp at hj
      obtain ⟨ad', hA, hc⟩ := h hne
      injection hA with hA; subst hA
      exact hr.cell (hc j v hj)
    have := run_loadCells_list (P := P) (w := wa) ad xs hc
    simp only [Builtin.firstCells, ← hl, this]

theorem es_append (hT : GoodT P T) (hI : InvL L F0 w wa) (he : EnvOK env L a) (o : Oper) (c : Call) (ho : o.op = .call c) (hc : c.callee = .builtin .append)
    (h : opv P T J rt (.call c) env L w K) : ES P J F0 o a env L wa K := by
  intro M hn
  simp only [opv, hc] at h
  split at h
  · rename_i h1 _; cases h1
  · rename_i h1 _; cases h1
  · rename_i A n cc B m cm _ hargs
    have hev := (evs_ok he hargs).1
    have ea : c.args.map a.eval = #[.slice A n cc, .slice B m cm] := by
      rw [← Array.toArray_toList (xs := c.args.map a.eval), Array.toList_map, hev]; rfl
    split at h
    · rename_i t t' ht
      have et : c.argTypes = #[t, t'] := by have := congrArg List.toArray ht; simpa using this
      split at h
      · rename_i e e' hd hd'
        obtain ⟨dd, hu, hmd⟩ := und_of hT hd
        simp only [MatchD] at hmd; subst hmd
        obtain ⟨dd, hu', hmd⟩ := und_of hT hd'
        simp only [MatchD] at hmd; subst hmd
        split at h
        · rename_i ei hei
          obtain ⟨inf, hinf, hsz, hby, hz⟩ := (hT e ei hei).info
          obtain ⟨hpos, hpb⟩ := (hT e ei hei).pos
          obtain ⟨olds, news, ho1, hn1, hro, hrn, hone, hbig, hin, hout⟩ := h
          have hlo := Row_load (P := P) hI.rel hro n cc ei.size ho1
          have hln := Row_load (P := P) hI.rel hrn m cm ei.size hn1
          have hzc : (mkv ei.agg ei.zero).cells = ei.zero.toArray := by
            cases hag : ei.agg with
            | true => simp [mkv, Value.cells]
            | false =>
              have h1 := (hT e ei hei).single hag
              have hzl := (hT e ei hei).zero
              rw [h1] at hzl
              obtain ⟨v, hv⟩ := List.length_eq_one_iff.1 hzl
              rw [hv]
              exact one1_cells ((hT e ei hei).one v (by simp [hv]))
          have hexec : (execOp a.eval o).run P wa = ((Builtin.append_ c.argTypes o.type #[.slice A n cc, .slice B m cm]).run P wa).andThen fun v w' => .ok (.value v) w' := by
            simp [execOp, ho, resolve, hc, invoke, builtin, ea]
          rw [hexec, et]
          by_cases hfit : n + m ≤ cc
          · rcases hin hfit with ⟨rfl, hK⟩ | ⟨ad, rfl, hst⟩
            · have hnews : news = [] := List.eq_nil_of_length_eq_zero (by simpa using hn1)
              subst hnews
              have hrun : (Builtin.append_ #[t, t'] o.type #[.slice A n cc, .slice B 0 cm]).run P wa = .ok (.slice A n cc) wa := by
                have hfit' : n ≤ cc := by omega
                cases A with
                | none => simp [Builtin.append_, run_underlying hu, run_underlying hu', sizeOf, typeInfo, hinf, hsz, Builtin.lenOf, hln, hfit']
                | some ad => simp [Builtin.append_, run_underlying hu, run_underlying hu', sizeOf, typeInfo, hinf, hsz, Builtin.lenOf, hln, hfit', storeCells]
              rw [hrun]
              exact hn (.v _) L w wa (Post.same hI (s := .v _) trivial hI.rel) hK
            · obtain ⟨w', wa', hk, hr', hsc⟩ := StV_run (P := P) _ _ _ _ _ _ _ hst hI.rel
              have hrun : (Builtin.append_ #[t, t'] o.type #[.slice (some ad) n cc, .slice B m cm]).run P wa = .ok (.slice (some ad) (n + m) cc) wa' := by
                simp [Builtin.append_, run_underlying hu, run_underlying hu', sizeOf, typeInfo, hinf, hsz, Builtin.lenOf, hln, hfit, hsc]
              rw [hrun]
              exact hn (.v _) L w' wa' (Post.same hI (s := .v _) trivial hr') hk
          · have hgt : cc < n + m := by omega
            have hgs := growslice_fits (bytes := inf.bytes) hgt (by rw [hby]; exact hbig)
            obtain ⟨cap, hcap, hrun⟩ : ∃ cap, n + m ≤ cap ∧ (Builtin.append_ #[t, t'] o.type #[.slice A n cc, .slice B m cm]).run P wa =
                .ok (.slice (some ⟨wa.heap.size, 0, none⟩) (n + m) cap) (wa.drew.alloc (.cells (olds ++ news ++ rep (cap - (n + m)) ei.zero).toArray e (0, 0))) := by
              refine ⟨(Question.appendCap (n + m) cc e).cut (wa.tape wa.drawn (.appendCap (n + m) cc e)), by simp [Question.cut], ?_⟩
              have hlo' : (Builtin.firstCells ei.size n (.slice A n cc)).run P wa.drew = .ok olds.toArray wa.drew := Row_load (P := P) hI.rel.drew hro n cc ei.size ho1
              have hln' : (Builtin.firstCells ei.size m (.slice B m cm)).run P wa.drew = .ok news.toArray wa.drew := Row_load (P := P) hI.rel.drew hrn m cm ei.size hn1
              have hb0 : ¬ inf.bytes = 0 := by omega
              simp [Builtin.append_, run_underlying hu, run_underlying hu', sizeOf, typeInfo, hinf, hsz, Builtin.lenOf, hfit, hb0, Nat.not_lt.2 hgs, Question.forced, hlo', hln', zeroValue, hz, hzc, newRow]
              congr 2
              apply Array.toList_inj.1
              simp [rep]
            rw [hrun]
            obtain ⟨w', hnew, hr⟩ := hI.rel.drew.new (.cells (olds ++ news ++ rep (cap - (n + m)) ei.zero).toArray e (0, 0))
            exact hn (.v _) L w' _ (Post.same hI (s := .v _) trivial hr) (hout hgt cap hcap _ _ hnew)
        · exact h.elim
      · exact h.elim
    · exact h.elim
  · rename_i h1 _; cases h1
  · rename_i h1 _; cases h1
  · exact h.elim
end
end Go.Proofs.Ytnkpjlhbojjneaa.VC

/- Calls. -/
namespace Go.Proofs.Ytnkpjlhbojjneaa.VC
open Go Go.RowKit

section
variable {P : Program} {T : Tab} {env : Env} {L : List LB} {F0 : List (Nat × Obj)} {w wa : World} {a : Act} {J : List (Nat × Bool)} {rt : TypeId} {K : SV → List LB → World → Prop}

theorem exCss_len : ∀ {cs : List (List CT)} {F : List (List Value) → Prop}, exCss cs F → ∃ vs, vs.length = cs.length ∧ F vs
  | [], F, h => ⟨[], rfl, h⟩
  | c :: cs, F, h => by
    obtain ⟨v, _, _, h⟩ := exCs_el h
    obtain ⟨vs, hl, h⟩ := exCss_len h
    exact ⟨v :: vs, by simp [hl], h⟩
def cntW : List (Nat × Bool) → Nat
  | [] => 0
  | (_, true) :: r => cntW r + 1
  | (_, false) :: r => cntW r
theorem lentSh_len : ∀ J, (lentSh T L J).length = cntW J
  | [] => rfl
  | (_, true) :: r => by simp [lentSh, cntW, lentSh_len r]
  | (_, false) :: r => by simp [lentSh, cntW, lentSh_len r]
theorem goodLend_spec {n : Nat} (h : goodLend n J = true) : (∀ x ∈ J, x.1 < n) ∧ (J.map Prod.fst).Nodup := by
  unfold goodLend at h
  simp only [Bool.and_eq_true, List.all_eq_true, List.mem_map, decide_eq_true_eq, forall_exists_index, and_imp, forall_apply_eq_imp_iff₂] at h
  exact h
theorem lent_spec : ∀ (J : List (Nat × Bool)) (L1 : List LB) (xs : List (List Value)), xs.length = cntW J → (J.map Prod.fst).Nodup → (∀ x ∈ J, x.1 < L.length) → (∀ x ∈ J, L1[x.1]? = L[x.1]?) →
    (lentCs L J xs).length = J.length ∧ (∀ q, q ∉ J.map Prod.fst → (lentL L1 J xs)[q]? = L1[q]?) ∧
    ∀ (p i : Nat) (rw : Bool) l, J[p]? = some (i, rw) → L[i]? = some l → ∃ cs', (lentL L1 J xs)[i]? = some ⟨l.b, l.t, cs'⟩ ∧ (lentCs L J xs)[p]? = some (cs'.map real) ∧ (rw = false → cs' = l.cs) ∧ (∀ x ∈ cs', x ∈ l.cs ∨ ∃ v, x = .v v)
  | [], L1, xs, _, _, _, _ => ⟨rfl, fun _ _ => rfl, fun p i rw l hp => by simp at hp⟩
  | (i, true) :: r, L1, [], hx, _, _, _ => by simp [cntW] at hx
  | (i, true) :: r, L1, x :: xs, hx, hn, hlt, hL => by
    have hi := hlt (i, true) (by simp)
    have hLi := hL (i, true) (by simp)
    obtain ⟨l, hl⟩ : ∃ l, L[i]? = some l := ⟨L[i], List.getElem?_eq_getElem hi⟩
    have hl1 : L1[i]? = some l := hLi.trans hl
    simp only [List.map_cons, List.nodup_cons] at hn
    simp only [cntW, List.length_cons, Nat.add_right_cancel_iff] at hx
    have ih := lent_spec r (L1.set i ⟨l.b, l.t, x.map .v⟩) xs hx hn.2 (fun y hy => hlt y (by simp [hy])) (fun y hy => by
      have hne : i ≠ y.1 := fun e => hn.1 (by rw [e]; exact List.mem_map.2 ⟨y, hy, rfl⟩)
      rw [List.getElem?_set_ne hne]; exact hL y (by simp [hy]))
    have e1 : lentL L1 ((i, true) :: r) (x :: xs) = lentL (L1.set i ⟨l.b, l.t, x.map .v⟩) r xs := by simp [lentL, hl1]
    rw [e1]
    have hset : (L1.set i ⟨l.b, l.t, x.map .v⟩)[i]? = some ⟨l.b, l.t, x.map .v⟩ := by
      rw [List.getElem?_set_self (List.getElem?_eq_some_iff.1 hl1).1]
    refine ⟨by simp [lentCs, ih.1], fun q hq => ?_, fun p i' rw l' hp hl' => ?_⟩
    · simp only [List.map_cons, List.mem_cons, not_or] at hq
      rw [ih.2.1 q hq.2, List.getElem?_set_ne (fun e => hq.1 e.symm)]
    · cases p with
      | zero =>
        simp only [List.getElem?_cons_zero, Option.some.injEq, Prod.mk.injEq] at hp
        obtain ⟨rfl, rfl⟩ := hp
        rw [hl] at hl'; injection hl' with hl'; subst hl'
        refine ⟨x.map .v, by rw [ih.2.1 i hn.1]; exact hset, by simp [lentCs, Function.comp_def, real], by simp, fun y hy => ?_⟩
        obtain ⟨v, _, rfl⟩ := List.mem_map.1 hy
        exact .inr ⟨v, rfl⟩
      | succ p =>
        simp only [List.getElem?_cons_succ] at hp
        obtain ⟨cs', h1, h2, h3⟩ := ih.2.2 p i' rw l' hp hl'
        exact ⟨cs', h1, by simpa [lentCs] using h2, h3⟩
  | (i, false) :: r, L1, xs, hx, hn, hlt, hL => by
    have hi := hlt (i, false) (by simp)
    have hLi := hL (i, false) (by simp)
    obtain ⟨l, hl⟩ : ∃ l, L[i]? = some l := ⟨L[i], List.getElem?_eq_getElem hi⟩
    have hl1 : L1[i]? = some l := hLi.trans hl
    simp only [List.map_cons, List.nodup_cons] at hn
    simp only [cntW] at hx
    have ih := lent_spec r L1 xs hx hn.2 (fun y hy => hlt y (by simp [hy])) (fun y hy => hL y (by simp [hy]))
    have e1 : lentL L1 ((i, false) :: r) xs = lentL L1 r xs := by cases xs <;> simp [lentL]
    have e2 : lentCs L ((i, false) :: r) xs = (l.cs.map real) :: lentCs L r xs := by cases xs <;> simp [lentCs, hl]
    rw [e1, e2]
    refine ⟨by simp [ih.1], fun q hq => ?_, fun p i' rw l' hp hl' => ?_⟩
    · simp only [List.map_cons, List.mem_cons, not_or] at hq
      exact ih.2.1 q hq.2
    · cases p with
      | zero =>
        simp only [List.getElem?_cons_zero, Option.some.injEq, Prod.mk.injEq] at hp
        obtain ⟨rfl, rfl⟩ := hp
        rw [hl] at hl'; injection hl' with hl'; subst hl'
        exact ⟨l.cs, by rw [ih.2.1 i hn.1]; exact hl1, by simp, fun _ => rfl, fun y hy => .inl hy⟩
      | succ p =>
        simp only [List.getElem?_cons_succ] at hp
        obtain ⟨cs', h1, h2, h3⟩ := ih.2.2 p i' rw l' hp hl'
        exact ⟨cs', h1, by simpa using h2, h3⟩

theorem lentI_spec : ∀ (J : List (Nat × Bool)), (∀ x ∈ J, x.1 < L.length) → (lentI L J).length = J.length ∧ ∀ (p i : Nat) (rw : Bool) l, J[p]? = some (i, rw) → L[i]? = some l → (lentI L J)[p]? = some (l.b, l.t, l.cs.map real)
  | [], _ => ⟨rfl, fun p i rw l hp => by simp at hp⟩
  | (i, rw) :: r, hlt => by
    have hi := hlt (i, rw) (by simp)
    have hl : L[i]? = some L[i] := List.getElem?_eq_getElem hi
    have ih := lentI_spec r (fun y hy => hlt y (by simp [hy]))
    have e : lentI L ((i, rw) :: r) = (L[i].b, L[i].t, L[i].cs.map real) :: lentI L r := by simp [lentI, hl]
    rw [e]
    refine ⟨by simp [ih.1], fun p i' rw' l' hp hl' => ?_⟩
    cases p with
    | zero =>
      simp only [List.getElem?_cons_zero, Option.some.injEq, Prod.mk.injEq] at hp
      obtain ⟨rfl, rfl⟩ := hp
      rw [hl] at hl'; injection hl' with hl'; subst hl'; rfl
    | succ p => simp only [List.getElem?_cons_succ] at hp ⊢; exact ih.2 p i' rw' l' hp hl'

theorem setI_get : ∀ (I : Imp) (css : List (List Value)), css.length = I.length → ∀ (p b : Nat) (t : TypeId) (c0 c : List Value), I[p]? = some (b, t, c0) → css[p]? = some c → (setI I css)[p]? = some (b, t, c)
  | [], _, _, p, b, t, c0, c, h, _ => by simp at h
  | (b', t', c') :: I, [], hl, _, _, _, _, _, _, _ => by simp at hl
  | (b', t', c') :: I, x :: css, hl, p, b, t, c0, c, h1, h2 => by
    cases p with
    | zero =>
      simp only [List.getElem?_cons_zero, Option.some.injEq, Prod.mk.injEq] at h1 h2
      obtain ⟨rfl, rfl, rfl⟩ := h1
      subst h2; rfl
    | succ p =>
      simp only [List.getElem?_cons_succ] at h1 h2
      exact setI_get I css (by simpa using hl) p b t c0 c h1 h2

theorem mem_wrIdx : ∀ {J : List (Nat × Bool)} {q : Nat}, (q, true) ∈ J → q ∈ wrIdx J
  | (i, true) :: r, q, h => by
    rcases List.mem_cons.1 h with h | h
    · injection h with h; subst h; simp [wrIdx]
    · simp [wrIdx, mem_wrIdx h]
  | (i, false) :: r, q, h => by
    rcases List.mem_cons.1 h with h | h
    · injection h with _ h; cases h
    · simp [wrIdx, mem_wrIdx h]
theorem mem_J {x : Nat} (h : x ∈ J.map Prod.fst) : ∃ (p : Nat) (rw : Bool), J[p]? = some (x, rw) := by
  obtain ⟨⟨i, rw⟩, hm, rfl⟩ := List.mem_map.1 h
  obtain ⟨p, hp⟩ := List.mem_iff_getElem?.1 hm
  exact ⟨p, rw, hp⟩

theorem nodup_idx {l : List Nat} (h : l.Nodup) {i j x : Nat} (hi : l[i]? = some x) (hj : l[j]? = some x) : i = j := by
  obtain ⟨h1, e1⟩ := List.getElem?_eq_some_iff.1 hi
  obtain ⟨h2, e2⟩ := List.getElem?_eq_some_iff.1 hj
  have H := List.pairwise_iff_getElem.1 h
  rcases Nat.lt_trichotomy i j with hij | hij | hij
  · exact absurd (e1.trans e2.symm) (H i j h1 h2 hij)
  · exact hij
  · exact absurd (e2.trans e1.symm) (H j i h2 h1 hij)
theorem mem_lentI (hlt : ∀ x ∈ J, x.1 < L.length) {x : Nat × TypeId × List Value} {p : Nat} (hx : (lentI L J)[p]? = some x) : ∃ (i : Nat) (rw : Bool) (l : LB), J[p]? = some (i, rw) ∧ L[i]? = some l ∧ x = (l.b, l.t, l.cs.map real) := by
  obtain ⟨hIl, hIs⟩ := lentI_spec (L := L) J hlt
  have hpJ : p < J.length := by rw [← hIl]; exact (List.getElem?_eq_some_iff.1 hx).1
  have hJp : J[p]? = some (J[p].1, J[p].2) := List.getElem?_eq_getElem hpJ
  have hi := hlt _ (List.mem_of_getElem? hJp)
  have hl : L[J[p].1]? = some (L[J[p].1]'hi) := List.getElem?_eq_getElem hi
  have := hIs p _ _ _ hJp hl
  rw [hx] at this; injection this with this
  exact ⟨_, _, _, hJp, hl, this⟩

/-- The blocks that are lent, and the others. -/
theorem InvL.lend (hI : InvL L F0 w wa) (hg : goodLend L.length J = true) :
    ∃ F, Rel (rawI (lentI L J) ++ F) w wa ∧ ∀ (css xs : List (List Value)) (w' wa' : World), xs.length = cntW J → css = lentCs L J xs → Rel (rawI (setI (lentI L J) css) ++ F) w' wa' →
      InvL (lentL L J xs) F0 w' wa' ∧ (∀ (q : Nat) l, L[q]? = some l → q ∉ wrIdx J → (lentL L J xs)[q]? = some l) ∧
        (∀ (q : Nat) l, L[q]? = some l → ∃ l', (lentL L J xs)[q]? = some l' ∧ l'.b = l.b ∧ l'.t = l.t) := by
  obtain ⟨hlt, hnd⟩ := goodLend_spec hg
  obtain ⟨hIl, hIs⟩ := lentI_spec (L := L) J hlt
  have hkeysL : (L.map LB.b).Nodup := (List.nodup_append.1 hI.nd).1
  have hdis : ∀ x ∈ L.map LB.b, ∀ y ∈ F0.map Prod.fst, x ≠ y := (List.nodup_append.1 hI.nd).2.2
  have inj : ∀ {i j : Nat} {l l' : LB}, L[i]? = some l → L[j]? = some l' → l.b = l'.b → i = j := fun {i j l l'} hi hj hb =>
    nodup_idx hkeysL (i := i) (j := j) (x := l.b) (by simp [hi]) (by simp [hj, hb])
  have hkeys : (rawI (lentI L J)).map Prod.fst = (lentI L J).map (·.1) := by simp [rawI, Function.comp_def]
  have hsetk : ∀ (I : Imp) (css : List (List Value)), (rawI (setI I css)).map Prod.fst = (rawI I).map Prod.fst := by
    intro I
    induction I with
    | nil => intro css; cases css <;> rfl
    | cons y I ih => intro css; cases css with | nil => rfl | cons c css => simpa [setI, rawI] using ih css
  refine ⟨(raw L ++ F0).filter fun x => !((lentI L J).map (·.1)).contains x.1, hI.rel.sub ?_ ?_, ?_⟩
  · intro x hx
    rcases List.mem_append.1 hx with hx | hx
    · obtain ⟨y, hy, rfl⟩ := List.mem_map.1 hx
      obtain ⟨p, hp⟩ := List.mem_iff_getElem?.1 hy
      obtain ⟨i, rw, l, _, hl, rfl⟩ := mem_lentI hlt hp
      exact List.mem_append_left _ (raw_mem hl)
    · exact (List.mem_filter.1 hx).1
  · rw [List.map_append, List.nodup_append]
    refine ⟨?_, hI.rel.nd.sublist (List.filter_sublist.map _), ?_⟩
    · rw [hkeys, List.nodup_iff_pairwise_ne, List.pairwise_iff_getElem]
      intro p q hp hq hpq e
      simp only [List.length_map] at hp hq
      obtain ⟨i, rw, l, h1, h2, h3⟩ := mem_lentI hlt (List.getElem?_eq_getElem hp)
      obtain ⟨i', rw', l', h1', h2', h3'⟩ := mem_lentI hlt (List.getElem?_eq_getElem hq)
      simp only [List.getElem_map, h3, h3'] at e
      obtain rfl := inj h2 h2' e
      have := nodup_idx hnd (i := p) (j := q) (x := i) (by simp [h1]) (by simp [h1'])
      omega
    · intro x hx y hy e
      subst e
      obtain ⟨z, hz, rfl⟩ := List.mem_map.1 hy
      have := (List.mem_filter.1 hz).2
      rw [hkeys] at hx
      simp [hx] at this
  · intro css xs w' wa' hxs hcss hr
    obtain ⟨s1, s2, s3⟩ := lent_spec (L := L) J L xs hxs hnd hlt (fun _ _ => rfl)
    rw [← hcss] at s1 s3
    have keys : ∀ (q : Nat) l, L[q]? = some l → ∃ l', (lentL L J xs)[q]? = some l' ∧ l'.b = l.b ∧ l'.t = l.t := by
      intro q l hq
      by_cases hqJ : q ∈ J.map Prod.fst
      · obtain ⟨p, rw, hp⟩ := mem_J hqJ
        obtain ⟨cs', h1, _⟩ := s3 p q rw l hp hq
        exact ⟨_, h1, rfl, rfl⟩
      · exact ⟨l, by rw [s2 q hqJ]; exact hq, rfl, rfl⟩
    have hlen : (lentL L J xs).length = L.length := by
      have : ∀ (J : List (Nat × Bool)) (L1 : List LB) (xs : List (List Value)), (lentL L1 J xs).length = L1.length := by
        intro J
        induction J with
        | nil => intro L1 xs; cases xs <;> rfl
        | cons y J ih =>
          intro L1 xs
          obtain ⟨i, b⟩ := y
          cases b with
          | false => cases xs <;> simp [lentL, ih]
          | true =>
            cases xs with
            | nil => rfl
            | cons x xs =>
              simp only [lentL]
              split
              · rw [ih]; simp
              · rfl
      exact this J L xs
    -- each block behind the call
    have each : ∀ (q : Nat) l', (lentL L J xs)[q]? = some l' → ∃ l, L[q]? = some l ∧ l'.b = l.b ∧ l'.t = l.t ∧ (∀ x ∈ l'.cs, x ∈ l.cs ∨ ∃ v, x = .v v) ∧
        ((q ∈ J.map Prod.fst ∧ (l'.b, l'.obj) ∈ rawI (setI (lentI L J) css)) ∨ (q ∉ J.map Prod.fst ∧ l' = l)) := by
      intro q l' hq
      have hqL : q < L.length := by rw [← hlen]; exact (List.getElem?_eq_some_iff.1 hq).1
      have hl : L[q]? = some L[q] := List.getElem?_eq_getElem hqL
      refine ⟨L[q], hl, ?_⟩
      by_cases hqJ : q ∈ J.map Prod.fst
      · obtain ⟨p, rw, hp⟩ := mem_J hqJ
        obtain ⟨cs', h1, h2, _, h4⟩ := s3 p q rw _ hp hl
        rw [hq] at h1; injection h1 with h1; subst h1
        have hset := setI_get (lentI L J) css (by rw [s1, hIl]) p _ _ _ _ (hIs p q rw _ hp hl) h2
        refine ⟨rfl, rfl, h4, .inl ⟨hqJ, List.mem_map.2 ⟨_, List.mem_of_getElem? hset, rfl⟩⟩⟩
      · have := s2 q hqJ
        rw [hq, hl] at this; injection this with this; subst this
        exact ⟨rfl, rfl, fun x hx => .inl hx, .inr ⟨hqJ, rfl⟩⟩
    have notI : ∀ (q : Nat) l, L[q]? = some l → q ∉ J.map Prod.fst → l.b ∉ (lentI L J).map (·.1) := by
      intro q l hl hqJ hm
      obtain ⟨u, hu, e⟩ := List.mem_map.1 hm
      obtain ⟨p, hp⟩ := List.mem_iff_getElem?.1 hu
      obtain ⟨i, rw, l2, h1, h2, rfl⟩ := mem_lentI hlt hp
      obtain rfl := inj h2 hl e
      exact hqJ (List.mem_map.2 ⟨_, List.mem_of_getElem? h1, rfl⟩)
    refine ⟨⟨?_, ?_⟩, ?_, keys⟩
    · intro l' hl' x hx
      obtain ⟨q, hq⟩ := List.mem_iff_getElem?.1 hl'
      obtain ⟨l, hl, _, _, hcs, _⟩ := each q l' hq
      rcases hcs x hx with h | ⟨v, rfl⟩
      · exact okp_keys keys (hI.ok l (List.mem_of_getElem? hl) x h)
      · trivial
    · refine hr.sub ?_ ?_
      · intro x hx
        rcases List.mem_append.1 hx with hx | hx
        · obtain ⟨l', hl', rfl⟩ := List.mem_map.1 hx
          obtain ⟨q, hq⟩ := List.mem_iff_getElem?.1 hl'
          obtain ⟨l, hl, hb, _, _, h⟩ := each q l' hq
          rcases h with ⟨_, h⟩ | ⟨hqJ, rfl⟩
          · exact List.mem_append_left _ h
          · refine List.mem_append_right _ (List.mem_filter.2 ⟨List.mem_append_left _ (raw_mem hl), ?_⟩)
            have := notI q l' hl hqJ
            simpa using this
        · refine List.mem_append_right _ (List.mem_filter.2 ⟨List.mem_append_right _ hx, ?_⟩)
          have : x.1 ∉ (lentI L J).map (·.1) := by
            intro hm
            obtain ⟨u, hu, e⟩ := List.mem_map.1 hm
            obtain ⟨p, hp⟩ := List.mem_iff_getElem?.1 hu
            obtain ⟨i, rw, l2, h1, h2, rfl⟩ := mem_lentI hlt hp
            exact hdis l2.b (List.mem_map.2 ⟨l2, List.mem_of_getElem? h2, rfl⟩) x.1 (List.mem_map.2 ⟨x, hx, rfl⟩) e
          simpa using this
      · have e : (raw (lentL L J xs)).map Prod.fst = (raw L).map Prod.fst := by
          simp only [raw, List.map_map, Function.comp_def]
          apply List.ext_getElem?
          intro q
          simp only [List.getElem?_map]
          cases hq : (lentL L J xs)[q]? with
          | none =>
            have : L[q]? = none := by rw [List.getElem?_eq_none_iff, ← hlen, ← List.getElem?_eq_none_iff]; exact hq
            simp [this]
          | some l' =>
            obtain ⟨l, hl, hb, _⟩ := each q l' hq
            simp [hl, hb]
        rw [List.map_append, e, ← List.map_append]
        exact hI.rel.nd
    · intro q l hq hw
      by_cases hqJ : q ∈ J.map Prod.fst
      · obtain ⟨p, rw, hp⟩ := mem_J hqJ
        obtain ⟨cs', h1, _, h3, _⟩ := s3 p q rw l hp hq
        cases rw with
        | false => rw [h1, h3 rfl]
        | true => exact absurd (mem_wrIdx (List.mem_of_getElem? hp)) hw
      · rw [s2 q hqJ]; exact hq

/-- A call that returns is one of a function with a body. -/
theorem calls_body {g : FuncId} {args : Array Value} {R : Ending → World → Prop} (h : Calls P g args wa R) (hR : ∀ e w', R e w' → ∃ v, e = .returned v) : ∃ fn, P.funcs[g]? = some fn ∧ fn.body.isNone = false := by
  obtain ⟨e, w', fr, hr, hc, hfn, hl⟩ := h []
  obtain ⟨v, rfl⟩ := hR _ _ hr
  obtain ⟨hm, _, _, fn, hf, _⟩ := hl
  rw [hfn] at hf
  refine ⟨fn, hf, ?_⟩
  cases hb : fn.body with
  | some c => rfl
  | none =>
    exfalso
    obtain ⟨n, hn⟩ := hc
    cases n with
    | zero =>
      simp only [runN] at hn
      injection hn with hn
      simp only [lone] at hn
      injection hn with _ hn _
      have := congrArg (fun g : Array Goroutine => g[0]?.map fun x => x.frame.mode) hn
      simp [Frame.enter, hm] at this
    | succ n =>
      simp only [runN] at hn
      obtain ⟨e, hs⟩ : ∃ e, step P (lone (Frame.enter P g args .normal) [] wa) = .ended (.unsupported e ((Frame.enter P g args .normal).pos P)) wa :=
        ⟨_, step_lone_ended (by simp [stepG, stepG.exec, Frame.enter, hf, hb]; rfl)⟩
      rw [hs] at hn
      simp at hn

theorem es_call (he : EnvOK env L a) (hI : InvL L F0 w wa) (hbody : ∀ (f : Nat) (fn : Func), P.funcs[f]? = some fn → (fn.name == "runtime.NumGoroutine") = false) (o : Oper) (c : Call) (f : Operand) (ho : o.op = .call c) (hc : c.callee = .value f)
    (h : opv P T J rt (.call c) env L w K) : ES P J F0 o a env L wa K := by
  intro M hn
  simp only [opv, hc] at h
  split at h
  · rename_i f' args hf' hargs
    injection hf' with hf'; subst hf'
    have hargs := (evs_ok he hargs).1
    split at h
    · rename_i g first captured sh hfe hsh
      have hfe := (evE_ok he hfe).1
      unfold CallK at h
      split at h
      · rename_i hg
        obtain ⟨F, hr, hback⟩ := hI.lend hg
        have hcall := h F wa hr
        obtain ⟨fn, hfn, hb'⟩ := calls_body hcall (fun e w' h => by obtain ⟨v, _, _, h, _⟩ := h; exact ⟨v, h⟩)
        have ea : c.args.map a.eval = (args.map real).toArray := by
          rw [← Array.toArray_toList (xs := c.args.map a.eval), Array.toList_map, hargs]
        have hname := hbody g fn hfn
        have hrun : (execOp a.eval o).run P wa = .ok (.enter g (first.toList ++ args.map real ++ captured.toList).toArray) wa := by
          simp only [execOp, ho, resolve, hc, hfe, real, ea, Sem.run_bind, Deferred.ofValue, Sem.run_pure, Result.andThen_ok, invoke, callFunc, run_program, hfn, hname, hb', Bool.false_eq_true, if_false]
          simp
        rw [hrun]
        refine hcall.mono fun e wa' hpost => ?_
        obtain ⟨v, css, w', rfl, hlen, hr', hex⟩ := hpost
        obtain ⟨x, hex⟩ := exSh_el hex
        obtain ⟨rfl, hex⟩ := hex
        obtain ⟨xs, hxl, hcss, hK⟩ := exCss_len hex
        obtain ⟨h1, h2, h3⟩ := hback css xs w' wa' (by rw [hxl, lentSh_len]) hcss (by rw [hcss] at hr' ⊢; exact hr')
        have hw : writesL J o.op env = wrIdx J := by simp [writesL, ho]
        exact ⟨v, rfl, hn (.v v) _ w' wa' ⟨h1, trivial, by rw [hw]; exact h2, h3⟩ hK⟩
      · exact h.elim
    · exact h.elim
  · rename_i h1 _; cases h1
  · rename_i h1 _; cases h1
  · rename_i h1 _; cases h1
  · rename_i h1 _; cases h1
  · exact h.elim
end
end Go.Proofs.Ytnkpjlhbojjneaa.VC
