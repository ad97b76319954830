/- The law AutoRings answers yes for all numbers: the statement's first form. -/
import Derived.Test.YtnkpjlhbojjneaaGh
import Derived.Test.YtnkpjlhbojjneaaGt
namespace Go.Proofs.Ytnkpjlhbojjneaa.VC
open Go Go.RowKit Go.ChangeShapes Go.WideShapes

set_option maxRecDepth 100000 in
theorem row14 (H : Type) (enc : TypeId × Value → H) (W : World) (base : Nat) (args : Array Value) (ds gs : List (DataW H)) (before : List MemPlace)
    (hval : ∀ (j : Nat) t v, Try.f14.params[j]? = some t → args[j]? = some v → Value.okWide Try.prog W .any base t v)
    (hW : DataW.Whole enc Try.prog Try.f14.params.toList Rows.autoRingsSpec.vars false W args.toList ds gs before) :
    Calls Try.prog 14 args W fun e W' => ∃ v, e = .returned v ∧ Rows.autoRingsSpec.post enc Try.prog Try.f14 false true false false W args v W' := by
  have hW' := hW
  obtain ⟨p, q, hA0, hV, rfl, _, _⟩ := hW
  have hA : DataW.TrodAll enc Try.prog W 0 (fun _ => true) true Try.f14.params.toList args.toList ds p := hA0
  rw [Try.params14] at hA hval
  obtain ⟨v0, vs0, d0, ds0, p0, q0, hargs, rfl, rfl, h0, r0⟩ := trodAll_cons hA
  obtain ⟨v1, vs1, d1, ds1, p1, q1, rfl, rfl, rfl, h1, r1⟩ := trodAll_cons r0
  obtain ⟨v2, vs2, d2, ds2, p2, q2, rfl, rfl, rfl, h2, r2⟩ := trodAll_cons r1
  obtain ⟨v3, vs3, d3, ds3, p3, q3, rfl, rfl, rfl, h3, r3⟩ := trodAll_cons r2
  obtain ⟨rfl, rfl, rfl⟩ := trodAll_nil r3
  obtain rfl : args = #[v0, v1, v2, v3] := by cases args; simp_all
  obtain ⟨rfl, rfl⟩ := trodVars_none hV
  have w0 := hval 0 5 v0 rfl rfl
  have w1 := hval 1 5 v1 rfl rfl
  have w2 := hval 2 5 v2 rfl rfl
  have w3 := hval 3 5 v3 rfl rfl
  obtain ⟨x0, a0, _, _, b0⟩ := open_int Try.underlying5 w0 h0
  subst a0
  obtain ⟨x1, a1, _, _, b1⟩ := open_int Try.underlying5 w1 h1
  subst a1
  obtain ⟨x2, a2, _, _, b2⟩ := open_int Try.underlying5 w2 h2
  subst a2
  obtain ⟨x3, a3, _, _, b3⟩ := open_int Try.underlying5 w3 h3
  subst a3
  refine (calls_of fun R hR => c14 b0 b1 b2 b3 hR).mono fun e W' ⟨he, hE⟩ => ⟨_, he, ?_⟩
  have lt : ∀ x ∈ (p0 ++ (p1 ++ (p2 ++ (p3 ++ [])))) ++ [], x.block < W.heap.size := fun x hx => hW'.lt x hx
  refine post_yes hW' rfl rfl (by kernel_rfl) rfl hE fun sp hs => ?_
  rw [Try.params14, List.append_nil]
  exact (trodAll_cons_mk (stays laidOut (by kernel_rfl) (of_decide_eq_true (by kernel_rfl)) h0 hE (fun x hx => lt x (by simp [hx])) fun x hx => hs x (by simp [hx]))
    (trodAll_cons_mk (stays laidOut (by kernel_rfl) (of_decide_eq_true (by kernel_rfl)) h1 hE (fun x hx => lt x (by simp [hx])) fun x hx => hs x (by simp [hx]))
    (trodAll_cons_mk (stays laidOut (by kernel_rfl) (of_decide_eq_true (by kernel_rfl)) h2 hE (fun x hx => lt x (by simp [hx])) fun x hx => hs x (by simp [hx]))
    (trodAll_cons_mk (stays laidOut (by kernel_rfl) (of_decide_eq_true (by kernel_rfl)) h3 hE (fun x hx => lt x (by simp [hx])) fun x hx => hs x (by simp [hx]))
    trodAll_mk0))))

theorem own14 : ownKnob Try.prog.godebug = none := by kernel_rfl
set_option maxRecDepth 100000 in
theorem lifted14 (os : Os) (started : os.Started) (H : Type) (enc : TypeId × Value → H) :
    ReturnsInHanded {} Try.checked os 14 .any (Rows.autoRingsSpec.pre6 enc Try.prog Try.f14 Rows.autoRingsRow.domain false) (Rows.autoRingsSpec.post enc Try.prog Try.f14 false true false false) := by
  refine returnsInHanded_of_change (C := Try.checked) own14 started (by kernel_rfl) Try.func14
    (ChangeSpec.witness6 (enc := enc) (C := Try.checked) false ⟨#[], #[.int .u8 0, .int .u8 0, .int .u8 0, .int .u8 0], []⟩ 8 (by kernel_rfl) (by kernel_rfl) (by kernel_rfl) (by kernel_rfl)) ?_
  intro W base args ds gs before hval hW _ _
  exact row14 H enc W base args ds gs before hval hW
end Go.Proofs.Ytnkpjlhbojjneaa.VC
namespace Go.Proofs.Ytnkpjlhbojjneaa
open Go
theorem autoRingsFull : Rows.AutoRingsSaid :=
  OpenClaim.holds_of_wide 14 Try.f14 rfl rfl rfl rfl rfl rfl rfl ⟨rfl, rfl, rfl, rfl, rfl⟩ rfl rfl rfl rfl rfl (by kernel_rfl) Try.func14 (by kernel_rfl)
    (of_decide_eq_true (by kernel_rfl)) (by unfold Func.isWrapper; first | (rw [if_pos (by decide +kernel)]; kernel_rfl) | (rw [if_neg (by decide +kernel)]; exact ⟨rfl, rfl⟩))
    (fun os started H enc _ => VC.lifted14 os started H enc)
end Go.Proofs.Ytnkpjlhbojjneaa
