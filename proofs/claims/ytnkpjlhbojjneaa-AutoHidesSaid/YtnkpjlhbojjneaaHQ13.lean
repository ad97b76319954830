/- The law AutoHides answers yes, of whatever size what it reads is: the statement's first form. -/
import Derived.Test.YtnkpjlhbojjneaaGh
import Derived.Test.YtnkpjlhbojjneaaGr
namespace Go.Proofs.Ytnkpjlhbojjneaa.VC
open Go Go.RowKit Go.ChangeShapes Go.WideShapes

set_option maxRecDepth 100000 in
theorem row13 (H : Type) (enc : TypeId × Value → H) (W : World) (base : Nat) (args : Array Value) (ds gs : List (DataW H)) (before : List MemPlace)
    (hval : ∀ (j : Nat) t v, Try.f13.params[j]? = some t → args[j]? = some v → Value.okWide Try.prog W .any base t v)
    (hW : DataW.Whole enc Try.prog Try.f13.params.toList Rows.autoHidesSpec.vars false W args.toList ds gs before)
    (hz : (DataW.weightsEach Try.prog (Try.f13.params.toList ++ Rows.autoHidesSpec.plain.varTypes Try.prog) (ds ++ gs)).all (· ≤ reachBytes) = true) :
    Calls Try.prog 13 args W fun e W' => ∃ v, e = .returned v ∧ Rows.autoHidesSpec.post enc Try.prog Try.f13 false true false false W args v W' := by
  have hW' := hW
  obtain ⟨p, q, hA0, hV, rfl, _, _⟩ := hW
  have hA : DataW.TrodAll enc Try.prog W 0 (fun _ => true) true Try.f13.params.toList args.toList ds p := hA0
  rw [Try.params13] at hA hval hz
  obtain ⟨v0, vs0, d0, ds0, p0, q0, hargs, rfl, rfl, h0, r0⟩ := trodAll_cons hA
  obtain ⟨v1, vs1, d1, ds1, p1, q1, rfl, rfl, rfl, h1, r1⟩ := trodAll_cons r0
  obtain ⟨v2, vs2, d2, ds2, p2, q2, rfl, rfl, rfl, h2, r2⟩ := trodAll_cons r1
  obtain ⟨rfl, rfl, rfl⟩ := trodAll_nil r2
  obtain rfl : args = #[v0, v1, v2] := by cases args; simp_all
  obtain ⟨rfl, rfl⟩ := trodVars_none hV
  have hz0 : (DataW.weightsEach Try.prog [25, 23, 22] [d0, d1, d2]).all (· ≤ reachBytes) = true := hz
  obtain ⟨z0, hz1⟩ := sz_cons hz0
  obtain ⟨z1, hz2⟩ := sz_cons hz1
  obtain ⟨z2, hz3⟩ := sz_cons hz2
  have w0 := hval 0 25 v0 rfl rfl
  have w1 := hval 1 23 v1 rfl rfl
  have w2 := hval 2 22 v2 rfl rfl
  obtain ⟨x0, a0, b0⟩ := rz_mach w0 h0 z0
  obtain ⟨x1, a1, b1⟩ := rz_truths w1 h1 z1
  obtain ⟨x2, a2, b2, c2⟩ := rz_words w2 h2 z2
  refine (calls_of fun R hR => c13 a0 b0 a1 b1 a2 b2 c2 hR).mono fun e W' ⟨he, hE⟩ => ⟨_, he, ?_⟩
  have lt : ∀ x ∈ (p0 ++ (p1 ++ (p2 ++ []))) ++ [], x.block < W.heap.size := fun x hx => hW'.lt x hx
  refine post_yes hW' rfl rfl (by kernel_rfl) rfl hE fun sp hs => ?_
  rw [Try.params13, List.append_nil]
  exact (trodAll_cons_mk (stays laidOut (by kernel_rfl) (of_decide_eq_true (by kernel_rfl)) h0 hE (fun x hx => lt x (by simp [hx])) fun x hx => hs x (by simp [hx]))
    (trodAll_cons_mk (stays laidOut (by kernel_rfl) (of_decide_eq_true (by kernel_rfl)) h1 hE (fun x hx => lt x (by simp [hx])) fun x hx => hs x (by simp [hx]))
    (trodAll_cons_mk (stays laidOut (by kernel_rfl) (of_decide_eq_true (by kernel_rfl)) h2 hE (fun x hx => lt x (by simp [hx])) fun x hx => hs x (by simp [hx]))
    trodAll_mk0)))

theorem own13 : ownKnob Try.prog.godebug = none := by kernel_rfl
set_option maxRecDepth 100000 in
theorem lifted13 (os : Os) (started : os.Started) (H : Type) (enc : TypeId × Value → H) :
    ReturnsInHanded {} Try.checked os 13 .any (Rows.autoHidesSpec.pre6 enc Try.prog Try.f13 Rows.autoHidesRow.domain false) (Rows.autoHidesSpec.post enc Try.prog Try.f13 false true false false) := by
  refine returnsInHanded_of_change_sized (C := Try.checked) own13 started (by kernel_rfl) Try.func13
    (ChangeSpec.witness6 (enc := enc) (C := Try.checked) false ⟨#[], #[.agg #[.int .i64 0, .int .i64 0, .slice none 0 0, .slice none 0 0], .slice none 0 0, .slice none 0 0], []⟩ 8 (by kernel_rfl) (by kernel_rfl) (by kernel_rfl) (by kernel_rfl)) ?_
  intro W base args ds gs before hval hW _ hz _
  exact row13 H enc W base args ds gs before hval hW hz
end Go.Proofs.Ytnkpjlhbojjneaa.VC
namespace Go.Proofs.Ytnkpjlhbojjneaa
open Go
theorem autoHidesFull : Rows.AutoHidesSaid :=
  OpenClaim.holds_of_wide 13 Try.f13 rfl rfl rfl rfl rfl rfl rfl ⟨rfl, rfl, rfl, rfl, rfl⟩ rfl rfl rfl rfl rfl (by kernel_rfl) Try.func13 (by kernel_rfl)
    (of_decide_eq_true (by kernel_rfl)) (by unfold Func.isWrapper; first | (rw [if_pos (by decide +kernel)]; kernel_rfl) | (rw [if_neg (by decide +kernel)]; exact ⟨rfl, rfl⟩))
    (fun os started H enc _ => VC.lifted13 os started H enc)
end Go.Proofs.Ytnkpjlhbojjneaa
