/- The law AutoJoins answers yes, of whatever size what it reads is: the statement's first form. -/
import Derived.Test.YtnkpjlhbojjneaaGh
import Derived.Test.YtnkpjlhbojjneaaGn
namespace Go.Proofs.Ytnkpjlhbojjneaa.VC
open Go Go.RowKit Go.ChangeShapes Go.WideShapes

set_option maxRecDepth 100000 in
theorem row11 (H : Type) (enc : TypeId × Value → H) (W : World) (base : Nat) (args : Array Value) (ds gs : List (DataW H)) (before : List MemPlace)
    (hval : ∀ (j : Nat) t v, Try.f11.params[j]? = some t → args[j]? = some v → Value.okWide Try.prog W .any base t v)
    (hW : DataW.Whole enc Try.prog Try.f11.params.toList Rows.autoJoinsSpec.vars false W args.toList ds gs before)
    (hz : (DataW.weightsEach Try.prog (Try.f11.params.toList ++ Rows.autoJoinsSpec.plain.varTypes Try.prog) (ds ++ gs)).all (· ≤ reachBytes) = true) :
    Calls Try.prog 11 args W fun e W' => ∃ v, e = .returned v ∧ Rows.autoJoinsSpec.post enc Try.prog Try.f11 false true false false W args v W' := by
  have hW' := hW
  obtain ⟨p, q, hA0, hV, rfl, _, _⟩ := hW
  have hA : DataW.TrodAll enc Try.prog W 0 (fun _ => true) true Try.f11.params.toList args.toList ds p := hA0
  rw [Try.params11] at hA hval hz
  obtain ⟨v0, vs0, d0, ds0, p0, q0, hargs, rfl, rfl, h0, r0⟩ := trodAll_cons hA
  obtain ⟨v1, vs1, d1, ds1, p1, q1, rfl, rfl, rfl, h1, r1⟩ := trodAll_cons r0
  obtain ⟨rfl, rfl, rfl⟩ := trodAll_nil r1
  obtain rfl : args = #[v0, v1] := by cases args; simp_all
  obtain ⟨rfl, rfl⟩ := trodVars_none hV
  have hz0 : (DataW.weightsEach Try.prog [25, 25] [d0, d1]).all (· ≤ reachBytes) = true := hz
  obtain ⟨z0, hz1⟩ := sz_cons hz0
  obtain ⟨z1, hz2⟩ := sz_cons hz1
  have w0 := hval 0 25 v0 rfl rfl
  have w1 := hval 1 25 v1 rfl rfl
  obtain ⟨x0, a0, b0⟩ := rz_mach w0 h0 z0
  obtain ⟨x1, a1, b1⟩ := rz_mach w1 h1 z1
  refine (calls_of fun R hR => c11 a0 b0 a1 b1 hR).mono fun e W' ⟨he, hE⟩ => ⟨_, he, ?_⟩
  have lt : ∀ x ∈ (p0 ++ (p1 ++ [])) ++ [], x.block < W.heap.size := fun x hx => hW'.lt x hx
  refine post_yes hW' rfl rfl (by kernel_rfl) rfl hE fun sp hs => ?_
  rw [Try.params11, List.append_nil]
  exact (trodAll_cons_mk (stays laidOut (by kernel_rfl) (of_decide_eq_true (by kernel_rfl)) h0 hE (fun x hx => lt x (by simp [hx])) fun x hx => hs x (by simp [hx]))
    (trodAll_cons_mk (stays laidOut (by kernel_rfl) (of_decide_eq_true (by kernel_rfl)) h1 hE (fun x hx => lt x (by simp [hx])) fun x hx => hs x (by simp [hx]))
    trodAll_mk0))

theorem own11 : ownKnob Try.prog.godebug = none := by kernel_rfl
set_option maxRecDepth 100000 in
theorem lifted11 (os : Os) (started : os.Started) (H : Type) (enc : TypeId × Value → H) :
    ReturnsInHanded {} Try.checked os 11 .any (Rows.autoJoinsSpec.pre6 enc Try.prog Try.f11 Rows.autoJoinsRow.domain false) (Rows.autoJoinsSpec.post enc Try.prog Try.f11 false true false false) := by
  refine returnsInHanded_of_change_sized (C := Try.checked) own11 started (by kernel_rfl) Try.func11
    (ChangeSpec.witness6 (enc := enc) (C := Try.checked) false ⟨#[], #[.agg #[.int .i64 0, .int .i64 0, .slice none 0 0, .slice none 0 0], .agg #[.int .i64 0, .int .i64 0, .slice none 0 0, .slice none 0 0]], []⟩ 8 (by kernel_rfl) (by kernel_rfl) (by kernel_rfl) (by kernel_rfl)) ?_
  intro W base args ds gs before hval hW _ hz _
  exact row11 H enc W base args ds gs before hval hW hz
end Go.Proofs.Ytnkpjlhbojjneaa.VC
namespace Go.Proofs.Ytnkpjlhbojjneaa
open Go
theorem autoJoinsFull : Rows.AutoJoinsSaid :=
  OpenClaim.holds_of_wide 11 Try.f11 rfl rfl rfl rfl rfl rfl rfl ⟨rfl, rfl, rfl, rfl, rfl⟩ rfl rfl rfl rfl rfl (by kernel_rfl) Try.func11 (by kernel_rfl)
    (of_decide_eq_true (by kernel_rfl)) (by unfold Func.isWrapper; first | (rw [if_pos (by decide +kernel)]; kernel_rfl) | (rw [if_neg (by decide +kernel)]; exact ⟨rfl, rfl⟩))
    (fun os started H enc _ => VC.lifted11 os started H enc)
end Go.Proofs.Ytnkpjlhbojjneaa
