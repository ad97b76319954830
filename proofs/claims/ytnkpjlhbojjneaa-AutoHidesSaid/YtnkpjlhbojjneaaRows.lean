/-
  No cell of these rows narrows 'for every input' (looked for: loops, veiled, ifaces, maps, wideKeys, modest, calm, conditions, laid).
  DERIVED. THE GIVEN ROWS OF THIS SEAT. 12 by the template 'for every input the law returns true; each argument reads behind the call as it read before'; 0 by the template 'total and deterministic' (their statements: YtnkpjlhbojjneaaTotals.lean).
  GIVEN WITH THE SEED: the statements are not yours to turn. If you find one false, say at which input.
  Laid BY PROGRAM, IN A SANDBOX (cutbox-rows.mjs): the forced cells as the released guide's own fill.sh prints them over the translation 5cb05681766cb55a… (all of the seat's roots in one cut). By AI agents, Wed Nov 11 2026. No macro, syntax, notation, axiom, sorry.
-/
import Derived.Test.YtnkpjlhbojjneaaChecked
import GoSem.Claim
import GoSem.ClaimJoined
import GoSem.ClaimMapViews
import Derived.JoinedTies
import Derived.KernelRfl
namespace Go.Proofs.Ytnkpjlhbojjneaa
/- THE CELL 'sum', in the pinned program and in every row, IS THE sha256 OF THE DUMP (.gsa) THAT YtnkpjlhbojjneaaProg.lean LOADS. Nothing in Lean hashes anything: it is a label: what it is worth is what the hold of that sum in a sandbox is worth. -/
noncomputable def Try.pinned : Pinned := { name := "ytnkpjlhbojjneaa", sum := "5cb05681766cb55a989d2da59ca8c0b6e9db58fb666819d82cdaeed850e08992", checked := Try.checked }
namespace Rows
def none {H : Type} : Left H := { results := [], args := [] }

/-- 'doppelgangerlaw03.AutoValid': WHATEVER THE INPUT: true; the input reads as it did. -/
def autoValidSpec : ChangeSpec := { name := "autoValid", fn := fun _ => fun
  | [d1, d2] => { results := [.lit (.bool true)], args := [d1, d2] }
  | _ => none }
def autoValidRow : OpenClaim := { program := "ytnkpjlhbojjneaa", sum := "5cb05681766cb55a989d2da59ca8c0b6e9db58fb666819d82cdaeed850e08992", func := "doppelganger/doppelgangerlaw03.AutoValid", spec := "autoValid", unfollowed := true, recurses := true, plainKeys := false, apart := false }
def AutoValidSaid : Prop := autoValidRow.holds Try.pinned (OpenSpec.ofChange autoValidSpec)

/-- ITS FALSE NEIGHBOUR: 'it returns false'. Refute it at one input. -/
def autoValidWrong : ChangeSpec := { name := "autoValid", fn := fun _ => fun
  | [d1, d2] => { results := [.lit (.bool false)], args := [d1, d2] }
  | _ => none }
def AutoValidWrongFalsely : Prop := autoValidRow.holds Try.pinned (OpenSpec.ofChange autoValidWrong)

/-- 'doppelgangerlaw03.AutoLeast': WHATEVER THE INPUT: true; the input reads as it did. -/
def autoLeastSpec : ChangeSpec := { name := "autoLeast", fn := fun _ => fun
  | [d] => { results := [.lit (.bool true)], args := [d] }
  | _ => none }
def autoLeastRow : OpenClaim := { program := "ytnkpjlhbojjneaa", sum := "5cb05681766cb55a989d2da59ca8c0b6e9db58fb666819d82cdaeed850e08992", func := "doppelganger/doppelgangerlaw03.AutoLeast", spec := "autoLeast", unfollowed := true, recurses := true, plainKeys := false, apart := false }
def AutoLeastSaid : Prop := autoLeastRow.holds Try.pinned (OpenSpec.ofChange autoLeastSpec)

/-- ITS FALSE NEIGHBOUR: 'it returns false'. Refute it at one input. -/
def autoLeastWrong : ChangeSpec := { name := "autoLeast", fn := fun _ => fun
  | [d] => { results := [.lit (.bool false)], args := [d] }
  | _ => none }
def AutoLeastWrongFalsely : Prop := autoLeastRow.holds Try.pinned (OpenSpec.ofChange autoLeastWrong)

/-- 'doppelgangerlaw03.AutoOne': WHATEVER THE INPUT: true; the input reads as it did. -/
def autoOneSpec : ChangeSpec := { name := "autoOne", fn := fun _ => fun
  | [d1, d2, d3] => { results := [.lit (.bool true)], args := [d1, d2, d3] }
  | _ => none }
def autoOneRow : OpenClaim := { program := "ytnkpjlhbojjneaa", sum := "5cb05681766cb55a989d2da59ca8c0b6e9db58fb666819d82cdaeed850e08992", func := "doppelganger/doppelgangerlaw03.AutoOne", spec := "autoOne", unfollowed := true, recurses := true, plainKeys := false, apart := false }
def AutoOneSaid : Prop := autoOneRow.holds Try.pinned (OpenSpec.ofChange autoOneSpec)

/-- ITS FALSE NEIGHBOUR: 'it returns false'. Refute it at one input. -/
def autoOneWrong : ChangeSpec := { name := "autoOne", fn := fun _ => fun
  | [d1, d2, d3] => { results := [.lit (.bool false)], args := [d1, d2, d3] }
  | _ => none }
def AutoOneWrongFalsely : Prop := autoOneRow.holds Try.pinned (OpenSpec.ofChange autoOneWrong)

/-- 'doppelgangerlaw03.AutoDiffers': WHATEVER THE INPUT: true; the input reads as it did. -/
def autoDiffersSpec : ChangeSpec := { name := "autoDiffers", fn := fun _ => fun
  | [d1, d2] => { results := [.lit (.bool true)], args := [d1, d2] }
  | _ => none }
def autoDiffersRow : OpenClaim := { program := "ytnkpjlhbojjneaa", sum := "5cb05681766cb55a989d2da59ca8c0b6e9db58fb666819d82cdaeed850e08992", func := "doppelganger/doppelgangerlaw03.AutoDiffers", spec := "autoDiffers", unfollowed := true, recurses := true, plainKeys := false, apart := false }
def AutoDiffersSaid : Prop := autoDiffersRow.holds Try.pinned (OpenSpec.ofChange autoDiffersSpec)

/-- ITS FALSE NEIGHBOUR: 'it returns false'. Refute it at one input. -/
def autoDiffersWrong : ChangeSpec := { name := "autoDiffers", fn := fun _ => fun
  | [d1, d2] => { results := [.lit (.bool false)], args := [d1, d2] }
  | _ => none }
def AutoDiffersWrongFalsely : Prop := autoDiffersRow.holds Try.pinned (OpenSpec.ofChange autoDiffersWrong)

/-- 'doppelgangerlaw03.AutoShown': WHATEVER THE INPUT: true; the input reads as it did. -/
def autoShownSpec : ChangeSpec := { name := "autoShown", fn := fun _ => fun
  | [d1, d2, d3] => { results := [.lit (.bool true)], args := [d1, d2, d3] }
  | _ => none }
def autoShownRow : OpenClaim := { program := "ytnkpjlhbojjneaa", sum := "5cb05681766cb55a989d2da59ca8c0b6e9db58fb666819d82cdaeed850e08992", func := "doppelganger/doppelgangerlaw03.AutoShown", spec := "autoShown", unfollowed := true, recurses := true, plainKeys := false, apart := false }
def AutoShownSaid : Prop := autoShownRow.holds Try.pinned (OpenSpec.ofChange autoShownSpec)

/-- ITS FALSE NEIGHBOUR: 'it returns false'. Refute it at one input. -/
def autoShownWrong : ChangeSpec := { name := "autoShown", fn := fun _ => fun
  | [d1, d2, d3] => { results := [.lit (.bool false)], args := [d1, d2, d3] }
  | _ => none }
def AutoShownWrongFalsely : Prop := autoShownRow.holds Try.pinned (OpenSpec.ofChange autoShownWrong)

/-- 'doppelgangerlaw03.AutoRelates': WHATEVER THE INPUT: true; the input reads as it did. -/
def autoRelatesSpec : ChangeSpec := { name := "autoRelates", fn := fun _ => fun
  | [d1, d2, d3] => { results := [.lit (.bool true)], args := [d1, d2, d3] }
  | _ => none }
def autoRelatesRow : OpenClaim := { program := "ytnkpjlhbojjneaa", sum := "5cb05681766cb55a989d2da59ca8c0b6e9db58fb666819d82cdaeed850e08992", func := "doppelganger/doppelgangerlaw03.AutoRelates", spec := "autoRelates", unfollowed := true, recurses := true, plainKeys := false, apart := false }
def AutoRelatesSaid : Prop := autoRelatesRow.holds Try.pinned (OpenSpec.ofChange autoRelatesSpec)

/-- ITS FALSE NEIGHBOUR: 'it returns false'. Refute it at one input. -/
def autoRelatesWrong : ChangeSpec := { name := "autoRelates", fn := fun _ => fun
  | [d1, d2, d3] => { results := [.lit (.bool false)], args := [d1, d2, d3] }
  | _ => none }
def AutoRelatesWrongFalsely : Prop := autoRelatesRow.holds Try.pinned (OpenSpec.ofChange autoRelatesWrong)

/-- 'doppelgangerlaw03.AutoTrusts': WHATEVER THE INPUT: true; the input reads as it did. -/
def autoTrustsSpec : ChangeSpec := { name := "autoTrusts", fn := fun _ => fun
  | [d1, d2, d3, d4] => { results := [.lit (.bool true)], args := [d1, d2, d3, d4] }
  | _ => none }
def autoTrustsRow : OpenClaim := { program := "ytnkpjlhbojjneaa", sum := "5cb05681766cb55a989d2da59ca8c0b6e9db58fb666819d82cdaeed850e08992", func := "doppelganger/doppelgangerlaw03.AutoTrusts", spec := "autoTrusts", unfollowed := true, recurses := true, plainKeys := false, apart := false }
def AutoTrustsSaid : Prop := autoTrustsRow.holds Try.pinned (OpenSpec.ofChange autoTrustsSpec)

/-- ITS FALSE NEIGHBOUR: 'it returns false'. Refute it at one input. -/
def autoTrustsWrong : ChangeSpec := { name := "autoTrusts", fn := fun _ => fun
  | [d1, d2, d3, d4] => { results := [.lit (.bool false)], args := [d1, d2, d3, d4] }
  | _ => none }
def AutoTrustsWrongFalsely : Prop := autoTrustsRow.holds Try.pinned (OpenSpec.ofChange autoTrustsWrong)

/-- 'doppelgangerlaw03.AutoKeeps': WHATEVER THE INPUT: true; the input reads as it did. -/
def autoKeepsSpec : ChangeSpec := { name := "autoKeeps", fn := fun _ => fun
  | [d] => { results := [.lit (.bool true)], args := [d] }
  | _ => none }
def autoKeepsRow : OpenClaim := { program := "ytnkpjlhbojjneaa", sum := "5cb05681766cb55a989d2da59ca8c0b6e9db58fb666819d82cdaeed850e08992", func := "doppelganger/doppelgangerlaw03.AutoKeeps", spec := "autoKeeps", unfollowed := true, recurses := true, plainKeys := false, apart := false }
def AutoKeepsSaid : Prop := autoKeepsRow.holds Try.pinned (OpenSpec.ofChange autoKeepsSpec)

/-- ITS FALSE NEIGHBOUR: 'it returns false'. Refute it at one input. -/
def autoKeepsWrong : ChangeSpec := { name := "autoKeeps", fn := fun _ => fun
  | [d] => { results := [.lit (.bool false)], args := [d] }
  | _ => none }
def AutoKeepsWrongFalsely : Prop := autoKeepsRow.holds Try.pinned (OpenSpec.ofChange autoKeepsWrong)

/-- 'doppelgangerlaw03.AutoJoins': WHATEVER THE INPUT: true; the input reads as it did. -/
def autoJoinsSpec : ChangeSpec := { name := "autoJoins", fn := fun _ => fun
  | [d1, d2] => { results := [.lit (.bool true)], args := [d1, d2] }
  | _ => none }
def autoJoinsRow : OpenClaim := { program := "ytnkpjlhbojjneaa", sum := "5cb05681766cb55a989d2da59ca8c0b6e9db58fb666819d82cdaeed850e08992", func := "doppelganger/doppelgangerlaw03.AutoJoins", spec := "autoJoins", unfollowed := true, recurses := true, plainKeys := false, apart := false }
def AutoJoinsSaid : Prop := autoJoinsRow.holds Try.pinned (OpenSpec.ofChange autoJoinsSpec)

/-- ITS FALSE NEIGHBOUR: 'it returns false'. Refute it at one input. -/
def autoJoinsWrong : ChangeSpec := { name := "autoJoins", fn := fun _ => fun
  | [d1, d2] => { results := [.lit (.bool false)], args := [d1, d2] }
  | _ => none }
def AutoJoinsWrongFalsely : Prop := autoJoinsRow.holds Try.pinned (OpenSpec.ofChange autoJoinsWrong)

/-- 'doppelgangerlaw03.AutoCounts': WHATEVER THE INPUT: true; the input reads as it did. -/
def autoCountsSpec : ChangeSpec := { name := "autoCounts", fn := fun _ => fun
  | [d1, d2, d3, d4] => { results := [.lit (.bool true)], args := [d1, d2, d3, d4] }
  | _ => none }
def autoCountsRow : OpenClaim := { program := "ytnkpjlhbojjneaa", sum := "5cb05681766cb55a989d2da59ca8c0b6e9db58fb666819d82cdaeed850e08992", func := "doppelganger/doppelgangerlaw03.AutoCounts", spec := "autoCounts", unfollowed := true, recurses := true, plainKeys := false, apart := false }
def AutoCountsSaid : Prop := autoCountsRow.holds Try.pinned (OpenSpec.ofChange autoCountsSpec)

/-- ITS FALSE NEIGHBOUR: 'it returns false'. Refute it at one input. -/
def autoCountsWrong : ChangeSpec := { name := "autoCounts", fn := fun _ => fun
  | [d1, d2, d3, d4] => { results := [.lit (.bool false)], args := [d1, d2, d3, d4] }
  | _ => none }
def AutoCountsWrongFalsely : Prop := autoCountsRow.holds Try.pinned (OpenSpec.ofChange autoCountsWrong)

/-- 'doppelgangerlaw03.AutoHides': WHATEVER THE INPUT: true; the input reads as it did. -/
def autoHidesSpec : ChangeSpec := { name := "autoHides", fn := fun _ => fun
  | [d1, d2, d3] => { results := [.lit (.bool true)], args := [d1, d2, d3] }
  | _ => none }
def autoHidesRow : OpenClaim := { program := "ytnkpjlhbojjneaa", sum := "5cb05681766cb55a989d2da59ca8c0b6e9db58fb666819d82cdaeed850e08992", func := "doppelganger/doppelgangerlaw03.AutoHides", spec := "autoHides", unfollowed := true, recurses := true, plainKeys := false, apart := false }
def AutoHidesSaid : Prop := autoHidesRow.holds Try.pinned (OpenSpec.ofChange autoHidesSpec)

/-- ITS FALSE NEIGHBOUR: 'it returns false'. Refute it at one input. -/
def autoHidesWrong : ChangeSpec := { name := "autoHides", fn := fun _ => fun
  | [d1, d2, d3] => { results := [.lit (.bool false)], args := [d1, d2, d3] }
  | _ => none }
def AutoHidesWrongFalsely : Prop := autoHidesRow.holds Try.pinned (OpenSpec.ofChange autoHidesWrong)

/-- 'doppelgangerlaw03.AutoRings': WHATEVER THE INPUT: true; the input reads as it did. -/
def autoRingsSpec : ChangeSpec := { name := "autoRings", fn := fun _ => fun
  | [d1, d2, d3, d4] => { results := [.lit (.bool true)], args := [d1, d2, d3, d4] }
  | _ => none }
def autoRingsRow : OpenClaim := { program := "ytnkpjlhbojjneaa", sum := "5cb05681766cb55a989d2da59ca8c0b6e9db58fb666819d82cdaeed850e08992", func := "doppelganger/doppelgangerlaw03.AutoRings", spec := "autoRings", unfollowed := true, recurses := true, plainKeys := false, apart := false }
def AutoRingsSaid : Prop := autoRingsRow.holds Try.pinned (OpenSpec.ofChange autoRingsSpec)

/-- ITS FALSE NEIGHBOUR: 'it returns false'. Refute it at one input. -/
def autoRingsWrong : ChangeSpec := { name := "autoRings", fn := fun _ => fun
  | [d1, d2, d3, d4] => { results := [.lit (.bool false)], args := [d1, d2, d3, d4] }
  | _ => none }
def AutoRingsWrongFalsely : Prop := autoRingsRow.holds Try.pinned (OpenSpec.ofChange autoRingsWrong)

/- THE SECOND FORM. 'bulk': how many values and letters a reading holds, each counted each time it is reached (what is shared counts as often as it is met; a slice's spare places count too). A statement '..UptoSaid' is the law's where the arguments, and the package variables that the reading takes, are together of bulk at most 1048576: NARROWER than '..Said'. Prove '..Said' where nothing that the law and all that it calls make is longer than what came in: it says more and counts as full. Else prove '..UptoSaid'. A law counts once. -/
mutual
def uptoBulk {H : Type} : DataW H → Nat
  | .lit (.string bytes) => bytes.length + 1
  | .lit _ => 1
  | .nil => 1
  | .ptr d => uptoBulk d + 1
  | .slice elems spare => uptoBulkAll elems + uptoBulkAll spare + 1
  | .agg parts => uptoBulkAll parts + 1
  | .iface _ d => uptoBulk d + 1
  | .map entries => uptoBulkEntries entries + 1
  | .held _ => 1
def uptoBulkAll {H : Type} : List (DataW H) → Nat
  | [] => 0
  | d :: r => uptoBulk d + uptoBulkAll r
def uptoBulkEntries {H : Type} : List (Lit × DataW H) → Nat
  | [] => 0
  | x :: r => uptoBulkEntry x + uptoBulkEntries r
def uptoBulkEntry {H : Type} : Lit × DataW H → Nat
  | (.string bytes, d) => bytes.length + uptoBulk d + 1
  | (_, d) => uptoBulk d + 1
 end
def uptoSmall : (H : Type) → List (DataW H) → Bool := fun _ ds => decide (uptoBulkAll ds ≤ 1048576)
def OpenSpec.upto (s : _root_.Go.ChangeSpec) : _root_.Go.OpenSpec := { _root_.Go.OpenSpec.ofChange s with cond := some uptoSmall }

/-- 'doppelgangerlaw03.AutoValid', WHERE WHAT IT READS IS OF BULK AT MOST 1048576: true; the input reads as it did. -/
def autoValidUptoRow : OpenClaim := { program := "ytnkpjlhbojjneaa", sum := "5cb05681766cb55a989d2da59ca8c0b6e9db58fb666819d82cdaeed850e08992", func := "doppelganger/doppelgangerlaw03.AutoValid", spec := "autoValid", unfollowed := true, recurses := true, plainKeys := false, apart := false, narrowed := true }
def AutoValidUptoSaid : Prop := autoValidUptoRow.holds Try.pinned (OpenSpec.upto autoValidSpec)

/-- 'doppelgangerlaw03.AutoLeast', WHERE WHAT IT READS IS OF BULK AT MOST 1048576: true; the input reads as it did. -/
def autoLeastUptoRow : OpenClaim := { program := "ytnkpjlhbojjneaa", sum := "5cb05681766cb55a989d2da59ca8c0b6e9db58fb666819d82cdaeed850e08992", func := "doppelganger/doppelgangerlaw03.AutoLeast", spec := "autoLeast", unfollowed := true, recurses := true, plainKeys := false, apart := false, narrowed := true }
def AutoLeastUptoSaid : Prop := autoLeastUptoRow.holds Try.pinned (OpenSpec.upto autoLeastSpec)

/-- 'doppelgangerlaw03.AutoOne', WHERE WHAT IT READS IS OF BULK AT MOST 1048576: true; the input reads as it did. -/
def autoOneUptoRow : OpenClaim := { program := "ytnkpjlhbojjneaa", sum := "5cb05681766cb55a989d2da59ca8c0b6e9db58fb666819d82cdaeed850e08992", func := "doppelganger/doppelgangerlaw03.AutoOne", spec := "autoOne", unfollowed := true, recurses := true, plainKeys := false, apart := false, narrowed := true }
def AutoOneUptoSaid : Prop := autoOneUptoRow.holds Try.pinned (OpenSpec.upto autoOneSpec)

/-- 'doppelgangerlaw03.AutoDiffers', WHERE WHAT IT READS IS OF BULK AT MOST 1048576: true; the input reads as it did. -/
def autoDiffersUptoRow : OpenClaim := { program := "ytnkpjlhbojjneaa", sum := "5cb05681766cb55a989d2da59ca8c0b6e9db58fb666819d82cdaeed850e08992", func := "doppelganger/doppelgangerlaw03.AutoDiffers", spec := "autoDiffers", unfollowed := true, recurses := true, plainKeys := false, apart := false, narrowed := true }
def AutoDiffersUptoSaid : Prop := autoDiffersUptoRow.holds Try.pinned (OpenSpec.upto autoDiffersSpec)

/-- 'doppelgangerlaw03.AutoShown', WHERE WHAT IT READS IS OF BULK AT MOST 1048576: true; the input reads as it did. -/
def autoShownUptoRow : OpenClaim := { program := "ytnkpjlhbojjneaa", sum := "5cb05681766cb55a989d2da59ca8c0b6e9db58fb666819d82cdaeed850e08992", func := "doppelganger/doppelgangerlaw03.AutoShown", spec := "autoShown", unfollowed := true, recurses := true, plainKeys := false, apart := false, narrowed := true }
def AutoShownUptoSaid : Prop := autoShownUptoRow.holds Try.pinned (OpenSpec.upto autoShownSpec)

/-- 'doppelgangerlaw03.AutoRelates', WHERE WHAT IT READS IS OF BULK AT MOST 1048576: true; the input reads as it did. -/
def autoRelatesUptoRow : OpenClaim := { program := "ytnkpjlhbojjneaa", sum := "5cb05681766cb55a989d2da59ca8c0b6e9db58fb666819d82cdaeed850e08992", func := "doppelganger/doppelgangerlaw03.AutoRelates", spec := "autoRelates", unfollowed := true, recurses := true, plainKeys := false, apart := false, narrowed := true }
def AutoRelatesUptoSaid : Prop := autoRelatesUptoRow.holds Try.pinned (OpenSpec.upto autoRelatesSpec)

/-- 'doppelgangerlaw03.AutoTrusts', WHERE WHAT IT READS IS OF BULK AT MOST 1048576: true; the input reads as it did. -/
def autoTrustsUptoRow : OpenClaim := { program := "ytnkpjlhbojjneaa", sum := "5cb05681766cb55a989d2da59ca8c0b6e9db58fb666819d82cdaeed850e08992", func := "doppelganger/doppelgangerlaw03.AutoTrusts", spec := "autoTrusts", unfollowed := true, recurses := true, plainKeys := false, apart := false, narrowed := true }
def AutoTrustsUptoSaid : Prop := autoTrustsUptoRow.holds Try.pinned (OpenSpec.upto autoTrustsSpec)

/-- 'doppelgangerlaw03.AutoKeeps', WHERE WHAT IT READS IS OF BULK AT MOST 1048576: true; the input reads as it did. -/
def autoKeepsUptoRow : OpenClaim := { program := "ytnkpjlhbojjneaa", sum := "5cb05681766cb55a989d2da59ca8c0b6e9db58fb666819d82cdaeed850e08992", func := "doppelganger/doppelgangerlaw03.AutoKeeps", spec := "autoKeeps", unfollowed := true, recurses := true, plainKeys := false, apart := false, narrowed := true }
def AutoKeepsUptoSaid : Prop := autoKeepsUptoRow.holds Try.pinned (OpenSpec.upto autoKeepsSpec)

/-- 'doppelgangerlaw03.AutoJoins', WHERE WHAT IT READS IS OF BULK AT MOST 1048576: true; the input reads as it did. -/
def autoJoinsUptoRow : OpenClaim := { program := "ytnkpjlhbojjneaa", sum := "5cb05681766cb55a989d2da59ca8c0b6e9db58fb666819d82cdaeed850e08992", func := "doppelganger/doppelgangerlaw03.AutoJoins", spec := "autoJoins", unfollowed := true, recurses := true, plainKeys := false, apart := false, narrowed := true }
def AutoJoinsUptoSaid : Prop := autoJoinsUptoRow.holds Try.pinned (OpenSpec.upto autoJoinsSpec)

/-- 'doppelgangerlaw03.AutoCounts', WHERE WHAT IT READS IS OF BULK AT MOST 1048576: true; the input reads as it did. -/
def autoCountsUptoRow : OpenClaim := { program := "ytnkpjlhbojjneaa", sum := "5cb05681766cb55a989d2da59ca8c0b6e9db58fb666819d82cdaeed850e08992", func := "doppelganger/doppelgangerlaw03.AutoCounts", spec := "autoCounts", unfollowed := true, recurses := true, plainKeys := false, apart := false, narrowed := true }
def AutoCountsUptoSaid : Prop := autoCountsUptoRow.holds Try.pinned (OpenSpec.upto autoCountsSpec)

/-- 'doppelgangerlaw03.AutoHides', WHERE WHAT IT READS IS OF BULK AT MOST 1048576: true; the input reads as it did. -/
def autoHidesUptoRow : OpenClaim := { program := "ytnkpjlhbojjneaa", sum := "5cb05681766cb55a989d2da59ca8c0b6e9db58fb666819d82cdaeed850e08992", func := "doppelganger/doppelgangerlaw03.AutoHides", spec := "autoHides", unfollowed := true, recurses := true, plainKeys := false, apart := false, narrowed := true }
def AutoHidesUptoSaid : Prop := autoHidesUptoRow.holds Try.pinned (OpenSpec.upto autoHidesSpec)

/-- 'doppelgangerlaw03.AutoRings', WHERE WHAT IT READS IS OF BULK AT MOST 1048576: true; the input reads as it did. -/
def autoRingsUptoRow : OpenClaim := { program := "ytnkpjlhbojjneaa", sum := "5cb05681766cb55a989d2da59ca8c0b6e9db58fb666819d82cdaeed850e08992", func := "doppelganger/doppelgangerlaw03.AutoRings", spec := "autoRings", unfollowed := true, recurses := true, plainKeys := false, apart := false, narrowed := true }
def AutoRingsUptoSaid : Prop := autoRingsUptoRow.holds Try.pinned (OpenSpec.upto autoRingsSpec)

end Rows
end Go.Proofs.Ytnkpjlhbojjneaa
