/- The law LabelsMatch: whatever comes in, it answers true, and what came in reads as it did. No conditions. -/
import Derived.Test.YtamjjeakkkdfhaaRows
import Derived.Test.YtamjjeakkkdfhaaProg
import Derived.Below
import Derived.Deep.Draws
import Derived.Deep.AppendLies
import Derived.Maps.AppendAt
import Derived.OwnWalk
import Derived.Laws.BytesArg
import Derived.Laws.MakeOwn
import Derived.Laws.OwnMore
import Derived.Deep.OwnRows
import Derived.Tactics
import Derived.Lib.ConvBytes
import Derived.Laws.Slices
import Derived.WalkKit
import Derived.KernelRfl
import Derived.RowKit3
import Derived.Deep.LoopGhost
import Derived.Deep.QuietTactic
import Derived.BigQuiet
import Derived.WideLaws
import Derived.Deep.DeepCutAuto
import Derived.Deep.CutBlock
import Derived.Deep.RegionHeld3
import Derived.Laws.Rows
import Derived.Lib.AppendStr
import Derived.ArgAppend
import Derived.Laws.IdiomCopy
import Derived.OrdersHeld
import Derived.Laws.BitsLemmas
import Derived.RowKit
import Derived.Laws.StructEq
import Derived.RangeFuncNested
import Derived.RangeFuncBound
import Derived.RangeFuncCalls
import Derived.RangeFuncLeaves
import Derived.Shelf.Abstract
import Derived.Shelf.RegionOpen
import Derived.OwnWalkIn
import Derived.TacticsInMore
import Derived.LoopNIn
import Derived.LoopIn
import Derived.Maps.Own
import Derived.Maps.OwnOps
import Derived.Maps.Views
import Derived.StringKeys
import Derived.ChangeArms
import Derived.SizedLaws
import Derived.SliceStrings
import Derived.Maps.OwnIn
import Derived.LoopN
import Derived.ProofKit
import Derived.OpenShut
import Derived.ShutString
import Derived.ChangeOld
import Derived.ChangeSlices
import Derived.Test.YtamjjeakkkdfhaaZLabelsMatcha
import Derived.Test.YtamjjeakkkdfhaaZLabelsMatchb
import Derived.Test.YtamjjeakkkdfhaaZLabelsMatchc
namespace Foot
end Foot
namespace Go.Proofs.Ytamjjeakkkdfhaa
end Go.Proofs.Ytamjjeakkkdfhaa
namespace Go.Proofs.Ytamjjeakkkdfhaa.G
end Go.Proofs.Ytamjjeakkkdfhaa.G
namespace Go.Proofs.Ytamjjeakkkdfhaa.K
end Go.Proofs.Ytamjjeakkkdfhaa.K
namespace Go.Proofs.Ytamjjeakkkdfhaa.OP
end Go.Proofs.Ytamjjeakkkdfhaa.OP
namespace Go.Proofs.Ytamjjeakkkdfhaa.PB
end Go.Proofs.Ytamjjeakkkdfhaa.PB
namespace Go.Proofs.Ytamjjeakkkdfhaa.PC
end Go.Proofs.Ytamjjeakkkdfhaa.PC
namespace Go.Proofs.Ytamjjeakkkdfhaa.PD
end Go.Proofs.Ytamjjeakkkdfhaa.PD
namespace Go.Proofs.Ytamjjeakkkdfhaa.labelsMatch
end Go.Proofs.Ytamjjeakkkdfhaa.labelsMatch
namespace Go.Proofs.YtamjjeakkkdfhaaE
end Go.Proofs.YtamjjeakkkdfhaaE
namespace Go.Proofs.YtamjjeakkkdfhaaRF
end Go.Proofs.YtamjjeakkkdfhaaRF
namespace Go.Proofs.YtamjjeakkkdfhaaW.PrintLast
end Go.Proofs.YtamjjeakkkdfhaaW.PrintLast
namespace Go.Proofs.YtamjjeakkkdfhaaW.PrintMore
end Go.Proofs.YtamjjeakkkdfhaaW.PrintMore
namespace Go.Proofs.YtamjjeakkkdfhaaW.PrintWords
end Go.Proofs.YtamjjeakkkdfhaaW.PrintWords
namespace Kd
end Kd
namespace Go.Proofs.Ytamjjeakkkdfhaa.labelsMatch
open Go.ChangeShapes Go.WideShapes Go.ChangeAt Go.RowKit
open Go.ChangeMaps (open_string shut_string)
open Go.Proofs.Ytamjjeakkkdfhaa.G Go.Proofs.Ytamjjeakkkdfhaa.K
set_option linter.unusedVariables false
theorem own : ownKnob Try.prog.godebug = none := by kernel_rfl
theorem laidOut : laidOutB Try.prog = true := by kernel_rfl
set_option maxRecDepth 100000 in
set_option maxHeartbeats 4000000 in
theorem lifted (os : Os) (started : os.Started) (H : Type) (enc : TypeId × Value → H) :
    ReturnsInHanded {} Try.checked os 3 .any (Rows.labelsMatchSpec.pre6 enc Try.prog Try.f3 Rows.labelsMatchRow.domain false) (Rows.labelsMatchSpec.post enc Try.prog Try.f3 false true false false) := by
  refine returnsInHanded_of_change_sized (C := Try.checked) own started (by kernel_rfl) Try.func3
    (ChangeSpec.witness6 (enc := enc) (C := Try.checked) false ⟨#[], #[.slice none 0 0, .slice none 0 0, .int .i64 0], []⟩ 8 (by kernel_rfl) (by kernel_rfl) (by kernel_rfl) (by kernel_rfl)) ?_
  intro W base args ds gs before hval0 hW hcnd hsz0 _
  have hsz : (DataW.weightsEach Try.prog (Try.f3.params.toList ++ Rows.labelsMatchSpec.plain.varTypes Try.prog) (ds ++ gs)).all (· ≤ reachBytes) = true := hsz0
  have hval : ∀ (j : Nat) t v, Try.f3.params[j]? = some t → args[j]? = some v → Value.okWide Try.prog W .any base t v := hval0
  have hW' := hW
  obtain ⟨p, q, hA0, hV, rfl, hfz, hnd⟩ := hW
  have hA : DataW.TrodAll enc Try.prog W 0 (fun _ => true) true Try.f3.params.toList args.toList ds p := hA0
  rw [Try.params3] at hA hval hsz
  obtain ⟨v0, vs0, d0, ds0, p0, q0, hargs, rfl, rfl, h0, r0⟩ := trodAll_cons hA
  obtain ⟨v1, vs1, d1, ds1, p1, q1, rfl, rfl, rfl, h1, r1⟩ := trodAll_cons r0
  obtain ⟨v2, vs2, d2, ds2, p2, q2, rfl, rfl, rfl, h2, r2⟩ := trodAll_cons r1
  obtain ⟨rfl, rfl, rfl⟩ := trodAll_nil r2
  obtain rfl : args = #[v0, v1, v2] := by cases args; simp_all
  obtain ⟨rfl, rfl⟩ := trodVars_none hV
  have k0 := h0
  have lt0 : ∀ x ∈ p0, x.block < W.heap.size := by obtain ⟨m, hm⟩ := k0; exact DataW.trod_lt m _ _ _ hm
  have z0 := weights_of hsz (j := 0) (t := 22) (d := d0) rfl rfl
  obtain ⟨A0, c0, l0, rfl, b0, g0, o0⟩ := open_labels (hval 0 22 v0 rfl rfl) h0 z0
  have k1 := h1
  have lt1 : ∀ x ∈ p1, x.block < W.heap.size := by obtain ⟨m, hm⟩ := k1; exact DataW.trod_lt m _ _ _ hm
  have z1 := weights_of hsz (j := 1) (t := 22) (d := d1) rfl rfl
  obtain ⟨A1, c1, l1, rfl, b1, g1, o1⟩ := open_labels (hval 1 22 v1 rfl rfl) h1 z1
  obtain ⟨a2, rfl, rfl, rfl, w2⟩ := open_int Try.underlying3 (hval 2 3 v2 rfl rfl) h2
  clear hA0 hval0 hsz0 hsz
  refine (match_walk A0 c0 l0 A1 c1 l1 a2 W g0 b0 g1 b1 o0 o1).mono fun e W' ⟨he, bel⟩ => ?_
  subst he
  exact ⟨_, rfl, _, _, _, [], _, [], hW', trodAll_mk1 (shut_bool Try.underlying4 _), (trodAll_cons_mk (Below.trod laidOut (by kernel_rfl) (of_decide_eq_true (by kernel_rfl)) k0 bel lt0) (trodAll_cons_mk (Below.trod laidOut (by kernel_rfl) (of_decide_eq_true (by kernel_rfl)) k1 bel lt1) (trodAll_cons_mk (shut_int Try.underlying3 w2) trodAll_mk0))), rfl, bel.frame _, fun h => by cases h⟩
theorem over : Rows.labelsMatchRow.holds Try.pinned (OpenSpec.ofChange Rows.labelsMatchSpec) :=
  OpenClaim.holds_of_wide 3 Try.f3 rfl rfl rfl rfl rfl rfl rfl ⟨rfl, rfl, rfl, rfl, rfl⟩ rfl rfl rfl rfl rfl (by kernel_rfl) Try.func3 (by kernel_rfl)
    (of_decide_eq_true (by kernel_rfl)) (by unfold Func.isWrapper; first | (rw [if_pos (by decide +kernel)]; kernel_rfl) | (rw [if_neg (by decide +kernel)]; exact ⟨rfl, rfl⟩))
    (fun os started H enc _ => lifted os started H enc)
theorem proved : Rows.LabelsMatchSaid := over
#print axioms proved
end Go.Proofs.Ytamjjeakkkdfhaa.labelsMatch
namespace Go.Proofs.Ytamjjeakkkdfhaa
/-- The row, under a short name, for the claim. -/
theorem labelsMatch_holds : Rows.LabelsMatchSaid := labelsMatch.proved
end Go.Proofs.Ytamjjeakkkdfhaa
