/- Parts of the proof of RulesKept: lemmas, put together by a program of this session (pack.py) out of the kit's words, printed contracts and texts of its own. -/
import Derived.Test.YtamjjeakkkdfhaaProg
import Derived.Below
import Derived.Deep.Draws
import Derived.Deep.AppendLies
import Derived.Maps.AppendAt
import Derived.OwnWalk
import Derived.Laws.BytesArg
import Derived.Laws.MakeOwn
import Derived.Laws.OwnMore
import Derived.Deep.OwnRows
import Derived.Tactics
import Derived.Lib.ConvBytes
import Derived.Laws.Slices
import Derived.WalkKit
import Derived.KernelRfl
import Derived.RowKit3
import Derived.Deep.LoopGhost
import Derived.Deep.QuietTactic
import Derived.BigQuiet
import Derived.WideLaws
import Derived.Deep.DeepCutAuto
import Derived.Deep.CutBlock
import Derived.Deep.RegionHeld3
import Derived.Laws.Rows
import Derived.Lib.AppendStr
import Derived.ArgAppend
import Derived.Laws.IdiomCopy
import Derived.OrdersHeld
import Derived.Laws.BitsLemmas
import Derived.RowKit
import Derived.Laws.StructEq
import Derived.RangeFuncNested
import Derived.RangeFuncBound
import Derived.RangeFuncCalls
import Derived.RangeFuncLeaves
import Derived.Shelf.Abstract
import Derived.Shelf.RegionOpen
import Derived.OwnWalkIn
import Derived.TacticsInMore
import Derived.LoopNIn
import Derived.LoopIn
import Derived.ChangeArms
import Derived.SizedLaws
import Derived.SliceStrings
import Derived.Maps.Own
import Derived.Maps.OwnOps
import Derived.Maps.Views
import Derived.StringKeys
import Derived.Test.YtamjjeakkkdfhaaZRulesKepta
import Derived.Test.YtamjjeakkkdfhaaZRulesKeptb
import Derived.Test.YtamjjeakkkdfhaaZRulesKeptc
import Derived.Test.YtamjjeakkkdfhaaZRulesKeptd
namespace Foot
end Foot
namespace Go.Proofs.Ytamjjeakkkdfhaa
end Go.Proofs.Ytamjjeakkkdfhaa
namespace Go.Proofs.Ytamjjeakkkdfhaa.G
end Go.Proofs.Ytamjjeakkkdfhaa.G
namespace Go.Proofs.Ytamjjeakkkdfhaa.K
end Go.Proofs.Ytamjjeakkkdfhaa.K
namespace Go.Proofs.Ytamjjeakkkdfhaa.OP
end Go.Proofs.Ytamjjeakkkdfhaa.OP
namespace Go.Proofs.Ytamjjeakkkdfhaa.PB
end Go.Proofs.Ytamjjeakkkdfhaa.PB
namespace Go.Proofs.Ytamjjeakkkdfhaa.PC
end Go.Proofs.Ytamjjeakkkdfhaa.PC
namespace Go.Proofs.Ytamjjeakkkdfhaa.PD
end Go.Proofs.Ytamjjeakkkdfhaa.PD
namespace Go.Proofs.Ytamjjeakkkdfhaa.rulesKept
end Go.Proofs.Ytamjjeakkkdfhaa.rulesKept
namespace Go.Proofs.YtamjjeakkkdfhaaE
end Go.Proofs.YtamjjeakkkdfhaaE
namespace Go.Proofs.YtamjjeakkkdfhaaRF
end Go.Proofs.YtamjjeakkkdfhaaRF
namespace Go.Proofs.YtamjjeakkkdfhaaW.PrintLast
end Go.Proofs.YtamjjeakkkdfhaaW.PrintLast
namespace Go.Proofs.YtamjjeakkkdfhaaW.PrintMore
end Go.Proofs.YtamjjeakkkdfhaaW.PrintMore
namespace Go.Proofs.YtamjjeakkkdfhaaW.PrintWords
end Go.Proofs.YtamjjeakkkdfhaaW.PrintWords
namespace Kd
end Kd
section
namespace Go.Proofs.Ytamjjeakkkdfhaa.PB
open Go.RowKit Go.Proofs.YtamjjeakkkdfhaaW.PrintWords Go.Proofs.YtamjjeakkkdfhaaW.PrintLast Go.Proofs.YtamjjeakkkdfhaaW.PrintMore
open Go.Proofs.Ytamjjeakkkdfhaa.K Go.Proofs.Ytamjjeakkkdfhaa.G Go.Proofs.YtamjjeakkkdfhaaE
attribute [local go_sem] max2_int min2_int max_two min_two max_three min_three max_four min_four
set_option linter.unusedVariables false
set_option linter.unusedSimpArgs false
def flotillaref0_CopyObject.f (k : Nat) (a0_0 : Int) (a0_1 : ByteArray) (a0_2 : Int) (a0_3 : Int) (l0_4 : List (S31)) (a0_5 : Int) (a0_6 : Int) (a0_7 : Bool) (a0_8 : Bool) (a0_9 : Bool) (a0_10 : Int) (a0_11 : ByteArray) (a0_12 : ByteArray) (a0_13 : ByteArray) (a0_14 : Int) (a0_15 : Bool) (a0_16 : Bool) (a0_17 : Int) (a0_18 : Int) (a0_19 : ByteArray) (a0_20 : Int) (a0_21 : Int) (a0_22 : Int) (a0_23 : Int) (a0_24 : Int) (a0_25 : Bool) (a0_26 : Int) (l0_27 : List (S31)) (a0_28 : Int) (a0_29 : ByteArray) (a0_30 : Int) (a0_31 : Int) : Option (Int × ByteArray × Int × Int × (List (S31)) × Int × Int × Bool × Bool × Bool × Int × ByteArray × ByteArray × ByteArray × Int × Bool × Bool × Int × Int × ByteArray × Int × Int × Int × Int × Int × Bool × Int × (List (S31)) × Int × ByteArray × Int × Int) := (flotillaref0_CopyLabels.f k l0_4).bind fun t366 => ((flotillaref0_CopyLabels.f k l0_27).bind fun t369 => (some (a0_0, a0_1, a0_2, a0_3, t366, a0_5, a0_6, a0_7, a0_8, a0_9, a0_10, a0_11, a0_12, a0_13, a0_14, a0_15, a0_16, a0_17, a0_18, a0_19, a0_20, a0_21, a0_22, a0_23, a0_24, a0_25, a0_26, t369, a0_28, a0_29, a0_30, a0_31)))
set_option maxHeartbeats 8000000 in
set_option maxRecDepth 100000 in
theorem flotillaref0_CopyObject.calls (k : Nat) (a0_0 : Int) (a0_1 : ByteArray) (a0_2 : Int) (a0_3 : Int) (A0_4 : Option Addr) (c0_4 : Nat) (l0_4 : List (S31)) (a0_5 : Int) (a0_6 : Int) (a0_7 : Bool) (a0_8 : Bool) (a0_9 : Bool) (a0_10 : Int) (a0_11 : ByteArray) (a0_12 : ByteArray) (a0_13 : ByteArray) (a0_14 : Int) (a0_15 : Bool) (a0_16 : Bool) (a0_17 : Int) (a0_18 : Int) (a0_19 : ByteArray) (a0_20 : Int) (a0_21 : Int) (a0_22 : Int) (a0_23 : Int) (a0_24 : Int) (a0_25 : Bool) (a0_26 : Int) (A0_27 : Option Addr) (c0_27 : Nat) (l0_27 : List (S31)) (a0_28 : Int) (a0_29 : ByteArray) (a0_30 : Int) (a0_31 : Int) (r1 : Int) (r2 : ByteArray) (r3 : Int) (r4 : Int) (r5 : List (S31)) (r6 : Int) (r7 : Int) (r8 : Bool) (r9 : Bool) (r10 : Bool) (r11 : Int) (r12 : ByteArray) (r13 : ByteArray) (r14 : ByteArray) (r15 : Int) (r16 : Bool) (r17 : Bool) (r18 : Int) (r19 : Int) (r20 : ByteArray) (r21 : Int) (r22 : Int) (r23 : Int) (r24 : Int) (r25 : Int) (r26 : Bool) (r27 : Int) (r28 : List (S31)) (r29 : Int) (r30 : ByteArray) (r31 : Int) (r32 : Int) (w : World) (hr0_4 : Kd.C k31 w A0_4 l0_4.length l0_4) (hc0_4 : l0_4.length ≤ c0_4) (hr0_27 : Kd.C k31 w A0_27 l0_27.length l0_27) (hc0_27 : l0_27.length ≤ c0_27) (h : flotillaref0_CopyObject.f k a0_0 a0_1 a0_2 a0_3 l0_4 a0_5 a0_6 a0_7 a0_8 a0_9 a0_10 a0_11 a0_12 a0_13 a0_14 a0_15 a0_16 a0_17 a0_18 a0_19 a0_20 a0_21 a0_22 a0_23 a0_24 a0_25 a0_26 l0_27 a0_28 a0_29 a0_30 a0_31 = some (r1, r2, r3, r4, r5, r6, r7, r8, r9, r10, r11, r12, r13, r14, r15, r16, r17, r18, r19, r20, r21, r22, r23, r24, r25, r26, r27, r28, r29, r30, r31, r32)) :
    Calls Try.prog 61 #[.agg #[.int .i64 a0_0, .string a0_1, .int .i64 a0_2, .int .i64 a0_3, .slice A0_4 l0_4.length c0_4, .int .i64 a0_5, .int .i64 a0_6, .bool a0_7, .bool a0_8, .bool a0_9, .int .i64 a0_10, .string a0_11, .string a0_12, .string a0_13, .int .i64 a0_14, .bool a0_15, .bool a0_16, .int .i64 a0_17, .int .i64 a0_18, .string a0_19, .int .i64 a0_20, .int .i64 a0_21, .int .i64 a0_22, .int .i64 a0_23, .int .i64 a0_24, .bool a0_25, .int .u64 a0_26, .slice A0_27 l0_27.length c0_27, .int .i64 a0_28, .string a0_29, .int .i64 a0_30, .int .i64 a0_31]] w fun e w' => ∃ v4_ v27_ : Value, e = .returned (.agg #[.int .i64 r1, .string r2, .int .i64 r3, .int .i64 r4, v4_, .int .i64 r6, .int .i64 r7, .bool r8, .bool r9, .bool r10, .int .i64 r11, .string r12, .string r13, .string r14, .int .i64 r15, .bool r16, .bool r17, .int .i64 r18, .int .i64 r19, .string r20, .int .i64 r21, .int .i64 r22, .int .i64 r23, .int .i64 r24, .int .i64 r25, .bool r26, .int .u64 r27, v27_, .int .i64 r29, .string r30, .int .i64 r31, .int .i64 r32]) ∧ Kd.R k31 31 w' w.heap.size (fun k_ => some k_ ≠ (v27_ : Value).ownBlock) v4_ r5 ∧ Kd.R k31 31 w' w.heap.size (fun k_ => some k_ ≠ (v4_ : Value).ownBlock) v27_ r28 ∧ Below w.heap.size w w' := by
  have hu68 := Try.underlying68
  have HR0_4 := Aside0.mk hr0_4
  have HC0_4 := Aside0.mk hc0_4
  clear hr0_4 hc0_4
  have HR0_27 := Aside0.mk hr0_27
  have HC0_27 := Aside0.mk hc0_27
  clear hr0_27 hc0_27
  have HB := Aside0.mk (Below.refl w.heap.size w)
  have H : ((flotillaref0_CopyLabels.f k l0_4).bind fun t366 => ((flotillaref0_CopyLabels.f k l0_27).bind fun t369 => (some (a0_0, a0_1, a0_2, a0_3, t366, a0_5, a0_6, a0_7, a0_8, a0_9, a0_10, a0_11, a0_12, a0_13, a0_14, a0_15, a0_16, a0_17, a0_18, a0_19, a0_20, a0_21, a0_22, a0_23, a0_24, a0_25, a0_26, t369, a0_28, a0_29, a0_30, a0_31)))) = some (r1, r2, r3, r4, r5, r6, r7, r8, r9, r10, r11, r12, r13, r14, r15, r16, r17, r18, r19, r20, r21, r22, r23, r24, r25, r26, r27, r28, r29, r30, r31, r32) := h
  clear h
  replace H := Option.bind_eq_some_iff.mp H
  obtain ⟨t366, A20, H⟩ := H
  replace H : ((flotillaref0_CopyLabels.f k l0_27).bind fun t369 => (some (a0_0, a0_1, a0_2, a0_3, t366, a0_5, a0_6, a0_7, a0_8, a0_9, a0_10, a0_11, a0_12, a0_13, a0_14, a0_15, a0_16, a0_17, a0_18, a0_19, a0_20, a0_21, a0_22, a0_23, a0_24, a0_25, a0_26, t369, a0_28, a0_29, a0_30, a0_31))) = some (r1, r2, r3, r4, r5, r6, r7, r8, r9, r10, r11, r12, r13, r14, r15, r16, r17, r18, r19, r20, r21, r22, r23, r24, r25, r26, r27, r28, r29, r30, r31, r32) := H
  have A2 := Aside0.mk A20
  clear A20
  replace H := Option.bind_eq_some_iff.mp H
  obtain ⟨t369, A30, H⟩ := H
  replace H : (some (a0_0, a0_1, a0_2, a0_3, t366, a0_5, a0_6, a0_7, a0_8, a0_9, a0_10, a0_11, a0_12, a0_13, a0_14, a0_15, a0_16, a0_17, a0_18, a0_19, a0_20, a0_21, a0_22, a0_23, a0_24, a0_25, a0_26, t369, a0_28, a0_29, a0_30, a0_31)) = some (r1, r2, r3, r4, r5, r6, r7, r8, r9, r10, r11, r12, r13, r14, r15, r16, r17, r18, r19, r20, r21, r22, r23, r24, r25, r26, r27, r28, r29, r30, r31, r32) := H
  have A3 := Aside0.mk A30
  clear A30
  simp only [Option.some.injEq, Prod.mk.injEq] at H
  obtain ⟨rfl, rfl, rfl, rfl, rfl, rfl, rfl, rfl, rfl, rfl, rfl, rfl, rfl, rfl, rfl, rfl, rfl, rfl, rfl, rfl, rfl, rfl, rfl, rfl, rfl, rfl, rfl, rfl, rfl, rfl, rfl, rfl⟩ := H
  go_enter Try.func61, Try.ntmps61
  go_wp2_with (first | ((with_reducible refine gate_load (t := 68) rfl ?_); first | (refine load68_box rfl rfl rfl (by with_reducible assumption) (by with_reducible assumption) (by with_reducible assumption) (by with_reducible assumption) (by with_reducible assumption) (by with_reducible assumption) (by with_reducible assumption) (by with_reducible assumption) (by with_reducible assumption) (by with_reducible assumption) (by with_reducible assumption) (by with_reducible assumption) (by with_reducible assumption) (by with_reducible assumption) (by with_reducible assumption) (by with_reducible assumption) (by with_reducible assumption) (by with_reducible assumption) (by with_reducible assumption) (by with_reducible assumption) (by with_reducible assumption) (by with_reducible assumption) (by with_reducible assumption) (by with_reducible assumption) (by with_reducible assumption) (by with_reducible assumption) (by with_reducible assumption) (by with_reducible assumption) (by with_reducible assumption) (by with_reducible assumption) (by with_reducible assumption) (by with_reducible assumption) ?_) | (refine load68_at rfl rfl rfl (by with_reducible assumption) (by with_reducible assumption) (by with_reducible assumption) (by with_reducible assumption) (by with_reducible assumption) (by with_reducible assumption) (by with_reducible assumption) (by with_reducible assumption) (by with_reducible assumption) (by with_reducible assumption) (by with_reducible assumption) (by with_reducible assumption) (by with_reducible assumption) (by with_reducible assumption) (by with_reducible assumption) (by with_reducible assumption) (by with_reducible assumption) (by with_reducible assumption) (by with_reducible assumption) (by with_reducible assumption) (by with_reducible assumption) (by with_reducible assumption) (by with_reducible assumption) (by with_reducible assumption) (by with_reducible assumption) (by with_reducible assumption) (by with_reducible assumption) (by with_reducible assumption) (by with_reducible assumption) (by with_reducible assumption) (by with_reducible assumption) (by with_reducible assumption) ?_)) | ((with_reducible refine gate_dst (N := 1) rfl ?_); refine box_event ?hg (N := 1) ?hd (cs := #[.int .i64 a0_0, .string a0_1, .int .i64 a0_2, .int .i64 a0_3, .slice A0_4 l0_4.length c0_4, .int .i64 a0_5, .int .i64 a0_6, .bool a0_7, .bool a0_8, .bool a0_9, .int .i64 a0_10, .string a0_11, .string a0_12, .string a0_13, .int .i64 a0_14, .bool a0_15, .bool a0_16, .int .i64 a0_17, .int .i64 a0_18, .string a0_19, .int .i64 a0_20, .int .i64 a0_21, .int .i64 a0_22, .int .i64 a0_23, .int .i64 a0_24, .bool a0_25, .int .u64 a0_26, .slice A0_27 l0_27.length c0_27, .int .i64 a0_28, .string a0_29, .int .i64 a0_30, .int .i64 a0_31]) (t := 68) ?hr ?_; (case hd => rfl); (case hg => rfl); (case hr => first | (go_simp; done) | (go_simp; rfl)); intro gb363 hg w4 hbox hb; have n0_ := Aside0.mk (below_step (by repeat (first | (with_reducible first | exact HB.out | apply below_alloc | apply pw_below_drewN | apply below_drew1) | exact HB.out)) hb); have n1_ := Aside0.mk (hbox); have n2_ := Aside0.mk ((by rw [hg]; exact (below_size (by repeat (first | (with_reducible first | exact HB.out | apply below_alloc | apply pw_below_drewN | apply below_drew1) | exact HB.out))) : w.heap.size ≤ gb363)); have n3_ := Aside0.mk ((by rw [hg]; exact (below_size (by repeat (first | (with_reducible first | exact HB.out | apply below_alloc | apply pw_below_drewN | apply below_drew1) | exact HB.out))) : w.heap.size ≤ gb363)); clear HB; have HB := n0_; have BK363 := n1_; have GW363 := n2_; have GE363 := n3_; clear n0_ n1_ n2_ n3_; clear hb hbox hg) | ((with_reducible refine gate_dst (N := 2) rfl ?_); refine box_event ?hg (N := 2) ?hd (cs := #[.int .i64 0, .string (⟨#[]⟩ : ByteArray), .int .i64 0, .int .i64 0, .slice none 0 0, .int .i64 0, .int .i64 0, .bool false, .bool false, .bool false, .int .i64 0, .string (⟨#[]⟩ : ByteArray), .string (⟨#[]⟩ : ByteArray), .string (⟨#[]⟩ : ByteArray), .int .i64 0, .bool false, .bool false, .int .i64 0, .int .i64 0, .string (⟨#[]⟩ : ByteArray), .int .i64 0, .int .i64 0, .int .i64 0, .int .i64 0, .int .i64 0, .bool false, .int .u64 0, .slice none 0 0, .int .i64 0, .string (⟨#[]⟩ : ByteArray), .int .i64 0, .int .i64 0]) (t := 68) ?hr ?_; (case hd => rfl); (case hg => rfl); (case hr => first | (go_simp; done) | (go_simp; rfl)); intro gb364 hg w5 hbox hb; have n0_ := Aside0.mk (blk_below (g := gb363) (o := .cells #[.int .i64 a0_0, .string a0_1, .int .i64 a0_2, .int .i64 a0_3, .slice A0_4 l0_4.length c0_4, .int .i64 a0_5, .int .i64 a0_6, .bool a0_7, .bool a0_8, .bool a0_9, .int .i64 a0_10, .string a0_11, .string a0_12, .string a0_13, .int .i64 a0_14, .bool a0_15, .bool a0_16, .int .i64 a0_17, .int .i64 a0_18, .string a0_19, .int .i64 a0_20, .int .i64 a0_21, .int .i64 a0_22, .int .i64 a0_23, .int .i64 a0_24, .bool a0_25, .int .u64 a0_26, .slice A0_27 l0_27.length c0_27, .int .i64 a0_28, .string a0_29, .int .i64 a0_30, .int .i64 a0_31] 68 (0, 0)) (by (with_reducible repeat (first | refine blk_drewN ?_ _ | refine blk_drew ?_ | refine blk_alloc ?_ _)); exact BK363.out) hb); have n1_ := Aside0.mk (below_step (by repeat (first | (with_reducible first | exact HB.out | apply below_alloc | apply pw_below_drewN | apply below_drew1 | refine below_set ?_ GE363.out) | exact HB.out)) hb); have n2_ := Aside0.mk (hbox); have n3_ := Aside0.mk ((by rw [hg]; exact (below_size (by repeat (first | (with_reducible first | exact HB.out | apply below_alloc | apply pw_below_drewN | apply below_drew1 | refine below_set ?_ GE363.out) | exact HB.out))) : w.heap.size ≤ gb364)); have n4_ := Aside0.mk ((by rw [hg]; exact (below_size (by repeat (first | (with_reducible first | exact HB.out | apply below_alloc | apply pw_below_drewN | apply below_drew1 | refine below_set ?_ GE363.out) | exact HB.out))) : w.heap.size ≤ gb364)); have n5_ := Aside0.mk ((by rw [hg]; exact Nat.ne_of_lt (blk_lt (g := gb363) (o := .cells #[.int .i64 a0_0, .string a0_1, .int .i64 a0_2, .int .i64 a0_3, .slice A0_4 l0_4.length c0_4, .int .i64 a0_5, .int .i64 a0_6, .bool a0_7, .bool a0_8, .bool a0_9, .int .i64 a0_10, .string a0_11, .string a0_12, .string a0_13, .int .i64 a0_14, .bool a0_15, .bool a0_16, .int .i64 a0_17, .int .i64 a0_18, .string a0_19, .int .i64 a0_20, .int .i64 a0_21, .int .i64 a0_22, .int .i64 a0_23, .int .i64 a0_24, .bool a0_25, .int .u64 a0_26, .slice A0_27 l0_27.length c0_27, .int .i64 a0_28, .string a0_29, .int .i64 a0_30, .int .i64 a0_31] 68 (0, 0)) (by (with_reducible repeat (first | refine blk_drewN ?_ _ | refine blk_drew ?_ | refine blk_alloc ?_ _)); exact BK363.out)) : gb363 ≠ gb364)); have n6_ := Aside0.mk ((by rw [hg]; exact Nat.ne_of_gt (blk_lt (g := gb363) (o := .cells #[.int .i64 a0_0, .string a0_1, .int .i64 a0_2, .int .i64 a0_3, .slice A0_4 l0_4.length c0_4, .int .i64 a0_5, .int .i64 a0_6, .bool a0_7, .bool a0_8, .bool a0_9, .int .i64 a0_10, .string a0_11, .string a0_12, .string a0_13, .int .i64 a0_14, .bool a0_15, .bool a0_16, .int .i64 a0_17, .int .i64 a0_18, .string a0_19, .int .i64 a0_20, .int .i64 a0_21, .int .i64 a0_22, .int .i64 a0_23, .int .i64 a0_24, .bool a0_25, .int .u64 a0_26, .slice A0_27 l0_27.length c0_27, .int .i64 a0_28, .string a0_29, .int .i64 a0_30, .int .i64 a0_31] 68 (0, 0)) (by (with_reducible repeat (first | refine blk_drewN ?_ _ | refine blk_drew ?_ | refine blk_alloc ?_ _)); exact BK363.out)) : gb364 ≠ gb363)); clear BK363; clear HB; have BK363 := n0_; have HB := n1_; have BK364 := n2_; have GW364 := n3_; have GE364 := n4_; have NB363_364 := n5_; have NB364_363 := n6_; clear n0_ n1_ n2_ n3_ n4_ n5_ n6_; clear hb hbox hg; have hnb6 := NB363_364.out; have hnc6 := NB364_363.out; have hcz7_0 : w5.cell? ⟨gb363, 0, none⟩ = some (.int .i64 a0_0) := (blk_cell BK363.out 0).trans rfl; have hcz7_1 : w5.cell? ⟨gb363, 1, none⟩ = some (.string a0_1) := (blk_cell BK363.out 1).trans rfl; have hcz7_2 : w5.cell? ⟨gb363, 2, none⟩ = some (.int .i64 a0_2) := (blk_cell BK363.out 2).trans rfl; have hcz7_3 : w5.cell? ⟨gb363, 3, none⟩ = some (.int .i64 a0_3) := (blk_cell BK363.out 3).trans rfl; have hcz7_4 : w5.cell? ⟨gb363, 4, none⟩ = some (.slice A0_4 l0_4.length c0_4) := (blk_cell BK363.out 4).trans rfl; have hcz7_5 : w5.cell? ⟨gb363, 5, none⟩ = some (.int .i64 a0_5) := (blk_cell BK363.out 5).trans rfl; have hcz7_6 : w5.cell? ⟨gb363, 6, none⟩ = some (.int .i64 a0_6) := (blk_cell BK363.out 6).trans rfl; have hcz7_7 : w5.cell? ⟨gb363, 7, none⟩ = some (.bool a0_7) := (blk_cell BK363.out 7).trans rfl; have hcz7_8 : w5.cell? ⟨gb363, 8, none⟩ = some (.bool a0_8) := (blk_cell BK363.out 8).trans rfl; have hcz7_9 : w5.cell? ⟨gb363, 9, none⟩ = some (.bool a0_9) := (blk_cell BK363.out 9).trans rfl; have hcz7_10 : w5.cell? ⟨gb363, 10, none⟩ = some (.int .i64 a0_10) := (blk_cell BK363.out 10).trans rfl; have hcz7_11 : w5.cell? ⟨gb363, 11, none⟩ = some (.string a0_11) := (blk_cell BK363.out 11).trans rfl; have hcz7_12 : w5.cell? ⟨gb363, 12, none⟩ = some (.string a0_12) := (blk_cell BK363.out 12).trans rfl; have hcz7_13 : w5.cell? ⟨gb363, 13, none⟩ = some (.string a0_13) := (blk_cell BK363.out 13).trans rfl; have hcz7_14 : w5.cell? ⟨gb363, 14, none⟩ = some (.int .i64 a0_14) := (blk_cell BK363.out 14).trans rfl; have hcz7_15 : w5.cell? ⟨gb363, 15, none⟩ = some (.bool a0_15) := (blk_cell BK363.out 15).trans rfl; have hcz7_16 : w5.cell? ⟨gb363, 16, none⟩ = some (.bool a0_16) := (blk_cell BK363.out 16).trans rfl; have hcz7_17 : w5.cell? ⟨gb363, 17, none⟩ = some (.int .i64 a0_17) := (blk_cell BK363.out 17).trans rfl; have hcz7_18 : w5.cell? ⟨gb363, 18, none⟩ = some (.int .i64 a0_18) := (blk_cell BK363.out 18).trans rfl; have hcz7_19 : w5.cell? ⟨gb363, 19, none⟩ = some (.string a0_19) := (blk_cell BK363.out 19).trans rfl; have hcz7_20 : w5.cell? ⟨gb363, 20, none⟩ = some (.int .i64 a0_20) := (blk_cell BK363.out 20).trans rfl; have hcz7_21 : w5.cell? ⟨gb363, 21, none⟩ = some (.int .i64 a0_21) := (blk_cell BK363.out 21).trans rfl; have hcz7_22 : w5.cell? ⟨gb363, 22, none⟩ = some (.int .i64 a0_22) := (blk_cell BK363.out 22).trans rfl; have hcz7_23 : w5.cell? ⟨gb363, 23, none⟩ = some (.int .i64 a0_23) := (blk_cell BK363.out 23).trans rfl; have hcz7_24 : w5.cell? ⟨gb363, 24, none⟩ = some (.int .i64 a0_24) := (blk_cell BK363.out 24).trans rfl; have hcz7_25 : w5.cell? ⟨gb363, 25, none⟩ = some (.bool a0_25) := (blk_cell BK363.out 25).trans rfl; have hcz7_26 : w5.cell? ⟨gb363, 26, none⟩ = some (.int .u64 a0_26) := (blk_cell BK363.out 26).trans rfl; have hcz7_27 : w5.cell? ⟨gb363, 27, none⟩ = some (.slice A0_27 l0_27.length c0_27) := (blk_cell BK363.out 27).trans rfl; have hcz7_28 : w5.cell? ⟨gb363, 28, none⟩ = some (.int .i64 a0_28) := (blk_cell BK363.out 28).trans rfl; have hcz7_29 : w5.cell? ⟨gb363, 29, none⟩ = some (.string a0_29) := (blk_cell BK363.out 29).trans rfl; have hcz7_30 : w5.cell? ⟨gb363, 30, none⟩ = some (.int .i64 a0_30) := (blk_cell BK363.out 30).trans rfl; have hcz7_31 : w5.cell? ⟨gb363, 31, none⟩ = some (.int .i64 a0_31) := (blk_cell BK363.out 31).trans rfl; have hfz7_0 := blk_frozen BK363.out 0; have hfz7_1 := blk_frozen BK363.out 1; have hfz7_2 := blk_frozen BK363.out 2; have hfz7_3 := blk_frozen BK363.out 3; have hfz7_4 := blk_frozen BK363.out 4; have hfz7_5 := blk_frozen BK363.out 5; have hfz7_6 := blk_frozen BK363.out 6; have hfz7_7 := blk_frozen BK363.out 7; have hfz7_8 := blk_frozen BK363.out 8; have hfz7_9 := blk_frozen BK363.out 9; have hfz7_10 := blk_frozen BK363.out 10; have hfz7_11 := blk_frozen BK363.out 11; have hfz7_12 := blk_frozen BK363.out 12; have hfz7_13 := blk_frozen BK363.out 13; have hfz7_14 := blk_frozen BK363.out 14; have hfz7_15 := blk_frozen BK363.out 15; have hfz7_16 := blk_frozen BK363.out 16; have hfz7_17 := blk_frozen BK363.out 17; have hfz7_18 := blk_frozen BK363.out 18; have hfz7_19 := blk_frozen BK363.out 19; have hfz7_20 := blk_frozen BK363.out 20; have hfz7_21 := blk_frozen BK363.out 21; have hfz7_22 := blk_frozen BK363.out 22; have hfz7_23 := blk_frozen BK363.out 23; have hfz7_24 := blk_frozen BK363.out 24; have hfz7_25 := blk_frozen BK363.out 25; have hfz7_26 := blk_frozen BK363.out 26; have hfz7_27 := blk_frozen BK363.out 27; have hfz7_28 := blk_frozen BK363.out 28; have hfz7_29 := blk_frozen BK363.out 29; have hfz7_30 := blk_frozen BK363.out 30; have hfz7_31 := blk_frozen BK363.out 31) | ((with_reducible refine gate_dst (N := 3) rfl ?_); refine box_event ?hg (N := 3) ?hd (cs := #[.int .i64 0, .string (⟨#[]⟩ : ByteArray), .int .i64 0, .int .i64 0, .slice none 0 0, .int .i64 0, .int .i64 0, .bool false, .bool false, .bool false, .int .i64 0, .string (⟨#[]⟩ : ByteArray), .string (⟨#[]⟩ : ByteArray), .string (⟨#[]⟩ : ByteArray), .int .i64 0, .bool false, .bool false, .int .i64 0, .int .i64 0, .string (⟨#[]⟩ : ByteArray), .int .i64 0, .int .i64 0, .int .i64 0, .int .i64 0, .int .i64 0, .bool false, .int .u64 0, .slice none 0 0, .int .i64 0, .string (⟨#[]⟩ : ByteArray), .int .i64 0, .int .i64 0]) (t := 68) ?hr ?_; (case hd => rfl); (case hg => rfl); (case hr => first | (go_simp; done) | (go_simp; rfl)); intro gb365 hg w8 hbox hb; have n0_ := Aside0.mk (blk_below (g := gb363) (o := .cells #[.int .i64 a0_0, .string a0_1, .int .i64 a0_2, .int .i64 a0_3, .slice A0_4 l0_4.length c0_4, .int .i64 a0_5, .int .i64 a0_6, .bool a0_7, .bool a0_8, .bool a0_9, .int .i64 a0_10, .string a0_11, .string a0_12, .string a0_13, .int .i64 a0_14, .bool a0_15, .bool a0_16, .int .i64 a0_17, .int .i64 a0_18, .string a0_19, .int .i64 a0_20, .int .i64 a0_21, .int .i64 a0_22, .int .i64 a0_23, .int .i64 a0_24, .bool a0_25, .int .u64 a0_26, .slice A0_27 l0_27.length c0_27, .int .i64 a0_28, .string a0_29, .int .i64 a0_30, .int .i64 a0_31] 68 (0, 0)) (by (with_reducible repeat (first | refine blk_drewN ?_ _ | refine blk_drew ?_ | refine blk_alloc ?_ _)); exact BK363.out) hb); have n1_ := Aside0.mk (blk_below (g := gb364) (o := .cells #[.int .i64 0, .string (⟨#[]⟩ : ByteArray), .int .i64 0, .int .i64 0, .slice none 0 0, .int .i64 0, .int .i64 0, .bool false, .bool false, .bool false, .int .i64 0, .string (⟨#[]⟩ : ByteArray), .string (⟨#[]⟩ : ByteArray), .string (⟨#[]⟩ : ByteArray), .int .i64 0, .bool false, .bool false, .int .i64 0, .int .i64 0, .string (⟨#[]⟩ : ByteArray), .int .i64 0, .int .i64 0, .int .i64 0, .int .i64 0, .int .i64 0, .bool false, .int .u64 0, .slice none 0 0, .int .i64 0, .string (⟨#[]⟩ : ByteArray), .int .i64 0, .int .i64 0] 68 (0, 0)) (by (with_reducible repeat (first | refine blk_drewN ?_ _ | refine blk_drew ?_ | refine blk_alloc ?_ _)); exact BK364.out) hb); have n2_ := Aside0.mk (below_step (by repeat (first | (with_reducible first | exact HB.out | apply below_alloc | apply pw_below_drewN | apply below_drew1 | refine below_set ?_ GE363.out | refine below_set ?_ GE364.out) | exact HB.out)) hb); have n3_ := Aside0.mk (hbox); have n4_ := Aside0.mk ((by rw [hg]; exact (below_size (by repeat (first | (with_reducible first | exact HB.out | apply below_alloc | apply pw_below_drewN | apply below_drew1 | refine below_set ?_ GE363.out | refine below_set ?_ GE364.out) | exact HB.out))) : w.heap.size ≤ gb365)); have n5_ := Aside0.mk ((by rw [hg]; exact (below_size (by repeat (first | (with_reducible first | exact HB.out | apply below_alloc | apply pw_below_drewN | apply below_drew1 | refine below_set ?_ GE363.out | refine below_set ?_ GE364.out) | exact HB.out))) : w.heap.size ≤ gb365)); have n6_ := Aside0.mk ((by rw [hg]; exact Nat.ne_of_lt (blk_lt (g := gb363) (o := .cells #[.int .i64 a0_0, .string a0_1, .int .i64 a0_2, .int .i64 a0_3, .slice A0_4 l0_4.length c0_4, .int .i64 a0_5, .int .i64 a0_6, .bool a0_7, .bool a0_8, .bool a0_9, .int .i64 a0_10, .string a0_11, .string a0_12, .string a0_13, .int .i64 a0_14, .bool a0_15, .bool a0_16, .int .i64 a0_17, .int .i64 a0_18, .string a0_19, .int .i64 a0_20, .int .i64 a0_21, .int .i64 a0_22, .int .i64 a0_23, .int .i64 a0_24, .bool a0_25, .int .u64 a0_26, .slice A0_27 l0_27.length c0_27, .int .i64 a0_28, .string a0_29, .int .i64 a0_30, .int .i64 a0_31] 68 (0, 0)) (by (with_reducible repeat (first | refine blk_drewN ?_ _ | refine blk_drew ?_ | refine blk_alloc ?_ _)); exact BK363.out)) : gb363 ≠ gb365)); have n7_ := Aside0.mk ((by rw [hg]; exact Nat.ne_of_gt (blk_lt (g := gb363) (o := .cells #[.int .i64 a0_0, .string a0_1, .int .i64 a0_2, .int .i64 a0_3, .slice A0_4 l0_4.length c0_4, .int .i64 a0_5, .int .i64 a0_6, .bool a0_7, .bool a0_8, .bool a0_9, .int .i64 a0_10, .string a0_11, .string a0_12, .string a0_13, .int .i64 a0_14, .bool a0_15, .bool a0_16, .int .i64 a0_17, .int .i64 a0_18, .string a0_19, .int .i64 a0_20, .int .i64 a0_21, .int .i64 a0_22, .int .i64 a0_23, .int .i64 a0_24, .bool a0_25, .int .u64 a0_26, .slice A0_27 l0_27.length c0_27, .int .i64 a0_28, .string a0_29, .int .i64 a0_30, .int .i64 a0_31] 68 (0, 0)) (by (with_reducible repeat (first | refine blk_drewN ?_ _ | refine blk_drew ?_ | refine blk_alloc ?_ _)); exact BK363.out)) : gb365 ≠ gb363)); have n8_ := Aside0.mk ((by rw [hg]; exact Nat.ne_of_lt (blk_lt (g := gb364) (o := .cells #[.int .i64 0, .string (⟨#[]⟩ : ByteArray), .int .i64 0, .int .i64 0, .slice none 0 0, .int .i64 0, .int .i64 0, .bool false, .bool false, .bool false, .int .i64 0, .string (⟨#[]⟩ : ByteArray), .string (⟨#[]⟩ : ByteArray), .string (⟨#[]⟩ : ByteArray), .int .i64 0, .bool false, .bool false, .int .i64 0, .int .i64 0, .string (⟨#[]⟩ : ByteArray), .int .i64 0, .int .i64 0, .int .i64 0, .int .i64 0, .int .i64 0, .bool false, .int .u64 0, .slice none 0 0, .int .i64 0, .string (⟨#[]⟩ : ByteArray), .int .i64 0, .int .i64 0] 68 (0, 0)) (by (with_reducible repeat (first | refine blk_drewN ?_ _ | refine blk_drew ?_ | refine blk_alloc ?_ _)); exact BK364.out)) : gb364 ≠ gb365)); have n9_ := Aside0.mk ((by rw [hg]; exact Nat.ne_of_gt (blk_lt (g := gb364) (o := .cells #[.int .i64 0, .string (⟨#[]⟩ : ByteArray), .int .i64 0, .int .i64 0, .slice none 0 0, .int .i64 0, .int .i64 0, .bool false, .bool false, .bool false, .int .i64 0, .string (⟨#[]⟩ : ByteArray), .string (⟨#[]⟩ : ByteArray), .string (⟨#[]⟩ : ByteArray), .int .i64 0, .bool false, .bool false, .int .i64 0, .int .i64 0, .string (⟨#[]⟩ : ByteArray), .int .i64 0, .int .i64 0, .int .i64 0, .int .i64 0, .int .i64 0, .bool false, .int .u64 0, .slice none 0 0, .int .i64 0, .string (⟨#[]⟩ : ByteArray), .int .i64 0, .int .i64 0] 68 (0, 0)) (by (with_reducible repeat (first | refine blk_drewN ?_ _ | refine blk_drew ?_ | refine blk_alloc ?_ _)); exact BK364.out)) : gb365 ≠ gb364)); clear BK363; clear BK364; clear HB; have BK363 := n0_; have BK364 := n1_; have HB := n2_; have BK365 := n3_; have GW365 := n4_; have GE365 := n5_; have NB363_365 := n6_; have NB365_363 := n7_; have NB364_365 := n8_; have NB365_364 := n9_; clear n0_ n1_ n2_ n3_ n4_ n5_ n6_ n7_ n8_ n9_; clear hb hbox hg; have hnb9 := NB365_363.out; have hnc9 := NB363_365.out; have hnb10 := NB365_364.out; have hnc10 := NB364_365.out; have hcz11_0 : w8.cell? ⟨gb365, 0, none⟩ = some (.int .i64 0) := (blk_cell BK365.out 0).trans rfl; have hcz11_1 : w8.cell? ⟨gb365, 1, none⟩ = some (.string (⟨#[]⟩ : ByteArray)) := (blk_cell BK365.out 1).trans rfl; have hcz11_2 : w8.cell? ⟨gb365, 2, none⟩ = some (.int .i64 0) := (blk_cell BK365.out 2).trans rfl; have hcz11_3 : w8.cell? ⟨gb365, 3, none⟩ = some (.int .i64 0) := (blk_cell BK365.out 3).trans rfl; have hcz11_4 : w8.cell? ⟨gb365, 4, none⟩ = some (.slice none 0 0) := (blk_cell BK365.out 4).trans rfl; have hcz11_5 : w8.cell? ⟨gb365, 5, none⟩ = some (.int .i64 0) := (blk_cell BK365.out 5).trans rfl; have hcz11_6 : w8.cell? ⟨gb365, 6, none⟩ = some (.int .i64 0) := (blk_cell BK365.out 6).trans rfl; have hcz11_7 : w8.cell? ⟨gb365, 7, none⟩ = some (.bool false) := (blk_cell BK365.out 7).trans rfl; have hcz11_8 : w8.cell? ⟨gb365, 8, none⟩ = some (.bool false) := (blk_cell BK365.out 8).trans rfl; have hcz11_9 : w8.cell? ⟨gb365, 9, none⟩ = some (.bool false) := (blk_cell BK365.out 9).trans rfl; have hcz11_10 : w8.cell? ⟨gb365, 10, none⟩ = some (.int .i64 0) := (blk_cell BK365.out 10).trans rfl; have hcz11_11 : w8.cell? ⟨gb365, 11, none⟩ = some (.string (⟨#[]⟩ : ByteArray)) := (blk_cell BK365.out 11).trans rfl; have hcz11_12 : w8.cell? ⟨gb365, 12, none⟩ = some (.string (⟨#[]⟩ : ByteArray)) := (blk_cell BK365.out 12).trans rfl; have hcz11_13 : w8.cell? ⟨gb365, 13, none⟩ = some (.string (⟨#[]⟩ : ByteArray)) := (blk_cell BK365.out 13).trans rfl; have hcz11_14 : w8.cell? ⟨gb365, 14, none⟩ = some (.int .i64 0) := (blk_cell BK365.out 14).trans rfl; have hcz11_15 : w8.cell? ⟨gb365, 15, none⟩ = some (.bool false) := (blk_cell BK365.out 15).trans rfl; have hcz11_16 : w8.cell? ⟨gb365, 16, none⟩ = some (.bool false) := (blk_cell BK365.out 16).trans rfl; have hcz11_17 : w8.cell? ⟨gb365, 17, none⟩ = some (.int .i64 0) := (blk_cell BK365.out 17).trans rfl; have hcz11_18 : w8.cell? ⟨gb365, 18, none⟩ = some (.int .i64 0) := (blk_cell BK365.out 18).trans rfl; have hcz11_19 : w8.cell? ⟨gb365, 19, none⟩ = some (.string (⟨#[]⟩ : ByteArray)) := (blk_cell BK365.out 19).trans rfl; have hcz11_20 : w8.cell? ⟨gb365, 20, none⟩ = some (.int .i64 0) := (blk_cell BK365.out 20).trans rfl; have hcz11_21 : w8.cell? ⟨gb365, 21, none⟩ = some (.int .i64 0) := (blk_cell BK365.out 21).trans rfl; have hcz11_22 : w8.cell? ⟨gb365, 22, none⟩ = some (.int .i64 0) := (blk_cell BK365.out 22).trans rfl; have hcz11_23 : w8.cell? ⟨gb365, 23, none⟩ = some (.int .i64 0) := (blk_cell BK365.out 23).trans rfl; have hcz11_24 : w8.cell? ⟨gb365, 24, none⟩ = some (.int .i64 0) := (blk_cell BK365.out 24).trans rfl; have hcz11_25 : w8.cell? ⟨gb365, 25, none⟩ = some (.bool false) := (blk_cell BK365.out 25).trans rfl; have hcz11_26 : w8.cell? ⟨gb365, 26, none⟩ = some (.int .u64 0) := (blk_cell BK365.out 26).trans rfl; have hcz11_27 : w8.cell? ⟨gb365, 27, none⟩ = some (.slice none 0 0) := (blk_cell BK365.out 27).trans rfl; have hcz11_28 : w8.cell? ⟨gb365, 28, none⟩ = some (.int .i64 0) := (blk_cell BK365.out 28).trans rfl; have hcz11_29 : w8.cell? ⟨gb365, 29, none⟩ = some (.string (⟨#[]⟩ : ByteArray)) := (blk_cell BK365.out 29).trans rfl; have hcz11_30 : w8.cell? ⟨gb365, 30, none⟩ = some (.int .i64 0) := (blk_cell BK365.out 30).trans rfl; have hcz11_31 : w8.cell? ⟨gb365, 31, none⟩ = some (.int .i64 0) := (blk_cell BK365.out 31).trans rfl; have hfz11_0 := blk_frozen BK365.out 0; have hfz11_1 := blk_frozen BK365.out 1; have hfz11_2 := blk_frozen BK365.out 2; have hfz11_3 := blk_frozen BK365.out 3; have hfz11_4 := blk_frozen BK365.out 4; have hfz11_5 := blk_frozen BK365.out 5; have hfz11_6 := blk_frozen BK365.out 6; have hfz11_7 := blk_frozen BK365.out 7; have hfz11_8 := blk_frozen BK365.out 8; have hfz11_9 := blk_frozen BK365.out 9; have hfz11_10 := blk_frozen BK365.out 10; have hfz11_11 := blk_frozen BK365.out 11; have hfz11_12 := blk_frozen BK365.out 12; have hfz11_13 := blk_frozen BK365.out 13; have hfz11_14 := blk_frozen BK365.out 14; have hfz11_15 := blk_frozen BK365.out 15; have hfz11_16 := blk_frozen BK365.out 16; have hfz11_17 := blk_frozen BK365.out 17; have hfz11_18 := blk_frozen BK365.out 18; have hfz11_19 := blk_frozen BK365.out 19; have hfz11_20 := blk_frozen BK365.out 20; have hfz11_21 := blk_frozen BK365.out 21; have hfz11_22 := blk_frozen BK365.out 22; have hfz11_23 := blk_frozen BK365.out 23; have hfz11_24 := blk_frozen BK365.out 24; have hfz11_25 := blk_frozen BK365.out 25; have hfz11_26 := blk_frozen BK365.out 26; have hfz11_27 := blk_frozen BK365.out 27; have hfz11_28 := blk_frozen BK365.out 28; have hfz11_29 := blk_frozen BK365.out 29; have hfz11_30 := blk_frozen BK365.out 30; have hfz11_31 := blk_frozen BK365.out 31) | ((with_reducible refine gate_store (t := 68) (p := 3) rfl ?_); refine box_store_event (t := 68) (ty := 68) (p := 3) (x := ?vo_w12) (g := gb365) (cs := #[.int .i64 0, .string (⟨#[]⟩ : ByteArray), .int .i64 0, .int .i64 0, .slice none 0 0, .int .i64 0, .int .i64 0, .bool false, .bool false, .bool false, .int .i64 0, .string (⟨#[]⟩ : ByteArray), .string (⟨#[]⟩ : ByteArray), .string (⟨#[]⟩ : ByteArray), .int .i64 0, .bool false, .bool false, .int .i64 0, .int .i64 0, .string (⟨#[]⟩ : ByteArray), .int .i64 0, .int .i64 0, .int .i64 0, .int .i64 0, .int .i64 0, .bool false, .int .u64 0, .slice none 0 0, .int .i64 0, .string (⟨#[]⟩ : ByteArray), .int .i64 0, .int .i64 0]) (cs' := #[.int .i64 a0_0, .string a0_1, .int .i64 a0_2, .int .i64 a0_3, .slice A0_4 l0_4.length c0_4, .int .i64 a0_5, .int .i64 a0_6, .bool a0_7, .bool a0_8, .bool a0_9, .int .i64 a0_10, .string a0_11, .string a0_12, .string a0_13, .int .i64 a0_14, .bool a0_15, .bool a0_16, .int .i64 a0_17, .int .i64 a0_18, .string a0_19, .int .i64 a0_20, .int .i64 a0_21, .int .i64 a0_22, .int .i64 a0_23, .int .i64 a0_24, .bool a0_25, .int .u64 a0_26, .slice A0_27 l0_27.length c0_27, .int .i64 a0_28, .string a0_29, .int .i64 a0_30, .int .i64 a0_31]) ?hgd ?ho ?hN ?he ?hv ?hi ?hb ?hs ?h1 ?_; (case ho => rfl); (case hgd => rfl); (case hN => rfl); (case he => rfl); (case hv => first | rfl | (simp; done)); (case hi => exact size68); (case hb => (with_reducible repeat (first | refine blk_drewN ?_ _ | refine blk_drew ?_ | refine blk_alloc ?_ _)); exact BK365.out); (case hs => rfl); (case h1 => rfl); intro w12 hbox hg; have n0_ := Aside0.mk (blk_grown (by (with_reducible repeat (first | refine blk_drewN ?_ _ | refine blk_drew ?_ | refine blk_alloc ?_ _)); exact BK363.out) hg (fun e_ => NB363_365.out (Option.some.inj e_))); have n1_ := Aside0.mk (blk_grown (by (with_reducible repeat (first | refine blk_drewN ?_ _ | refine blk_drew ?_ | refine blk_alloc ?_ _)); exact BK364.out) hg (fun e_ => NB364_365.out (Option.some.inj e_))); have n2_ := Aside0.mk (hbox); have n3_ := Aside0.mk (Below.grown (by repeat (first | (with_reducible first | exact HB.out | apply below_alloc | apply pw_below_drewN | apply below_drew1 | refine below_set ?_ GE363.out | refine below_set ?_ GE364.out | refine below_set ?_ GE365.out) | exact HB.out)) hg (below_size (by repeat (first | (with_reducible first | exact HB.out | apply below_alloc | apply pw_below_drewN | apply below_drew1 | refine below_set ?_ GE363.out | refine below_set ?_ GE364.out | refine below_set ?_ GE365.out) | exact HB.out))) (fun k_ e_ => by injection e_ with e_; subst e_; exact GE365.out)); clear BK363; clear BK364; clear BK365; clear HB; have BK363 := n0_; have BK364 := n1_; have BK365 := n2_; have HB := n3_; clear n0_ n1_ n2_ n3_; clear hbox hg; have hcz13_0 : w12.cell? ⟨gb363, 0, none⟩ = some (.int .i64 a0_0) := (blk_cell BK363.out 0).trans rfl; have hcz13_1 : w12.cell? ⟨gb363, 1, none⟩ = some (.string a0_1) := (blk_cell BK363.out 1).trans rfl; have hcz13_2 : w12.cell? ⟨gb363, 2, none⟩ = some (.int .i64 a0_2) := (blk_cell BK363.out 2).trans rfl; have hcz13_3 : w12.cell? ⟨gb363, 3, none⟩ = some (.int .i64 a0_3) := (blk_cell BK363.out 3).trans rfl; have hcz13_4 : w12.cell? ⟨gb363, 4, none⟩ = some (.slice A0_4 l0_4.length c0_4) := (blk_cell BK363.out 4).trans rfl; have hcz13_5 : w12.cell? ⟨gb363, 5, none⟩ = some (.int .i64 a0_5) := (blk_cell BK363.out 5).trans rfl; have hcz13_6 : w12.cell? ⟨gb363, 6, none⟩ = some (.int .i64 a0_6) := (blk_cell BK363.out 6).trans rfl; have hcz13_7 : w12.cell? ⟨gb363, 7, none⟩ = some (.bool a0_7) := (blk_cell BK363.out 7).trans rfl; have hcz13_8 : w12.cell? ⟨gb363, 8, none⟩ = some (.bool a0_8) := (blk_cell BK363.out 8).trans rfl; have hcz13_9 : w12.cell? ⟨gb363, 9, none⟩ = some (.bool a0_9) := (blk_cell BK363.out 9).trans rfl; have hcz13_10 : w12.cell? ⟨gb363, 10, none⟩ = some (.int .i64 a0_10) := (blk_cell BK363.out 10).trans rfl; have hcz13_11 : w12.cell? ⟨gb363, 11, none⟩ = some (.string a0_11) := (blk_cell BK363.out 11).trans rfl; have hcz13_12 : w12.cell? ⟨gb363, 12, none⟩ = some (.string a0_12) := (blk_cell BK363.out 12).trans rfl; have hcz13_13 : w12.cell? ⟨gb363, 13, none⟩ = some (.string a0_13) := (blk_cell BK363.out 13).trans rfl; have hcz13_14 : w12.cell? ⟨gb363, 14, none⟩ = some (.int .i64 a0_14) := (blk_cell BK363.out 14).trans rfl; have hcz13_15 : w12.cell? ⟨gb363, 15, none⟩ = some (.bool a0_15) := (blk_cell BK363.out 15).trans rfl; have hcz13_16 : w12.cell? ⟨gb363, 16, none⟩ = some (.bool a0_16) := (blk_cell BK363.out 16).trans rfl; have hcz13_17 : w12.cell? ⟨gb363, 17, none⟩ = some (.int .i64 a0_17) := (blk_cell BK363.out 17).trans rfl; have hcz13_18 : w12.cell? ⟨gb363, 18, none⟩ = some (.int .i64 a0_18) := (blk_cell BK363.out 18).trans rfl; have hcz13_19 : w12.cell? ⟨gb363, 19, none⟩ = some (.string a0_19) := (blk_cell BK363.out 19).trans rfl; have hcz13_20 : w12.cell? ⟨gb363, 20, none⟩ = some (.int .i64 a0_20) := (blk_cell BK363.out 20).trans rfl; have hcz13_21 : w12.cell? ⟨gb363, 21, none⟩ = some (.int .i64 a0_21) := (blk_cell BK363.out 21).trans rfl; have hcz13_22 : w12.cell? ⟨gb363, 22, none⟩ = some (.int .i64 a0_22) := (blk_cell BK363.out 22).trans rfl; have hcz13_23 : w12.cell? ⟨gb363, 23, none⟩ = some (.int .i64 a0_23) := (blk_cell BK363.out 23).trans rfl; have hcz13_24 : w12.cell? ⟨gb363, 24, none⟩ = some (.int .i64 a0_24) := (blk_cell BK363.out 24).trans rfl; have hcz13_25 : w12.cell? ⟨gb363, 25, none⟩ = some (.bool a0_25) := (blk_cell BK363.out 25).trans rfl; have hcz13_26 : w12.cell? ⟨gb363, 26, none⟩ = some (.int .u64 a0_26) := (blk_cell BK363.out 26).trans rfl; have hcz13_27 : w12.cell? ⟨gb363, 27, none⟩ = some (.slice A0_27 l0_27.length c0_27) := (blk_cell BK363.out 27).trans rfl; have hcz13_28 : w12.cell? ⟨gb363, 28, none⟩ = some (.int .i64 a0_28) := (blk_cell BK363.out 28).trans rfl; have hcz13_29 : w12.cell? ⟨gb363, 29, none⟩ = some (.string a0_29) := (blk_cell BK363.out 29).trans rfl; have hcz13_30 : w12.cell? ⟨gb363, 30, none⟩ = some (.int .i64 a0_30) := (blk_cell BK363.out 30).trans rfl; have hcz13_31 : w12.cell? ⟨gb363, 31, none⟩ = some (.int .i64 a0_31) := (blk_cell BK363.out 31).trans rfl; have hfz13_0 := blk_frozen BK363.out 0; have hfz13_1 := blk_frozen BK363.out 1; have hfz13_2 := blk_frozen BK363.out 2; have hfz13_3 := blk_frozen BK363.out 3; have hfz13_4 := blk_frozen BK363.out 4; have hfz13_5 := blk_frozen BK363.out 5; have hfz13_6 := blk_frozen BK363.out 6; have hfz13_7 := blk_frozen BK363.out 7; have hfz13_8 := blk_frozen BK363.out 8; have hfz13_9 := blk_frozen BK363.out 9; have hfz13_10 := blk_frozen BK363.out 10; have hfz13_11 := blk_frozen BK363.out 11; have hfz13_12 := blk_frozen BK363.out 12; have hfz13_13 := blk_frozen BK363.out 13; have hfz13_14 := blk_frozen BK363.out 14; have hfz13_15 := blk_frozen BK363.out 15; have hfz13_16 := blk_frozen BK363.out 16; have hfz13_17 := blk_frozen BK363.out 17; have hfz13_18 := blk_frozen BK363.out 18; have hfz13_19 := blk_frozen BK363.out 19; have hfz13_20 := blk_frozen BK363.out 20; have hfz13_21 := blk_frozen BK363.out 21; have hfz13_22 := blk_frozen BK363.out 22; have hfz13_23 := blk_frozen BK363.out 23; have hfz13_24 := blk_frozen BK363.out 24; have hfz13_25 := blk_frozen BK363.out 25; have hfz13_26 := blk_frozen BK363.out 26; have hfz13_27 := blk_frozen BK363.out 27; have hfz13_28 := blk_frozen BK363.out 28; have hfz13_29 := blk_frozen BK363.out 29; have hfz13_30 := blk_frozen BK363.out 30; have hfz13_31 := blk_frozen BK363.out 31) | ((with_reducible refine gate_callee (f := 106) rfl ?_); refine goesL_ (some 7) rfl rfl Try.func106 (by kernel_rfl) rfl #[.slice A0_4 l0_4.length c0_4] rfl (by (try simp only [List.map_toArray, List.map_cons, List.map_nil]); first | done | rfl | (simp only [List.length_drop, List.length_take]; rfl)) ?_; (with_reducible refine (flotillaref0_CopyLabels.calls k _ _ l0_4 t366 _ ?side1 ?side2 A2.out).mono ?_); (case side1 => repeat (first | exact (Kd.C_below HR0_4.out HB.out) | (with_reducible refine Kd.C_alloc ?_ _) | (with_reducible refine Kd.C_drewN ?_ _) | (with_reducible refine Kd.C_drew ?_))); (case side2 => exact HC0_4.out); rintro e w14 ⟨v367, rfl, ho0, hb⟩; refine ⟨_, rfl, ?_⟩; have n0_ := Aside0.mk (Kd.R_lower ho0 (below_size (by repeat (first | (with_reducible first | exact HB.out | apply below_alloc | apply pw_below_drewN | apply below_drew1 | refine below_set ?_ GE363.out | refine below_set ?_ GE364.out | refine below_set ?_ GE365.out) | exact HB.out)))); have n1_ := Aside0.mk (blk_below (g := gb363) (o := .cells #[.int .i64 a0_0, .string a0_1, .int .i64 a0_2, .int .i64 a0_3, .slice A0_4 l0_4.length c0_4, .int .i64 a0_5, .int .i64 a0_6, .bool a0_7, .bool a0_8, .bool a0_9, .int .i64 a0_10, .string a0_11, .string a0_12, .string a0_13, .int .i64 a0_14, .bool a0_15, .bool a0_16, .int .i64 a0_17, .int .i64 a0_18, .string a0_19, .int .i64 a0_20, .int .i64 a0_21, .int .i64 a0_22, .int .i64 a0_23, .int .i64 a0_24, .bool a0_25, .int .u64 a0_26, .slice A0_27 l0_27.length c0_27, .int .i64 a0_28, .string a0_29, .int .i64 a0_30, .int .i64 a0_31] 68 (0, 0)) (by (with_reducible repeat (first | refine blk_drewN ?_ _ | refine blk_drew ?_ | refine blk_alloc ?_ _)); exact BK363.out) hb); have n2_ := Aside0.mk (blk_below (g := gb364) (o := .cells #[.int .i64 0, .string (⟨#[]⟩ : ByteArray), .int .i64 0, .int .i64 0, .slice none 0 0, .int .i64 0, .int .i64 0, .bool false, .bool false, .bool false, .int .i64 0, .string (⟨#[]⟩ : ByteArray), .string (⟨#[]⟩ : ByteArray), .string (⟨#[]⟩ : ByteArray), .int .i64 0, .bool false, .bool false, .int .i64 0, .int .i64 0, .string (⟨#[]⟩ : ByteArray), .int .i64 0, .int .i64 0, .int .i64 0, .int .i64 0, .int .i64 0, .bool false, .int .u64 0, .slice none 0 0, .int .i64 0, .string (⟨#[]⟩ : ByteArray), .int .i64 0, .int .i64 0] 68 (0, 0)) (by (with_reducible repeat (first | refine blk_drewN ?_ _ | refine blk_drew ?_ | refine blk_alloc ?_ _)); exact BK364.out) hb); have n3_ := Aside0.mk (blk_below (g := gb365) (o := .cells #[.int .i64 a0_0, .string a0_1, .int .i64 a0_2, .int .i64 a0_3, .slice A0_4 l0_4.length c0_4, .int .i64 a0_5, .int .i64 a0_6, .bool a0_7, .bool a0_8, .bool a0_9, .int .i64 a0_10, .string a0_11, .string a0_12, .string a0_13, .int .i64 a0_14, .bool a0_15, .bool a0_16, .int .i64 a0_17, .int .i64 a0_18, .string a0_19, .int .i64 a0_20, .int .i64 a0_21, .int .i64 a0_22, .int .i64 a0_23, .int .i64 a0_24, .bool a0_25, .int .u64 a0_26, .slice A0_27 l0_27.length c0_27, .int .i64 a0_28, .string a0_29, .int .i64 a0_30, .int .i64 a0_31] 68 (0, 0)) (by (with_reducible repeat (first | refine blk_drewN ?_ _ | refine blk_drew ?_ | refine blk_alloc ?_ _)); exact BK365.out) hb); have n4_ := Aside0.mk (below_step (by repeat (first | (with_reducible first | exact HB.out | apply below_alloc | apply pw_below_drewN | apply below_drew1 | refine below_set ?_ GE363.out | refine below_set ?_ GE364.out | refine below_set ?_ GE365.out) | exact HB.out)) hb); clear BK363; clear BK364; clear BK365; clear HB; have HO368 := n0_; have BK363 := n1_; have BK364 := n2_; have BK365 := n3_; have HB := n4_; clear n0_ n1_ n2_ n3_ n4_; (try clear hb); (try clear hb2); (try clear hk); (try clear hi); (try clear ho0); obtain ⟨Ao15, co15, eo15⟩ := Kd.R_slice HO368.out; subst eo15; have hcz16_0 : w14.cell? ⟨gb365, 0, none⟩ = some (.int .i64 a0_0) := (blk_cell BK365.out 0).trans rfl; have hcz16_1 : w14.cell? ⟨gb365, 1, none⟩ = some (.string a0_1) := (blk_cell BK365.out 1).trans rfl; have hcz16_2 : w14.cell? ⟨gb365, 2, none⟩ = some (.int .i64 a0_2) := (blk_cell BK365.out 2).trans rfl; have hcz16_3 : w14.cell? ⟨gb365, 3, none⟩ = some (.int .i64 a0_3) := (blk_cell BK365.out 3).trans rfl; have hcz16_4 : w14.cell? ⟨gb365, 4, none⟩ = some (.slice A0_4 l0_4.length c0_4) := (blk_cell BK365.out 4).trans rfl; have hcz16_5 : w14.cell? ⟨gb365, 5, none⟩ = some (.int .i64 a0_5) := (blk_cell BK365.out 5).trans rfl; have hcz16_6 : w14.cell? ⟨gb365, 6, none⟩ = some (.int .i64 a0_6) := (blk_cell BK365.out 6).trans rfl; have hcz16_7 : w14.cell? ⟨gb365, 7, none⟩ = some (.bool a0_7) := (blk_cell BK365.out 7).trans rfl; have hcz16_8 : w14.cell? ⟨gb365, 8, none⟩ = some (.bool a0_8) := (blk_cell BK365.out 8).trans rfl; have hcz16_9 : w14.cell? ⟨gb365, 9, none⟩ = some (.bool a0_9) := (blk_cell BK365.out 9).trans rfl; have hcz16_10 : w14.cell? ⟨gb365, 10, none⟩ = some (.int .i64 a0_10) := (blk_cell BK365.out 10).trans rfl; have hcz16_11 : w14.cell? ⟨gb365, 11, none⟩ = some (.string a0_11) := (blk_cell BK365.out 11).trans rfl; have hcz16_12 : w14.cell? ⟨gb365, 12, none⟩ = some (.string a0_12) := (blk_cell BK365.out 12).trans rfl; have hcz16_13 : w14.cell? ⟨gb365, 13, none⟩ = some (.string a0_13) := (blk_cell BK365.out 13).trans rfl; have hcz16_14 : w14.cell? ⟨gb365, 14, none⟩ = some (.int .i64 a0_14) := (blk_cell BK365.out 14).trans rfl; have hcz16_15 : w14.cell? ⟨gb365, 15, none⟩ = some (.bool a0_15) := (blk_cell BK365.out 15).trans rfl; have hcz16_16 : w14.cell? ⟨gb365, 16, none⟩ = some (.bool a0_16) := (blk_cell BK365.out 16).trans rfl; have hcz16_17 : w14.cell? ⟨gb365, 17, none⟩ = some (.int .i64 a0_17) := (blk_cell BK365.out 17).trans rfl; have hcz16_18 : w14.cell? ⟨gb365, 18, none⟩ = some (.int .i64 a0_18) := (blk_cell BK365.out 18).trans rfl; have hcz16_19 : w14.cell? ⟨gb365, 19, none⟩ = some (.string a0_19) := (blk_cell BK365.out 19).trans rfl; have hcz16_20 : w14.cell? ⟨gb365, 20, none⟩ = some (.int .i64 a0_20) := (blk_cell BK365.out 20).trans rfl; have hcz16_21 : w14.cell? ⟨gb365, 21, none⟩ = some (.int .i64 a0_21) := (blk_cell BK365.out 21).trans rfl; have hcz16_22 : w14.cell? ⟨gb365, 22, none⟩ = some (.int .i64 a0_22) := (blk_cell BK365.out 22).trans rfl; have hcz16_23 : w14.cell? ⟨gb365, 23, none⟩ = some (.int .i64 a0_23) := (blk_cell BK365.out 23).trans rfl; have hcz16_24 : w14.cell? ⟨gb365, 24, none⟩ = some (.int .i64 a0_24) := (blk_cell BK365.out 24).trans rfl; have hcz16_25 : w14.cell? ⟨gb365, 25, none⟩ = some (.bool a0_25) := (blk_cell BK365.out 25).trans rfl; have hcz16_26 : w14.cell? ⟨gb365, 26, none⟩ = some (.int .u64 a0_26) := (blk_cell BK365.out 26).trans rfl; have hcz16_27 : w14.cell? ⟨gb365, 27, none⟩ = some (.slice A0_27 l0_27.length c0_27) := (blk_cell BK365.out 27).trans rfl; have hcz16_28 : w14.cell? ⟨gb365, 28, none⟩ = some (.int .i64 a0_28) := (blk_cell BK365.out 28).trans rfl; have hcz16_29 : w14.cell? ⟨gb365, 29, none⟩ = some (.string a0_29) := (blk_cell BK365.out 29).trans rfl; have hcz16_30 : w14.cell? ⟨gb365, 30, none⟩ = some (.int .i64 a0_30) := (blk_cell BK365.out 30).trans rfl; have hcz16_31 : w14.cell? ⟨gb365, 31, none⟩ = some (.int .i64 a0_31) := (blk_cell BK365.out 31).trans rfl; have hfz16_0 := blk_frozen BK365.out 0; have hfz16_1 := blk_frozen BK365.out 1; have hfz16_2 := blk_frozen BK365.out 2; have hfz16_3 := blk_frozen BK365.out 3; have hfz16_4 := blk_frozen BK365.out 4; have hfz16_5 := blk_frozen BK365.out 5; have hfz16_6 := blk_frozen BK365.out 6; have hfz16_7 := blk_frozen BK365.out 7; have hfz16_8 := blk_frozen BK365.out 8; have hfz16_9 := blk_frozen BK365.out 9; have hfz16_10 := blk_frozen BK365.out 10; have hfz16_11 := blk_frozen BK365.out 11; have hfz16_12 := blk_frozen BK365.out 12; have hfz16_13 := blk_frozen BK365.out 13; have hfz16_14 := blk_frozen BK365.out 14; have hfz16_15 := blk_frozen BK365.out 15; have hfz16_16 := blk_frozen BK365.out 16; have hfz16_17 := blk_frozen BK365.out 17; have hfz16_18 := blk_frozen BK365.out 18; have hfz16_19 := blk_frozen BK365.out 19; have hfz16_20 := blk_frozen BK365.out 20; have hfz16_21 := blk_frozen BK365.out 21; have hfz16_22 := blk_frozen BK365.out 22; have hfz16_23 := blk_frozen BK365.out 23; have hfz16_24 := blk_frozen BK365.out 24; have hfz16_25 := blk_frozen BK365.out 25; have hfz16_26 := blk_frozen BK365.out 26; have hfz16_27 := blk_frozen BK365.out 27; have hfz16_28 := blk_frozen BK365.out 28; have hfz16_29 := blk_frozen BK365.out 29; have hfz16_30 := blk_frozen BK365.out 30; have hfz16_31 := blk_frozen BK365.out 31) | ((with_reducible refine gate_store (t := 22) (p := 8) rfl ?_); refine store_event (t := 22) (p := 8) (v := ?vo_w17) (w1 := (w14.setCell ⟨gb365, 4, none⟩ (.slice Ao15 t366.length co15))) ?hg ?ho ?hn ?hr ?_; (case ho => rfl); (case hg => rfl); (case hn => rfl); (case hr => first | (go_simp; done) | (go_simp; rfl)); intro w17 hw; have n0_ : Aside0 (Kd.R k31 31 w17 w.heap.size (fun _ => True) (.slice Ao15 t366.length co15) t366) := ⟨(by rw [hw]; exact (by (with_reducible repeat (first | apply Kd.R_alloc | apply Kd.R_drewN | apply Kd.R_drew)); exact Kd.R_mono (Kd.R_far (p := ⟨gb365, 4, none⟩) (Kd.R_types HO368.out BK365.out (by decide)) (fun _ hk => hk.2) (.slice Ao15 t366.length co15)) (fun _ hk => trivial)))⟩; have n1_ : Aside0 (w17.heap[gb363]? = some (.cells #[.int .i64 a0_0, .string a0_1, .int .i64 a0_2, .int .i64 a0_3, .slice A0_4 l0_4.length c0_4, .int .i64 a0_5, .int .i64 a0_6, .bool a0_7, .bool a0_8, .bool a0_9, .int .i64 a0_10, .string a0_11, .string a0_12, .string a0_13, .int .i64 a0_14, .bool a0_15, .bool a0_16, .int .i64 a0_17, .int .i64 a0_18, .string a0_19, .int .i64 a0_20, .int .i64 a0_21, .int .i64 a0_22, .int .i64 a0_23, .int .i64 a0_24, .bool a0_25, .int .u64 a0_26, .slice A0_27 l0_27.length c0_27, .int .i64 a0_28, .string a0_29, .int .i64 a0_30, .int .i64 a0_31] 68 (0, 0))) := ⟨(by rw [hw]; exact (by (with_reducible repeat (first | refine blk_drewN ?_ _ | refine blk_drew ?_ | refine blk_alloc ?_ _)); refine blk_far ?_ NB363_365.out _; (with_reducible repeat (first | refine blk_drewN ?_ _ | refine blk_drew ?_ | refine blk_alloc ?_ _)); exact BK363.out))⟩; have n2_ : Aside0 (w17.heap[gb364]? = some (.cells #[.int .i64 0, .string (⟨#[]⟩ : ByteArray), .int .i64 0, .int .i64 0, .slice none 0 0, .int .i64 0, .int .i64 0, .bool false, .bool false, .bool false, .int .i64 0, .string (⟨#[]⟩ : ByteArray), .string (⟨#[]⟩ : ByteArray), .string (⟨#[]⟩ : ByteArray), .int .i64 0, .bool false, .bool false, .int .i64 0, .int .i64 0, .string (⟨#[]⟩ : ByteArray), .int .i64 0, .int .i64 0, .int .i64 0, .int .i64 0, .int .i64 0, .bool false, .int .u64 0, .slice none 0 0, .int .i64 0, .string (⟨#[]⟩ : ByteArray), .int .i64 0, .int .i64 0] 68 (0, 0))) := ⟨(by rw [hw]; exact (by (with_reducible repeat (first | refine blk_drewN ?_ _ | refine blk_drew ?_ | refine blk_alloc ?_ _)); refine blk_far ?_ NB364_365.out _; (with_reducible repeat (first | refine blk_drewN ?_ _ | refine blk_drew ?_ | refine blk_alloc ?_ _)); exact BK364.out))⟩; have n3_ : Aside0 (w17.heap[gb365]? = some (.cells #[.int .i64 a0_0, .string a0_1, .int .i64 a0_2, .int .i64 a0_3, .slice Ao15 t366.length co15, .int .i64 a0_5, .int .i64 a0_6, .bool a0_7, .bool a0_8, .bool a0_9, .int .i64 a0_10, .string a0_11, .string a0_12, .string a0_13, .int .i64 a0_14, .bool a0_15, .bool a0_16, .int .i64 a0_17, .int .i64 a0_18, .string a0_19, .int .i64 a0_20, .int .i64 a0_21, .int .i64 a0_22, .int .i64 a0_23, .int .i64 a0_24, .bool a0_25, .int .u64 a0_26, .slice A0_27 l0_27.length c0_27, .int .i64 a0_28, .string a0_29, .int .i64 a0_30, .int .i64 a0_31] 68 (0, 0))) := ⟨(by rw [hw]; exact (by (with_reducible repeat (first | refine blk_drewN ?_ _ | refine blk_drew ?_ | refine blk_alloc ?_ _)); refine blk_put (cs := #[.int .i64 a0_0, .string a0_1, .int .i64 a0_2, .int .i64 a0_3, .slice A0_4 l0_4.length c0_4, .int .i64 a0_5, .int .i64 a0_6, .bool a0_7, .bool a0_8, .bool a0_9, .int .i64 a0_10, .string a0_11, .string a0_12, .string a0_13, .int .i64 a0_14, .bool a0_15, .bool a0_16, .int .i64 a0_17, .int .i64 a0_18, .string a0_19, .int .i64 a0_20, .int .i64 a0_21, .int .i64 a0_22, .int .i64 a0_23, .int .i64 a0_24, .bool a0_25, .int .u64 a0_26, .slice A0_27 l0_27.length c0_27, .int .i64 a0_28, .string a0_29, .int .i64 a0_30, .int .i64 a0_31]) ?_ 4 _ rfl; (with_reducible repeat (first | refine blk_drewN ?_ _ | refine blk_drew ?_ | refine blk_alloc ?_ _)); exact BK365.out))⟩; have n4_ : Aside0 (Below w.heap.size w w17) := ⟨(by rw [hw]; exact (by repeat (first | (with_reducible first | exact HB.out | apply below_alloc | apply pw_below_drewN | apply below_drew1 | refine below_set ?_ GE363.out | refine below_set ?_ GE364.out | refine below_set ?_ GE365.out) | exact HB.out)))⟩; clear hw; clear HO368; clear BK363; clear BK364; clear BK365; clear HB; have HO368 := n0_; have BK363 := n1_; have BK364 := n2_; have BK365 := n3_; have HB := n4_; clear n0_ n1_ n2_ n3_ n4_; have hcz18_0 : w17.cell? ⟨gb363, 0, none⟩ = some (.int .i64 a0_0) := (blk_cell BK363.out 0).trans rfl; have hcz18_1 : w17.cell? ⟨gb363, 1, none⟩ = some (.string a0_1) := (blk_cell BK363.out 1).trans rfl; have hcz18_2 : w17.cell? ⟨gb363, 2, none⟩ = some (.int .i64 a0_2) := (blk_cell BK363.out 2).trans rfl; have hcz18_3 : w17.cell? ⟨gb363, 3, none⟩ = some (.int .i64 a0_3) := (blk_cell BK363.out 3).trans rfl; have hcz18_4 : w17.cell? ⟨gb363, 4, none⟩ = some (.slice A0_4 l0_4.length c0_4) := (blk_cell BK363.out 4).trans rfl; have hcz18_5 : w17.cell? ⟨gb363, 5, none⟩ = some (.int .i64 a0_5) := (blk_cell BK363.out 5).trans rfl; have hcz18_6 : w17.cell? ⟨gb363, 6, none⟩ = some (.int .i64 a0_6) := (blk_cell BK363.out 6).trans rfl; have hcz18_7 : w17.cell? ⟨gb363, 7, none⟩ = some (.bool a0_7) := (blk_cell BK363.out 7).trans rfl; have hcz18_8 : w17.cell? ⟨gb363, 8, none⟩ = some (.bool a0_8) := (blk_cell BK363.out 8).trans rfl; have hcz18_9 : w17.cell? ⟨gb363, 9, none⟩ = some (.bool a0_9) := (blk_cell BK363.out 9).trans rfl; have hcz18_10 : w17.cell? ⟨gb363, 10, none⟩ = some (.int .i64 a0_10) := (blk_cell BK363.out 10).trans rfl; have hcz18_11 : w17.cell? ⟨gb363, 11, none⟩ = some (.string a0_11) := (blk_cell BK363.out 11).trans rfl; have hcz18_12 : w17.cell? ⟨gb363, 12, none⟩ = some (.string a0_12) := (blk_cell BK363.out 12).trans rfl; have hcz18_13 : w17.cell? ⟨gb363, 13, none⟩ = some (.string a0_13) := (blk_cell BK363.out 13).trans rfl; have hcz18_14 : w17.cell? ⟨gb363, 14, none⟩ = some (.int .i64 a0_14) := (blk_cell BK363.out 14).trans rfl; have hcz18_15 : w17.cell? ⟨gb363, 15, none⟩ = some (.bool a0_15) := (blk_cell BK363.out 15).trans rfl; have hcz18_16 : w17.cell? ⟨gb363, 16, none⟩ = some (.bool a0_16) := (blk_cell BK363.out 16).trans rfl; have hcz18_17 : w17.cell? ⟨gb363, 17, none⟩ = some (.int .i64 a0_17) := (blk_cell BK363.out 17).trans rfl; have hcz18_18 : w17.cell? ⟨gb363, 18, none⟩ = some (.int .i64 a0_18) := (blk_cell BK363.out 18).trans rfl; have hcz18_19 : w17.cell? ⟨gb363, 19, none⟩ = some (.string a0_19) := (blk_cell BK363.out 19).trans rfl; have hcz18_20 : w17.cell? ⟨gb363, 20, none⟩ = some (.int .i64 a0_20) := (blk_cell BK363.out 20).trans rfl; have hcz18_21 : w17.cell? ⟨gb363, 21, none⟩ = some (.int .i64 a0_21) := (blk_cell BK363.out 21).trans rfl; have hcz18_22 : w17.cell? ⟨gb363, 22, none⟩ = some (.int .i64 a0_22) := (blk_cell BK363.out 22).trans rfl; have hcz18_23 : w17.cell? ⟨gb363, 23, none⟩ = some (.int .i64 a0_23) := (blk_cell BK363.out 23).trans rfl; have hcz18_24 : w17.cell? ⟨gb363, 24, none⟩ = some (.int .i64 a0_24) := (blk_cell BK363.out 24).trans rfl; have hcz18_25 : w17.cell? ⟨gb363, 25, none⟩ = some (.bool a0_25) := (blk_cell BK363.out 25).trans rfl; have hcz18_26 : w17.cell? ⟨gb363, 26, none⟩ = some (.int .u64 a0_26) := (blk_cell BK363.out 26).trans rfl; have hcz18_27 : w17.cell? ⟨gb363, 27, none⟩ = some (.slice A0_27 l0_27.length c0_27) := (blk_cell BK363.out 27).trans rfl; have hcz18_28 : w17.cell? ⟨gb363, 28, none⟩ = some (.int .i64 a0_28) := (blk_cell BK363.out 28).trans rfl; have hcz18_29 : w17.cell? ⟨gb363, 29, none⟩ = some (.string a0_29) := (blk_cell BK363.out 29).trans rfl; have hcz18_30 : w17.cell? ⟨gb363, 30, none⟩ = some (.int .i64 a0_30) := (blk_cell BK363.out 30).trans rfl; have hcz18_31 : w17.cell? ⟨gb363, 31, none⟩ = some (.int .i64 a0_31) := (blk_cell BK363.out 31).trans rfl; have hfz18_0 := blk_frozen BK363.out 0; have hfz18_1 := blk_frozen BK363.out 1; have hfz18_2 := blk_frozen BK363.out 2; have hfz18_3 := blk_frozen BK363.out 3; have hfz18_4 := blk_frozen BK363.out 4; have hfz18_5 := blk_frozen BK363.out 5; have hfz18_6 := blk_frozen BK363.out 6; have hfz18_7 := blk_frozen BK363.out 7; have hfz18_8 := blk_frozen BK363.out 8; have hfz18_9 := blk_frozen BK363.out 9; have hfz18_10 := blk_frozen BK363.out 10; have hfz18_11 := blk_frozen BK363.out 11; have hfz18_12 := blk_frozen BK363.out 12; have hfz18_13 := blk_frozen BK363.out 13; have hfz18_14 := blk_frozen BK363.out 14; have hfz18_15 := blk_frozen BK363.out 15; have hfz18_16 := blk_frozen BK363.out 16; have hfz18_17 := blk_frozen BK363.out 17; have hfz18_18 := blk_frozen BK363.out 18; have hfz18_19 := blk_frozen BK363.out 19; have hfz18_20 := blk_frozen BK363.out 20; have hfz18_21 := blk_frozen BK363.out 21; have hfz18_22 := blk_frozen BK363.out 22; have hfz18_23 := blk_frozen BK363.out 23; have hfz18_24 := blk_frozen BK363.out 24; have hfz18_25 := blk_frozen BK363.out 25; have hfz18_26 := blk_frozen BK363.out 26; have hfz18_27 := blk_frozen BK363.out 27; have hfz18_28 := blk_frozen BK363.out 28; have hfz18_29 := blk_frozen BK363.out 29; have hfz18_30 := blk_frozen BK363.out 30; have hfz18_31 := blk_frozen BK363.out 31) | ((with_reducible refine gate_callee (f := 106) rfl ?_); refine goesL_ (some 11) rfl rfl Try.func106 (by kernel_rfl) rfl #[.slice A0_27 l0_27.length c0_27] rfl (by (try simp only [List.map_toArray, List.map_cons, List.map_nil]); first | done | rfl | (simp only [List.length_drop, List.length_take]; rfl)) ?_; (with_reducible refine (flotillaref0_CopyLabels.calls k _ _ l0_27 t369 _ ?side1 ?side2 A3.out).mono ?_); (case side1 => repeat (first | exact (Kd.C_below HR0_27.out HB.out) | (with_reducible refine Kd.C_alloc ?_ _) | (with_reducible refine Kd.C_drewN ?_ _) | (with_reducible refine Kd.C_drew ?_))); (case side2 => exact HC0_27.out); rintro e w19 ⟨v370, rfl, ho0, hb⟩; refine ⟨_, rfl, ?_⟩; have n0_ := Aside0.mk (Kd.R_elder' (by (with_reducible repeat (first | apply Kd.R_alloc | apply Kd.R_drewN | apply Kd.R_drew)); exact HO368.out) (Kd.R_base ho0) hb); have n1_ := Aside0.mk (Kd.R_lower (Kd.R_new' ho0 (Kd.R_lt (by (with_reducible repeat (first | apply Kd.R_alloc | apply Kd.R_drewN | apply Kd.R_drew)); exact HO368.out))) (below_size (by repeat (first | (with_reducible first | exact HB.out | apply below_alloc | apply pw_below_drewN | apply below_drew1 | refine below_set ?_ GE363.out | refine below_set ?_ GE364.out | refine below_set ?_ GE365.out) | exact HB.out)))); have n2_ := Aside0.mk (blk_below (g := gb363) (o := .cells #[.int .i64 a0_0, .string a0_1, .int .i64 a0_2, .int .i64 a0_3, .slice A0_4 l0_4.length c0_4, .int .i64 a0_5, .int .i64 a0_6, .bool a0_7, .bool a0_8, .bool a0_9, .int .i64 a0_10, .string a0_11, .string a0_12, .string a0_13, .int .i64 a0_14, .bool a0_15, .bool a0_16, .int .i64 a0_17, .int .i64 a0_18, .string a0_19, .int .i64 a0_20, .int .i64 a0_21, .int .i64 a0_22, .int .i64 a0_23, .int .i64 a0_24, .bool a0_25, .int .u64 a0_26, .slice A0_27 l0_27.length c0_27, .int .i64 a0_28, .string a0_29, .int .i64 a0_30, .int .i64 a0_31] 68 (0, 0)) (by (with_reducible repeat (first | refine blk_drewN ?_ _ | refine blk_drew ?_ | refine blk_alloc ?_ _)); exact BK363.out) hb); have n3_ := Aside0.mk (blk_below (g := gb364) (o := .cells #[.int .i64 0, .string (⟨#[]⟩ : ByteArray), .int .i64 0, .int .i64 0, .slice none 0 0, .int .i64 0, .int .i64 0, .bool false, .bool false, .bool false, .int .i64 0, .string (⟨#[]⟩ : ByteArray), .string (⟨#[]⟩ : ByteArray), .string (⟨#[]⟩ : ByteArray), .int .i64 0, .bool false, .bool false, .int .i64 0, .int .i64 0, .string (⟨#[]⟩ : ByteArray), .int .i64 0, .int .i64 0, .int .i64 0, .int .i64 0, .int .i64 0, .bool false, .int .u64 0, .slice none 0 0, .int .i64 0, .string (⟨#[]⟩ : ByteArray), .int .i64 0, .int .i64 0] 68 (0, 0)) (by (with_reducible repeat (first | refine blk_drewN ?_ _ | refine blk_drew ?_ | refine blk_alloc ?_ _)); exact BK364.out) hb); have n4_ := Aside0.mk (blk_below (g := gb365) (o := .cells #[.int .i64 a0_0, .string a0_1, .int .i64 a0_2, .int .i64 a0_3, .slice Ao15 t366.length co15, .int .i64 a0_5, .int .i64 a0_6, .bool a0_7, .bool a0_8, .bool a0_9, .int .i64 a0_10, .string a0_11, .string a0_12, .string a0_13, .int .i64 a0_14, .bool a0_15, .bool a0_16, .int .i64 a0_17, .int .i64 a0_18, .string a0_19, .int .i64 a0_20, .int .i64 a0_21, .int .i64 a0_22, .int .i64 a0_23, .int .i64 a0_24, .bool a0_25, .int .u64 a0_26, .slice A0_27 l0_27.length c0_27, .int .i64 a0_28, .string a0_29, .int .i64 a0_30, .int .i64 a0_31] 68 (0, 0)) (by (with_reducible repeat (first | refine blk_drewN ?_ _ | refine blk_drew ?_ | refine blk_alloc ?_ _)); exact BK365.out) hb); have n5_ := Aside0.mk (below_step (by repeat (first | (with_reducible first | exact HB.out | apply below_alloc | apply pw_below_drewN | apply below_drew1 | refine below_set ?_ GE363.out | refine below_set ?_ GE364.out | refine below_set ?_ GE365.out) | exact HB.out)) hb); clear HO368; clear BK363; clear BK364; clear BK365; clear HB; have HO368 := n0_; have HO371 := n1_; have BK363 := n2_; have BK364 := n3_; have BK365 := n4_; have HB := n5_; clear n0_ n1_ n2_ n3_ n4_ n5_; (try clear hb); (try clear hb2); (try clear hk); (try clear hi); (try clear ho0); obtain ⟨Ao20, co20, eo20⟩ := Kd.R_slice HO371.out; subst eo20; have hcz21_0 : w19.cell? ⟨gb365, 0, none⟩ = some (.int .i64 a0_0) := (blk_cell BK365.out 0).trans rfl; have hcz21_1 : w19.cell? ⟨gb365, 1, none⟩ = some (.string a0_1) := (blk_cell BK365.out 1).trans rfl; have hcz21_2 : w19.cell? ⟨gb365, 2, none⟩ = some (.int .i64 a0_2) := (blk_cell BK365.out 2).trans rfl; have hcz21_3 : w19.cell? ⟨gb365, 3, none⟩ = some (.int .i64 a0_3) := (blk_cell BK365.out 3).trans rfl; have hcz21_4 : w19.cell? ⟨gb365, 4, none⟩ = some (.slice Ao15 t366.length co15) := (blk_cell BK365.out 4).trans rfl; have hcz21_5 : w19.cell? ⟨gb365, 5, none⟩ = some (.int .i64 a0_5) := (blk_cell BK365.out 5).trans rfl; have hcz21_6 : w19.cell? ⟨gb365, 6, none⟩ = some (.int .i64 a0_6) := (blk_cell BK365.out 6).trans rfl; have hcz21_7 : w19.cell? ⟨gb365, 7, none⟩ = some (.bool a0_7) := (blk_cell BK365.out 7).trans rfl; have hcz21_8 : w19.cell? ⟨gb365, 8, none⟩ = some (.bool a0_8) := (blk_cell BK365.out 8).trans rfl; have hcz21_9 : w19.cell? ⟨gb365, 9, none⟩ = some (.bool a0_9) := (blk_cell BK365.out 9).trans rfl; have hcz21_10 : w19.cell? ⟨gb365, 10, none⟩ = some (.int .i64 a0_10) := (blk_cell BK365.out 10).trans rfl; have hcz21_11 : w19.cell? ⟨gb365, 11, none⟩ = some (.string a0_11) := (blk_cell BK365.out 11).trans rfl; have hcz21_12 : w19.cell? ⟨gb365, 12, none⟩ = some (.string a0_12) := (blk_cell BK365.out 12).trans rfl; have hcz21_13 : w19.cell? ⟨gb365, 13, none⟩ = some (.string a0_13) := (blk_cell BK365.out 13).trans rfl; have hcz21_14 : w19.cell? ⟨gb365, 14, none⟩ = some (.int .i64 a0_14) := (blk_cell BK365.out 14).trans rfl; have hcz21_15 : w19.cell? ⟨gb365, 15, none⟩ = some (.bool a0_15) := (blk_cell BK365.out 15).trans rfl; have hcz21_16 : w19.cell? ⟨gb365, 16, none⟩ = some (.bool a0_16) := (blk_cell BK365.out 16).trans rfl; have hcz21_17 : w19.cell? ⟨gb365, 17, none⟩ = some (.int .i64 a0_17) := (blk_cell BK365.out 17).trans rfl; have hcz21_18 : w19.cell? ⟨gb365, 18, none⟩ = some (.int .i64 a0_18) := (blk_cell BK365.out 18).trans rfl; have hcz21_19 : w19.cell? ⟨gb365, 19, none⟩ = some (.string a0_19) := (blk_cell BK365.out 19).trans rfl; have hcz21_20 : w19.cell? ⟨gb365, 20, none⟩ = some (.int .i64 a0_20) := (blk_cell BK365.out 20).trans rfl; have hcz21_21 : w19.cell? ⟨gb365, 21, none⟩ = some (.int .i64 a0_21) := (blk_cell BK365.out 21).trans rfl; have hcz21_22 : w19.cell? ⟨gb365, 22, none⟩ = some (.int .i64 a0_22) := (blk_cell BK365.out 22).trans rfl; have hcz21_23 : w19.cell? ⟨gb365, 23, none⟩ = some (.int .i64 a0_23) := (blk_cell BK365.out 23).trans rfl; have hcz21_24 : w19.cell? ⟨gb365, 24, none⟩ = some (.int .i64 a0_24) := (blk_cell BK365.out 24).trans rfl; have hcz21_25 : w19.cell? ⟨gb365, 25, none⟩ = some (.bool a0_25) := (blk_cell BK365.out 25).trans rfl; have hcz21_26 : w19.cell? ⟨gb365, 26, none⟩ = some (.int .u64 a0_26) := (blk_cell BK365.out 26).trans rfl; have hcz21_27 : w19.cell? ⟨gb365, 27, none⟩ = some (.slice A0_27 l0_27.length c0_27) := (blk_cell BK365.out 27).trans rfl; have hcz21_28 : w19.cell? ⟨gb365, 28, none⟩ = some (.int .i64 a0_28) := (blk_cell BK365.out 28).trans rfl; have hcz21_29 : w19.cell? ⟨gb365, 29, none⟩ = some (.string a0_29) := (blk_cell BK365.out 29).trans rfl; have hcz21_30 : w19.cell? ⟨gb365, 30, none⟩ = some (.int .i64 a0_30) := (blk_cell BK365.out 30).trans rfl; have hcz21_31 : w19.cell? ⟨gb365, 31, none⟩ = some (.int .i64 a0_31) := (blk_cell BK365.out 31).trans rfl; have hfz21_0 := blk_frozen BK365.out 0; have hfz21_1 := blk_frozen BK365.out 1; have hfz21_2 := blk_frozen BK365.out 2; have hfz21_3 := blk_frozen BK365.out 3; have hfz21_4 := blk_frozen BK365.out 4; have hfz21_5 := blk_frozen BK365.out 5; have hfz21_6 := blk_frozen BK365.out 6; have hfz21_7 := blk_frozen BK365.out 7; have hfz21_8 := blk_frozen BK365.out 8; have hfz21_9 := blk_frozen BK365.out 9; have hfz21_10 := blk_frozen BK365.out 10; have hfz21_11 := blk_frozen BK365.out 11; have hfz21_12 := blk_frozen BK365.out 12; have hfz21_13 := blk_frozen BK365.out 13; have hfz21_14 := blk_frozen BK365.out 14; have hfz21_15 := blk_frozen BK365.out 15; have hfz21_16 := blk_frozen BK365.out 16; have hfz21_17 := blk_frozen BK365.out 17; have hfz21_18 := blk_frozen BK365.out 18; have hfz21_19 := blk_frozen BK365.out 19; have hfz21_20 := blk_frozen BK365.out 20; have hfz21_21 := blk_frozen BK365.out 21; have hfz21_22 := blk_frozen BK365.out 22; have hfz21_23 := blk_frozen BK365.out 23; have hfz21_24 := blk_frozen BK365.out 24; have hfz21_25 := blk_frozen BK365.out 25; have hfz21_26 := blk_frozen BK365.out 26; have hfz21_27 := blk_frozen BK365.out 27; have hfz21_28 := blk_frozen BK365.out 28; have hfz21_29 := blk_frozen BK365.out 29; have hfz21_30 := blk_frozen BK365.out 30; have hfz21_31 := blk_frozen BK365.out 31) | ((with_reducible refine gate_store (t := 22) (p := 12) rfl ?_); refine store_event (t := 22) (p := 12) (v := ?vo_w22) (w1 := (w19.setCell ⟨gb365, 27, none⟩ (.slice Ao20 t369.length co20))) ?hg ?ho ?hn ?hr ?_; (case ho => rfl); (case hg => rfl); (case hn => rfl); (case hr => first | (go_simp; done) | (go_simp; rfl)); intro w22 hw; have n0_ : Aside0 (Kd.R k31 31 w22 w.heap.size (fun k_ => some k_ ≠ (.slice Ao20 t369.length co20 : Value).ownBlock) (.slice Ao15 t366.length co15) t366) := ⟨(by rw [hw]; exact (by (with_reducible repeat (first | apply Kd.R_alloc | apply Kd.R_drewN | apply Kd.R_drew)); exact Kd.R_mono (Kd.R_far (p := ⟨gb365, 27, none⟩) (Kd.R_types HO368.out BK365.out (by decide)) (fun _ hk => hk.2) (.slice Ao20 t369.length co20)) (fun _ hk => hk.1.2)))⟩; have n1_ : Aside0 (Kd.R k31 31 w22 w.heap.size (fun k_ => some k_ ≠ (.slice Ao15 t366.length co15 : Value).ownBlock) (.slice Ao20 t369.length co20) t369) := ⟨(by rw [hw]; exact (by (with_reducible repeat (first | apply Kd.R_alloc | apply Kd.R_drewN | apply Kd.R_drew)); exact Kd.R_mono (Kd.R_far (p := ⟨gb365, 27, none⟩) (Kd.R_types HO371.out BK365.out (by decide)) (fun _ hk => hk.2) (.slice Ao20 t369.length co20)) (fun _ hk => hk.1.2)))⟩; have n2_ : Aside0 (w22.heap[gb363]? = some (.cells #[.int .i64 a0_0, .string a0_1, .int .i64 a0_2, .int .i64 a0_3, .slice A0_4 l0_4.length c0_4, .int .i64 a0_5, .int .i64 a0_6, .bool a0_7, .bool a0_8, .bool a0_9, .int .i64 a0_10, .string a0_11, .string a0_12, .string a0_13, .int .i64 a0_14, .bool a0_15, .bool a0_16, .int .i64 a0_17, .int .i64 a0_18, .string a0_19, .int .i64 a0_20, .int .i64 a0_21, .int .i64 a0_22, .int .i64 a0_23, .int .i64 a0_24, .bool a0_25, .int .u64 a0_26, .slice A0_27 l0_27.length c0_27, .int .i64 a0_28, .string a0_29, .int .i64 a0_30, .int .i64 a0_31] 68 (0, 0))) := ⟨(by rw [hw]; exact (by (with_reducible repeat (first | refine blk_drewN ?_ _ | refine blk_drew ?_ | refine blk_alloc ?_ _)); refine blk_far ?_ NB363_365.out _; (with_reducible repeat (first | refine blk_drewN ?_ _ | refine blk_drew ?_ | refine blk_alloc ?_ _)); exact BK363.out))⟩; have n3_ : Aside0 (w22.heap[gb364]? = some (.cells #[.int .i64 0, .string (⟨#[]⟩ : ByteArray), .int .i64 0, .int .i64 0, .slice none 0 0, .int .i64 0, .int .i64 0, .bool false, .bool false, .bool false, .int .i64 0, .string (⟨#[]⟩ : ByteArray), .string (⟨#[]⟩ : ByteArray), .string (⟨#[]⟩ : ByteArray), .int .i64 0, .bool false, .bool false, .int .i64 0, .int .i64 0, .string (⟨#[]⟩ : ByteArray), .int .i64 0, .int .i64 0, .int .i64 0, .int .i64 0, .int .i64 0, .bool false, .int .u64 0, .slice none 0 0, .int .i64 0, .string (⟨#[]⟩ : ByteArray), .int .i64 0, .int .i64 0] 68 (0, 0))) := ⟨(by rw [hw]; exact (by (with_reducible repeat (first | refine blk_drewN ?_ _ | refine blk_drew ?_ | refine blk_alloc ?_ _)); refine blk_far ?_ NB364_365.out _; (with_reducible repeat (first | refine blk_drewN ?_ _ | refine blk_drew ?_ | refine blk_alloc ?_ _)); exact BK364.out))⟩; have n4_ : Aside0 (w22.heap[gb365]? = some (.cells #[.int .i64 a0_0, .string a0_1, .int .i64 a0_2, .int .i64 a0_3, .slice Ao15 t366.length co15, .int .i64 a0_5, .int .i64 a0_6, .bool a0_7, .bool a0_8, .bool a0_9, .int .i64 a0_10, .string a0_11, .string a0_12, .string a0_13, .int .i64 a0_14, .bool a0_15, .bool a0_16, .int .i64 a0_17, .int .i64 a0_18, .string a0_19, .int .i64 a0_20, .int .i64 a0_21, .int .i64 a0_22, .int .i64 a0_23, .int .i64 a0_24, .bool a0_25, .int .u64 a0_26, .slice Ao20 t369.length co20, .int .i64 a0_28, .string a0_29, .int .i64 a0_30, .int .i64 a0_31] 68 (0, 0))) := ⟨(by rw [hw]; exact (by (with_reducible repeat (first | refine blk_drewN ?_ _ | refine blk_drew ?_ | refine blk_alloc ?_ _)); refine blk_put (cs := #[.int .i64 a0_0, .string a0_1, .int .i64 a0_2, .int .i64 a0_3, .slice Ao15 t366.length co15, .int .i64 a0_5, .int .i64 a0_6, .bool a0_7, .bool a0_8, .bool a0_9, .int .i64 a0_10, .string a0_11, .string a0_12, .string a0_13, .int .i64 a0_14, .bool a0_15, .bool a0_16, .int .i64 a0_17, .int .i64 a0_18, .string a0_19, .int .i64 a0_20, .int .i64 a0_21, .int .i64 a0_22, .int .i64 a0_23, .int .i64 a0_24, .bool a0_25, .int .u64 a0_26, .slice A0_27 l0_27.length c0_27, .int .i64 a0_28, .string a0_29, .int .i64 a0_30, .int .i64 a0_31]) ?_ 27 _ rfl; (with_reducible repeat (first | refine blk_drewN ?_ _ | refine blk_drew ?_ | refine blk_alloc ?_ _)); exact BK365.out))⟩; have n5_ : Aside0 (Below w.heap.size w w22) := ⟨(by rw [hw]; exact (by repeat (first | (with_reducible first | exact HB.out | apply below_alloc | apply pw_below_drewN | apply below_drew1 | refine below_set ?_ GE363.out | refine below_set ?_ GE364.out | refine below_set ?_ GE365.out) | exact HB.out)))⟩; clear hw; clear HO368; clear HO371; clear BK363; clear BK364; clear BK365; clear HB; have HO368 := n0_; have HO371 := n1_; have BK363 := n2_; have BK364 := n3_; have BK365 := n4_; have HB := n5_; clear n0_ n1_ n2_ n3_ n4_ n5_; have hcz23_0 : w22.cell? ⟨gb365, 0, none⟩ = some (.int .i64 a0_0) := (blk_cell BK365.out 0).trans rfl; have hcz23_1 : w22.cell? ⟨gb365, 1, none⟩ = some (.string a0_1) := (blk_cell BK365.out 1).trans rfl; have hcz23_2 : w22.cell? ⟨gb365, 2, none⟩ = some (.int .i64 a0_2) := (blk_cell BK365.out 2).trans rfl; have hcz23_3 : w22.cell? ⟨gb365, 3, none⟩ = some (.int .i64 a0_3) := (blk_cell BK365.out 3).trans rfl; have hcz23_4 : w22.cell? ⟨gb365, 4, none⟩ = some (.slice Ao15 t366.length co15) := (blk_cell BK365.out 4).trans rfl; have hcz23_5 : w22.cell? ⟨gb365, 5, none⟩ = some (.int .i64 a0_5) := (blk_cell BK365.out 5).trans rfl; have hcz23_6 : w22.cell? ⟨gb365, 6, none⟩ = some (.int .i64 a0_6) := (blk_cell BK365.out 6).trans rfl; have hcz23_7 : w22.cell? ⟨gb365, 7, none⟩ = some (.bool a0_7) := (blk_cell BK365.out 7).trans rfl; have hcz23_8 : w22.cell? ⟨gb365, 8, none⟩ = some (.bool a0_8) := (blk_cell BK365.out 8).trans rfl; have hcz23_9 : w22.cell? ⟨gb365, 9, none⟩ = some (.bool a0_9) := (blk_cell BK365.out 9).trans rfl; have hcz23_10 : w22.cell? ⟨gb365, 10, none⟩ = some (.int .i64 a0_10) := (blk_cell BK365.out 10).trans rfl; have hcz23_11 : w22.cell? ⟨gb365, 11, none⟩ = some (.string a0_11) := (blk_cell BK365.out 11).trans rfl; have hcz23_12 : w22.cell? ⟨gb365, 12, none⟩ = some (.string a0_12) := (blk_cell BK365.out 12).trans rfl; have hcz23_13 : w22.cell? ⟨gb365, 13, none⟩ = some (.string a0_13) := (blk_cell BK365.out 13).trans rfl; have hcz23_14 : w22.cell? ⟨gb365, 14, none⟩ = some (.int .i64 a0_14) := (blk_cell BK365.out 14).trans rfl; have hcz23_15 : w22.cell? ⟨gb365, 15, none⟩ = some (.bool a0_15) := (blk_cell BK365.out 15).trans rfl; have hcz23_16 : w22.cell? ⟨gb365, 16, none⟩ = some (.bool a0_16) := (blk_cell BK365.out 16).trans rfl; have hcz23_17 : w22.cell? ⟨gb365, 17, none⟩ = some (.int .i64 a0_17) := (blk_cell BK365.out 17).trans rfl; have hcz23_18 : w22.cell? ⟨gb365, 18, none⟩ = some (.int .i64 a0_18) := (blk_cell BK365.out 18).trans rfl; have hcz23_19 : w22.cell? ⟨gb365, 19, none⟩ = some (.string a0_19) := (blk_cell BK365.out 19).trans rfl; have hcz23_20 : w22.cell? ⟨gb365, 20, none⟩ = some (.int .i64 a0_20) := (blk_cell BK365.out 20).trans rfl; have hcz23_21 : w22.cell? ⟨gb365, 21, none⟩ = some (.int .i64 a0_21) := (blk_cell BK365.out 21).trans rfl; have hcz23_22 : w22.cell? ⟨gb365, 22, none⟩ = some (.int .i64 a0_22) := (blk_cell BK365.out 22).trans rfl; have hcz23_23 : w22.cell? ⟨gb365, 23, none⟩ = some (.int .i64 a0_23) := (blk_cell BK365.out 23).trans rfl; have hcz23_24 : w22.cell? ⟨gb365, 24, none⟩ = some (.int .i64 a0_24) := (blk_cell BK365.out 24).trans rfl; have hcz23_25 : w22.cell? ⟨gb365, 25, none⟩ = some (.bool a0_25) := (blk_cell BK365.out 25).trans rfl; have hcz23_26 : w22.cell? ⟨gb365, 26, none⟩ = some (.int .u64 a0_26) := (blk_cell BK365.out 26).trans rfl; have hcz23_27 : w22.cell? ⟨gb365, 27, none⟩ = some (.slice Ao20 t369.length co20) := (blk_cell BK365.out 27).trans rfl; have hcz23_28 : w22.cell? ⟨gb365, 28, none⟩ = some (.int .i64 a0_28) := (blk_cell BK365.out 28).trans rfl; have hcz23_29 : w22.cell? ⟨gb365, 29, none⟩ = some (.string a0_29) := (blk_cell BK365.out 29).trans rfl; have hcz23_30 : w22.cell? ⟨gb365, 30, none⟩ = some (.int .i64 a0_30) := (blk_cell BK365.out 30).trans rfl; have hcz23_31 : w22.cell? ⟨gb365, 31, none⟩ = some (.int .i64 a0_31) := (blk_cell BK365.out 31).trans rfl; have hfz23_0 := blk_frozen BK365.out 0; have hfz23_1 := blk_frozen BK365.out 1; have hfz23_2 := blk_frozen BK365.out 2; have hfz23_3 := blk_frozen BK365.out 3; have hfz23_4 := blk_frozen BK365.out 4; have hfz23_5 := blk_frozen BK365.out 5; have hfz23_6 := blk_frozen BK365.out 6; have hfz23_7 := blk_frozen BK365.out 7; have hfz23_8 := blk_frozen BK365.out 8; have hfz23_9 := blk_frozen BK365.out 9; have hfz23_10 := blk_frozen BK365.out 10; have hfz23_11 := blk_frozen BK365.out 11; have hfz23_12 := blk_frozen BK365.out 12; have hfz23_13 := blk_frozen BK365.out 13; have hfz23_14 := blk_frozen BK365.out 14; have hfz23_15 := blk_frozen BK365.out 15; have hfz23_16 := blk_frozen BK365.out 16; have hfz23_17 := blk_frozen BK365.out 17; have hfz23_18 := blk_frozen BK365.out 18; have hfz23_19 := blk_frozen BK365.out 19; have hfz23_20 := blk_frozen BK365.out 20; have hfz23_21 := blk_frozen BK365.out 21; have hfz23_22 := blk_frozen BK365.out 22; have hfz23_23 := blk_frozen BK365.out 23; have hfz23_24 := blk_frozen BK365.out 24; have hfz23_25 := blk_frozen BK365.out 25; have hfz23_26 := blk_frozen BK365.out 26; have hfz23_27 := blk_frozen BK365.out 27; have hfz23_28 := blk_frozen BK365.out 28; have hfz23_29 := blk_frozen BK365.out 29; have hfz23_30 := blk_frozen BK365.out 30; have hfz23_31 := blk_frozen BK365.out 31; have hcz24_0 : w22.cell? ⟨gb364, 0, none⟩ = some (.int .i64 0) := (blk_cell BK364.out 0).trans rfl; have hcz24_1 : w22.cell? ⟨gb364, 1, none⟩ = some (.string (⟨#[]⟩ : ByteArray)) := (blk_cell BK364.out 1).trans rfl; have hcz24_2 : w22.cell? ⟨gb364, 2, none⟩ = some (.int .i64 0) := (blk_cell BK364.out 2).trans rfl; have hcz24_3 : w22.cell? ⟨gb364, 3, none⟩ = some (.int .i64 0) := (blk_cell BK364.out 3).trans rfl; have hcz24_4 : w22.cell? ⟨gb364, 4, none⟩ = some (.slice none 0 0) := (blk_cell BK364.out 4).trans rfl; have hcz24_5 : w22.cell? ⟨gb364, 5, none⟩ = some (.int .i64 0) := (blk_cell BK364.out 5).trans rfl; have hcz24_6 : w22.cell? ⟨gb364, 6, none⟩ = some (.int .i64 0) := (blk_cell BK364.out 6).trans rfl; have hcz24_7 : w22.cell? ⟨gb364, 7, none⟩ = some (.bool false) := (blk_cell BK364.out 7).trans rfl; have hcz24_8 : w22.cell? ⟨gb364, 8, none⟩ = some (.bool false) := (blk_cell BK364.out 8).trans rfl; have hcz24_9 : w22.cell? ⟨gb364, 9, none⟩ = some (.bool false) := (blk_cell BK364.out 9).trans rfl; have hcz24_10 : w22.cell? ⟨gb364, 10, none⟩ = some (.int .i64 0) := (blk_cell BK364.out 10).trans rfl; have hcz24_11 : w22.cell? ⟨gb364, 11, none⟩ = some (.string (⟨#[]⟩ : ByteArray)) := (blk_cell BK364.out 11).trans rfl; have hcz24_12 : w22.cell? ⟨gb364, 12, none⟩ = some (.string (⟨#[]⟩ : ByteArray)) := (blk_cell BK364.out 12).trans rfl; have hcz24_13 : w22.cell? ⟨gb364, 13, none⟩ = some (.string (⟨#[]⟩ : ByteArray)) := (blk_cell BK364.out 13).trans rfl; have hcz24_14 : w22.cell? ⟨gb364, 14, none⟩ = some (.int .i64 0) := (blk_cell BK364.out 14).trans rfl; have hcz24_15 : w22.cell? ⟨gb364, 15, none⟩ = some (.bool false) := (blk_cell BK364.out 15).trans rfl; have hcz24_16 : w22.cell? ⟨gb364, 16, none⟩ = some (.bool false) := (blk_cell BK364.out 16).trans rfl; have hcz24_17 : w22.cell? ⟨gb364, 17, none⟩ = some (.int .i64 0) := (blk_cell BK364.out 17).trans rfl; have hcz24_18 : w22.cell? ⟨gb364, 18, none⟩ = some (.int .i64 0) := (blk_cell BK364.out 18).trans rfl; have hcz24_19 : w22.cell? ⟨gb364, 19, none⟩ = some (.string (⟨#[]⟩ : ByteArray)) := (blk_cell BK364.out 19).trans rfl; have hcz24_20 : w22.cell? ⟨gb364, 20, none⟩ = some (.int .i64 0) := (blk_cell BK364.out 20).trans rfl; have hcz24_21 : w22.cell? ⟨gb364, 21, none⟩ = some (.int .i64 0) := (blk_cell BK364.out 21).trans rfl; have hcz24_22 : w22.cell? ⟨gb364, 22, none⟩ = some (.int .i64 0) := (blk_cell BK364.out 22).trans rfl; have hcz24_23 : w22.cell? ⟨gb364, 23, none⟩ = some (.int .i64 0) := (blk_cell BK364.out 23).trans rfl; have hcz24_24 : w22.cell? ⟨gb364, 24, none⟩ = some (.int .i64 0) := (blk_cell BK364.out 24).trans rfl; have hcz24_25 : w22.cell? ⟨gb364, 25, none⟩ = some (.bool false) := (blk_cell BK364.out 25).trans rfl; have hcz24_26 : w22.cell? ⟨gb364, 26, none⟩ = some (.int .u64 0) := (blk_cell BK364.out 26).trans rfl; have hcz24_27 : w22.cell? ⟨gb364, 27, none⟩ = some (.slice none 0 0) := (blk_cell BK364.out 27).trans rfl; have hcz24_28 : w22.cell? ⟨gb364, 28, none⟩ = some (.int .i64 0) := (blk_cell BK364.out 28).trans rfl; have hcz24_29 : w22.cell? ⟨gb364, 29, none⟩ = some (.string (⟨#[]⟩ : ByteArray)) := (blk_cell BK364.out 29).trans rfl; have hcz24_30 : w22.cell? ⟨gb364, 30, none⟩ = some (.int .i64 0) := (blk_cell BK364.out 30).trans rfl; have hcz24_31 : w22.cell? ⟨gb364, 31, none⟩ = some (.int .i64 0) := (blk_cell BK364.out 31).trans rfl; have hfz24_0 := blk_frozen BK364.out 0; have hfz24_1 := blk_frozen BK364.out 1; have hfz24_2 := blk_frozen BK364.out 2; have hfz24_3 := blk_frozen BK364.out 3; have hfz24_4 := blk_frozen BK364.out 4; have hfz24_5 := blk_frozen BK364.out 5; have hfz24_6 := blk_frozen BK364.out 6; have hfz24_7 := blk_frozen BK364.out 7; have hfz24_8 := blk_frozen BK364.out 8; have hfz24_9 := blk_frozen BK364.out 9; have hfz24_10 := blk_frozen BK364.out 10; have hfz24_11 := blk_frozen BK364.out 11; have hfz24_12 := blk_frozen BK364.out 12; have hfz24_13 := blk_frozen BK364.out 13; have hfz24_14 := blk_frozen BK364.out 14; have hfz24_15 := blk_frozen BK364.out 15; have hfz24_16 := blk_frozen BK364.out 16; have hfz24_17 := blk_frozen BK364.out 17; have hfz24_18 := blk_frozen BK364.out 18; have hfz24_19 := blk_frozen BK364.out 19; have hfz24_20 := blk_frozen BK364.out 20; have hfz24_21 := blk_frozen BK364.out 21; have hfz24_22 := blk_frozen BK364.out 22; have hfz24_23 := blk_frozen BK364.out 23; have hfz24_24 := blk_frozen BK364.out 24; have hfz24_25 := blk_frozen BK364.out 25; have hfz24_26 := blk_frozen BK364.out 26; have hfz24_27 := blk_frozen BK364.out 27; have hfz24_28 := blk_frozen BK364.out 28; have hfz24_29 := blk_frozen BK364.out 29; have hfz24_30 := blk_frozen BK364.out 30; have hfz24_31 := blk_frozen BK364.out 31) | ((with_reducible refine gate_store (t := 68) (p := 2) rfl ?_); refine box_store_event (t := 68) (ty := 68) (p := 2) (x := ?vo_w25) (g := gb364) (cs := #[.int .i64 0, .string (⟨#[]⟩ : ByteArray), .int .i64 0, .int .i64 0, .slice none 0 0, .int .i64 0, .int .i64 0, .bool false, .bool false, .bool false, .int .i64 0, .string (⟨#[]⟩ : ByteArray), .string (⟨#[]⟩ : ByteArray), .string (⟨#[]⟩ : ByteArray), .int .i64 0, .bool false, .bool false, .int .i64 0, .int .i64 0, .string (⟨#[]⟩ : ByteArray), .int .i64 0, .int .i64 0, .int .i64 0, .int .i64 0, .int .i64 0, .bool false, .int .u64 0, .slice none 0 0, .int .i64 0, .string (⟨#[]⟩ : ByteArray), .int .i64 0, .int .i64 0]) (cs' := #[.int .i64 a0_0, .string a0_1, .int .i64 a0_2, .int .i64 a0_3, .slice Ao15 t366.length co15, .int .i64 a0_5, .int .i64 a0_6, .bool a0_7, .bool a0_8, .bool a0_9, .int .i64 a0_10, .string a0_11, .string a0_12, .string a0_13, .int .i64 a0_14, .bool a0_15, .bool a0_16, .int .i64 a0_17, .int .i64 a0_18, .string a0_19, .int .i64 a0_20, .int .i64 a0_21, .int .i64 a0_22, .int .i64 a0_23, .int .i64 a0_24, .bool a0_25, .int .u64 a0_26, .slice Ao20 t369.length co20, .int .i64 a0_28, .string a0_29, .int .i64 a0_30, .int .i64 a0_31]) ?hgd ?ho ?hN ?he ?hv ?hi ?hb ?hs ?h1 ?_; (case ho => rfl); (case hgd => rfl); (case hN => rfl); (case he => rfl); (case hv => first | rfl | (simp; done)); (case hi => exact size68); (case hb => (with_reducible repeat (first | refine blk_drewN ?_ _ | refine blk_drew ?_ | refine blk_alloc ?_ _)); exact BK364.out); (case hs => rfl); (case h1 => rfl); intro w25 hbox hg; have n0_ := Aside0.mk (Kd.R_mono (Kd.R_grown (Kd.R_types (by (with_reducible repeat (first | apply Kd.R_alloc | apply Kd.R_drewN | apply Kd.R_drew)); exact HO368.out) (t := 68) (by (with_reducible repeat (first | refine blk_drewN ?_ _ | refine blk_drew ?_ | refine blk_alloc ?_ _)); exact BK364.out) (by decide)) hg (fun k_ hk_ e_ => hk_.2 (Option.some.inj e_))) (fun _ hk_ => hk_.1)); have n1_ := Aside0.mk (Kd.R_mono (Kd.R_grown (Kd.R_types (by (with_reducible repeat (first | apply Kd.R_alloc | apply Kd.R_drewN | apply Kd.R_drew)); exact HO371.out) (t := 68) (by (with_reducible repeat (first | refine blk_drewN ?_ _ | refine blk_drew ?_ | refine blk_alloc ?_ _)); exact BK364.out) (by decide)) hg (fun k_ hk_ e_ => hk_.2 (Option.some.inj e_))) (fun _ hk_ => hk_.1)); have n2_ := Aside0.mk (blk_grown (by (with_reducible repeat (first | refine blk_drewN ?_ _ | refine blk_drew ?_ | refine blk_alloc ?_ _)); exact BK363.out) hg (fun e_ => NB363_364.out (Option.some.inj e_))); have n3_ := Aside0.mk (blk_grown (by (with_reducible repeat (first | refine blk_drewN ?_ _ | refine blk_drew ?_ | refine blk_alloc ?_ _)); exact BK365.out) hg (fun e_ => NB365_364.out (Option.some.inj e_))); have n4_ := Aside0.mk (hbox); have n5_ := Aside0.mk (Below.grown (by repeat (first | (with_reducible first | exact HB.out | apply below_alloc | apply pw_below_drewN | apply below_drew1 | refine below_set ?_ GE363.out | refine below_set ?_ GE364.out | refine below_set ?_ GE365.out) | exact HB.out)) hg (below_size (by repeat (first | (with_reducible first | exact HB.out | apply below_alloc | apply pw_below_drewN | apply below_drew1 | refine below_set ?_ GE363.out | refine below_set ?_ GE364.out | refine below_set ?_ GE365.out) | exact HB.out))) (fun k_ e_ => by injection e_ with e_; subst e_; exact GE364.out)); clear HO368; clear HO371; clear BK363; clear BK365; clear BK364; clear HB; have HO368 := n0_; have HO371 := n1_; have BK363 := n2_; have BK365 := n3_; have BK364 := n4_; have HB := n5_; clear n0_ n1_ n2_ n3_ n4_ n5_; clear hbox hg))
  refine bodyPost_ret (results_cell_row rfl _ _ gb364 68 #[.int .i64 a0_0, .string a0_1, .int .i64 a0_2, .int .i64 a0_3, .slice Ao15 t366.length co15, .int .i64 a0_5, .int .i64 a0_6, .bool a0_7, .bool a0_8, .bool a0_9, .int .i64 a0_10, .string a0_11, .string a0_12, .string a0_13, .int .i64 a0_14, .bool a0_15, .bool a0_16, .int .i64 a0_17, .int .i64 a0_18, .string a0_19, .int .i64 a0_20, .int .i64 a0_21, .int .i64 a0_22, .int .i64 a0_23, .int .i64 a0_24, .bool a0_25, .int .u64 a0_26, .slice Ao20 t369.length co20, .int .i64 a0_28, .string a0_29, .int .i64 a0_30, .int .i64 a0_31] (0, 0) _ rfl (by (with_reducible repeat (first | refine blk_drewN ?_ _ | refine blk_drew ?_ | refine blk_alloc ?_ _)); exact BK364.out) Try.underlying68 rfl (by kernel_rfl)) rfl ?_
  exact ⟨_, _, by first | rfl | (simp [errW_none, errW_some] <;> rfl) | (simp [*, errW_none, errW_some] <;> rfl), by (with_reducible repeat (first | apply Kd.R_alloc | apply Kd.R_drewN | apply Kd.R_drew)); exact HO368.out, by (with_reducible repeat (first | apply Kd.R_alloc | apply Kd.R_drewN | apply Kd.R_drew)); exact HO371.out, by repeat (first | (with_reducible first | exact HB.out | apply below_alloc | apply pw_below_drewN | apply below_drew1 | refine below_set ?_ GE363.out | refine below_set ?_ GE364.out | refine below_set ?_ GE365.out) | exact HB.out)⟩
end Go.Proofs.Ytamjjeakkkdfhaa.PB
end
section
namespace Go.Proofs.Ytamjjeakkkdfhaa.G
open Go.RowKit Go.Proofs.YtamjjeakkkdfhaaW.PrintWords Go.Proofs.YtamjjeakkkdfhaaW.PrintLast Go.Proofs.YtamjjeakkkdfhaaW.PrintMore
open Go.Proofs.Ytamjjeakkkdfhaa.K Go.Proofs.YtamjjeakkkdfhaaE Go.Proofs.Ytamjjeakkkdfhaa.PB
set_option linter.unusedVariables false
set_option linter.unusedSimpArgs false
theorem copyLabels_from (l : List S31) (hl : l.length ≤ 4398046511104) : ∀ (d k : Nat) (acc : List S31) (i : Nat), i ≤ l.length → l.length - i = d → d < k → acc = l.take i → flotillaref0_CopyLabels.l0 k l acc (i : Int) = some l := by
  intro d
  induction d with
  | zero =>
    intro k acc i hi hd hk ha
    obtain ⟨k, rfl⟩ : ∃ m, k = m + 1 := ⟨k - 1, by omega⟩
    simp only [flotillaref0_CopyLabels.l0]
    rw [if_neg (by omega), ha, List.take_of_length_le (by omega)]
  | succ d ih =>
    intro k acc i hi hd hk ha
    obtain ⟨k, rfl⟩ : ∃ m, k = m + 1 := ⟨k - 1, by omega⟩
    have hal : acc.length = i := by rw [ha]; simp; omega
    have hw : wrap64 ((i : Int) + 1) = ((i + 1 : Nat) : Int) := by unfold wrap64; omega
    simp only [flotillaref0_CopyLabels.l0]
    rw [if_pos (by omega), if_pos (by omega), if_pos (by omega), hw]
    refine ih k _ (i + 1) (by omega) (by omega) (by omega) ?_
    have e : rd_T31 l (i : Int) = l[i]'(by omega) := by simp [rd_T31, List.getD_eq_getElem?_getD, show i < l.length by omega]
    rw [ha, List.take_succ_eq_append_getElem (show i < l.length by omega), e]
theorem copyLabels_all (l : List S31) (hl : l.length ≤ 4398046511104) (k : Nat) (hk : l.length < k) : flotillaref0_CopyLabels.f k l = some l :=
  copyLabels_from l hl l.length k [] 0 (by omega) (by omega) hk (by simp)
def okO (x : S68) : Bool := decide (x.f4.length ≤ 4398046511104) && decide (x.f25.length ≤ 4398046511104)
theorem copy_obj (A4 : Option Addr) (c4 : Nat) (A27 : Option Addr) (c27 : Nat) (x : S68) (w : World) (l4 : x.f4.length ≤ c4) (g4 : k31.C w A4 x.f4.length x.f4) (l27 : x.f25.length ≤ c27) (g27 : k31.C w A27 x.f25.length x.f25) (hx : okO x = true) :
    Calls Try.prog 61 #[.agg #[.int .i64 x.f0, .string x.f1, .int .i64 x.f2, .int .i64 x.f3, .slice A4 x.f4.length c4, .int .i64 x.f5.f0, .int .i64 x.f5.f1, .bool x.f6, .bool x.f7, .bool x.f8, .int .i64 x.f9, .string x.f10, .string x.f11, .string x.f12, .int .i64 x.f13, .bool x.f14, .bool x.f15, .int .i64 x.f16.f0, .int .i64 x.f16.f1, .string x.f17, .int .i64 x.f18, .int .i64 x.f19, .int .i64 x.f20, .int .i64 x.f21, .int .i64 x.f22, .bool x.f23, .int .u64 x.f24, .slice A27 x.f25.length c27, .int .i64 x.f26, .string x.f27, .int .i64 x.f28, .int .i64 x.f29]] w fun e w' => ∃ v4_ v27_ : Value, e = .returned (.agg #[.int .i64 x.f0, .string x.f1, .int .i64 x.f2, .int .i64 x.f3, v4_, .int .i64 x.f5.f0, .int .i64 x.f5.f1, .bool x.f6, .bool x.f7, .bool x.f8, .int .i64 x.f9, .string x.f10, .string x.f11, .string x.f12, .int .i64 x.f13, .bool x.f14, .bool x.f15, .int .i64 x.f16.f0, .int .i64 x.f16.f1, .string x.f17, .int .i64 x.f18, .int .i64 x.f19, .int .i64 x.f20, .int .i64 x.f21, .int .i64 x.f22, .bool x.f23, .int .u64 x.f24, v27_, .int .i64 x.f26, .string x.f27, .int .i64 x.f28, .int .i64 x.f29]) ∧ Kd.R k31 31 w' w.heap.size (fun k_ => some k_ ≠ (v27_ : Value).ownBlock) v4_ x.f4 ∧ Kd.R k31 31 w' w.heap.size (fun k_ => some k_ ≠ (v4_ : Value).ownBlock) v27_ x.f25 ∧ Below w.heap.size w w' := by
  unfold okO at hx
  simp only [Bool.and_eq_true, decide_eq_true_eq] at hx
  have e4 := copyLabels_all x.f4 hx.1 (x.f4.length + x.f25.length + 1) (by omega)
  have e27 := copyLabels_all x.f25 hx.2 (x.f4.length + x.f25.length + 1) (by omega)
  exact flotillaref0_CopyObject.calls (x.f4.length + x.f25.length + 1) x.f0 x.f1 x.f2 x.f3 A4 c4 x.f4 x.f5.f0 x.f5.f1 x.f6 x.f7 x.f8 x.f9 x.f10 x.f11 x.f12 x.f13 x.f14 x.f15 x.f16.f0 x.f16.f1 x.f17 x.f18 x.f19 x.f20 x.f21 x.f22 x.f23 x.f24 A27 c27 x.f25 x.f26 x.f27 x.f28 x.f29 x.f0 x.f1 x.f2 x.f3 x.f4 x.f5.f0 x.f5.f1 x.f6 x.f7 x.f8 x.f9 x.f10 x.f11 x.f12 x.f13 x.f14 x.f15 x.f16.f0 x.f16.f1 x.f17 x.f18 x.f19 x.f20 x.f21 x.f22 x.f23 x.f24 x.f25 x.f26 x.f27 x.f28 x.f29 w g4 l4 g27 l27 (by unfold flotillaref0_CopyObject.f; rw [e4]; simp only [Option.bind_some]; rw [e27]; rfl)
def flotillaref0_CopyObjects.f (l0 : List S68) : Option (List S68) := if l0.length ≤ 1000000 ∧ l0.all okO = true then some l0 else none
set_option maxRecDepth 100000 in
set_option maxHeartbeats 4000000 in
theorem flotillaref0_CopyObjects.calls (A0 : Option Addr) (c0 : Nat) (l0 : List S68) (r : List S68) (w : World) (hr0 : k68.C w A0 l0.length l0) (hc0 : l0.length ≤ c0) (h : flotillaref0_CopyObjects.f l0 = some r) :
    Calls Try.prog 104 #[.slice A0 l0.length c0] w fun e w' => ∃ v0_ : Value, e = .returned (v0_) ∧ Kd.S k68 68 w' w.heap.size (fun _ => True) v0_ r ∧ Below w.heap.size w w' := by
  unfold flotillaref0_CopyObjects.f at h
  by_cases hz : l0.length ≤ 1000000 ∧ l0.all okO = true
  · rw [if_pos hz] at h
    obtain rfl := Option.some.inj h
    obtain ⟨hl0, hall⟩ := hz
    have HA := Aside0.mk hall
    have HR0 := Aside0.mk hr0
    clear hr0 hc0 h hall
    go_enter Try.func104, Try.ntmps104
    go_wp2
    go_loopw [3, 4] (fun v i wr => ∃ k : Nat, k ≤ l0.length ∧ i = .int .i64 k ∧ Aside0 (Kd.S k68 68 wr w.heap.size (fun _ => True) v (l0.take k)) ∧ Aside0 (Below w.heap.size w wr)) (fun _ i _ => l0.length - (intOf i).toNat)
    case atStart => exact ⟨0, Nat.zero_le _, rfl, ⟨Kd.S_nil _ _ _ _ _⟩, ⟨Below.refl _ _⟩⟩
    case round =>
      obtain ⟨k, hk, rfl, HS, HB⟩ := hrel
      by_cases hlt : k < l0.length
      · obtain ⟨ad, cs, e, hcl, hK, hcells⟩ := Kd.C_get HR0.out z68 (k : Int) (by omega) (by omega)
        obtain ⟨x, hx⟩ : ∃ x, x = rd_T68 l0 (k : Int) := ⟨_, rfl⟩
        have hK' : k68.K w x cs := by rw [hx]; exact hK
        have hok : okO x = true := by rw [hx, rd_get hlt]; exact List.all_eq_true.1 HA.out _ (List.getElem_mem hlt)
        have HT := Aside0.mk (show l0.take (k + 1) = l0.take k ++ [x] by rw [List.take_succ_eq_append_getElem hlt, hx, rd_get hlt])
        obtain ⟨A4, c4, A27, c27, rfl, l4, g4, l27, g27⟩ := k68_open hK'
        have HCO := Aside0.mk (copy_obj A4 c4 A27 c27 x wr l4 (Kd.C_below g4 HB.out) l27 (Kd.C_below g27 HB.out) hok)
        have HC := Aside0.mk (fun (j : Nat) (v : Value) h => (show wr.cell? ((ad.add (k * 32)).add j) = some v by rw [addr_add_add]; have := hcells j v h; rw [Int.toNat_natCast] at this; exact (HB.out.cell (World.block_lt_of_cell? w _ this)).trans this))
        clear hcells hK hcl hK' hx l4 g4 l27 g27 hok
        cases e
        go_wp2_with (first | ((with_reducible refine gate_load (t := 68) rfl ?_); refine load_list rfl rfl rfl Try.underlying68 rfl ?hi HC.out ?_; (case hi => exact size68)) | (go_at_call 61; refine hold ?_))
        refine Hold.intro (HCO.out.mono ?_)
        rintro e w2 ⟨v4_, v27_, rfl, h4, h27, hb⟩
        have HB2 := Aside0.mk (below_step HB.out hb)
        have HS1 := Aside0.mk (Kd.S_mono (ok' := fun k_ => k_ < wr.heap.size) (Kd.S_bound HS.out) (fun _ h_ => h_.2.2.1))
        have HS2 := Aside0.mk (Kd.S_below HS1.out hb)
        have HZ := Aside0.mk (And.intro HB.out.size hb.size)
        have H4 := Aside0.mk h4
        have H27 := Aside0.mk h27
        obtain ⟨A5, c5, rfl⟩ := Kd.R_slice h4
        obtain ⟨A28, c28, rfl⟩ := Kd.R_slice h27
        clear h4 h27 hb HS HC HCO HB
        go_wp2_with ((with_reducible refine gate_dst (N := 5) rfl ?_); refine hold ?_)
        refine Hold.intro (alloc_obj rfl rfl rfl ?_)
        intro gb hgb w3 hbox hb
        have HB3 := Aside0.mk (below_step HB2.out hb)
        have HGE := Aside0.mk (show w.heap.size ≤ gb by rw [hgb]; exact HB2.out.size)
        have HGW := Aside0.mk (show wr.heap.size ≤ gb by rw [hgb]; exact HZ.out.2)
        have HX3 := Aside0.mk hbox
        have HS3 := Aside0.mk (Kd.S_below HS2.out hb)
        have H43 := Aside0.mk (Kd.R_below H4.out hb)
        have H273 := Aside0.mk (Kd.R_below H27.out hb)
        clear hb hbox hgb HS2 H4 H27
        go_wp2_with ((with_reducible refine gate_store (t := 68) (p := 5) rfl ?_); refine hold ?_)
        refine Hold.intro (box_store_event (t := 68) (ty := 68) (p := 5) (x := .tmp 16) (g := gb) (cs := zcObj) (cs' := #[.int .i64 x.f0, .string x.f1, .int .i64 x.f2, .int .i64 x.f3, .slice A5 x.f4.length c5, .int .i64 x.f5.f0, .int .i64 x.f5.f1, .bool x.f6, .bool x.f7, .bool x.f8, .int .i64 x.f9, .string x.f10, .string x.f11, .string x.f12, .int .i64 x.f13, .bool x.f14, .bool x.f15, .int .i64 x.f16.f0, .int .i64 x.f16.f1, .string x.f17, .int .i64 x.f18, .int .i64 x.f19, .int .i64 x.f20, .int .i64 x.f21, .int .i64 x.f22, .bool x.f23, .int .u64 x.f24, .slice A28 x.f25.length c28, .int .i64 x.f26, .string x.f27, .int .i64 x.f28, .int .i64 x.f29]) rfl rfl rfl rfl rfl size68 HX3.out rfl rfl ?_)
        intro w4 hbox4 hg4
        have HB4 := Aside0.mk (Below.grown HB3.out hg4 HB3.out.size (fun k_ e_ => by injection e_ with e_; subst e_; exact HGE.out))
        have HX4 := Aside0.mk hbox4
        have HS4 := Aside0.mk (Kd.S_grown (ok := fun k_ => k_ < wr.heap.size) HS3.out hg4 (fun k_ (hk_ : k_ < wr.heap.size) e_ => by injection e_ with e_; have := HGW.out; omega))
        have H44 := Aside0.mk (Kd.R_mono (Kd.R_grown (Kd.R_types H43.out HX3.out (by decide)) hg4 (fun k_ hk_ e_ => hk_.2 (Option.some.inj e_))) (fun _ hk_ => hk_.1))
        have H274 := Aside0.mk (Kd.R_mono (Kd.R_grown (Kd.R_types H273.out HX3.out (by decide)) hg4 (fun k_ hk_ e_ => hk_.2 (Option.some.inj e_))) (fun _ hk_ => hk_.1))
        have HC4 := Aside0.mk (fun (j : Nat) (v : Value) (h : ([.int .i64 x.f0, .string x.f1, .int .i64 x.f2, .int .i64 x.f3, .slice A5 x.f4.length c5, .int .i64 x.f5.f0, .int .i64 x.f5.f1, .bool x.f6, .bool x.f7, .bool x.f8, .int .i64 x.f9, .string x.f10, .string x.f11, .string x.f12, .int .i64 x.f13, .bool x.f14, .bool x.f15, .int .i64 x.f16.f0, .int .i64 x.f16.f1, .string x.f17, .int .i64 x.f18, .int .i64 x.f19, .int .i64 x.f20, .int .i64 x.f21, .int .i64 x.f22, .bool x.f23, .int .u64 x.f24, .slice A28 x.f25.length c28, .int .i64 x.f26, .string x.f27, .int .i64 x.f28, .int .i64 x.f29] : List Value)[j]? = some v) => (show w4.cell? ((⟨gb, 0, none⟩ : Addr).add j) = some v by rw [add_plain, blk_cell hbox4 j]; simpa using h))
        clear hbox4 hg4 HS3 H43 H273 HX3 HB3
        have hlen := List.length_take_le k l0
        go_wp2_with (first | ((with_reducible refine gate_load (t := 68) rfl ?_); refine load_list rfl rfl rfl Try.underlying68 rfl ?hi HC4.out ?_; (case hi => exact size68)) | ((with_reducible refine gate_builtin (b := .append) (xs := #[.tmp 17, .tmp 19]) rfl ?_); refine hold ?_))
        have HP4 := Aside0.mk (Kd.R_mono (ok' := fun k_ => wr.heap.size ≤ k_) (Kd.R_bound H44.out) (fun _ h_ => h_.2.1))
        have HP27 := Aside0.mk (Kd.R_mono (ok' := fun k_ => wr.heap.size ≤ k_) (Kd.R_bound H274.out) (fun _ h_ => h_.2.1))
        refine Hold.intro (Kd.S_append k68 (w0 := w) w.heap.size rfl (.tmp 17) (.tmp 19) 57 68 (.agg zcObj) 312 rfl Try.underlying57 info68 rfl (by decide) (by omega) u3 (l0.take k) x [.int .i64 x.f0, .string x.f1, .int .i64 x.f2, .int .i64 x.f3, .slice A5 x.f4.length c5, .int .i64 x.f5.f0, .int .i64 x.f5.f1, .bool x.f6, .bool x.f7, .bool x.f8, .int .i64 x.f9, .string x.f10, .string x.f11, .string x.f12, .int .i64 x.f13, .bool x.f14, .bool x.f15, .int .i64 x.f16.f0, .int .i64 x.f16.f1, .string x.f17, .int .i64 x.f18, .int .i64 x.f19, .int .i64 x.f20, .int .i64 x.f21, .int .i64 x.f22, .bool x.f23, .int .u64 x.f24, .slice A28 x.f25.length c28, .int .i64 x.f26, .string x.f27, .int .i64 x.f28, .int .i64 x.f29] (fun _ => True) (fun k_ => wr.heap.size ≤ k_) rfl rfl
          (k68_mkM _ _ _ x (Kd.R_lower HP4.out HZ.out.1) (Kd.R_lower HP27.out HZ.out.1)) (fun k_ hk_ => ⟨trivial, fun e_ => by have h1_ : k_ < wr.heap.size := (Kd.S_R HS1.out).1 k_ e_.symm; omega⟩) (fun _ _ => trivial) (Kd.S_mono HS4.out (fun k_ (h_ : k_ < wr.heap.size) => ⟨trivial, by omega⟩)) HB4.out HB4.out.size (by omega) ?_)
        intro v2 w9 ho hb9 hg hat
        have HS9 := Aside0.mk (show Kd.S k68 68 w9 w.heap.size (fun _ => True) v2 (l0.take (k + 1)) by rw [HT.out]; exact ho)
        have HB9 := Aside0.mk hb9
        clear ho hb9 hg hat HS1 HS4 H44 H274 HC4 HP4 HP27 HX4 HB4 HT
        go_wp2
        go_roundw
        case rel => exact ⟨k + 1, by omega, by simp, HS9, HB9⟩
        case measure => simp [intOf]; omega
      · obtain rfl : k = l0.length := by omega
        go_wp2
        go_ret
        exact ⟨_, rfl, by have := HS.out; rwa [List.take_length] at this, HB.out⟩
  · rw [if_neg hz] at h; exact absurd h (by simp)
end Go.Proofs.Ytamjjeakkkdfhaa.G
end
section
namespace Go.Proofs.Ytamjjeakkkdfhaa.PB
end Go.Proofs.Ytamjjeakkkdfhaa.PB
namespace Go.Proofs.Ytamjjeakkkdfhaa.PC
end Go.Proofs.Ytamjjeakkkdfhaa.PC
namespace Go.Proofs.Ytamjjeakkkdfhaa.PD
open Go.RowKit Go.Proofs.YtamjjeakkkdfhaaW.PrintWords Go.Proofs.YtamjjeakkkdfhaaW.PrintLast Go.Proofs.YtamjjeakkkdfhaaW.PrintMore
open Go.Proofs.Ytamjjeakkkdfhaa.K Go.Proofs.Ytamjjeakkkdfhaa.G Go.Proofs.YtamjjeakkkdfhaaE Go.Proofs.Ytamjjeakkkdfhaa.PB Go.Proofs.Ytamjjeakkkdfhaa.PC
attribute [local go_sem] max2_int min2_int max_two min_two max_three min_three max_four min_four
set_option linter.unusedVariables false
set_option linter.unusedSimpArgs false
def flotillaref0_CopyFleet.f (l0_0 : List (S68)) (l0_1 : List (S68)) (l0_2 : List (S68)) (l0_3 : List (S68)) : Option ((List (S68)) × (List (S68)) × (List (S68)) × (List (S68))) := (flotillaref0_CopyObjects.f l0_0).bind fun t104 => ((flotillaref0_CopyObjects.f l0_1).bind fun t107 => ((flotillaref0_CopyObjects.f l0_2).bind fun t110 => ((flotillaref0_CopyObjects.f l0_3).bind fun t113 => (some (t104, t107, t110, t113)))))
set_option maxHeartbeats 8000000 in
set_option maxRecDepth 100000 in
theorem flotillaref0_CopyFleet.calls (A0_0 : Option Addr) (c0_0 : Nat) (l0_0 : List (S68)) (A0_1 : Option Addr) (c0_1 : Nat) (l0_1 : List (S68)) (A0_2 : Option Addr) (c0_2 : Nat) (l0_2 : List (S68)) (A0_3 : Option Addr) (c0_3 : Nat) (l0_3 : List (S68)) (r1 : List (S68)) (r2 : List (S68)) (r3 : List (S68)) (r4 : List (S68)) (w : World) (hr0_0 : Kd.C k68 w A0_0 l0_0.length l0_0) (hc0_0 : l0_0.length ≤ c0_0) (hr0_1 : Kd.C k68 w A0_1 l0_1.length l0_1) (hc0_1 : l0_1.length ≤ c0_1) (hr0_2 : Kd.C k68 w A0_2 l0_2.length l0_2) (hc0_2 : l0_2.length ≤ c0_2) (hr0_3 : Kd.C k68 w A0_3 l0_3.length l0_3) (hc0_3 : l0_3.length ≤ c0_3) (h : flotillaref0_CopyFleet.f l0_0 l0_1 l0_2 l0_3 = some (r1, r2, r3, r4)) :
    Calls Try.prog 58 #[.agg #[.slice A0_0 l0_0.length c0_0, .slice A0_1 l0_1.length c0_1, .slice A0_2 l0_2.length c0_2, .slice A0_3 l0_3.length c0_3]] w fun e w' => ∃ v0_ v1_ v2_ v3_ : Value, e = .returned (.agg #[v0_, v1_, v2_, v3_]) ∧ Kd.S k68 68 w' w.heap.size (fun k_ => some k_ ≠ (v1_ : Value).ownBlock ∧ some k_ ≠ (v2_ : Value).ownBlock ∧ some k_ ≠ (v3_ : Value).ownBlock) v0_ r1 ∧ Kd.S k68 68 w' w.heap.size (fun k_ => some k_ ≠ (v0_ : Value).ownBlock ∧ some k_ ≠ (v2_ : Value).ownBlock ∧ some k_ ≠ (v3_ : Value).ownBlock) v1_ r2 ∧ Kd.S k68 68 w' w.heap.size (fun k_ => some k_ ≠ (v0_ : Value).ownBlock ∧ some k_ ≠ (v1_ : Value).ownBlock ∧ some k_ ≠ (v3_ : Value).ownBlock) v2_ r3 ∧ Kd.S k68 68 w' w.heap.size (fun k_ => some k_ ≠ (v0_ : Value).ownBlock ∧ some k_ ≠ (v1_ : Value).ownBlock ∧ some k_ ≠ (v2_ : Value).ownBlock) v3_ r4 ∧ Below w.heap.size w w' := by
  have hu59 := Try.underlying59
  have HR0_0 := Aside0.mk hr0_0
  have HC0_0 := Aside0.mk hc0_0
  clear hr0_0 hc0_0
  have HR0_1 := Aside0.mk hr0_1
  have HC0_1 := Aside0.mk hc0_1
  clear hr0_1 hc0_1
  have HR0_2 := Aside0.mk hr0_2
  have HC0_2 := Aside0.mk hc0_2
  clear hr0_2 hc0_2
  have HR0_3 := Aside0.mk hr0_3
  have HC0_3 := Aside0.mk hc0_3
  clear hr0_3 hc0_3
  have HB := Aside0.mk (Below.refl w.heap.size w)
  have H : ((flotillaref0_CopyObjects.f l0_0).bind fun t104 => ((flotillaref0_CopyObjects.f l0_1).bind fun t107 => ((flotillaref0_CopyObjects.f l0_2).bind fun t110 => ((flotillaref0_CopyObjects.f l0_3).bind fun t113 => (some (t104, t107, t110, t113)))))) = some (r1, r2, r3, r4) := h
  clear h
  replace H := Option.bind_eq_some_iff.mp H
  obtain ⟨t104, A20, H⟩ := H
  replace H : ((flotillaref0_CopyObjects.f l0_1).bind fun t107 => ((flotillaref0_CopyObjects.f l0_2).bind fun t110 => ((flotillaref0_CopyObjects.f l0_3).bind fun t113 => (some (t104, t107, t110, t113))))) = some (r1, r2, r3, r4) := H
  have A2 := Aside0.mk A20
  clear A20
  replace H := Option.bind_eq_some_iff.mp H
  obtain ⟨t107, A30, H⟩ := H
  replace H : ((flotillaref0_CopyObjects.f l0_2).bind fun t110 => ((flotillaref0_CopyObjects.f l0_3).bind fun t113 => (some (t104, t107, t110, t113)))) = some (r1, r2, r3, r4) := H
  have A3 := Aside0.mk A30
  clear A30
  replace H := Option.bind_eq_some_iff.mp H
  obtain ⟨t110, A40, H⟩ := H
  replace H : ((flotillaref0_CopyObjects.f l0_3).bind fun t113 => (some (t104, t107, t110, t113))) = some (r1, r2, r3, r4) := H
  have A4 := Aside0.mk A40
  clear A40
  replace H := Option.bind_eq_some_iff.mp H
  obtain ⟨t113, A50, H⟩ := H
  replace H : (some (t104, t107, t110, t113)) = some (r1, r2, r3, r4) := H
  have A5 := Aside0.mk A50
  clear A50
  simp only [Option.some.injEq, Prod.mk.injEq] at H
  obtain ⟨rfl, rfl, rfl, rfl⟩ := H
  go_enter Try.func58, Try.ntmps58
  go_wp2_with (first | ((with_reducible refine gate_dst (N := 1) rfl ?_); refine box_event ?hg (N := 1) ?hd (cs := #[.slice A0_0 l0_0.length c0_0, .slice A0_1 l0_1.length c0_1, .slice A0_2 l0_2.length c0_2, .slice A0_3 l0_3.length c0_3]) (t := 59) ?hr ?_; (case hd => rfl); (case hg => rfl); (case hr => first | (go_simp; done) | (go_simp; rfl)); intro gb101 hg w6 hbox hb; have n0_ := Aside0.mk (below_step (by repeat (first | (with_reducible first | exact HB.out | apply below_alloc | apply pw_below_drewN | apply below_drew1) | exact HB.out)) hb); have n1_ := Aside0.mk (hbox); have n2_ := Aside0.mk ((by rw [hg]; exact (below_size (by repeat (first | (with_reducible first | exact HB.out | apply below_alloc | apply pw_below_drewN | apply below_drew1) | exact HB.out))) : w.heap.size ≤ gb101)); have n3_ := Aside0.mk ((by rw [hg]; exact (below_size (by repeat (first | (with_reducible first | exact HB.out | apply below_alloc | apply pw_below_drewN | apply below_drew1) | exact HB.out))) : w.heap.size ≤ gb101)); clear HB; have HB := n0_; have BK101 := n1_; have GW101 := n2_; have GE101 := n3_; clear n0_ n1_ n2_ n3_; clear hb hbox hg) | ((with_reducible refine gate_dst (N := 2) rfl ?_); refine box_event ?hg (N := 2) ?hd (cs := #[.slice none 0 0, .slice none 0 0, .slice none 0 0, .slice none 0 0]) (t := 59) ?hr ?_; (case hd => rfl); (case hg => rfl); (case hr => first | (go_simp; done) | (go_simp; rfl)); intro gb102 hg w7 hbox hb; have n0_ := Aside0.mk (blk_below (g := gb101) (o := .cells #[.slice A0_0 l0_0.length c0_0, .slice A0_1 l0_1.length c0_1, .slice A0_2 l0_2.length c0_2, .slice A0_3 l0_3.length c0_3] 59 (0, 0)) (by (with_reducible repeat (first | refine blk_drewN ?_ _ | refine blk_drew ?_ | refine blk_alloc ?_ _)); exact BK101.out) hb); have n1_ := Aside0.mk (below_step (by repeat (first | (with_reducible first | exact HB.out | apply below_alloc | apply pw_below_drewN | apply below_drew1 | refine below_set ?_ GE101.out) | exact HB.out)) hb); have n2_ := Aside0.mk (hbox); have n3_ := Aside0.mk ((by rw [hg]; exact (below_size (by repeat (first | (with_reducible first | exact HB.out | apply below_alloc | apply pw_below_drewN | apply below_drew1 | refine below_set ?_ GE101.out) | exact HB.out))) : w.heap.size ≤ gb102)); have n4_ := Aside0.mk ((by rw [hg]; exact (below_size (by repeat (first | (with_reducible first | exact HB.out | apply below_alloc | apply pw_below_drewN | apply below_drew1 | refine below_set ?_ GE101.out) | exact HB.out))) : w.heap.size ≤ gb102)); have n5_ := Aside0.mk ((by rw [hg]; exact Nat.ne_of_lt (blk_lt (g := gb101) (o := .cells #[.slice A0_0 l0_0.length c0_0, .slice A0_1 l0_1.length c0_1, .slice A0_2 l0_2.length c0_2, .slice A0_3 l0_3.length c0_3] 59 (0, 0)) (by (with_reducible repeat (first | refine blk_drewN ?_ _ | refine blk_drew ?_ | refine blk_alloc ?_ _)); exact BK101.out)) : gb101 ≠ gb102)); have n6_ := Aside0.mk ((by rw [hg]; exact Nat.ne_of_gt (blk_lt (g := gb101) (o := .cells #[.slice A0_0 l0_0.length c0_0, .slice A0_1 l0_1.length c0_1, .slice A0_2 l0_2.length c0_2, .slice A0_3 l0_3.length c0_3] 59 (0, 0)) (by (with_reducible repeat (first | refine blk_drewN ?_ _ | refine blk_drew ?_ | refine blk_alloc ?_ _)); exact BK101.out)) : gb102 ≠ gb101)); clear BK101; clear HB; have BK101 := n0_; have HB := n1_; have BK102 := n2_; have GW102 := n3_; have GE102 := n4_; have NB101_102 := n5_; have NB102_101 := n6_; clear n0_ n1_ n2_ n3_ n4_ n5_ n6_; clear hb hbox hg) | ((with_reducible refine gate_dst (N := 3) rfl ?_); refine box_event ?hg (N := 3) ?hd (cs := #[.slice none 0 0, .slice none 0 0, .slice none 0 0, .slice none 0 0]) (t := 59) ?hr ?_; (case hd => rfl); (case hg => rfl); (case hr => first | (go_simp; done) | (go_simp; rfl)); intro gb103 hg w8 hbox hb; have n0_ := Aside0.mk (blk_below (g := gb101) (o := .cells #[.slice A0_0 l0_0.length c0_0, .slice A0_1 l0_1.length c0_1, .slice A0_2 l0_2.length c0_2, .slice A0_3 l0_3.length c0_3] 59 (0, 0)) (by (with_reducible repeat (first | refine blk_drewN ?_ _ | refine blk_drew ?_ | refine blk_alloc ?_ _)); exact BK101.out) hb); have n1_ := Aside0.mk (blk_below (g := gb102) (o := .cells #[.slice none 0 0, .slice none 0 0, .slice none 0 0, .slice none 0 0] 59 (0, 0)) (by (with_reducible repeat (first | refine blk_drewN ?_ _ | refine blk_drew ?_ | refine blk_alloc ?_ _)); exact BK102.out) hb); have n2_ := Aside0.mk (below_step (by repeat (first | (with_reducible first | exact HB.out | apply below_alloc | apply pw_below_drewN | apply below_drew1 | refine below_set ?_ GE101.out | refine below_set ?_ GE102.out) | exact HB.out)) hb); have n3_ := Aside0.mk (hbox); have n4_ := Aside0.mk ((by rw [hg]; exact (below_size (by repeat (first | (with_reducible first | exact HB.out | apply below_alloc | apply pw_below_drewN | apply below_drew1 | refine below_set ?_ GE101.out | refine below_set ?_ GE102.out) | exact HB.out))) : w.heap.size ≤ gb103)); have n5_ := Aside0.mk ((by rw [hg]; exact (below_size (by repeat (first | (with_reducible first | exact HB.out | apply below_alloc | apply pw_below_drewN | apply below_drew1 | refine below_set ?_ GE101.out | refine below_set ?_ GE102.out) | exact HB.out))) : w.heap.size ≤ gb103)); have n6_ := Aside0.mk ((by rw [hg]; exact Nat.ne_of_lt (blk_lt (g := gb101) (o := .cells #[.slice A0_0 l0_0.length c0_0, .slice A0_1 l0_1.length c0_1, .slice A0_2 l0_2.length c0_2, .slice A0_3 l0_3.length c0_3] 59 (0, 0)) (by (with_reducible repeat (first | refine blk_drewN ?_ _ | refine blk_drew ?_ | refine blk_alloc ?_ _)); exact BK101.out)) : gb101 ≠ gb103)); have n7_ := Aside0.mk ((by rw [hg]; exact Nat.ne_of_gt (blk_lt (g := gb101) (o := .cells #[.slice A0_0 l0_0.length c0_0, .slice A0_1 l0_1.length c0_1, .slice A0_2 l0_2.length c0_2, .slice A0_3 l0_3.length c0_3] 59 (0, 0)) (by (with_reducible repeat (first | refine blk_drewN ?_ _ | refine blk_drew ?_ | refine blk_alloc ?_ _)); exact BK101.out)) : gb103 ≠ gb101)); have n8_ := Aside0.mk ((by rw [hg]; exact Nat.ne_of_lt (blk_lt (g := gb102) (o := .cells #[.slice none 0 0, .slice none 0 0, .slice none 0 0, .slice none 0 0] 59 (0, 0)) (by (with_reducible repeat (first | refine blk_drewN ?_ _ | refine blk_drew ?_ | refine blk_alloc ?_ _)); exact BK102.out)) : gb102 ≠ gb103)); have n9_ := Aside0.mk ((by rw [hg]; exact Nat.ne_of_gt (blk_lt (g := gb102) (o := .cells #[.slice none 0 0, .slice none 0 0, .slice none 0 0, .slice none 0 0] 59 (0, 0)) (by (with_reducible repeat (first | refine blk_drewN ?_ _ | refine blk_drew ?_ | refine blk_alloc ?_ _)); exact BK102.out)) : gb103 ≠ gb102)); clear BK101; clear BK102; clear HB; have BK101 := n0_; have BK102 := n1_; have HB := n2_; have BK103 := n3_; have GW103 := n4_; have GE103 := n5_; have NB101_103 := n6_; have NB103_101 := n7_; have NB102_103 := n8_; have NB103_102 := n9_; clear n0_ n1_ n2_ n3_ n4_ n5_ n6_ n7_ n8_ n9_; clear hb hbox hg; have hnb9 := NB101_102.out; have hnc9 := NB102_101.out; have hnb10 := NB101_103.out; have hnc10 := NB103_101.out; have hcz11_0 : w8.cell? ⟨gb101, 0, none⟩ = some (.slice A0_0 l0_0.length c0_0) := (blk_cell BK101.out 0).trans rfl; have hcz11_1 : w8.cell? ⟨gb101, 1, none⟩ = some (.slice A0_1 l0_1.length c0_1) := (blk_cell BK101.out 1).trans rfl; have hcz11_2 : w8.cell? ⟨gb101, 2, none⟩ = some (.slice A0_2 l0_2.length c0_2) := (blk_cell BK101.out 2).trans rfl; have hcz11_3 : w8.cell? ⟨gb101, 3, none⟩ = some (.slice A0_3 l0_3.length c0_3) := (blk_cell BK101.out 3).trans rfl; have hfz11_0 := blk_frozen BK101.out 0; have hfz11_1 := blk_frozen BK101.out 1; have hfz11_2 := blk_frozen BK101.out 2; have hfz11_3 := blk_frozen BK101.out 3) | ((with_reducible refine gate_callee (f := 104) rfl ?_); refine goesL_ (some 6) rfl rfl Try.func104 (by kernel_rfl) rfl #[.slice A0_0 l0_0.length c0_0] rfl (by (try simp only [List.map_toArray, List.map_cons, List.map_nil]); first | done | rfl | (simp only [List.length_drop, List.length_take]; rfl)) ?_; (with_reducible refine (flotillaref0_CopyObjects.calls _ _ l0_0 t104 _ ?side1 ?side2 A2.out).mono ?_); (case side1 => repeat (first | exact (Kd.C_below HR0_0.out HB.out) | (with_reducible refine Kd.C_alloc ?_ _) | (with_reducible refine Kd.C_drewN ?_ _) | (with_reducible refine Kd.C_drew ?_))); (case side2 => exact HC0_0.out); rintro e w12 ⟨v105, rfl, ho0, hb⟩; refine ⟨_, rfl, ?_⟩; have n0_ := Aside0.mk (Kd.S_lower ho0 (below_size (by repeat (first | (with_reducible first | exact HB.out | apply below_alloc | apply pw_below_drewN | apply below_drew1 | refine below_set ?_ GE101.out | refine below_set ?_ GE102.out | refine below_set ?_ GE103.out) | exact HB.out)))); have n1_ := Aside0.mk (blk_below (g := gb101) (o := .cells #[.slice A0_0 l0_0.length c0_0, .slice A0_1 l0_1.length c0_1, .slice A0_2 l0_2.length c0_2, .slice A0_3 l0_3.length c0_3] 59 (0, 0)) (by (with_reducible repeat (first | refine blk_drewN ?_ _ | refine blk_drew ?_ | refine blk_alloc ?_ _)); exact BK101.out) hb); have n2_ := Aside0.mk (blk_below (g := gb102) (o := .cells #[.slice none 0 0, .slice none 0 0, .slice none 0 0, .slice none 0 0] 59 (0, 0)) (by (with_reducible repeat (first | refine blk_drewN ?_ _ | refine blk_drew ?_ | refine blk_alloc ?_ _)); exact BK102.out) hb); have n3_ := Aside0.mk (blk_below (g := gb103) (o := .cells #[.slice none 0 0, .slice none 0 0, .slice none 0 0, .slice none 0 0] 59 (0, 0)) (by (with_reducible repeat (first | refine blk_drewN ?_ _ | refine blk_drew ?_ | refine blk_alloc ?_ _)); exact BK103.out) hb); have n4_ := Aside0.mk (below_step (by repeat (first | (with_reducible first | exact HB.out | apply below_alloc | apply pw_below_drewN | apply below_drew1 | refine below_set ?_ GE101.out | refine below_set ?_ GE102.out | refine below_set ?_ GE103.out) | exact HB.out)) hb); clear BK101; clear BK102; clear BK103; clear HB; have HO106 := n0_; have BK101 := n1_; have BK102 := n2_; have BK103 := n3_; have HB := n4_; clear n0_ n1_ n2_ n3_ n4_; (try clear hb); (try clear hb2); (try clear hk); (try clear hi); (try clear ho0); obtain ⟨Ao13, co13, eo13⟩ := Kd.S_slice HO106.out; subst eo13; have hnb14 := NB103_102.out; have hnc14 := NB102_103.out; have hcz15_0 : w12.cell? ⟨gb103, 0, none⟩ = some (.slice none 0 0) := (blk_cell BK103.out 0).trans rfl; have hcz15_1 : w12.cell? ⟨gb103, 1, none⟩ = some (.slice none 0 0) := (blk_cell BK103.out 1).trans rfl; have hcz15_2 : w12.cell? ⟨gb103, 2, none⟩ = some (.slice none 0 0) := (blk_cell BK103.out 2).trans rfl; have hcz15_3 : w12.cell? ⟨gb103, 3, none⟩ = some (.slice none 0 0) := (blk_cell BK103.out 3).trans rfl; have hfz15_0 := blk_frozen BK103.out 0; have hfz15_1 := blk_frozen BK103.out 1; have hfz15_2 := blk_frozen BK103.out 2; have hfz15_3 := blk_frozen BK103.out 3; have hcz16_0 : w12.cell? ⟨gb101, 0, none⟩ = some (.slice A0_0 l0_0.length c0_0) := (blk_cell BK101.out 0).trans rfl; have hcz16_1 : w12.cell? ⟨gb101, 1, none⟩ = some (.slice A0_1 l0_1.length c0_1) := (blk_cell BK101.out 1).trans rfl; have hcz16_2 : w12.cell? ⟨gb101, 2, none⟩ = some (.slice A0_2 l0_2.length c0_2) := (blk_cell BK101.out 2).trans rfl; have hcz16_3 : w12.cell? ⟨gb101, 3, none⟩ = some (.slice A0_3 l0_3.length c0_3) := (blk_cell BK101.out 3).trans rfl; have hfz16_0 := blk_frozen BK101.out 0; have hfz16_1 := blk_frozen BK101.out 1; have hfz16_2 := blk_frozen BK101.out 2; have hfz16_3 := blk_frozen BK101.out 3) | ((with_reducible refine gate_callee (f := 104) rfl ?_); refine goesL_ (some 10) rfl rfl Try.func104 (by kernel_rfl) rfl #[.slice A0_1 l0_1.length c0_1] rfl (by (try simp only [List.map_toArray, List.map_cons, List.map_nil]); first | done | rfl | (simp only [List.length_drop, List.length_take]; rfl)) ?_; (with_reducible refine (flotillaref0_CopyObjects.calls _ _ l0_1 t107 _ ?side1 ?side2 A3.out).mono ?_); (case side1 => exact Kd.C_below HR0_1.out (by repeat (first | (with_reducible first | exact HB.out | apply below_alloc | apply pw_below_drewN | apply below_drew1 | refine below_set ?_ GE101.out | refine below_set ?_ GE102.out | refine below_set ?_ GE103.out) | exact HB.out))); (case side2 => exact HC0_1.out); rintro e w17 ⟨v108, rfl, ho0, hb⟩; refine ⟨_, rfl, ?_⟩; have n0_ := Aside0.mk (Kd.S_elder' (by (with_reducible repeat (first | apply Kd.S_alloc | apply Kd.S_drewN | apply Kd.S_drew)); exact (Kd.S_mono (Kd.S_far (p := ⟨gb103, 0, none⟩) (Kd.S_types HO106.out BK103.out (by decide)) (fun _ hk => hk.2) (.slice Ao13 t104.length co13)) (fun _ h_ => h_.1))) (Kd.S_base ho0) hb); have n1_ := Aside0.mk (Kd.S_lower (Kd.S_new' ho0 (Kd.S_lt (by (with_reducible repeat (first | apply Kd.S_alloc | apply Kd.S_drewN | apply Kd.S_drew)); exact (Kd.S_mono (Kd.S_far (p := ⟨gb103, 0, none⟩) (Kd.S_types HO106.out BK103.out (by decide)) (fun _ hk => hk.2) (.slice Ao13 t104.length co13)) (fun _ h_ => h_.1))))) (below_size (by repeat (first | (with_reducible first | exact HB.out | apply below_alloc | apply pw_below_drewN | apply below_drew1 | refine below_set ?_ GE101.out | refine below_set ?_ GE102.out | refine below_set ?_ GE103.out) | exact HB.out)))); have n2_ := Aside0.mk (blk_below (g := gb101) (o := .cells #[.slice A0_0 l0_0.length c0_0, .slice A0_1 l0_1.length c0_1, .slice A0_2 l0_2.length c0_2, .slice A0_3 l0_3.length c0_3] 59 (0, 0)) (by (with_reducible repeat (first | refine blk_drewN ?_ _ | refine blk_drew ?_ | refine blk_alloc ?_ _)); refine blk_far ?_ NB101_103.out _; (with_reducible repeat (first | refine blk_drewN ?_ _ | refine blk_drew ?_ | refine blk_alloc ?_ _)); exact BK101.out) hb); have n3_ := Aside0.mk (blk_below (g := gb102) (o := .cells #[.slice none 0 0, .slice none 0 0, .slice none 0 0, .slice none 0 0] 59 (0, 0)) (by (with_reducible repeat (first | refine blk_drewN ?_ _ | refine blk_drew ?_ | refine blk_alloc ?_ _)); refine blk_far ?_ NB102_103.out _; (with_reducible repeat (first | refine blk_drewN ?_ _ | refine blk_drew ?_ | refine blk_alloc ?_ _)); exact BK102.out) hb); have n4_ := Aside0.mk (blk_below (g := gb103) (o := .cells #[.slice Ao13 t104.length co13, .slice none 0 0, .slice none 0 0, .slice none 0 0] 59 (0, 0)) (by (with_reducible repeat (first | refine blk_drewN ?_ _ | refine blk_drew ?_ | refine blk_alloc ?_ _)); refine blk_put (cs := #[.slice none 0 0, .slice none 0 0, .slice none 0 0, .slice none 0 0]) ?_ 0 _ rfl; (with_reducible repeat (first | refine blk_drewN ?_ _ | refine blk_drew ?_ | refine blk_alloc ?_ _)); exact BK103.out) hb); have n5_ := Aside0.mk (below_step (by repeat (first | (with_reducible first | exact HB.out | apply below_alloc | apply pw_below_drewN | apply below_drew1 | refine below_set ?_ GE101.out | refine below_set ?_ GE102.out | refine below_set ?_ GE103.out) | exact HB.out)) hb); clear HO106; clear BK101; clear BK102; clear BK103; clear HB; have HO106 := n0_; have HO109 := n1_; have BK101 := n2_; have BK102 := n3_; have BK103 := n4_; have HB := n5_; clear n0_ n1_ n2_ n3_ n4_ n5_; (try clear hb); (try clear hb2); (try clear hk); (try clear hi); (try clear ho0); obtain ⟨Ao18, co18, eo18⟩ := Kd.S_slice HO109.out; subst eo18; have hcz19_0 : w17.cell? ⟨gb103, 0, none⟩ = some (.slice Ao13 t104.length co13) := (blk_cell BK103.out 0).trans rfl; have hcz19_1 : w17.cell? ⟨gb103, 1, none⟩ = some (.slice none 0 0) := (blk_cell BK103.out 1).trans rfl; have hcz19_2 : w17.cell? ⟨gb103, 2, none⟩ = some (.slice none 0 0) := (blk_cell BK103.out 2).trans rfl; have hcz19_3 : w17.cell? ⟨gb103, 3, none⟩ = some (.slice none 0 0) := (blk_cell BK103.out 3).trans rfl; have hfz19_0 := blk_frozen BK103.out 0; have hfz19_1 := blk_frozen BK103.out 1; have hfz19_2 := blk_frozen BK103.out 2; have hfz19_3 := blk_frozen BK103.out 3; have hcz20_0 : w17.cell? ⟨gb101, 0, none⟩ = some (.slice A0_0 l0_0.length c0_0) := (blk_cell BK101.out 0).trans rfl; have hcz20_1 : w17.cell? ⟨gb101, 1, none⟩ = some (.slice A0_1 l0_1.length c0_1) := (blk_cell BK101.out 1).trans rfl; have hcz20_2 : w17.cell? ⟨gb101, 2, none⟩ = some (.slice A0_2 l0_2.length c0_2) := (blk_cell BK101.out 2).trans rfl; have hcz20_3 : w17.cell? ⟨gb101, 3, none⟩ = some (.slice A0_3 l0_3.length c0_3) := (blk_cell BK101.out 3).trans rfl; have hfz20_0 := blk_frozen BK101.out 0; have hfz20_1 := blk_frozen BK101.out 1; have hfz20_2 := blk_frozen BK101.out 2; have hfz20_3 := blk_frozen BK101.out 3) | ((with_reducible refine gate_callee (f := 104) rfl ?_); refine goesL_ (some 14) rfl rfl Try.func104 (by kernel_rfl) rfl #[.slice A0_2 l0_2.length c0_2] rfl (by (try simp only [List.map_toArray, List.map_cons, List.map_nil]); first | done | rfl | (simp only [List.length_drop, List.length_take]; rfl)) ?_; (with_reducible refine (flotillaref0_CopyObjects.calls _ _ l0_2 t110 _ ?side1 ?side2 A4.out).mono ?_); (case side1 => exact Kd.C_below HR0_2.out (by repeat (first | (with_reducible first | exact HB.out | apply below_alloc | apply pw_below_drewN | apply below_drew1 | refine below_set ?_ GE101.out | refine below_set ?_ GE102.out | refine below_set ?_ GE103.out) | exact HB.out))); (case side2 => exact HC0_2.out); rintro e w21 ⟨v111, rfl, ho0, hb⟩; refine ⟨_, rfl, ?_⟩; have n0_ := Aside0.mk (Kd.S_elder' (by (with_reducible repeat (first | apply Kd.S_alloc | apply Kd.S_drewN | apply Kd.S_drew)); exact (Kd.S_mono (Kd.S_far (p := ⟨gb103, 1, none⟩) (Kd.S_types HO106.out BK103.out (by decide)) (fun _ hk => hk.2) (.slice Ao18 t107.length co18)) (fun _ h_ => h_.1))) (Kd.S_base ho0) hb); have n1_ := Aside0.mk (Kd.S_elder' (by (with_reducible repeat (first | apply Kd.S_alloc | apply Kd.S_drewN | apply Kd.S_drew)); exact (Kd.S_mono (Kd.S_far (p := ⟨gb103, 1, none⟩) (Kd.S_types HO109.out BK103.out (by decide)) (fun _ hk => hk.2) (.slice Ao18 t107.length co18)) (fun _ h_ => h_.1))) (Kd.S_base ho0) hb); have n2_ := Aside0.mk (Kd.S_lower (Kd.S_new' (Kd.S_new' ho0 (Kd.S_lt (by (with_reducible repeat (first | apply Kd.S_alloc | apply Kd.S_drewN | apply Kd.S_drew)); exact (Kd.S_mono (Kd.S_far (p := ⟨gb103, 1, none⟩) (Kd.S_types HO106.out BK103.out (by decide)) (fun _ hk => hk.2) (.slice Ao18 t107.length co18)) (fun _ h_ => h_.1))))) (Kd.S_lt (by (with_reducible repeat (first | apply Kd.S_alloc | apply Kd.S_drewN | apply Kd.S_drew)); exact (Kd.S_mono (Kd.S_far (p := ⟨gb103, 1, none⟩) (Kd.S_types HO109.out BK103.out (by decide)) (fun _ hk => hk.2) (.slice Ao18 t107.length co18)) (fun _ h_ => h_.1))))) (below_size (by repeat (first | (with_reducible first | exact HB.out | apply below_alloc | apply pw_below_drewN | apply below_drew1 | refine below_set ?_ GE101.out | refine below_set ?_ GE102.out | refine below_set ?_ GE103.out) | exact HB.out)))); have n3_ := Aside0.mk (blk_below (g := gb101) (o := .cells #[.slice A0_0 l0_0.length c0_0, .slice A0_1 l0_1.length c0_1, .slice A0_2 l0_2.length c0_2, .slice A0_3 l0_3.length c0_3] 59 (0, 0)) (by (with_reducible repeat (first | refine blk_drewN ?_ _ | refine blk_drew ?_ | refine blk_alloc ?_ _)); refine blk_far ?_ NB101_103.out _; (with_reducible repeat (first | refine blk_drewN ?_ _ | refine blk_drew ?_ | refine blk_alloc ?_ _)); exact BK101.out) hb); have n4_ := Aside0.mk (blk_below (g := gb102) (o := .cells #[.slice none 0 0, .slice none 0 0, .slice none 0 0, .slice none 0 0] 59 (0, 0)) (by (with_reducible repeat (first | refine blk_drewN ?_ _ | refine blk_drew ?_ | refine blk_alloc ?_ _)); refine blk_far ?_ NB102_103.out _; (with_reducible repeat (first | refine blk_drewN ?_ _ | refine blk_drew ?_ | refine blk_alloc ?_ _)); exact BK102.out) hb); have n5_ := Aside0.mk (blk_below (g := gb103) (o := .cells #[.slice Ao13 t104.length co13, .slice Ao18 t107.length co18, .slice none 0 0, .slice none 0 0] 59 (0, 0)) (by (with_reducible repeat (first | refine blk_drewN ?_ _ | refine blk_drew ?_ | refine blk_alloc ?_ _)); refine blk_put (cs := #[.slice Ao13 t104.length co13, .slice none 0 0, .slice none 0 0, .slice none 0 0]) ?_ 1 _ rfl; (with_reducible repeat (first | refine blk_drewN ?_ _ | refine blk_drew ?_ | refine blk_alloc ?_ _)); exact BK103.out) hb); have n6_ := Aside0.mk (below_step (by repeat (first | (with_reducible first | exact HB.out | apply below_alloc | apply pw_below_drewN | apply below_drew1 | refine below_set ?_ GE101.out | refine below_set ?_ GE102.out | refine below_set ?_ GE103.out) | exact HB.out)) hb); clear HO106; clear HO109; clear BK101; clear BK102; clear BK103; clear HB; have HO106 := n0_; have HO109 := n1_; have HO112 := n2_; have BK101 := n3_; have BK102 := n4_; have BK103 := n5_; have HB := n6_; clear n0_ n1_ n2_ n3_ n4_ n5_ n6_; (try clear hb); (try clear hb2); (try clear hk); (try clear hi); (try clear ho0); obtain ⟨Ao22, co22, eo22⟩ := Kd.S_slice HO112.out; subst eo22; have hcz23_0 : w21.cell? ⟨gb103, 0, none⟩ = some (.slice Ao13 t104.length co13) := (blk_cell BK103.out 0).trans rfl; have hcz23_1 : w21.cell? ⟨gb103, 1, none⟩ = some (.slice Ao18 t107.length co18) := (blk_cell BK103.out 1).trans rfl; have hcz23_2 : w21.cell? ⟨gb103, 2, none⟩ = some (.slice none 0 0) := (blk_cell BK103.out 2).trans rfl; have hcz23_3 : w21.cell? ⟨gb103, 3, none⟩ = some (.slice none 0 0) := (blk_cell BK103.out 3).trans rfl; have hfz23_0 := blk_frozen BK103.out 0; have hfz23_1 := blk_frozen BK103.out 1; have hfz23_2 := blk_frozen BK103.out 2; have hfz23_3 := blk_frozen BK103.out 3; have hcz24_0 : w21.cell? ⟨gb101, 0, none⟩ = some (.slice A0_0 l0_0.length c0_0) := (blk_cell BK101.out 0).trans rfl; have hcz24_1 : w21.cell? ⟨gb101, 1, none⟩ = some (.slice A0_1 l0_1.length c0_1) := (blk_cell BK101.out 1).trans rfl; have hcz24_2 : w21.cell? ⟨gb101, 2, none⟩ = some (.slice A0_2 l0_2.length c0_2) := (blk_cell BK101.out 2).trans rfl; have hcz24_3 : w21.cell? ⟨gb101, 3, none⟩ = some (.slice A0_3 l0_3.length c0_3) := (blk_cell BK101.out 3).trans rfl; have hfz24_0 := blk_frozen BK101.out 0; have hfz24_1 := blk_frozen BK101.out 1; have hfz24_2 := blk_frozen BK101.out 2; have hfz24_3 := blk_frozen BK101.out 3) | ((with_reducible refine gate_callee (f := 104) rfl ?_); refine goesL_ (some 18) rfl rfl Try.func104 (by kernel_rfl) rfl #[.slice A0_3 l0_3.length c0_3] rfl (by (try simp only [List.map_toArray, List.map_cons, List.map_nil]); first | done | rfl | (simp only [List.length_drop, List.length_take]; rfl)) ?_; (with_reducible refine (flotillaref0_CopyObjects.calls _ _ l0_3 t113 _ ?side1 ?side2 A5.out).mono ?_); (case side1 => exact Kd.C_below HR0_3.out (by repeat (first | (with_reducible first | exact HB.out | apply below_alloc | apply pw_below_drewN | apply below_drew1 | refine below_set ?_ GE101.out | refine below_set ?_ GE102.out | refine below_set ?_ GE103.out) | exact HB.out))); (case side2 => exact HC0_3.out); rintro e w25 ⟨v114, rfl, ho0, hb⟩; refine ⟨_, rfl, ?_⟩; have n0_ := Aside0.mk (Kd.S_elder' (by (with_reducible repeat (first | apply Kd.S_alloc | apply Kd.S_drewN | apply Kd.S_drew)); exact (Kd.S_mono (Kd.S_far (p := ⟨gb103, 2, none⟩) (Kd.S_types HO106.out BK103.out (by decide)) (fun _ hk => hk.2) (.slice Ao22 t110.length co22)) (fun _ h_ => h_.1))) (Kd.S_base ho0) hb); have n1_ := Aside0.mk (Kd.S_elder' (by (with_reducible repeat (first | apply Kd.S_alloc | apply Kd.S_drewN | apply Kd.S_drew)); exact (Kd.S_mono (Kd.S_far (p := ⟨gb103, 2, none⟩) (Kd.S_types HO109.out BK103.out (by decide)) (fun _ hk => hk.2) (.slice Ao22 t110.length co22)) (fun _ h_ => h_.1))) (Kd.S_base ho0) hb); have n2_ := Aside0.mk (Kd.S_elder' (by (with_reducible repeat (first | apply Kd.S_alloc | apply Kd.S_drewN | apply Kd.S_drew)); exact (Kd.S_mono (Kd.S_far (p := ⟨gb103, 2, none⟩) (Kd.S_types HO112.out BK103.out (by decide)) (fun _ hk => hk.2) (.slice Ao22 t110.length co22)) (fun _ h_ => h_.1))) (Kd.S_base ho0) hb); have n3_ := Aside0.mk (Kd.S_lower (Kd.S_new' (Kd.S_new' (Kd.S_new' ho0 (Kd.S_lt (by (with_reducible repeat (first | apply Kd.S_alloc | apply Kd.S_drewN | apply Kd.S_drew)); exact (Kd.S_mono (Kd.S_far (p := ⟨gb103, 2, none⟩) (Kd.S_types HO106.out BK103.out (by decide)) (fun _ hk => hk.2) (.slice Ao22 t110.length co22)) (fun _ h_ => h_.1))))) (Kd.S_lt (by (with_reducible repeat (first | apply Kd.S_alloc | apply Kd.S_drewN | apply Kd.S_drew)); exact (Kd.S_mono (Kd.S_far (p := ⟨gb103, 2, none⟩) (Kd.S_types HO109.out BK103.out (by decide)) (fun _ hk => hk.2) (.slice Ao22 t110.length co22)) (fun _ h_ => h_.1))))) (Kd.S_lt (by (with_reducible repeat (first | apply Kd.S_alloc | apply Kd.S_drewN | apply Kd.S_drew)); exact (Kd.S_mono (Kd.S_far (p := ⟨gb103, 2, none⟩) (Kd.S_types HO112.out BK103.out (by decide)) (fun _ hk => hk.2) (.slice Ao22 t110.length co22)) (fun _ h_ => h_.1))))) (below_size (by repeat (first | (with_reducible first | exact HB.out | apply below_alloc | apply pw_below_drewN | apply below_drew1 | refine below_set ?_ GE101.out | refine below_set ?_ GE102.out | refine below_set ?_ GE103.out) | exact HB.out)))); have n4_ := Aside0.mk (blk_below (g := gb101) (o := .cells #[.slice A0_0 l0_0.length c0_0, .slice A0_1 l0_1.length c0_1, .slice A0_2 l0_2.length c0_2, .slice A0_3 l0_3.length c0_3] 59 (0, 0)) (by (with_reducible repeat (first | refine blk_drewN ?_ _ | refine blk_drew ?_ | refine blk_alloc ?_ _)); refine blk_far ?_ NB101_103.out _; (with_reducible repeat (first | refine blk_drewN ?_ _ | refine blk_drew ?_ | refine blk_alloc ?_ _)); exact BK101.out) hb); have n5_ := Aside0.mk (blk_below (g := gb102) (o := .cells #[.slice none 0 0, .slice none 0 0, .slice none 0 0, .slice none 0 0] 59 (0, 0)) (by (with_reducible repeat (first | refine blk_drewN ?_ _ | refine blk_drew ?_ | refine blk_alloc ?_ _)); refine blk_far ?_ NB102_103.out _; (with_reducible repeat (first | refine blk_drewN ?_ _ | refine blk_drew ?_ | refine blk_alloc ?_ _)); exact BK102.out) hb); have n6_ := Aside0.mk (blk_below (g := gb103) (o := .cells #[.slice Ao13 t104.length co13, .slice Ao18 t107.length co18, .slice Ao22 t110.length co22, .slice none 0 0] 59 (0, 0)) (by (with_reducible repeat (first | refine blk_drewN ?_ _ | refine blk_drew ?_ | refine blk_alloc ?_ _)); refine blk_put (cs := #[.slice Ao13 t104.length co13, .slice Ao18 t107.length co18, .slice none 0 0, .slice none 0 0]) ?_ 2 _ rfl; (with_reducible repeat (first | refine blk_drewN ?_ _ | refine blk_drew ?_ | refine blk_alloc ?_ _)); exact BK103.out) hb); have n7_ := Aside0.mk (below_step (by repeat (first | (with_reducible first | exact HB.out | apply below_alloc | apply pw_below_drewN | apply below_drew1 | refine below_set ?_ GE101.out | refine below_set ?_ GE102.out | refine below_set ?_ GE103.out) | exact HB.out)) hb); clear HO106; clear HO109; clear HO112; clear BK101; clear BK102; clear BK103; clear HB; have HO106 := n0_; have HO109 := n1_; have HO112 := n2_; have HO115 := n3_; have BK101 := n4_; have BK102 := n5_; have BK103 := n6_; have HB := n7_; clear n0_ n1_ n2_ n3_ n4_ n5_ n6_ n7_; (try clear hb); (try clear hb2); (try clear hk); (try clear hi); (try clear ho0); obtain ⟨Ao26, co26, eo26⟩ := Kd.S_slice HO115.out; subst eo26; have hcz27_0 : w25.cell? ⟨gb103, 0, none⟩ = some (.slice Ao13 t104.length co13) := (blk_cell BK103.out 0).trans rfl; have hcz27_1 : w25.cell? ⟨gb103, 1, none⟩ = some (.slice Ao18 t107.length co18) := (blk_cell BK103.out 1).trans rfl; have hcz27_2 : w25.cell? ⟨gb103, 2, none⟩ = some (.slice Ao22 t110.length co22) := (blk_cell BK103.out 2).trans rfl; have hcz27_3 : w25.cell? ⟨gb103, 3, none⟩ = some (.slice none 0 0) := (blk_cell BK103.out 3).trans rfl; have hfz27_0 := blk_frozen BK103.out 0; have hfz27_1 := blk_frozen BK103.out 1; have hfz27_2 := blk_frozen BK103.out 2; have hfz27_3 := blk_frozen BK103.out 3; have hcz28_0 : w25.cell? ⟨gb102, 0, none⟩ = some (.slice none 0 0) := (blk_cell BK102.out 0).trans rfl; have hcz28_1 : w25.cell? ⟨gb102, 1, none⟩ = some (.slice none 0 0) := (blk_cell BK102.out 1).trans rfl; have hcz28_2 : w25.cell? ⟨gb102, 2, none⟩ = some (.slice none 0 0) := (blk_cell BK102.out 2).trans rfl; have hcz28_3 : w25.cell? ⟨gb102, 3, none⟩ = some (.slice none 0 0) := (blk_cell BK102.out 3).trans rfl; have hfz28_0 := blk_frozen BK102.out 0; have hfz28_1 := blk_frozen BK102.out 1; have hfz28_2 := blk_frozen BK102.out 2; have hfz28_3 := blk_frozen BK102.out 3))
  refine bodyPost_ret (results_cell_row rfl _ _ gb102 59 #[.slice Ao13 t104.length co13, .slice Ao18 t107.length co18, .slice Ao22 t110.length co22, .slice Ao26 t113.length co26] (0, 0) _ rfl (by (with_reducible repeat (first | refine blk_drewN ?_ _ | refine blk_drew ?_ | refine blk_alloc ?_ _)); refine blk_put (cs := #[.slice Ao13 t104.length co13, .slice Ao18 t107.length co18, .slice Ao22 t110.length co22, .slice none 0 0]) ?_ 3 _ rfl; (with_reducible repeat (first | refine blk_drewN ?_ _ | refine blk_drew ?_ | refine blk_alloc ?_ _)); refine blk_put (cs := #[.slice Ao13 t104.length co13, .slice Ao18 t107.length co18, .slice none 0 0, .slice none 0 0]) ?_ 2 _ rfl; (with_reducible repeat (first | refine blk_drewN ?_ _ | refine blk_drew ?_ | refine blk_alloc ?_ _)); refine blk_put (cs := #[.slice Ao13 t104.length co13, .slice none 0 0, .slice none 0 0, .slice none 0 0]) ?_ 1 _ rfl; (with_reducible repeat (first | refine blk_drewN ?_ _ | refine blk_drew ?_ | refine blk_alloc ?_ _)); refine blk_put (cs := #[.slice none 0 0, .slice none 0 0, .slice none 0 0, .slice none 0 0]) ?_ 0 _ rfl; (with_reducible repeat (first | refine blk_drewN ?_ _ | refine blk_drew ?_ | refine blk_alloc ?_ _)); refine blk_far ?_ NB102_103.out _; (with_reducible repeat (first | refine blk_drewN ?_ _ | refine blk_drew ?_ | refine blk_alloc ?_ _)); exact BK102.out) Try.underlying59 rfl (by kernel_rfl)) rfl ?_
  exact ⟨_, _, _, _, by first | rfl | (simp [errW_none, errW_some] <;> rfl) | (simp [*, errW_none, errW_some] <;> rfl), by (with_reducible repeat (first | apply Kd.S_alloc | apply Kd.S_drewN | apply Kd.S_drew)); exact Kd.S_mono (Kd.S_far (p := ⟨gb102, 3, none⟩) (Kd.S_far (p := ⟨gb102, 2, none⟩) (Kd.S_far (p := ⟨gb102, 1, none⟩) (Kd.S_far (p := ⟨gb102, 0, none⟩) (Kd.S_far (p := ⟨gb103, 3, none⟩) (Kd.S_types (Kd.S_types HO106.out BK103.out (by decide)) BK102.out (by decide)) (fun _ hk => hk.1.2) (.slice Ao26 t113.length co26)) (fun _ hk => hk.2) (.slice Ao13 t104.length co13)) (fun _ hk => hk.2) (.slice Ao18 t107.length co18)) (fun _ hk => hk.2) (.slice Ao22 t110.length co22)) (fun _ hk => hk.2) (.slice Ao26 t113.length co26)) (fun _ hk => ⟨hk.1.1.1.1.2, ⟨hk.1.1.1.2, hk.1.1.2⟩⟩), by (with_reducible repeat (first | apply Kd.S_alloc | apply Kd.S_drewN | apply Kd.S_drew)); exact Kd.S_mono (Kd.S_far (p := ⟨gb102, 3, none⟩) (Kd.S_far (p := ⟨gb102, 2, none⟩) (Kd.S_far (p := ⟨gb102, 1, none⟩) (Kd.S_far (p := ⟨gb102, 0, none⟩) (Kd.S_far (p := ⟨gb103, 3, none⟩) (Kd.S_types (Kd.S_types HO109.out BK103.out (by decide)) BK102.out (by decide)) (fun _ hk => hk.1.2) (.slice Ao26 t113.length co26)) (fun _ hk => hk.2) (.slice Ao13 t104.length co13)) (fun _ hk => hk.2) (.slice Ao18 t107.length co18)) (fun _ hk => hk.2) (.slice Ao22 t110.length co22)) (fun _ hk => hk.2) (.slice Ao26 t113.length co26)) (fun _ hk => ⟨hk.1.1.1.1.2, ⟨hk.1.1.1.2, hk.1.1.2⟩⟩), by (with_reducible repeat (first | apply Kd.S_alloc | apply Kd.S_drewN | apply Kd.S_drew)); exact Kd.S_mono (Kd.S_far (p := ⟨gb102, 3, none⟩) (Kd.S_far (p := ⟨gb102, 2, none⟩) (Kd.S_far (p := ⟨gb102, 1, none⟩) (Kd.S_far (p := ⟨gb102, 0, none⟩) (Kd.S_far (p := ⟨gb103, 3, none⟩) (Kd.S_types (Kd.S_types HO112.out BK103.out (by decide)) BK102.out (by decide)) (fun _ hk => hk.1.2) (.slice Ao26 t113.length co26)) (fun _ hk => hk.2) (.slice Ao13 t104.length co13)) (fun _ hk => hk.2) (.slice Ao18 t107.length co18)) (fun _ hk => hk.2) (.slice Ao22 t110.length co22)) (fun _ hk => hk.2) (.slice Ao26 t113.length co26)) (fun _ hk => ⟨hk.1.1.1.1.2, ⟨hk.1.1.1.2, hk.1.1.2⟩⟩), by (with_reducible repeat (first | apply Kd.S_alloc | apply Kd.S_drewN | apply Kd.S_drew)); exact Kd.S_mono (Kd.S_far (p := ⟨gb102, 3, none⟩) (Kd.S_far (p := ⟨gb102, 2, none⟩) (Kd.S_far (p := ⟨gb102, 1, none⟩) (Kd.S_far (p := ⟨gb102, 0, none⟩) (Kd.S_far (p := ⟨gb103, 3, none⟩) (Kd.S_types (Kd.S_types HO115.out BK103.out (by decide)) BK102.out (by decide)) (fun _ hk => hk.1.2) (.slice Ao26 t113.length co26)) (fun _ hk => hk.2) (.slice Ao13 t104.length co13)) (fun _ hk => hk.2) (.slice Ao18 t107.length co18)) (fun _ hk => hk.2) (.slice Ao22 t110.length co22)) (fun _ hk => hk.2) (.slice Ao26 t113.length co26)) (fun _ hk => ⟨hk.1.1.1.1.2, ⟨hk.1.1.1.2, hk.1.1.2⟩⟩), by repeat (first | (with_reducible first | exact HB.out | apply below_alloc | apply pw_below_drewN | apply below_drew1 | refine below_set ?_ GE101.out | refine below_set ?_ GE102.out | refine below_set ?_ GE103.out) | exact HB.out)⟩
end Go.Proofs.Ytamjjeakkkdfhaa.PD
end
section
namespace Go.Proofs.Ytamjjeakkkdfhaa.OP
open Go.Proofs.YtamjjeakkkdfhaaE
open Go.RowKit Go.Proofs.YtamjjeakkkdfhaaW.PrintWords Go.Proofs.YtamjjeakkkdfhaaW.PrintLast Go.Proofs.YtamjjeakkkdfhaaW.PrintMore
set_option linter.unusedVariables false
def Opens {α : Type} (P : Program) (t : TypeId) (d : Kd α) (Q : α → Prop) : Prop :=
  ∀ (H : Type) (enc : TypeId × Value → H) (w : World) (base : Nat) (spare : Nat → Bool) (held : Bool) (fuel : Nat) (cs : List Value) (x : DataW H × List MemPlace),
    DataW.trod enc P w base spare held fuel t cs = some x → (∀ n ∈ x.1.weights P t, n ≤ reachBytes) → ∃ a, d.K w a cs ∧ Q a
def OpensF {α : Type} (P : Program) (fs : List Field) (off size : Nat) (d : Kd α) (Q : α → Prop) : Prop :=
  ∀ (H : Type) (enc : TypeId × Value → H) (w : World) (base : Nat) (spare : Nat → Bool) (held : Bool) (fuel : Nat) (cs : List Value) (xs : List (DataW H × List MemPlace)),
    cs.length = size → (∀ (i : Nat) (f : Field), fs[i]? = some f → DataW.trod enc P w base spare held fuel f.type ((cs.drop f.offset).take (P.cellsOf f.type)) = xs[i]?) → xs.length = fs.length →
    (∀ (i : Nat) (f : Field) x, fs[i]? = some f → xs[i]? = some x → ∀ n ∈ x.1.weights P f.type, n ≤ reachBytes) → ∃ a, d.K w a (cs.drop off) ∧ Q a
theorem weightsAll_mem {H : Type} {P : Program} {e : TypeId} : ∀ {ds : List (DataW H)} {j : Nat} {d : DataW H}, ds[j]? = some d → ∀ n ∈ d.weights P e, n ∈ DataW.weightsAll P e ds
  | d0 :: ds, 0, d, hd, n, hn => by
    simp only [List.getElem?_cons_zero, Option.some.injEq] at hd
    subst hd
    simp only [DataW.weightsAll, List.mem_append]
    exact Or.inl hn
  | d0 :: ds, j + 1, d, hd, n, hn => by
    simp only [List.getElem?_cons_succ] at hd
    simp only [DataW.weightsAll, List.mem_append]
    exact Or.inr (weightsAll_mem hd n hn)
  | [], _, _, hd, _, _ => by simp at hd
variable {P : Program} {t e : TypeId}
theorem opens_int {k : IntKind} (ht : P.underlying t = some (.int k)) : Opens P t (Kd.int k) (fun n => (Lit.int k n).wf = true) := by
  intro H enc w base spare held fuel cs x h hw
  obtain ⟨n, rfl, rfl, hn⟩ := DataW.trod_int ht h
  exact ⟨n, rfl, hn⟩
theorem opens_bool (ht : P.underlying t = some .bool) : Opens P t Kd.bool (fun _ => True) := by
  intro H enc w base spare held fuel cs x h hw
  obtain ⟨b, rfl, rfl⟩ := DataW.trod_bool ht h
  exact ⟨b, rfl, trivial⟩
theorem opens_string (ht : P.underlying t = some .string) : Opens P t Kd.string (fun s => s.size ≤ reachBytes) := by
  intro H enc w base spare held fuel cs x h hw
  obtain ⟨s, rfl, rfl, hs⟩ := DataW.trod_string ht h
  refine ⟨s, rfl, ?_⟩
  have := hw s.data.toList.length (by simp [DataW.weights])
  simpa using this
theorem opens_slice {α : Type} {d : Kd α} {Q : α → Prop} (q : Nat) (ht : P.underlying t = some (.slice e)) (hd : Opens P e d Q) (hsz : P.cellsOf e = d.sz) (z : α) : Opens P t (Kd.slice q d) (fun l => l.length * P.bytesOf e ≤ reachBytes ∧ ∀ x ∈ l, Q x) := by
  intro H enc w base spare held fuel cs x h hw
  rcases DataW.trod_slice ht h with ⟨rfl, rfl⟩ | ⟨a, len, cap, elems, rest, n, _, rfl, rfl, hb, hl, hm, hlen, hel, hsp, hns⟩
  · exact ⟨[], ⟨none, 0, rfl, Nat.le_refl _, rfl, by simp, fun h => absurd h (by simp)⟩, by simp, by simp⟩
  · have each : ∀ i (hi : i < elems.length), ∃ y, ∃ c, w.cells? base (a.add (i * P.cellsOf e)) (P.cellsOf e) = some c ∧ d.K w y c ∧ Q y := by
      intro i hi
      have h1 := hel i (by omega)
      rw [List.getElem?_eq_getElem hi, Option.bind_eq_some_iff] at h1
      obtain ⟨c, hc, h2⟩ := h1
      obtain ⟨y, hy, hq⟩ := hd H enc w base spare held n c _ h2 (fun m hm => hw m (by
        simp only [DataW.weights, ht, List.mem_cons, List.mem_append]
        exact Or.inr (Or.inl (weightsAll_mem (j := i) (d := (elems[i]).1) (by rw [List.getElem?_map, List.getElem?_eq_getElem hi]; rfl) m hm))))
      exact ⟨y, c, hc, hy, hq⟩
    obtain ⟨y, hy⟩ : ∃ y : Nat → α, ∀ i (hi : i < elems.length), ∃ c, w.cells? base (a.add (i * P.cellsOf e)) (P.cellsOf e) = some c ∧ d.K w (y i) c ∧ Q (y i) := by
      classical
      refine ⟨fun i => if hi : i < elems.length then Classical.choose (each i hi) else z, fun i hi => ?_⟩
      show ∃ c, _ = some c ∧ d.K w (if hi : i < elems.length then Classical.choose (each i hi) else z) c ∧ Q (if hi : i < elems.length then Classical.choose (each i hi) else z)
      rw [dif_pos hi]
      exact Classical.choose_spec (each i hi)
    refine ⟨(List.range elems.length).map y, ⟨some a, cap, by simp [hlen], by simp [hlen, hl], by simp, ?_, fun _ => ⟨a, rfl, ?_⟩⟩, ?_, ?_⟩
    · simp only [List.length_map, List.length_range]
      have : maxLen = 9223372036854775807 := rfl
      omega
    · intro j p hp
      obtain ⟨hj, rfl⟩ : ∃ hj : j < elems.length, y j = p := by
        have hj : j < elems.length := by have := (List.getElem?_eq_some_iff.1 hp).1; simpa using this
        refine ⟨hj, ?_⟩
        rw [List.getElem?_map, List.getElem?_range hj] at hp
        simpa using hp
      obtain ⟨c, hc, hk, hq⟩ := hy j hj
      obtain ⟨hb', hl', hcell⟩ := World.cells?_some hc
      refine ⟨c, by rw [hl', hsz], hk, fun i u hu => ?_⟩
      have hi : i < P.cellsOf e := by have := (List.getElem?_eq_some_iff.1 hu).1; omega
      have := hcell i hi
      rw [hu, addr_add_add, hsz] at this
      exact this
    · have := hw ((elems.length + rest.length) * P.bytesOf e) (by simp [DataW.weights, ht])
      simp only [List.length_map, List.length_range]
      exact Nat.le_trans (Nat.mul_le_mul_right _ (Nat.le_add_right _ _)) this
    · intro x hx
      obtain ⟨j, hj, rfl⟩ := List.mem_map.1 hx
      obtain ⟨c, hc, hk, hq⟩ := hy j (by simpa using hj)
      exact hq
theorem opensF_last {α : Type} {d : Kd α} {Q : α → Prop} {f : Field} {size : Nat} (hd : Opens P f.type d Q) (hs : f.offset + P.cellsOf f.type = size) : OpensF P [f] f.offset size d Q := by
  intro H enc w base spare held fuel cs xs hl hf hxl hw
  have h0 := hf 0 f rfl
  obtain ⟨x, hx⟩ : ∃ x, xs[0]? = some x := ⟨_, List.getElem?_eq_getElem (by rw [hxl]; exact Nat.zero_lt_one)⟩
  rw [hx, List.take_of_length_le (by rw [List.length_drop]; omega)] at h0
  exact hd H enc w base spare held fuel _ x h0 (hw 0 f x rfl hx)
theorem opensF_cons {α β : Type} {d : Kd α} {d' : Kd β} {Q : α → Prop} {Q' : β → Prop} {f : Field} {fs : List Field} {size off : Nat} (hd : Opens P f.type d Q) (hs : f.offset + P.cellsOf f.type = off) (hr : OpensF P fs off size d' Q') : OpensF P (f :: fs) f.offset size (Kd.pair d d') (fun a => Q a.1 ∧ Q' a.2) := by
  intro H enc w base spare held fuel cs xs hl hf hxl hw
  have h0 := hf 0 f rfl
  obtain ⟨x, xs, rfl⟩ : ∃ x r, xs = x :: r := by cases xs with | nil => simp at hxl | cons x r => exact ⟨x, r, rfl⟩
  obtain ⟨a, ha, hq⟩ := hd H enc w base spare held fuel _ x h0 (hw 0 f x rfl rfl)
  obtain ⟨b, hb, hq'⟩ := hr H enc w base spare held fuel cs xs hl (fun i g hg => hf (i + 1) g hg) (by simpa using hxl) (fun i g y hg hy => hw (i + 1) g y hg hy)
  refine ⟨(a, b), ⟨_, _, ?_, ha, hb⟩, hq, hq'⟩
  rw [← hs, ← List.drop_drop, List.take_append_drop]
theorem opens_struct {α β : Type} {d : Kd α} {Q : α → Prop} {fs : Array Field} {size : Nat} (g : β → α) (inv : α → β) (hg : ∀ a, g (inv a) = a) (ht : P.underlying t = some (.struct fs)) (hs : P.cellsOf t = size) (hf : OpensF P fs.toList 0 size d Q) : Opens P t (Kd.iso d g) (fun b => Q (g b)) := by
  intro H enc w base spare held fuel cs x h hw
  obtain ⟨xs, n, rfl, rfl, hl, hxl, hx⟩ := DataW.trod_struct ht h
  obtain ⟨a, ha, hq⟩ := hf H enc w base spare held n cs xs (by rw [hl, hs]) (fun i f hi => hx i f (by simpa using hi)) (by simpa using hxl) (fun i f y hi hy m hm => hw m (by
    simp only [DataW.weights, ht]
    exact DataW.weights_mem_each (j := i) (t := f.type) (d := y.1) (by rw [List.getElem?_map, hi]; rfl) (by rw [List.getElem?_map, hy]; rfl) m hm))
  exact ⟨inv a, by show d.K w (g (inv a)) cs; rw [hg]; exact ha, by show Q (g (inv a)); rw [hg]; exact hq⟩
end Go.Proofs.Ytamjjeakkkdfhaa.OP
end
section
namespace Go.Proofs.Ytamjjeakkkdfhaa.G
open Go.RowKit Go.Proofs.YtamjjeakkkdfhaaW.PrintWords Go.Proofs.YtamjjeakkkdfhaaW.PrintLast Go.Proofs.YtamjjeakkkdfhaaW.PrintMore
open Go.Proofs.Ytamjjeakkkdfhaa.K Go.Proofs.YtamjjeakkkdfhaaE Go.Proofs.Ytamjjeakkkdfhaa.OP
set_option linter.unusedVariables false
theorem opens_mono {α : Type} {P : Program} {t : TypeId} {d : Kd α} {Q Q' : α → Prop} (h : Opens P t d Q) (hQ : ∀ a, Q a → Q' a) : Opens P t d Q' := by
  intro H enc w base spare held fuel cs x h1 hw
  obtain ⟨a, ha, hq⟩ := h H enc w base spare held fuel cs x h1 hw
  exact ⟨a, ha, hQ a hq⟩
theorem opens_label : Opens Try.prog 31 k31 (fun _ => True) :=
  opens_mono (opens_struct (size := 2) (fun x : S31 => (x.f0, x.f1)) (fun a => ⟨a.1, a.2⟩) (fun _ => rfl) Try.underlying31 (by kernel_rfl) (opensF_cons (off := 1) (opens_string (by kernel_rfl)) (by kernel_rfl) (opensF_last (opens_string (by kernel_rfl)) (by kernel_rfl)))) (fun _ _ => trivial)
theorem opens_amount : Opens Try.prog 64 k64 (fun _ => True) :=
  opens_mono (opens_struct (size := 2) (fun x : S64 => (x.f0, x.f1)) (fun a => ⟨a.1, a.2⟩) (fun _ => rfl) Try.underlying64 (by kernel_rfl) (opensF_cons (off := 1) (opens_int (k := .i64) (by kernel_rfl)) (by kernel_rfl) (opensF_last (opens_int (k := .i64) (by kernel_rfl)) (by kernel_rfl)))) (fun _ _ => trivial)
def okR (x : S68) : Prop := x.f1.size ≤ reachBytes ∧ x.f4.length * 32 ≤ reachBytes ∧ x.f25.length * 32 ≤ reachBytes
set_option maxRecDepth 100000 in
set_option maxHeartbeats 4000000 in
theorem opens_object : Opens Try.prog 68 k68 okR :=
  opens_mono (opens_struct (size := 32) (fun x : S68 => (x.f0, x.f1, x.f2, x.f3, x.f4, x.f5, x.f6, x.f7, x.f8, x.f9, x.f10, x.f11, x.f12, x.f13, x.f14, x.f15, x.f16, x.f17, x.f18, x.f19, x.f20, x.f21, x.f22, x.f23, x.f24, x.f25, x.f26, x.f27, x.f28, x.f29)) (fun a => ⟨a.1, a.2.1, a.2.2.1, a.2.2.2.1, a.2.2.2.2.1, a.2.2.2.2.2.1, a.2.2.2.2.2.2.1, a.2.2.2.2.2.2.2.1, a.2.2.2.2.2.2.2.2.1, a.2.2.2.2.2.2.2.2.2.1, a.2.2.2.2.2.2.2.2.2.2.1, a.2.2.2.2.2.2.2.2.2.2.2.1, a.2.2.2.2.2.2.2.2.2.2.2.2.1, a.2.2.2.2.2.2.2.2.2.2.2.2.2.1, a.2.2.2.2.2.2.2.2.2.2.2.2.2.2.1, a.2.2.2.2.2.2.2.2.2.2.2.2.2.2.2.1, a.2.2.2.2.2.2.2.2.2.2.2.2.2.2.2.2.1, a.2.2.2.2.2.2.2.2.2.2.2.2.2.2.2.2.2.1, a.2.2.2.2.2.2.2.2.2.2.2.2.2.2.2.2.2.2.1, a.2.2.2.2.2.2.2.2.2.2.2.2.2.2.2.2.2.2.2.1, a.2.2.2.2.2.2.2.2.2.2.2.2.2.2.2.2.2.2.2.2.1, a.2.2.2.2.2.2.2.2.2.2.2.2.2.2.2.2.2.2.2.2.2.1, a.2.2.2.2.2.2.2.2.2.2.2.2.2.2.2.2.2.2.2.2.2.2.1, a.2.2.2.2.2.2.2.2.2.2.2.2.2.2.2.2.2.2.2.2.2.2.2.1, a.2.2.2.2.2.2.2.2.2.2.2.2.2.2.2.2.2.2.2.2.2.2.2.2.1, a.2.2.2.2.2.2.2.2.2.2.2.2.2.2.2.2.2.2.2.2.2.2.2.2.2.1, a.2.2.2.2.2.2.2.2.2.2.2.2.2.2.2.2.2.2.2.2.2.2.2.2.2.2.1, a.2.2.2.2.2.2.2.2.2.2.2.2.2.2.2.2.2.2.2.2.2.2.2.2.2.2.2.1, a.2.2.2.2.2.2.2.2.2.2.2.2.2.2.2.2.2.2.2.2.2.2.2.2.2.2.2.2.1, a.2.2.2.2.2.2.2.2.2.2.2.2.2.2.2.2.2.2.2.2.2.2.2.2.2.2.2.2.2⟩) (fun _ => rfl) Try.underlying68 (by kernel_rfl)
    (opensF_cons (off := 1) (opens_int (k := .i64) (by kernel_rfl)) (by kernel_rfl) (opensF_cons (off := 2) (opens_string (by kernel_rfl)) (by kernel_rfl) (opensF_cons (off := 3) (opens_int (k := .i64) (by kernel_rfl)) (by kernel_rfl) (opensF_cons (off := 4) (opens_int (k := .i64) (by kernel_rfl)) (by kernel_rfl) (opensF_cons (off := 5) (opens_slice (e := 31) 31 (by kernel_rfl) opens_label (by kernel_rfl) z31) (by kernel_rfl) (opensF_cons (off := 7) opens_amount (by kernel_rfl) (opensF_cons (off := 8) (opens_bool (by kernel_rfl)) (by kernel_rfl) (opensF_cons (off := 9) (opens_bool (by kernel_rfl)) (by kernel_rfl) (opensF_cons (off := 10) (opens_bool (by kernel_rfl)) (by kernel_rfl) (opensF_cons (off := 11) (opens_int (k := .i64) (by kernel_rfl)) (by kernel_rfl) (opensF_cons (off := 12) (opens_string (by kernel_rfl)) (by kernel_rfl) (opensF_cons (off := 13) (opens_string (by kernel_rfl)) (by kernel_rfl) (opensF_cons (off := 14) (opens_string (by kernel_rfl)) (by kernel_rfl) (opensF_cons (off := 15) (opens_int (k := .i64) (by kernel_rfl)) (by kernel_rfl) (opensF_cons (off := 16) (opens_bool (by kernel_rfl)) (by kernel_rfl) (opensF_cons (off := 17) (opens_bool (by kernel_rfl)) (by kernel_rfl) (opensF_cons (off := 19) opens_amount (by kernel_rfl) (opensF_cons (off := 20) (opens_string (by kernel_rfl)) (by kernel_rfl) (opensF_cons (off := 21) (opens_int (k := .i64) (by kernel_rfl)) (by kernel_rfl) (opensF_cons (off := 22) (opens_int (k := .i64) (by kernel_rfl)) (by kernel_rfl) (opensF_cons (off := 23) (opens_int (k := .i64) (by kernel_rfl)) (by kernel_rfl) (opensF_cons (off := 24) (opens_int (k := .i64) (by kernel_rfl)) (by kernel_rfl) (opensF_cons (off := 25) (opens_int (k := .i64) (by kernel_rfl)) (by kernel_rfl) (opensF_cons (off := 26) (opens_bool (by kernel_rfl)) (by kernel_rfl) (opensF_cons (off := 27) (opens_int (k := .u64) (by kernel_rfl)) (by kernel_rfl) (opensF_cons (off := 28) (opens_slice (e := 31) 31 (by kernel_rfl) opens_label (by kernel_rfl) z31) (by kernel_rfl) (opensF_cons (off := 29) (opens_int (k := .i64) (by kernel_rfl)) (by kernel_rfl) (opensF_cons (off := 30) (opens_string (by kernel_rfl)) (by kernel_rfl) (opensF_cons (off := 31) (opens_int (k := .i64) (by kernel_rfl)) (by kernel_rfl) (opensF_last (opens_int (k := .i64) (by kernel_rfl)) (by kernel_rfl)))))))))))))))))))))))))))))))) (fun x h => ⟨h.2.1, h.2.2.2.2.1.1, h.2.2.2.2.2.2.2.2.2.2.2.2.2.2.2.2.2.2.2.2.2.2.2.2.2.1.1⟩)
def kRow : Kd (List S68) := Kd.slice 68 k68
def okRow (l : List S68) : Prop := l.length * 312 ≤ reachBytes ∧ ∀ x ∈ l, okR x
set_option maxRecDepth 100000 in
theorem opens_row : Opens Try.prog 57 kRow okRow := opens_mono (opens_slice (e := 68) 68 (by kernel_rfl) opens_object (by kernel_rfl) z68) (fun l h => ⟨h.1, h.2⟩)
set_option maxRecDepth 100000 in
theorem opens_fleet : Opens Try.prog 59 (Kd.iso (Kd.pair kRow (Kd.pair kRow (Kd.pair kRow kRow))) (fun x : List S68 × List S68 × List S68 × List S68 => x)) (fun x => okRow x.1 ∧ okRow x.2.1 ∧ okRow x.2.2.1 ∧ okRow x.2.2.2) :=
  opens_mono (opens_struct (size := 4) (fun x : List S68 × List S68 × List S68 × List S68 => x) (fun x => x) (fun _ => rfl) Try.underlying59 (by kernel_rfl)
    (opensF_cons (off := 1) opens_row (by kernel_rfl) (opensF_cons (off := 2) opens_row (by kernel_rfl) (opensF_cons (off := 3) opens_row (by kernel_rfl) (opensF_last opens_row (by kernel_rfl)))))) (fun x h => h)
set_option maxRecDepth 100000 in
open Go.WideShapes in
theorem open_fleet {H : Type} {enc : TypeId × Value → H} {W : World} {base : Nat} {r : Reach} {v : Value} {d : DataW H} {p : List MemPlace} (hv : Value.okWide Try.prog W r base 59 v) (h : DataW.Trod enc Try.prog W 0 (fun _ => true) true 59 v d p) (hw : ∀ n ∈ d.weights Try.prog 59, n ≤ reachBytes) :
    ∃ A0 c0 l0 A1 c1 l1 A2 c2 l2 A3 c3 l3, v = .agg #[.slice A0 (l0 : List S68).length c0, .slice A1 (l1 : List S68).length c1, .slice A2 (l2 : List S68).length c2, .slice A3 (l3 : List S68).length c3] ∧ l0.length ≤ c0 ∧ k68.C W A0 l0.length l0 ∧ okRow l0 ∧ l1.length ≤ c1 ∧ k68.C W A1 l1.length l1 ∧ okRow l1 ∧ l2.length ≤ c2 ∧ k68.C W A2 l2.length l2 ∧ okRow l2 ∧ l3.length ≤ c3 ∧ k68.C W A3 l3.length l3 ∧ okRow l3 := by
  obtain ⟨cs, rfl, -⟩ := okWide_struct Try.underlying59 hv
  obtain ⟨fuel, hf⟩ := h
  obtain ⟨⟨l0, l1, l2, l3⟩, hK, q0, q1, q2, q3⟩ := opens_fleet H enc W 0 _ true fuel _ _ hf hw
  obtain ⟨_, _, e, ⟨A0, c0, rfl, b0, g0⟩, _, _, rfl, ⟨A1, c1, rfl, b1, g1⟩, _, _, rfl, ⟨A2, c2, rfl, b2, g2⟩, A3, c3, rfl, b3, g3⟩ := hK
  refine ⟨A0, c0, l0, A1, c1, l1, A2, c2, l2, A3, c3, l3, ?_, b0, g0, q0, b1, g1, q1, b2, g2, q2, b3, g3, q3⟩
  have e' : cs.toList = [.slice A0 l0.length c0, .slice A1 l1.length c1, .slice A2 l2.length c2, .slice A3 l3.length c3] := e
  rw [← Array.toArray_toList (xs := cs), e']
theorem weights_of {H : Type} {P : Program} {ts : List TypeId} {ds : List (DataW H)} (h : (DataW.weightsEach P ts ds).all (· ≤ reachBytes) = true) {j : Nat} {t : TypeId} {d : DataW H} (ht : ts[j]? = some t) (hd : ds[j]? = some d) : ∀ n ∈ d.weights P t, n ≤ reachBytes := fun n hn => by
  have := List.all_eq_true.1 h n (DataW.weights_mem_each ht hd n hn)
  simpa using this
end Go.Proofs.Ytamjjeakkkdfhaa.G
end
section
namespace Go.Proofs.Ytamjjeakkkdfhaa.G
open Go.RowKit Go.Proofs.YtamjjeakkkdfhaaW.PrintWords Go.Proofs.YtamjjeakkkdfhaaW.PrintLast Go.Proofs.YtamjjeakkkdfhaaW.PrintMore
open Go.Proofs.Ytamjjeakkkdfhaa.K Go.Proofs.YtamjjeakkkdfhaaE Go.Proofs.Ytamjjeakkkdfhaa.PB Go.Proofs.Ytamjjeakkkdfhaa.PC Go.Proofs.Ytamjjeakkkdfhaa.PD
set_option linter.unusedVariables false
theorem at_from (l : List S68) (p : ByteArray) (hl : l.length ≤ 9223372036854775807) : ∀ (d k i : Nat), i ≤ l.length → l.length - i = d → d < k → (∀ j (hj : j < l.length), j < i → isNamed p l[j] = false) → flotillalaw16_at.l0 k l p (i : Int) = some (idxOf (isNamed p) l) := by
  intro d
  induction d with
  | zero =>
    intro k i hi hd hk hn
    obtain ⟨k, rfl⟩ : ∃ m, k = m + 1 := ⟨k - 1, by omega⟩
    simp only [flotillalaw16_at.l0]
    rw [if_neg (by omega), idx_none (fun j hj _ => hn j hj (by omega))]
  | succ d ih =>
    intro k i hi hd hk hn
    obtain ⟨k, rfl⟩ : ∃ m, k = m + 1 := ⟨k - 1, by omega⟩
    have hlt : i < l.length := by omega
    have hw : wrap64 ((i : Int) + 1) = ((i + 1 : Nat) : Int) := by unfold wrap64; omega
    simp only [flotillalaw16_at.l0]
    rw [if_pos (by omega), if_pos (by omega), hw]
    by_cases h : (rd_T68 l (i : Int)).f1.toList = p.toList
    · rw [if_pos h, idx_at hlt hn (by unfold isNamed; simpa using h)]
    · rw [if_neg h]
      refine ih k (i + 1) (by omega) (by omega) (by omega) (fun j hj hj' => ?_)
      by_cases hji : j = i
      · subst hji; rw [← rd_get hj]; unfold isNamed; simpa using h
      · exact hn j hj (by omega)
theorem at_is (l : List S68) (p : ByteArray) (hl : l.length ≤ 9223372036854775807) (k : Nat) (hk : l.length < k) : flotillalaw16_at.f k l p = some (idxOf (isNamed p) l) :=
  at_from l p hl l.length k 0 (by omega) (by omega) hk (fun _ _ h => absurd h (by omega))
theorem idx_find {p : ByteArray} {l : List S68} {x : S68} (h : findL p l = some x) : ∃ i, ∃ hi : i < l.length, idxOf (isNamed p) l = (i : Int) ∧ l[i] = x := by
  unfold findL at h
  obtain ⟨i, hi, hx, hn⟩ := List.find?_eq_some_iff_getElem.1 h |>.2
  refine ⟨i, hi, ?_, hx⟩
  refine idx_at hi (fun j hj hji => by have := hn j hji; simpa using this) ?_
  rw [rd_get hi, hx]
  exact (List.find?_eq_some_iff_getElem.1 h).1
theorem pick_is (l : List S68) (a : Int) (hl : l.length ≤ 300) : ∃ p, flotillalaw16_pick.f l a = some p := by
  unfold flotillalaw16_pick.f flotillakit_Pick.f
  by_cases h0 : (l.length : Int) = 0
  · rw [if_pos h0]; exact ⟨_, rfl⟩
  · rw [if_neg h0, if_neg (by omega), if_neg h0]
    have h1 := Int.tmod_lt_of_pos a (show (0 : Int) < l.length by omega)
    have h2 : -(l.length : Int) < Int.tmod a l.length := by
      have := Int.lt_tmod_of_pos a (show (0 : Int) < l.length by omega)
      omega
    by_cases h3 : Int.tmod a l.length < 0
    · rw [if_pos h3]
      have hw : wrap64 (Int.tmod a l.length + l.length) = Int.tmod a l.length + l.length := by unfold wrap64; omega
      simp only [Option.bind_some]
      rw [hw, if_pos (by omega), if_pos (by omega)]
      exact ⟨_, rfl⟩
    · rw [if_neg h3]
      simp only [Option.bind_some]
      rw [if_pos (by omega), if_pos (by omega)]
      exact ⟨_, rfl⟩
theorem names_ok {l : List S68} (h : okRow l) : namesOK l = true := by
  unfold namesOK
  rw [List.all_eq_true]
  intro x hx
  have := (h.2 x hx).1
  have e : reachBytes = 140737488351232 := rfl
  simp only [decide_eq_true_eq]; omega
theorem copy_row {l : List S68} (h : okRow l) (hl : l.length ≤ 300) : flotillaref0_CopyObjects.f l = some l := by
  unfold flotillaref0_CopyObjects.f
  refine if_pos ⟨by omega, ?_⟩
  rw [List.all_eq_true]
  intro x hx
  obtain ⟨-, h1, h2⟩ := h.2 x hx
  have e : reachBytes = 140737488351232 := rfl
  unfold okO
  simp only [Bool.and_eq_true, decide_eq_true_eq]
  omega
end Go.Proofs.Ytamjjeakkkdfhaa.G
end
section
namespace Go.Proofs.Ytamjjeakkkdfhaa.PB
open Go.RowKit Go.Proofs.YtamjjeakkkdfhaaW.PrintWords Go.Proofs.YtamjjeakkkdfhaaW.PrintLast Go.Proofs.YtamjjeakkkdfhaaW.PrintMore
open Go.Proofs.Ytamjjeakkkdfhaa.K Go.Proofs.Ytamjjeakkkdfhaa.G Go.Proofs.YtamjjeakkkdfhaaE
attribute [local go_sem] max2_int min2_int max_two min_two max_three min_three max_four min_four
set_option linter.unusedVariables false
set_option linter.unusedSimpArgs false
def flotillalaw16_held.f (a0 : Int) : Option (Int) := some (mn (mx a0 (-1125899906842624)) 1125899906842624)
set_option maxHeartbeats 8000000 in
set_option maxRecDepth 100000 in
theorem flotillalaw16_held.calls (a0 : Int) (r : Int) (w : World) (h : flotillalaw16_held.f a0 = some r) :
    Calls Try.prog 62 #[.int .i64 a0] w fun e w' => e = .returned (.int .i64 r) ∧ Below w.heap.size w w' := by
  have HB := Aside0.mk (Below.refl w.heap.size w)
  have H : (some (mn (mx a0 (-1125899906842624)) 1125899906842624)) = some r := h
  clear h
  obtain ⟨ji2, hji2⟩ : ∃ j_ : Int, (mx a0 (-1125899906842624)) = j_ := ⟨_, rfl⟩
  replace H : (some (mn (ji2) 1125899906842624)) = some r := by first | (rw [hji2] at H; exact H) | (simp only [hji2] at H ⊢; exact H)
  have hji2_ : (if a0 < (-1125899906842624) then (-1125899906842624) else a0) = ji2 := hji2
  obtain ⟨ji3, hji3⟩ : ∃ j_ : Int, (mn (ji2) 1125899906842624) = j_ := ⟨_, rfl⟩
  replace H : (some ji3) = some r := by first | (rw [hji3] at H; exact H) | (simp only [hji3] at H ⊢; exact H)
  have hji3_ : (if 1125899906842624 < (ji2) then 1125899906842624 else (ji2)) = ji3 := hji3
  obtain rfl := Option.some.inj H
  go_enter Try.func62, Try.ntmps62
  go_wp2
  go_ret
  exact ⟨by first | rfl | (simp [errW_none, errW_some] <;> rfl) | (simp only [← hji2, ← hji3]; first | rfl | (simp [errW_none, errW_some] <;> rfl)) | (simp [*, errW_none, errW_some] <;> rfl), by repeat (first | (with_reducible first | exact HB.out | apply below_alloc | apply pw_below_drewN | apply below_drew1) | exact HB.out)⟩
end Go.Proofs.Ytamjjeakkkdfhaa.PB
end
section
namespace Go.Proofs.Ytamjjeakkkdfhaa.G
open Go.RowKit Go.Proofs.YtamjjeakkkdfhaaW.PrintWords Go.Proofs.YtamjjeakkkdfhaaW.PrintLast Go.Proofs.YtamjjeakkkdfhaaW.PrintMore
open Go.Proofs.Ytamjjeakkkdfhaa.K Go.Proofs.YtamjjeakkkdfhaaE Go.Proofs.Ytamjjeakkkdfhaa.PB Go.Proofs.Ytamjjeakkkdfhaa.PC Go.Proofs.Ytamjjeakkkdfhaa.PD
set_option linter.unusedVariables false
set_option linter.unusedSimpArgs false
def cO (x : S68) (v4 v27 : Value) : Array Value := #[.int .i64 x.f0, .string x.f1, .int .i64 x.f2, .int .i64 x.f3, v4, .int .i64 x.f5.f0, .int .i64 x.f5.f1, .bool x.f6, .bool x.f7, .bool x.f8, .int .i64 x.f9, .string x.f10, .string x.f11, .string x.f12, .int .i64 x.f13, .bool x.f14, .bool x.f15, .int .i64 x.f16.f0, .int .i64 x.f16.f1, .string x.f17, .int .i64 x.f18, .int .i64 x.f19, .int .i64 x.f20, .int .i64 x.f21, .int .i64 x.f22, .bool x.f23, .int .u64 x.f24, v27, .int .i64 x.f26, .string x.f27, .int .i64 x.f28, .int .i64 x.f29]
def kO (w : World) (x : S68) (v4 v27 : Value) : Prop := ∃ A4 c4 A27 c27, v4 = .slice A4 x.f4.length c4 ∧ v27 = .slice A27 x.f25.length c27 ∧ x.f4.length ≤ c4 ∧ k31.C w A4 x.f4.length x.f4 ∧ x.f25.length ≤ c27 ∧ k31.C w A27 x.f25.length x.f25
theorem kO_below {w w' : World} {x : S68} {v4 v27 : Value} (h : kO w x v4 v27) (hb : Below w.heap.size w w') : kO w' x v4 v27 := by
  obtain ⟨A4, c4, A27, c27, e4, e27, l4, g4, l27, g27⟩ := h
  exact ⟨A4, c4, A27, c27, e4, e27, l4, Kd.C_below g4 hb, l27, Kd.C_below g27 hb⟩
theorem K_kO {w : World} {x : S68} {cs : List Value} (h : k68.K w x cs) : ∃ v4 v27, cs = (cO x v4 v27).toList ∧ kO w x v4 v27 := by
  obtain ⟨A4, c4, A27, c27, rfl, l4, g4, l27, g27⟩ := k68_open h
  exact ⟨_, _, rfl, A4, c4, A27, c27, rfl, rfl, l4, g4, l27, g27⟩
theorem cO_size (x : S68) (v4 v27 : Value) : (cO x v4 v27).size = 32 := rfl
theorem cO_one {x : S68} {v4 v27 : Value} (h4 : v4.oneCell' = true) (h27 : v27.oneCell' = true) : (cO x v4 v27).toList.all (·.oneCell') = true := by
  simp only [cO, List.all_cons, List.all_nil, h4, h27, Bool.and_true, Bool.true_and]; rfl
theorem kO_one {w : World} {x : S68} {v4 v27 : Value} (h : kO w x v4 v27) : (cO x v4 v27).toList.all (·.oneCell') = true := by
  obtain ⟨A4, c4, A27, c27, rfl, rfl, -⟩ := h; exact cO_one rfl rfl
theorem load_obj {ops : Array Oper} {rest : List Oper} {o : Oper} {a : Act} {Q : Exit → Act → World → Prop} {W : World} {p : Operand} {g : Nat} {cs : Array Value} (ho : o.op = .load 68 p) (hgd : o.guard = none) (he : a.eval p = .pointer (some ⟨g, 0, none⟩)) (hb : W.heap[g]? = some (.cells cs 68 (0, 0))) (hs : cs.size = 32)
    (h : wpList Try.prog ops Q rest (a.put o.dst (.agg cs)) W) : wpList Try.prog ops Q (o :: rest) a W :=
  load_list (cs := cs.toList) hgd ho he Try.underlying68 rfl (by rw [Array.length_toList, hs]; exact size68) (fun j v hj => by
    have := blk_cell hb j
    unfold Addr.add
    by_cases h0 : j = 0
    · subst h0; rw [if_pos rfl, this]; simpa using hj
    · rw [if_neg h0, Nat.zero_add, this]; simpa using hj) (by rw [Array.toArray_toList]; exact h)
theorem load_obj_run {o : Oper} {a : Act} {W : World} {p : Operand} {g : Nat} {cs : Array Value} (ho : o.op = .load 68 p) (he : a.eval p = .pointer (some ⟨g, 0, none⟩)) (hb : W.heap[g]? = some (.cells cs 68 (0, 0))) (hs : cs.size = 32) :
    (execOp a.eval o).run Try.prog W = .ok (.value (.agg cs)) W := by
  have hl := run_loadVar_row (P := Try.prog) W g 68 68 cs (0, 0) _ hb Try.underlying68 rfl (by rw [hs]; exact size68)
  unfold execOp
  simp only [ho, he, Instr.loadAt, Instr.sureAddr, Sem.run_bind, Sem.run_pure, Result.andThen_ok, hl]
theorem at_cO {w : World} {A : Option Addr} {n : Nat} {xs : List S68} (h : k68.C w A n xs) (i : Nat) (hi : i < n) : ∃ ad v4 v27, A = some ad ∧ kO w (rd_T68 xs (i : Int)) v4 v27 ∧ w.cell? (ad.add (i * 32)) = some (.int .i64 (rd_T68 xs (i : Int)).f0) ∧ ∀ (j : Nat) (v : Value), 0 < j → (cO (rd_T68 xs (i : Int)) v4 v27)[j]? = some v → w.cell? ⟨(ad.add (i * 32)).block, (ad.add (i * 32)).off + j, none⟩ = some v := by
  obtain ⟨ad, cs, e, hcl, hK, hcells⟩ := Kd.C_get h z68 (i : Int) (by omega) (by omega)
  obtain ⟨v4, v27, rfl, hk⟩ := K_kO hK
  rw [Int.toNat_natCast] at hcells
  refine ⟨ad, v4, v27, e, hk, ?_, fun j v hj hv => ?_⟩
  · have := hcells 0 (.int .i64 (rd_T68 xs (i : Int)).f0) rfl
    rwa [Nat.add_zero] at this
  · have := hcells j v (by rw [Array.getElem?_toList]; exact hv)
    have he : ad.add (i * k68.sz + j) = ⟨(ad.add (i * 32)).block, (ad.add (i * 32)).off + j, none⟩ := by
      rw [show k68.sz = 32 from rfl, ← addr_add_add]
      generalize ad.add (i * 32) = b
      unfold Addr.add; rw [if_neg (by omega)]
    rwa [he] at this
theorem at_all {w : World} {A : Option Addr} {n : Nat} {xs : List S68} (h : k68.C w A n xs) (i : Nat) (hi : i < n) : ∃ ad v4 v27, A = some ad ∧ kO w (rd_T68 xs (i : Int)) v4 v27 ∧ (w.cell? (ad.add (i * 32)) = some (.int .i64 (rd_T68 xs (i : Int)).f0)) ∧ (∀ (j : Nat) (v : Value), 0 < j → (cO (rd_T68 xs (i : Int)) v4 v27)[j]? = some v → w.cell? ⟨(ad.add (i * 32)).block, (ad.add (i * 32)).off + j, none⟩ = some v) ∧ ∀ (j : Nat) (v : Value), (cO (rd_T68 xs (i : Int)) v4 v27).toList[j]? = some v → w.cell? ((ad.add (i * 32)).add j) = some v := by
  obtain ⟨ad, v4, v27, e, hk, h0, hj⟩ := at_cO h i hi
  refine ⟨ad, v4, v27, e, hk, h0, hj, fun j v hv => ?_⟩
  rw [Array.getElem?_toList] at hv
  by_cases hz : j = 0
  · subst hz
    have : v = .int .i64 (rd_T68 xs (i : Int)).f0 := by
      have e : (cO (rd_T68 xs (i : Int)) v4 v27)[0]? = some (.int .i64 (rd_T68 xs (i : Int)).f0) := rfl
      rw [e] at hv; injection hv with hv; exact hv.symm
    subst this
    rw [show (ad.add (i * 32)).add 0 = ad.add (i * 32) from by unfold Addr.add; simp]
    exact h0
  · have := hj j v (by omega) hv
    rwa [show (ad.add (i * 32)).add j = ⟨(ad.add (i * 32)).block, (ad.add (i * 32)).off + j, none⟩ from by
      generalize ad.add (i * 32) = b
      unfold Addr.add; rw [if_neg hz]]
theorem load_elem {ops : Array Oper} {rest : List Oper} {o : Oper} {a : Act} {Q : Exit → Act → World → Prop} {W : World} {p : Operand} {a' : Addr} {x : S68} {v4 v27 : Value} (ho : o.op = .load 68 p) (hgd : o.guard = none) (he : a.eval p = .pointer (some a'))
    (hall : ∀ (j : Nat) (v : Value), (cO x v4 v27).toList[j]? = some v → W.cell? (a'.add j) = some v) (h : wpList Try.prog ops Q rest (a.put o.dst (.agg (cO x v4 v27))) W) : wpList Try.prog ops Q (o :: rest) a W :=
  load_list (cs := (cO x v4 v27).toList) hgd ho he Try.underlying68 rfl (by rw [Array.length_toList, cO_size]; exact size68) hall (by rw [Array.toArray_toList]; exact h)
theorem load_elem_run {o : Oper} {a : Act} {W : World} {p : Operand} {a' : Addr} {x : S68} {v4 v27 : Value} (ho : o.op = .load 68 p) (he : a.eval p = .pointer (some a'))
    (hall : ∀ (j : Nat) (v : Value), (cO x v4 v27).toList[j]? = some v → W.cell? (a'.add j) = some v) : (execOp a.eval o).run Try.prog W = .ok (.value (.agg (cO x v4 v27))) W := by
  have hl := run_loadCells_list (P := Try.prog) W a' (cO x v4 v27).toList hall
  have hrun : (loadVar 68 a').run Try.prog W = .ok (.agg (cO x v4 v27)) W := by
    have hagg : (isAgg 68).run Try.prog W = .ok true W := by
      unfold isAgg
      rw [Sem.run_bind, run_underlying Try.underlying68 W]
      rfl
    cases hq : Try.prog.info? 68 with
    | none => have := size68; rw [hq] at this; cases this
    | some i =>
      have hs : i.size = 32 := by have := size68; rw [hq] at this; simpa using this
      have hn : (cO x v4 v27).toList.length = 32 := rfl
      rw [hn] at hl
      simp [loadVar, Sem.run_bind, hagg, sizeOf, typeInfo, hq, hs, hl]
  unfold execOp
  simp only [ho, he, Instr.loadAt, Instr.sureAddr, Sem.run_bind, Sem.run_pure, Result.andThen_ok, hrun]
theorem S_ending {w : World} {base : Nat} {ok : Nat → Prop} {g n cap : Nat} {xs : List S68} (h : Kd.S k68 68 w base ok (.slice (some ⟨g, 0, none⟩) n cap) xs) (i : Nat) (hi : i < n) :
    w.cell? ⟨g, i * 32 + 16, none⟩ = some (.bool (rd_T68 xs (i : Int)).f15) ∧ w.frozen? ⟨g, i * 32 + 16, none⟩ = false ∧ ∀ b : Bool, Kd.S k68 68 (w.setCell ⟨g, i * 32 + 16, none⟩ (.bool b)) base ok (.slice (some ⟨g, 0, none⟩) n cap) (xs.set i { rd_T68 xs (i : Int) with f15 := b }) := by
  obtain ⟨oki, ce, hcl, hM, hcc, hfr, hoki, hH⟩ := Kd.S_elem (Kd.S_mono (ok' := fun k_ => ok k_ ∧ ¬ (fun _ => False) k_) h (fun _ h_ => ⟨h_, fun e_ => e_⟩)) z68 (i : Int) (by omega) (by omega)
  rw [Int.toNat_natCast] at hcc hfr hM
  obtain ⟨v4, v27, rfl, g4, g27⟩ := k68_openM hM
  refine ⟨hcc 16 _ rfl, hfr 16, fun b => ?_⟩
  have := (Kd.S_seg hH (by omega) (by omega) (seg := [.bool b]) (j := 16) (show 17 ≤ 32 from by decide) (x' := { rd_T68 xs (i : Int) with f15 := b }) (okp := oki) (okg := fun _ => False) (k68_mkM _ _ _ { rd_T68 xs (i : Int) with f15 := b } g4 g27) (fun _ hk => Or.inl hk) (fun _ hk => hk.elim)).1
  rw [Int.toNat_natCast] at this
  exact this
theorem S_ready {w : World} {base : Nat} {ok : Nat → Prop} {g n cap : Nat} {xs : List S68} (h : Kd.S k68 68 w base ok (.slice (some ⟨g, 0, none⟩) n cap) xs) (i : Nat) (hi : i < n) :
    w.cell? ⟨g, i * 32 + 15, none⟩ = some (.bool (rd_T68 xs (i : Int)).f14) ∧ w.frozen? ⟨g, i * 32 + 15, none⟩ = false ∧ ∀ b : Bool, Kd.S k68 68 (w.setCell ⟨g, i * 32 + 15, none⟩ (.bool b)) base ok (.slice (some ⟨g, 0, none⟩) n cap) (xs.set i { rd_T68 xs (i : Int) with f14 := b }) := by
  obtain ⟨oki, ce, hcl, hM, hcc, hfr, hoki, hH⟩ := Kd.S_elem (Kd.S_mono (ok' := fun k_ => ok k_ ∧ ¬ (fun _ => False) k_) h (fun _ h_ => ⟨h_, fun e_ => e_⟩)) z68 (i : Int) (by omega) (by omega)
  rw [Int.toNat_natCast] at hcc hfr hM
  obtain ⟨v4, v27, rfl, g4, g27⟩ := k68_openM hM
  refine ⟨hcc 15 _ rfl, hfr 15, fun b => ?_⟩
  have := (Kd.S_seg hH (by omega) (by omega) (seg := [.bool b]) (j := 15) (show 16 ≤ 32 from by decide) (x' := { rd_T68 xs (i : Int) with f14 := b }) (okp := oki) (okg := fun _ => False) (k68_mkM _ _ _ { rd_T68 xs (i : Int) with f14 := b } g4 g27) (fun _ hk => Or.inl hk) (fun _ hk => hk.elim)).1
  rw [Int.toNat_natCast] at this
  exact this
theorem grown_seg (W : World) (g j : Nat) (vs : List Value) : W.grownBy (W.setCells g j vs) (some g) := by
  obtain ⟨q1, q2, q3, q4⟩ := setCells_same g vs j W
  exact ⟨q1, q2, q3, by rw [q4]; exact Nat.le_refl _, fun k hk hne => setCells_far vs _ k (fun e => hne (by rw [e]))⟩
def bigF (l0 l1 l2 l3 : List S68) : Bool := decide (l0.length > 300) || decide (l1.length > 300) || decide (l2.length > 300) || decide (l3.length > 300)
theorem bigF_is (l0 l1 l2 l3 : List S68) : flotillalaw16_big.f l0 l1 l2 l3 = some (bigF l0 l1 l2 l3) := by
  unfold flotillalaw16_big.f bigF
  by_cases h0 : l0.length > 300
  · rw [if_pos (by omega)]; simp [h0]
  · rw [if_neg (by omega)]
    by_cases h1 : l1.length > 300
    · rw [if_pos (by omega)]; simp [h1]
    · rw [if_neg (by omega)]
      by_cases h2 : l2.length > 300
      · rw [if_pos (by omega)]; simp [h2]
      · rw [if_neg (by omega)]
        by_cases h3 : l3.length > 300
        · simp [h3]; omega
        · simp [h0, h1, h2, h3]; omega
end Go.Proofs.Ytamjjeakkkdfhaa.G
end
section
namespace Go.Proofs.Ytamjjeakkkdfhaa.G
open Go.RowKit Go.Shelf Go.Proofs.YtamjjeakkkdfhaaW.PrintWords Go.Proofs.YtamjjeakkkdfhaaW.PrintLast Go.Proofs.YtamjjeakkkdfhaaW.PrintMore
open Go.Proofs.YtamjjeakkkdfhaaRF Go.Proofs.Ytamjjeakkkdfhaa.K Go.Proofs.YtamjjeakkkdfhaaE
set_option linter.unusedVariables false
set_option linter.unusedSimpArgs false
section
attribute [local go_sem high] eqA31
def eqL (x y : S31) : Bool := x.f0.toList == y.f0.toList && (x.f1.toList == y.f1.toList)
def comm (a b : List S31) : List S31 := a.filter fun x => b.any (eqL x)
theorem take_snoc_rd {xs : List S31} {k : Nat} (h : k < xs.length) : xs.take (k + 1) = xs.take k ++ [rd_T31 xs (k : Int)] := by
  rw [List.take_succ_eq_append_getElem h]; simp [rd_T31, List.getD_eq_getElem?_getD, h]
theorem comm_yes {a b : List S31} {k : Nat} (h : k < a.length) (hx : b.any (eqL (rd_T31 a (k : Int))) = true) : comm (a.take (k + 1)) b = comm (a.take k) b ++ [rd_T31 a (k : Int)] := by
  rw [take_snoc_rd h]; simp [comm, List.filter_append, List.filter_cons, hx]
theorem comm_no {a b : List S31} {k : Nat} (h : k < a.length) (hx : b.any (eqL (rd_T31 a (k : Int))) = false) : comm (a.take (k + 1)) b = comm (a.take k) b := by
  rw [take_snoc_rd h]; simp [comm, List.filter_append, List.filter_cons, hx]
theorem any_yes {b : List S31} {x : S31} {j : Nat} (h : j < b.length) (hx : eqL x (rd_T31 b (j : Int)) = true) : b.any (eqL x) = true := by
  rw [List.any_eq_true]; exact ⟨b[j], List.getElem_mem h, by simpa [rd_T31, List.getD_eq_getElem?_getD, h] using hx⟩
theorem any_no {b : List S31} {x : S31} {j : Nat} (h : j < b.length) (h0 : (b.take j).any (eqL x) = false) (hx : eqL x (rd_T31 b (j : Int)) = false) : (b.take (j + 1)).any (eqL x) = false := by
  rw [take_snoc_rd h, List.any_append, h0]; simp [hx]
theorem R_slice_snoc {α : Type} {d : Kd α} {e base : Nat} {ok : Nat → Prop} {w : World} {v : Value} {xs : List α} {x : α} (h : d.R e w base ok v (xs ++ [x])) : ∃ A c, v = .slice A (xs.length + 1) c := by
  obtain ⟨A, c, e⟩ := Kd.R_slice h
  exact ⟨A, c, by rw [e]; simp⟩
def BoxRow (bl : Nat) (w : World) (acc : List S31) : Prop := ∃ v, w.heap[bl]? = some (.cells #[v] 22 (0, 0)) ∧ Kd.R k31 31 w bl (fun _ => True) v acc
theorem BoxRow.below {bl : Nat} {w w' : World} {acc : List S31} (h : BoxRow bl w acc) (hb : Below w.heap.size w w') : BoxRow bl w' acc := by
  obtain ⟨v, h1, h2⟩ := h; exact ⟨v, blk_below h1 hb, Kd.R_below h2 hb⟩
set_option maxRecDepth 100000 in
set_option maxHeartbeats 2000000 in
theorem labels_Common.calls (A0 : Option Addr) (c0 : Nat) (l0 : List S31) (A1 : Option Addr) (c1 : Nat) (l1 : List S31) (w : World) (hr0 : k31.C w A0 l0.length l0) (hr1 : k31.C w A1 l1.length l1) (hz : l0.length * 32 ≤ 140737488351232) :
    Calls Try.prog 14 #[.slice A0 l0.length c0, .slice A1 l1.length c1] w fun e w' => e = .returned (.func (.func 73) #[] #[.pointer (some ⟨w.heap.size, 0, none⟩)]) ∧ BoxRow w.heap.size w' (comm l0 l1) ∧ Below w.heap.size w w' := by
  have hu_label := Try.underlying31
  have HR0 := Aside0.mk hr0
  have HR1 := Aside0.mk hr1
  have hl1 := hr1.2.1
  clear hr0 hr1
  go_enter Try.func14, Try.ntmps14
  go_wp2
  go_loopw [12] (fun i wr => ∃ k : Nat, k ≤ l0.length ∧ i = .int .i64 k ∧ Aside0 (BoxRow w.heap.size wr (comm (l0.take k) l1)) ∧ Aside0 (Below w.heap.size w wr)) (fun i _ => l0.length - (intOf i).toNat)
  case atStart => exact ⟨0, Nat.zero_le _, rfl, ⟨_, blk_new _ _, Kd.R_nil _ _ _ _ _⟩, ⟨below_alloc (Below.refl _ _) _⟩⟩
  case round =>
    obtain ⟨k, hk, rfl, HX, HB⟩ := hrel
    obtain ⟨wo, rfl⟩ : ∃ wo : World, wo = wr := ⟨_, rfl⟩
    by_cases hlt : k < l0.length
    · obtain ⟨ad, e, hx0, hx1⟩ := at_T31 HR0.out (k : Int) (by omega) (by omega)
      cases e
      simp only [Int.toNat_natCast] at hx0 hx1
      replace hx0 := (HB.out.cell (World.block_lt_of_cell? w _ hx0)).trans hx0
      replace hx1 := (HB.out.cell (World.block_lt_of_cell? w _ hx1)).trans hx1
      have HX1 := Aside0.mk (HX.out.below (below_alloc (Below.refl _ wo) (.cells #[.string (rd_T31 l0 k).f0, .string (rd_T31 l0 k).f1] 31)))
      have HB1 := Aside0.mk (below_alloc HB.out (.cells #[.string (rd_T31 l0 k).f0, .string (rd_T31 l0 k).f1] 31))
      go_wp2
      clear hx0 hx1 HX
      go_loopw [18] (fun j w2 => ∃ q : Nat, q ≤ l1.length ∧ j = .int .i64 q ∧ Aside0 (w2.heap[wo.heap.size]? = some (.cells #[.string (rd_T31 l0 k).f0, .string (rd_T31 l0 k).f1] 31 (0, 0))) ∧ Aside0 (BoxRow w.heap.size w2 (comm (l0.take k) l1)) ∧ Aside0 (Below w.heap.size w w2) ∧ Aside0 ((l1.take q).any (eqL (rd_T31 l0 k)) = false)) (fun j _ => l1.length - (intOf j).toNat)
      case atStart => exact ⟨0, Nat.zero_le _, rfl, ⟨blk_new _ _⟩, HX1, HB1, ⟨by simp⟩⟩
      case round =>
        clear HX1 HB1
        obtain ⟨q, hq, rfl, HX, HA, HB2, HN⟩ := hrel
        by_cases hlq : q < l1.length
        · obtain ⟨ae, e, hy0, hy1⟩ := at_T31 HR1.out (q : Int) (by omega) (by omega)
          cases e
          simp only [Int.toNat_natCast] at hy0 hy1
          replace hy0 := (HB2.out.cell (World.block_lt_of_cell? w _ hy0)).trans hy0
          replace hy1 := (HB2.out.cell (World.block_lt_of_cell? w _ hy1)).trans hy1
          have hx0 : wr.cell? ⟨wo.heap.size, 0, none⟩ = some (.string (rd_T31 l0 k).f0) := blk_cell HX.out 0
          have hx1 : wr.cell? ⟨wo.heap.size, 1, none⟩ = some (.string (rd_T31 l0 k).f1) := blk_cell HX.out 1
          obtain ⟨v, hv, hrow⟩ := HA.out
          have hc5 : wr.cell? ⟨w.heap.size, 0, none⟩ = some v := blk_cell hv 0
          have hf5 : wr.frozen? ⟨w.heap.size, 0, none⟩ = false := blk_frozen hv 0
          have hbo : wo.heap.size < wr.heap.size := blk_lt HX.out
          have hbl : w.heap.size < wr.heap.size := blk_lt hv
          by_cases he : eqL (rd_T31 l0 k) (rd_T31 l1 q) = true
          · have hb : ((rd_T31 l0 k).f0.toList == (rd_T31 l1 q).f0.toList && ((rd_T31 l0 k).f1.toList == (rd_T31 l1 q).f1.toList)) = true := he
            have HE := Aside0.mk he
            clear he
            have HR := Aside0.mk hrow
            have HV := Aside0.mk hv
            clear hrow hv HX HA
            have hlen : (comm (l0.take k) l1).length ≤ k := Nat.le_trans (List.length_filter_le _ _) (List.length_take_le _ _)
            have hany := Aside0.mk (comm_yes hlt (any_yes hlq HE.out))
            have R8 := Aside0.mk (Kd.R_alloc HR.out (.cells #[.string (rd_T31 l1 q).f0, .string (rd_T31 l1 q).f1] 31))
            have V8 := Aside0.mk (blk_alloc HV.out (.cells #[.string (rd_T31 l1 q).f0, .string (rd_T31 l1 q).f1] 31))
            have N8 := Kd.R_ne R8.out V8.out (by decide)
            go_wp2_with (at_builtin; refine hold ?_)
            refine Hold.intro ?_
            refine Kd.R_append k31 (w0 := w) w.heap.size rfl (.tmp 25) (.tmp 27) 22 31 (.agg #[(.string ⟨#[]⟩), (.string ⟨#[]⟩)]) 32 rfl Try.underlying22 info31 rfl (by decide) (by omega) v (comm (l0.take k) l1) (rd_T31 l0 k) [.string (rd_T31 l0 k).f0, .string (rd_T31 l0 k).f1] (fun _ => True) (fun _ => False) rfl (by show Value.slice (some ⟨wr.heap.size + 1, 0, none⟩) 1 1 = _; rw [World.size_alloc]) (k31_mkM _ _ _ _) (fun _ hk => hk.elim) (fun _ _ => trivial) R8.out (below_alloc HB2.out _) (below_size (below_alloc HB2.out _)) (by omega) ?_
            intro v2 w9 ho hb2 hg hat
            obtain ⟨A2, c2, rfl⟩ := R_slice_snoc ho
            have n0_ := Aside0.mk ho
            have n1_ := Aside0.mk hb2
            have hv9 := blk_grown V8.out hg N8
            have hc9 : w9.cell? ⟨w.heap.size, 0, none⟩ = some v := blk_cell hv9 0
            have hf9 : w9.frozen? ⟨w.heap.size, 0, none⟩ = false := blk_frozen hv9 0
            have n2_ := Aside0.mk hv9
            clear ho hb2 hg hat hv9 hc5 hf5
            go_wp2
            go_roundw
            case rel => exact ⟨k + 1, by omega, by simp, ⟨_, blk_put n2_.out 0 _ rfl, by rw [hany.out]; exact Kd.R_set n0_.out n2_.out (by decide) 0 _⟩, ⟨n1_.out.setCell (Nat.le_refl _) _⟩⟩
            case measure => simp [intOf]; omega
          · have hb : ((rd_T31 l0 k).f0.toList == (rd_T31 l1 q).f0.toList && ((rd_T31 l0 k).f1.toList == (rd_T31 l1 q).f1.toList)) = false := Bool.eq_false_iff.mpr he
            have HE := Aside0.mk (show eqL (rd_T31 l0 k) (rd_T31 l1 q) = false from hb)
            clear he
            have HA' := Aside0.mk (HA.out.below (below_alloc (Below.refl _ wr) (.cells #[.string (rd_T31 l1 q).f0, .string (rd_T31 l1 q).f1] 31)))
            have HX' := Aside0.mk (blk_alloc HX.out (.cells #[.string (rd_T31 l1 q).f0, .string (rd_T31 l1 q).f1] 31))
            have HB' := Aside0.mk (below_alloc HB2.out (.cells #[.string (rd_T31 l1 q).f0, .string (rd_T31 l1 q).f1] 31))
            clear hrow hv HX HA HB2
            go_wp2
            clear hb
            go_roundw
            case rel => exact ⟨q + 1, by omega, by simp, HX', HA', HB', ⟨any_no hlq HN.out HE.out⟩⟩
            case measure => simp [intOf]; omega
        · obtain rfl : q = l1.length := by omega
          have HA' := Aside0.mk (show BoxRow w.heap.size wr (comm (l0.take (k + 1)) l1) by rw [comm_no hlt (by simpa using HN.out)]; exact HA.out)
          clear HA HX
          go_wp2
          go_roundw
          case rel => exact ⟨k + 1, by omega, by simp, HA', HB2⟩
          case measure => simp [intOf]; omega
    · obtain rfl : k = l0.length := by omega
      go_wp2
      go_ret
      exact ⟨rfl, by simpa using HX.out, HB.out⟩
end
section
attribute [local go_sem] Oper.semAt_some
theorem add_block (a : Addr) (k : Nat) : (a.add k).block = a.block := by unfold Addr.add; split <;> rfl
theorem C_same {α : Type} {d : Kd α} (hd : ∀ {w w' : World} {x : α} {cs : List Value}, d.K w x cs → d.K w' x cs) {w w1 : World} {A : Option Addr} {n : Nat} {xs : List α} (h : d.C w A n xs)
    (hb : ∀ ad, A = some ad → 0 < n → w1.heap[ad.block]? = w.heap[ad.block]?) : d.C w1 A n xs :=
  ⟨h.1, h.2.1, fun hn => by
    obtain ⟨ad, e, hc⟩ := h.2.2 hn
    refine ⟨ad, e, fun j p hj => ?_⟩
    obtain ⟨c, hs, hr, hcell⟩ := hc j p hj
    refine ⟨c, hs, hd hr, fun i u hu => ?_⟩
    rw [← hcell i u hu]
    exact World.cell?_of_block (by rw [add_block]; exact hb ad e hn)⟩
theorem k31_flat {w w' : World} {x : S31} {cs : List Value} (h : k31.K w x cs) : k31.K w' x cs := h
theorem w1 {k n : Nat} (h : k < n) (hn : Aside0 (n ≤ 9223372036854775807)) : wrap64 ((k : Int) + 1) = ((k + 1 : Nat) : Int) := by have := hn.out; unfold wrap64; omega
def lab (x : S31) : Array Value := #[.agg #[.string x.f0, .string x.f1]]
def comS (B : Nat) (A : Option Addr) (n : Nat) (k : Nat) : Prop := k = B ∨ ∃ ad, A = some ad ∧ 0 < n ∧ k = ad.block
set_option maxRecDepth 100000 in
set_option maxHeartbeats 2000000 in
theorem labels_Common_1.iter (B : Nat) (A : Option Addr) (c : Nat) (xs : List S31) (w0 : World) (hB : w0.heap[B]? = some (.cells #[.slice A xs.length c] 22 (0, 0))) (hr : k31.C w0 A xs.length xs) :
    IterAt Try.prog 73 #[.pointer (some ⟨B, 0, none⟩)] (xs.map lab) (comS B A xs.length) (fun _ => False) 0 w0 := by
  intro l J Jx W hW hJ hJx hY h0
  have hlt : B < w0.heap.size := (Array.getElem?_eq_some_iff.1 hB).1
  have hB1 : W.heap[B]? = some (.cells #[.slice A xs.length c] 22 (0, 0)) := (hW.2 B (.inl rfl) hlt).trans hB
  have hr1 : k31.C W A xs.length xs := C_same k31_flat hr (fun ad e hn => by
    obtain ⟨ad', e', hc⟩ := hr.2.2 hn
    obtain rfl : ad' = ad := by rw [e] at e'; injection e' with e'; exact e'.symm
    obtain ⟨c', hs, _, hcell⟩ := hc 0 (xs[0]'hn) (by simp)
    have := World.block_lt_of_cell? w0 _ (hcell 0 (c'[0]'(by rw [hs]; decide)) (by simp))
    rw [add_block] at this
    exact hW.2 _ (.inr ⟨_, e, hn, rfl⟩) this)
  have hin : ∀ ad, A = some ad → 0 < xs.length → ad.block < W.heap.size := fun ad e hn => by
    obtain ⟨ad', e', hc⟩ := hr1.2.2 hn
    obtain rfl : ad' = ad := by rw [e] at e'; injection e' with e'; exact e'.symm
    obtain ⟨c', hs, _, hcell⟩ := hc 0 (xs[0]'hn) (by simp)
    have := World.block_lt_of_cell? W _ (hcell 0 (c'[0]'(by rw [hs]; decide)) (by simp))
    rwa [add_block] at this
  have hlen := hr.2.1
  clear hB hr hW
  have hcell : W.cell? ⟨B, 0, none⟩ = some (.slice A xs.length c) := by simp [World.cell?, hB1]
  refine callsIn_of_wp Try.func73 rfl trivial ?_ rfl
  simp only [Try.ntmps73, List.size_toArray, List.length_cons, List.length_nil, Nat.reduceAdd, Nat.reduceSub, Array.replicate_succ, Array.replicate_zero, List.push_toArray, List.append_toArray, List.nil_append, List.cons_append]
  gi_wp2
  gi_loopw [7] (fun i wr => ∃ k : Nat, k ≤ xs.length ∧ i = .int .i64 k ∧ Aside0 (J k wr) ∧ Aside0 (Keep (comS B A xs.length) W wr)) (fun i _ => xs.length - (intOf i).toNat)
  case atStart => exact ⟨0, Nat.zero_le _, rfl, ⟨h0⟩, ⟨Keep.refl _ _⟩⟩
  case round =>
    obtain ⟨k, hk, rfl, HJ, HK⟩ := hrel
    by_cases hlt' : k < xs.length
    · have hr2 : k31.C wr A xs.length xs := C_same k31_flat hr1 (fun ad e hn => HK.out.2 _ (.inr ⟨_, e, hn, rfl⟩) (hin ad e hn))
      obtain ⟨ad, e, hx0, hx1⟩ := at_T31 hr2 (k : Int) (by omega) (by omega)
      have hy0 := hY k (wr.alloc (.cells #[.string (rd_T31 xs k).f0, .string (rd_T31 xs k).f1] 31)) (lab (rd_T31 xs k)) (by rw [List.getElem?_map, List.getElem?_eq_getElem hlt']; simp [rd_T31, List.getD_eq_getElem?_getD, hlt']) (firm_alloc (hJ k) _ HJ.out) (by have := HK.out.1; simp; omega)
      obtain ⟨fn, tmps, assign, body, hy, hR⟩ := hy0
      simp only [lab] at hy
      clear hr2 hr1 hY h0 hin
      cases e
      simp only [Int.toNat_natCast] at hx0 hx1
      gi_wp2
      refine ⟨rfl, hR.mono ?_⟩
      rintro e W3 (⟨rfl, hJ3, hk3⟩ | ⟨rfl, hJx3⟩)
      · have HJ3 := Aside0.mk hJ3
        have HK3 := Aside0.mk hk3
        clear hJ3 hk3 hy hR
        gi_wp2
        go_roundw
        case rel => exact ⟨k + 1, by omega, by simp, HJ3, ⟨HK.out.trans ((Keep.grown (World.grownBy_alloc wr _ none) (fun r e => by cases e)).trans (HK3.out.mono (fun k h => .inl h)))⟩⟩
        case measure => simp [intOf]; omega
      · have HJ3 := Aside0.mk hJx3
        clear hJx3 hy hR
        gi_wp2
        refine bodyPost_ret (results_none rfl _ _ _) rfl ?_
        exact ⟨⟨_, rfl⟩, .inr ⟨k + 1, by simp; omega, HJ3.out⟩⟩
    · obtain rfl : k = xs.length := by omega
      gi_wp2
      go_end0
      exact ⟨⟨_, rfl⟩, .inl (by rw [List.length_map]; exact HJ.out)⟩
theorem eqB (a b : Nat) : ((a : Int) == (b : Int)) = decide (a = b) := by rw [Bool.eq_iff_iff]; simp; omega
def labels_Matches.f (l0 l1 : List S31) : Option Bool := if l0.length * 32 ≤ 140737488351232 then some (decide ((comm l0 l1).length = l0.length)) else none
set_option maxRecDepth 100000 in
set_option maxHeartbeats 2000000 in
theorem labels_Matches.calls (A0 : Option Addr) (c0 : Nat) (l0 : List S31) (A1 : Option Addr) (c1 : Nat) (l1 : List S31) (r : Bool) (w : World) (hr0 : k31.C w A0 l0.length l0) (hc0 : l0.length ≤ c0) (hr1 : k31.C w A1 l1.length l1) (hc1 : l1.length ≤ c1) (h : labels_Matches.f l0 l1 = some r) :
    Calls Try.prog 15 #[.slice A0 l0.length c0, .slice A1 l1.length c1] w fun e w' => e = .returned (.bool r) ∧ Below w.heap.size w w' := by
  unfold labels_Matches.f at h
  by_cases hz : l0.length * 32 ≤ 140737488351232
  · rw [if_pos hz] at h
    have HR := Aside0.mk (Option.some.inj h)
    clear h hc0 hc1
    have HR0 := Aside0.mk hr0
    have HR1 := Aside0.mk hr1
    clear hr0 hr1
    refine (callsIn_wide (n := 0)).1 ?_
    refine callsIn_of_wp_marks Try.func15 rfl trivial ?_
    simp only [Try.ntmps15, List.size_toArray, List.length_cons, List.length_nil, Nat.reduceAdd, Nat.reduceSub, Array.replicate_succ, Array.replicate_zero, List.push_toArray, List.append_toArray, List.nil_append, List.cons_append]
    gi_wp2_with (gi_at_call 14; refine hold ?_)
    refine ⟨trivial, rfl, (callsIn_wide.2 (labels_Common.calls A0 c0 l0 A1 c1 l1 _ (Kd.C_alloc HR0.out _) (Kd.C_alloc HR1.out _) hz)).mono ?_⟩
    rintro e w1 ⟨rfl, hx, hb⟩
    have hbn : w1.heap[w.heap.size]? = some (.cells #[.int .i64 0] 3 (0, 0)) := blk_below (blk_new w _) hb
    have HB1 := Aside0.mk (below_step (below_alloc (Below.refl _ w) _) hb)
    obtain ⟨v, hv, hrow⟩ := hx
    rw [World.size_alloc] at hv hrow
    have hbase := Kd.R_base hrow
    obtain ⟨A, c, rfl, hlc, hC⟩ := Kd.R_reads hrow
    have it := labels_Common_1.iter (w.heap.size + 1) A c (comm l0 l1) w1 hv hC
    have hge : ∀ k, comS (w.heap.size + 1) A (comm l0 l1).length k → w.heap.size + 1 ≤ k ∧ k < w1.heap.size := fun k hk => by
      rcases hk with rfl | ⟨ad, rfl, hn, rfl⟩
      · exact ⟨Nat.le_refl _, blk_lt hv⟩
      · refine ⟨hbase _ rfl, Kd.R_lt hrow _ rfl⟩
    have hlen : (comm l0 l1).length ≤ l0.length := List.length_filter_le _ _
    have HV := Aside0.mk hv
    clear hrow hv hbase hb
    gi_wp2
    have hns : w.heap.size < w1.heap.size := blk_lt hbn
    have firm : ∀ i : Nat, Firm (Its (fun _ => False) w1.heap.size (0 + 2)) (fun W => W.heap[w.heap.size]? = some (.cells #[.int .i64 i] 3 (0, 0)) ∧ Below w.heap.size w W) := fun i A B h st => by
      obtain ⟨row, hg, hr⟩ := st
      have hr' : ∀ r, row = some r → w1.heap.size ≤ r := fun r e => by
        rcases hr r e with h | ⟨h, _⟩
        · exact h.elim
        · exact h
      exact ⟨blk_grown h.1 hg (fun e => by have := hr' _ e.symm; omega), h.2.grown hg h.2.size (fun r e => by have := hr' r e; omega)⟩
    refine wpIn_range (gf := 73) (lb := #[.pointer (some ⟨w.heap.size + 1, 0, none⟩)]) rfl (enters_of Try.func73 (by kernel_rfl) rfl) it (fun k hk => (hge k hk).2) (fun k hk => hk.elim) (fun i x hx => by
        rw [List.getElem?_map] at hx
        obtain ⟨y, _, rfl⟩ := Option.map_eq_some_iff.1 hx
        rfl)
      (fun i W => W.heap[w.heap.size]? = some (.cells #[.int .i64 i] 3 (0, 0)) ∧ Below w.heap.size w W) (fun _ _ _ => False)
      (fun i a' W => i < (comm l0 l1).length ∧ (W.heap[w.heap.size]? = some (.cells #[.int .i64 i] 3 (0, 0)) ∧ Below w.heap.size w W) ∧ ∃ x : Value, a' = { tmps := #[.slice A0 l0.length c0, .slice A1 l1.length c1, undef, undef, .bool false, .pointer (some ⟨w.heap.size, 0, none⟩), .slice A0 l0.length c0, .slice A1 l1.length c1, .func (.func 73) #[] #[.pointer (some ⟨w.heap.size + 1, 0, none⟩)], x, undef, undef, undef, undef, undef, undef], defers := [] })
      firm (fun _ _ _ _ h _ => h) (fun i a' A B h st => ⟨h.1, firm i A B h.2.1 st, h.2.2⟩) ⟨hbn, HB1.out⟩ ?assign ?body ?done (fun _ _ _ _ h => h.elim)
    case assign =>
      intro l i W x K hx hI hz2 hK
      rw [List.getElem?_map] at hx
      obtain ⟨y, hy, rfl⟩ := Option.map_eq_some_iff.1 hx
      have hil := (List.getElem?_eq_some_iff.1 hy).1
      gi_wp2
      exact hK _ _ (Books.refl _ _) (Keep.refl _ _) ⟨by simpa using hil, hI, .agg #[.string y.f0, .string y.f1], by simp [lab]⟩
    case body =>
      rintro l i a' W hi ⟨hil, ⟨h1, h2⟩, x, rfl⟩ hz2
      have hc1 : W.cell? ⟨w.heap.size, 0, none⟩ = some (.int .i64 i) := blk_cell h1 0
      have hf1 : W.frozen? ⟨w.heap.size, 0, none⟩ = false := blk_frozen h1 0
      have H1 := Aside0.mk h1
      have H2 := Aside0.mk h2
      have Hge := Aside0.mk hge
      clear h1 h2 it hge firm
      gi_wp2
      refine ⟨Books.grown (grownBy_setCell' _ _ _) (fun r e => by cases e; omega), Keep.grown (grownBy_setCell' _ _ _) (fun r e hs => ?_), blk_put H1.out 0 _ (by simp), H2.out.setCell (Nat.le_refl _) _⟩
      cases e
      rcases hs with hs | ⟨hs, _⟩
      · have := (Hge.out _ hs).1; omega
      · omega
    case done =>
      rintro W ⟨h1, h2⟩ hd hz2
      have hc1 : W.cell? ⟨w.heap.size, 0, none⟩ = some (.int .i64 ((comm l0 l1).map lab).length) := blk_cell h1 0
      have hz3 : w1.heap.size < W.heap.size := by omega
      have H2 := Aside0.mk h2
      clear h1 h2 it firm hge
      gi_wp2
      refine ⟨by simp, .inl ⟨_, _, rfl, run_takeDeferred hd, ?_⟩⟩
      refine ⟨_, results_tmp rfl _ _ _, ?_, H2.out.grown (grownBy_putObj' _ _ _) H2.out.size (fun k e => by cases e; omega)⟩
      rw [← HR.out]
      exact congrArg (fun b => Ending.returned (Value.bool b)) (eqB _ _)
  · rw [if_neg hz] at h; exact absurd h (by simp)
end
end Go.Proofs.Ytamjjeakkkdfhaa.G
end
section
namespace Go.Proofs.Ytamjjeakkkdfhaa.G
open Go.RowKit Go.Proofs.YtamjjeakkkdfhaaW.PrintWords Go.Proofs.YtamjjeakkkdfhaaW.PrintLast Go.Proofs.YtamjjeakkkdfhaaW.PrintMore
open Go.Proofs.Ytamjjeakkkdfhaa.K Go.Proofs.YtamjjeakkkdfhaaE
set_option linter.unusedVariables false
set_option linter.unusedSimpArgs false
def matchL (sel l : List S31) : Bool := decide ((comm sel l).length = sel.length)
theorem matches_co (A0 : Option Addr) (c0 : Nat) (l0 : List S31) (A1 : Option Addr) (c1 : Nat) (l1 : List S31) (w : World) (hr0 : k31.C w A0 l0.length l0) (hc0 : l0.length ≤ c0) (hr1 : k31.C w A1 l1.length l1) (hc1 : l1.length ≤ c1) (hz : l0.length * 32 ≤ 140737488351232) :
    Calls Try.prog 15 #[.slice A0 l0.length c0, .slice A1 l1.length c1] w fun e w' => e = .returned (.bool (matchL l0 l1)) ∧ Below w.heap.size w w' :=
  labels_Matches.calls A0 c0 l0 A1 c1 l1 _ w hr0 hc0 hr1 hc1 (by unfold labels_Matches.f; rw [if_pos hz]; rfl)
def isGuard (sel : List S31) (x : S68) : Bool := x.f14 && (!x.f15 && matchL sel x.f4)
set_option maxRecDepth 100000 in
set_option maxHeartbeats 2000000 in
theorem Guarded_1 (B : Nat) (b : S68) (v4 v27 : Value) (w0 : World) (hB : w0.heap[B]? = some (.cells (cO b v4 v27) 68 (0, 0))) (hk : kO w0 b v4 v27) (hz : b.f25.length * 32 ≤ 140737488351232) : PredK 90 #[.pointer (some ⟨B, 0, none⟩)] (isGuard b.f25) w0 := by
  intro W x cs hW hK
  obtain ⟨x4, x27, rfl, hx⟩ := K_kO hK
  have HB := Aside0.mk (blk_below hB hW)
  have HKB := Aside0.mk (kO_below hk hW)
  have HKX := Aside0.mk hx
  have HZ := Aside0.mk hz
  clear hB hW hK hk hx hz
  have hu68 := Try.underlying68
  rw [Array.toArray_toList]
  go_enter Try.func90, Try.ntmps90
  go_wp2_with ((with_reducible refine gate_dst (N := 2) rfl ?_); refine hold ?_)
  refine Hold.intro ?_
  refine box_event (N := 2) (cs := cO x x4 x27) (t := 68) rfl rfl ?hs ?_
  case hs => unfold cO; first | (go_simp; done) | (go_simp; rfl)
  intro gx hg w1 hbox hb
  have HX := Aside0.mk hbox
  have HB1 := Aside0.mk hb
  clear hbox hb hg
  have hc15 : w1.cell? ⟨gx, 15, none⟩ = some (.bool x.f14) := (blk_cell HX.out 15).trans rfl
  have hc16 : w1.cell? ⟨gx, 16, none⟩ = some (.bool x.f15) := (blk_cell HX.out 16).trans rfl
  cases h14 : x.f14 with
  | false =>
    rw [h14] at hc15
    have HE := Aside0.mk (show isGuard b.f25 x = false by unfold isGuard; rw [h14]; rfl)
    clear h14
    go_wp2
    go_ret
    exact ⟨retB HE.out.symm, HB1.out⟩
  | true =>
    rw [h14] at hc15
    cases h15 : x.f15 with
    | true =>
      rw [h15] at hc16
      have HE := Aside0.mk (show isGuard b.f25 x = false by unfold isGuard; rw [h14, h15]; rfl)
      clear h14 h15
      go_wp2
      go_ret
      exact ⟨retB HE.out.symm, HB1.out⟩
    | false =>
      rw [h15] at hc16
      have HE := Aside0.mk (show isGuard b.f25 x = matchL b.f25 x.f4 by unfold isGuard; rw [h14, h15]; rfl)
      clear h14 h15
      obtain ⟨A4, c4, A27, c27, rfl, rfl, l4, g4, l27, g27⟩ := HKX.out
      obtain ⟨D4, d4, D27, d27, e4, e27, m4, h4, m27, h27⟩ := HKB.out
      subst e4 e27
      have G4 := Aside0.mk (Kd.C_below g4 HB1.out)
      have G27 := Aside0.mk (Kd.C_below h27 HB1.out)
      have L4 := Aside0.mk l4
      have L27 := Aside0.mk m27
      have hcb : w1.cell? ⟨B, 27, none⟩ = some (.slice D27 b.f25.length d27) := (blk_cell (blk_below HB.out HB1.out) 27).trans rfl
      have hcx : w1.cell? ⟨gx, 4, none⟩ = some (.slice A4 x.f4.length c4) := (blk_cell HX.out 4).trans rfl
      clear g4 h27 l4 m27 l27 g27 m4 h4
      go_wp2_with (go_at_call 15; refine hold ?_)
      refine Hold.intro ((matches_co _ _ b.f25 _ _ x.f4 _ G27.out L27.out G4.out L4.out HZ.out).mono ?_)
      rintro e w2 ⟨rfl, hb⟩
      have HB2 := Aside0.mk (below_step HB1.out hb)
      rw [← HE.out]
      clear hb HE hcb hcx hc15 hc16
      go_wp2
      go_ret
      exact ⟨rfl, HB2.out⟩
set_option maxRecDepth 100000 in
set_option maxHeartbeats 2000000 in
theorem guarded_co (A0 : Option Addr) (c0 : Nat) (l0 : List S68) (A1 : Option Addr) (c1 : Nat) (l1 : List S68) (A2 : Option Addr) (c2 : Nat) (l2 : List S68) (A3 : Option Addr) (c3 : Nat) (l3 : List S68) (b : S68) (v4 v27 : Value) (w : World) (hr1 : k68.C w A1 l1.length l1) (hk : kO w b v4 v27) (hz : b.f25.length * 32 ≤ 140737488351232) :
    Calls Try.prog 40 #[.agg #[.slice A0 l0.length c0, .slice A1 l1.length c1, .slice A2 l2.length c2, .slice A3 l3.length c3], .agg (cO b v4 v27)] w fun e w' => e = .returned (.int .i64 (countL (isGuard b.f25) l1)) ∧ Below w.heap.size w w' := by
  have HR := Aside0.mk hr1
  have HK := Aside0.mk hk
  have HZ := Aside0.mk hz
  clear hr1 hk hz
  have hu59 := Try.underlying59
  go_enter Try.func40, Try.ntmps40
  go_wp2_with ((with_reducible refine gate_dst (N := 2) rfl ?_); refine hold ?_)
  refine Hold.intro ?_
  refine box_event (N := 2) (cs := #[.slice A0 l0.length c0, .slice A1 l1.length c1, .slice A2 l2.length c2, .slice A3 l3.length c3]) (t := 59) rfl rfl ?hf ?_
  case hf => first | (go_simp; done) | (go_simp; rfl)
  intro gf hg w1 hbox hb
  have HF := Aside0.mk hbox
  have HB1 := Aside0.mk hb
  clear hbox hb hg
  go_wp2_with ((with_reducible refine gate_dst (N := 3) rfl ?_); refine hold ?_)
  refine Hold.intro ?_
  refine box_event (N := 3) (cs := cO b v4 v27) (t := 68) rfl rfl ?hs ?_
  case hs => unfold cO; first | (go_simp; done) | (go_simp; rfl)
  intro gb hg w2 hbox hb
  have HX := Aside0.mk hbox
  replace HF := Aside0.mk (blk_below HF.out hb)
  have HB2 := Aside0.mk (below_step HB1.out hb)
  clear hbox hb hg HB1
  have hc1 : w2.cell? ⟨gf, 1, none⟩ = some (.slice A1 l1.length c1) := (blk_cell HF.out 1).trans rfl
  go_wp2_with (go_at_call 85; refine hold ?_)
  refine Hold.intro ((rules_count_obj.calls A1 c1 l1 90 #[.pointer (some ⟨gb, 0, none⟩)] (isGuard b.f25) w2 (Kd.C_below HR.out HB2.out) (Guarded_1 gb b v4 v27 w2 HX.out (kO_below HK.out HB2.out) HZ.out) (enters_of Try.func90 (by kernel_rfl) rfl)).mono ?_)
  rintro e w3 ⟨rfl, hb⟩
  have HB3 := Aside0.mk (below_step HB2.out hb)
  clear hb HB2 hc1
  go_wp2
  go_ret
  exact ⟨rfl, HB3.out⟩
end Go.Proofs.Ytamjjeakkkdfhaa.G
end
