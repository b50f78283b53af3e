/- Parts of the proof of RulesSurge: lemmas, put together by a program of this session (pack.py) out of the kit's words, printed contracts and texts of its own. -/
import Derived.Test.YtamjjeakkkdfhaaProg
import Derived.Below
import Derived.Deep.Draws
import Derived.Deep.AppendLies
import Derived.Maps.AppendAt
import Derived.OwnWalk
import Derived.Laws.BytesArg
import Derived.Laws.MakeOwn
import Derived.Laws.OwnMore
import Derived.Deep.OwnRows
import Derived.Tactics
import Derived.Lib.ConvBytes
import Derived.Laws.Slices
import Derived.WalkKit
import Derived.KernelRfl
import Derived.RowKit3
import Derived.Deep.LoopGhost
import Derived.Deep.QuietTactic
import Derived.BigQuiet
import Derived.WideLaws
import Derived.Deep.DeepCutAuto
import Derived.Deep.CutBlock
import Derived.Deep.RegionHeld3
import Derived.Laws.Rows
import Derived.Lib.AppendStr
import Derived.ArgAppend
import Derived.Laws.IdiomCopy
import Derived.OrdersHeld
import Derived.Laws.BitsLemmas
import Derived.RowKit
import Derived.Laws.StructEq
import Derived.RangeFuncNested
import Derived.RangeFuncBound
import Derived.RangeFuncCalls
import Derived.RangeFuncLeaves
import Derived.Shelf.Abstract
import Derived.Shelf.RegionOpen
import Derived.OwnWalkIn
import Derived.TacticsInMore
import Derived.LoopNIn
import Derived.LoopIn
import Derived.Maps.Own
import Derived.Maps.OwnOps
import Derived.Maps.Views
import Derived.StringKeys
import Derived.ChangeArms
import Derived.SizedLaws
import Derived.SliceStrings
import Derived.Test.YtamjjeakkkdfhaaZRulesSurgea
import Derived.Test.YtamjjeakkkdfhaaZRulesSurgeb
import Derived.Test.YtamjjeakkkdfhaaZRulesSurgec
import Derived.Test.YtamjjeakkkdfhaaZRulesSurged
import Derived.Test.YtamjjeakkkdfhaaZRulesSurgee
namespace Foot
end Foot
namespace Go.Proofs.Ytamjjeakkkdfhaa
end Go.Proofs.Ytamjjeakkkdfhaa
namespace Go.Proofs.Ytamjjeakkkdfhaa.G
end Go.Proofs.Ytamjjeakkkdfhaa.G
namespace Go.Proofs.Ytamjjeakkkdfhaa.K
end Go.Proofs.Ytamjjeakkkdfhaa.K
namespace Go.Proofs.Ytamjjeakkkdfhaa.OP
end Go.Proofs.Ytamjjeakkkdfhaa.OP
namespace Go.Proofs.Ytamjjeakkkdfhaa.PB
end Go.Proofs.Ytamjjeakkkdfhaa.PB
namespace Go.Proofs.Ytamjjeakkkdfhaa.PC
end Go.Proofs.Ytamjjeakkkdfhaa.PC
namespace Go.Proofs.Ytamjjeakkkdfhaa.PD
end Go.Proofs.Ytamjjeakkkdfhaa.PD
namespace Go.Proofs.Ytamjjeakkkdfhaa.rulesSurge
end Go.Proofs.Ytamjjeakkkdfhaa.rulesSurge
namespace Go.Proofs.YtamjjeakkkdfhaaE
end Go.Proofs.YtamjjeakkkdfhaaE
namespace Go.Proofs.YtamjjeakkkdfhaaRF
end Go.Proofs.YtamjjeakkkdfhaaRF
namespace Go.Proofs.YtamjjeakkkdfhaaW.PrintLast
end Go.Proofs.YtamjjeakkkdfhaaW.PrintLast
namespace Go.Proofs.YtamjjeakkkdfhaaW.PrintMore
end Go.Proofs.YtamjjeakkkdfhaaW.PrintMore
namespace Go.Proofs.YtamjjeakkkdfhaaW.PrintWords
end Go.Proofs.YtamjjeakkkdfhaaW.PrintWords
namespace Kd
end Kd
section
namespace Go.Proofs.Ytamjjeakkkdfhaa.PB
end Go.Proofs.Ytamjjeakkkdfhaa.PB
namespace Go.Proofs.Ytamjjeakkkdfhaa.PC
open Go.RowKit Go.Proofs.YtamjjeakkkdfhaaW.PrintWords Go.Proofs.YtamjjeakkkdfhaaW.PrintLast Go.Proofs.YtamjjeakkkdfhaaW.PrintMore
open Go.Proofs.Ytamjjeakkkdfhaa.K Go.Proofs.Ytamjjeakkkdfhaa.G Go.Proofs.YtamjjeakkkdfhaaE Go.Proofs.Ytamjjeakkkdfhaa.PB
attribute [local go_sem] max2_int min2_int max_two min_two max_three min_three max_four min_four
set_option linter.unusedVariables false
set_option linter.unusedSimpArgs false
def rules_Spawn.f (l0_0 : List (S68)) (l0_1 : List (S68)) (l0_2 : List (S68)) (l0_3 : List (S68)) (a1_0 : Int) (a1_1 : ByteArray) (a1_2 : Int) (a1_3 : Int) (l1_4 : List (S31)) (a1_5 : Int) (a1_6 : Int) (a1_7 : Bool) (a1_8 : Bool) (a1_9 : Bool) (a1_10 : Int) (a1_11 : ByteArray) (a1_12 : ByteArray) (a1_13 : ByteArray) (a1_14 : Int) (a1_15 : Bool) (a1_16 : Bool) (a1_17 : Int) (a1_18 : Int) (a1_19 : ByteArray) (a1_20 : Int) (a1_21 : Int) (a1_22 : Int) (a1_23 : Int) (a1_24 : Int) (a1_25 : Bool) (a1_26 : Int) (l1_27 : List (S31)) (a1_28 : Int) (a1_29 : ByteArray) (a1_30 : Int) (a1_31 : Int) : Option (Option Int) := (rules_find.f l0_2 a1_11).bind fun bt231 => (if bt231.2.2.2.2.2.2.2.2.2.2.2.2.2.2.2.2.2.2.2.2.2.2.2.2.2.2.2.2.2.2 = true then ((rules_Owned.f l0_0 l0_1 l0_2 l0_3 bt231.2.1).bind fun t271 => ((rules_held.f bt231.2.2.2.2.2.2.2.2.2.2.2.2.2.2.2.2.2.2.2.2.2.1).bind fun t272 => ((rules_held.f bt231.2.2.2.2.2.2.2.2.2.2.2.2.2.2.2.2.2.2.2.2.2.2.1).bind fun t273 => (if t271 ≥ (wrap64 (t272 + t273)) then (some (some 20)) else (some none))))) else (some (some 10)))
def rules_Spawn.T4 : Bool × List (List Nat × List Nat) := (true, [([], []), ([], []), ([1], [1]), ([0, 2], [0, 2]), ([], []), ([4], [4]), ([5, 3], [5]), ([], []), ([7], [7]), ([8, 6], [8]), ([6, 9], [6, 9]), ([3, 10], [3, 10])])
def rules_Spawn.B4 : List Nat := [0, 0, 2, 7, 0, 16, 63, 0, 128, 511, 1023, 2047]
theorem rules_Spawn.tab4 : rtab .any (opsOf Try.f60 4) = rules_Spawn.T4 := by kernel_rfl
theorem rules_Spawn.bits4 : waitsOk rules_Spawn.T4.2 rules_Spawn.B4 = true := by kernel_rfl
set_option maxHeartbeats 8000000 in
set_option maxRecDepth 100000 in
theorem rules_Spawn.calls (A0_0 : Option Addr) (c0_0 : Nat) (l0_0 : List (S68)) (A0_1 : Option Addr) (c0_1 : Nat) (l0_1 : List (S68)) (A0_2 : Option Addr) (c0_2 : Nat) (l0_2 : List (S68)) (A0_3 : Option Addr) (c0_3 : Nat) (l0_3 : List (S68)) (a1_0 : Int) (a1_1 : ByteArray) (a1_2 : Int) (a1_3 : Int) (A1_4 : Option Addr) (c1_4 : Nat) (l1_4 : List (S31)) (a1_5 : Int) (a1_6 : Int) (a1_7 : Bool) (a1_8 : Bool) (a1_9 : Bool) (a1_10 : Int) (a1_11 : ByteArray) (a1_12 : ByteArray) (a1_13 : ByteArray) (a1_14 : Int) (a1_15 : Bool) (a1_16 : Bool) (a1_17 : Int) (a1_18 : Int) (a1_19 : ByteArray) (a1_20 : Int) (a1_21 : Int) (a1_22 : Int) (a1_23 : Int) (a1_24 : Int) (a1_25 : Bool) (a1_26 : Int) (A1_27 : Option Addr) (c1_27 : Nat) (l1_27 : List (S31)) (a1_28 : Int) (a1_29 : ByteArray) (a1_30 : Int) (a1_31 : Int) (r : Option Int) (w : World) (hr0_0 : Kd.C k68 w A0_0 l0_0.length l0_0) (hc0_0 : l0_0.length ≤ c0_0) (hr0_1 : Kd.C k68 w A0_1 l0_1.length l0_1) (hc0_1 : l0_1.length ≤ c0_1) (hr0_2 : Kd.C k68 w A0_2 l0_2.length l0_2) (hc0_2 : l0_2.length ≤ c0_2) (hr0_3 : Kd.C k68 w A0_3 l0_3.length l0_3) (hc0_3 : l0_3.length ≤ c0_3) (hr1_4 : Kd.C k31 w A1_4 l1_4.length l1_4) (hc1_4 : l1_4.length ≤ c1_4) (hr1_27 : Kd.C k31 w A1_27 l1_27.length l1_27) (hc1_27 : l1_27.length ≤ c1_27) (h : rules_Spawn.f l0_0 l0_1 l0_2 l0_3 a1_0 a1_1 a1_2 a1_3 l1_4 a1_5 a1_6 a1_7 a1_8 a1_9 a1_10 a1_11 a1_12 a1_13 a1_14 a1_15 a1_16 a1_17 a1_18 a1_19 a1_20 a1_21 a1_22 a1_23 a1_24 a1_25 a1_26 l1_27 a1_28 a1_29 a1_30 a1_31 = some r) :
    Calls Try.prog 60 #[.agg #[.slice A0_0 l0_0.length c0_0, .slice A0_1 l0_1.length c0_1, .slice A0_2 l0_2.length c0_2, .slice A0_3 l0_3.length c0_3], .agg #[.int .i64 a1_0, .string a1_1, .int .i64 a1_2, .int .i64 a1_3, .slice A1_4 l1_4.length c1_4, .int .i64 a1_5, .int .i64 a1_6, .bool a1_7, .bool a1_8, .bool a1_9, .int .i64 a1_10, .string a1_11, .string a1_12, .string a1_13, .int .i64 a1_14, .bool a1_15, .bool a1_16, .int .i64 a1_17, .int .i64 a1_18, .string a1_19, .int .i64 a1_20, .int .i64 a1_21, .int .i64 a1_22, .int .i64 a1_23, .int .i64 a1_24, .bool a1_25, .int .u64 a1_26, .slice A1_27 l1_27.length c1_27, .int .i64 a1_28, .string a1_29, .int .i64 a1_30, .int .i64 a1_31]] w fun e w' => e = .returned (errW r) ∧ Below w.heap.size w w' := by
  have hu59 := Try.underlying59
  have hu68 := Try.underlying68
  have hu52 := Try.underlying52
  have hu114 := Try.underlying114
  have HR0_0 := Aside0.mk hr0_0
  have HC0_0 := Aside0.mk hc0_0
  clear hr0_0 hc0_0
  have HR0_1 := Aside0.mk hr0_1
  have HC0_1 := Aside0.mk hc0_1
  clear hr0_1 hc0_1
  have HR0_2 := Aside0.mk hr0_2
  have HC0_2 := Aside0.mk hc0_2
  clear hr0_2 hc0_2
  have HR0_3 := Aside0.mk hr0_3
  have HC0_3 := Aside0.mk hc0_3
  clear hr0_3 hc0_3
  have HR1_4 := Aside0.mk hr1_4
  have HC1_4 := Aside0.mk hc1_4
  clear hr1_4 hc1_4
  have HR1_27 := Aside0.mk hr1_27
  have HC1_27 := Aside0.mk hc1_27
  clear hr1_27 hc1_27
  have HB := Aside0.mk (Below.refl w.heap.size w)
  have H : ((rules_find.f l0_2 a1_11).bind fun bt231 => (if bt231.2.2.2.2.2.2.2.2.2.2.2.2.2.2.2.2.2.2.2.2.2.2.2.2.2.2.2.2.2.2 = true then ((rules_Owned.f l0_0 l0_1 l0_2 l0_3 bt231.2.1).bind fun t271 => ((rules_held.f bt231.2.2.2.2.2.2.2.2.2.2.2.2.2.2.2.2.2.2.2.2.2.1).bind fun t272 => ((rules_held.f bt231.2.2.2.2.2.2.2.2.2.2.2.2.2.2.2.2.2.2.2.2.2.2.1).bind fun t273 => (if t271 ≥ (wrap64 (t272 + t273)) then (some (some 20)) else (some none))))) else (some (some 10)))) = some r := h
  clear h
  replace H := Option.bind_eq_some_iff.mp H
  obtain ⟨⟨t231, t232, t233, t234, t238, t239, t240, t241, t242, t243, t244, t245, t246, t247, t248, t249, t250, t251, t252, t253, t254, t255, t256, t257, t258, t259, t263, t264, t265, t266, t269⟩, A30, H⟩ := H
  replace H : (if t269 = true then ((rules_Owned.f l0_0 l0_1 l0_2 l0_3 t232).bind fun t271 => ((rules_held.f t255).bind fun t272 => ((rules_held.f t256).bind fun t273 => (if t271 ≥ (wrap64 (t272 + t273)) then (some (some 20)) else (some none))))) else (some (some 10))) = some r := H
  have A3 := Aside0.mk A30
  clear A30
  by_cases c4 : t269 = true
  · subst c4
    have H1 : ((rules_Owned.f l0_0 l0_1 l0_2 l0_3 t232).bind fun t271 => ((rules_held.f t255).bind fun t272 => ((rules_held.f t256).bind fun t273 => (if t271 ≥ (wrap64 (t272 + t273)) then (some (some 20)) else (some none))))) = some r := by rw [if_pos rfl] at H; exact H
    clear H
    have H := H1
    clear H1
    replace H := Option.bind_eq_some_iff.mp H
    obtain ⟨t271, A50, H⟩ := H
    replace H : ((rules_held.f t255).bind fun t272 => ((rules_held.f t256).bind fun t273 => (if t271 ≥ (wrap64 (t272 + t273)) then (some (some 20)) else (some none)))) = some r := H
    have A5 := Aside0.mk A50
    clear A50
    replace H := Option.bind_eq_some_iff.mp H
    obtain ⟨t272, A60, H⟩ := H
    replace H : ((rules_held.f t256).bind fun t273 => (if t271 ≥ (wrap64 (t272 + t273)) then (some (some 20)) else (some none))) = some r := H
    have A6 := Aside0.mk A60
    clear A60
    replace H := Option.bind_eq_some_iff.mp H
    obtain ⟨t273, A70, H⟩ := H
    replace H : (if t271 ≥ (wrap64 (t272 + t273)) then (some (some 20)) else (some none)) = some r := H
    have A7 := Aside0.mk A70
    clear A70
    by_cases c8 : t271 ≥ (wrap64 (t272 + t273))
    · rw [if_pos c8] at H
      have c8b0 : decide ((wrap64 (t272 + t273)) ≤ t271) = true := decide_eq_true c8
      clear c8
      obtain rfl := Option.some.inj H
      go_enter Try.func60, Try.ntmps60
      try go_wp2_with (first | ((with_reducible refine gate_dst (N := 2) rfl ?_); refine box_event ?hg (N := 2) ?hd (cs := #[.slice A0_0 l0_0.length c0_0, .slice A0_1 l0_1.length c0_1, .slice A0_2 l0_2.length c0_2, .slice A0_3 l0_3.length c0_3]) (t := 59) ?hr ?_; (case hd => rfl); (case hg => rfl); (case hr => first | (go_simp; done) | (go_simp; rfl)); intro gb229 hg w9 hbox hb; have n0_ := Aside0.mk (below_step (by repeat (first | (with_reducible first | exact HB.out | apply below_alloc | apply pw_below_drewN | apply below_drew1) | exact HB.out)) hb); have n1_ := Aside0.mk (hbox); have n2_ := Aside0.mk ((by rw [hg]; exact (below_size (by repeat (first | (with_reducible first | exact HB.out | apply below_alloc | apply pw_below_drewN | apply below_drew1) | exact HB.out))) : w.heap.size ≤ gb229)); have n3_ := Aside0.mk ((by rw [hg]; exact (below_size (by repeat (first | (with_reducible first | exact HB.out | apply below_alloc | apply pw_below_drewN | apply below_drew1) | exact HB.out))) : w.heap.size ≤ gb229)); clear HB; have HB := n0_; have BK229 := n1_; have GW229 := n2_; have GE229 := n3_; clear n0_ n1_ n2_ n3_; clear hb hbox hg) | ((with_reducible refine gate_dst (N := 3) rfl ?_); refine box_event ?hg (N := 3) ?hd (cs := #[.int .i64 a1_0, .string a1_1, .int .i64 a1_2, .int .i64 a1_3, .slice A1_4 l1_4.length c1_4, .int .i64 a1_5, .int .i64 a1_6, .bool a1_7, .bool a1_8, .bool a1_9, .int .i64 a1_10, .string a1_11, .string a1_12, .string a1_13, .int .i64 a1_14, .bool a1_15, .bool a1_16, .int .i64 a1_17, .int .i64 a1_18, .string a1_19, .int .i64 a1_20, .int .i64 a1_21, .int .i64 a1_22, .int .i64 a1_23, .int .i64 a1_24, .bool a1_25, .int .u64 a1_26, .slice A1_27 l1_27.length c1_27, .int .i64 a1_28, .string a1_29, .int .i64 a1_30, .int .i64 a1_31]) (t := 68) ?hr ?_; (case hd => rfl); (case hg => rfl); (case hr => first | (go_simp; done) | (go_simp; rfl)); intro gb230 hg w10 hbox hb; have n0_ := Aside0.mk (blk_below (g := gb229) (o := .cells #[.slice A0_0 l0_0.length c0_0, .slice A0_1 l0_1.length c0_1, .slice A0_2 l0_2.length c0_2, .slice A0_3 l0_3.length c0_3] 59 (0, 0)) (by (with_reducible repeat (first | refine blk_drewN ?_ _ | refine blk_drew ?_ | refine blk_alloc ?_ _)); exact BK229.out) hb); have n1_ := Aside0.mk (below_step (by repeat (first | (with_reducible first | exact HB.out | apply below_alloc | apply pw_below_drewN | apply below_drew1 | refine below_set ?_ GE229.out) | exact HB.out)) hb); have n2_ := Aside0.mk (hbox); have n3_ := Aside0.mk ((by rw [hg]; exact (below_size (by repeat (first | (with_reducible first | exact HB.out | apply below_alloc | apply pw_below_drewN | apply below_drew1 | refine below_set ?_ GE229.out) | exact HB.out))) : w.heap.size ≤ gb230)); have n4_ := Aside0.mk ((by rw [hg]; exact (below_size (by repeat (first | (with_reducible first | exact HB.out | apply below_alloc | apply pw_below_drewN | apply below_drew1 | refine below_set ?_ GE229.out) | exact HB.out))) : w.heap.size ≤ gb230)); have n5_ := Aside0.mk ((by rw [hg]; exact Nat.ne_of_lt (blk_lt (g := gb229) (o := .cells #[.slice A0_0 l0_0.length c0_0, .slice A0_1 l0_1.length c0_1, .slice A0_2 l0_2.length c0_2, .slice A0_3 l0_3.length c0_3] 59 (0, 0)) (by (with_reducible repeat (first | refine blk_drewN ?_ _ | refine blk_drew ?_ | refine blk_alloc ?_ _)); exact BK229.out)) : gb229 ≠ gb230)); have n6_ := Aside0.mk ((by rw [hg]; exact Nat.ne_of_gt (blk_lt (g := gb229) (o := .cells #[.slice A0_0 l0_0.length c0_0, .slice A0_1 l0_1.length c0_1, .slice A0_2 l0_2.length c0_2, .slice A0_3 l0_3.length c0_3] 59 (0, 0)) (by (with_reducible repeat (first | refine blk_drewN ?_ _ | refine blk_drew ?_ | refine blk_alloc ?_ _)); exact BK229.out)) : gb230 ≠ gb229)); clear BK229; clear HB; have BK229 := n0_; have HB := n1_; have BK230 := n2_; have GW230 := n3_; have GE230 := n4_; have NB229_230 := n5_; have NB230_229 := n6_; clear n0_ n1_ n2_ n3_ n4_ n5_ n6_; clear hb hbox hg; have hnb11 := NB229_230.out; have hnc11 := NB230_229.out; have hcz12_0 : w10.cell? ⟨gb229, 0, none⟩ = some (.slice A0_0 l0_0.length c0_0) := (blk_cell BK229.out 0).trans rfl; have hcz12_1 : w10.cell? ⟨gb229, 1, none⟩ = some (.slice A0_1 l0_1.length c0_1) := (blk_cell BK229.out 1).trans rfl; have hcz12_2 : w10.cell? ⟨gb229, 2, none⟩ = some (.slice A0_2 l0_2.length c0_2) := (blk_cell BK229.out 2).trans rfl; have hcz12_3 : w10.cell? ⟨gb229, 3, none⟩ = some (.slice A0_3 l0_3.length c0_3) := (blk_cell BK229.out 3).trans rfl; have hfz12_0 := blk_frozen BK229.out 0; have hfz12_1 := blk_frozen BK229.out 1; have hfz12_2 := blk_frozen BK229.out 2; have hfz12_3 := blk_frozen BK229.out 3; have hcz13_0 : w10.cell? ⟨gb230, 0, none⟩ = some (.int .i64 a1_0) := (blk_cell BK230.out 0).trans rfl; have hcz13_1 : w10.cell? ⟨gb230, 1, none⟩ = some (.string a1_1) := (blk_cell BK230.out 1).trans rfl; have hcz13_2 : w10.cell? ⟨gb230, 2, none⟩ = some (.int .i64 a1_2) := (blk_cell BK230.out 2).trans rfl; have hcz13_3 : w10.cell? ⟨gb230, 3, none⟩ = some (.int .i64 a1_3) := (blk_cell BK230.out 3).trans rfl; have hcz13_4 : w10.cell? ⟨gb230, 4, none⟩ = some (.slice A1_4 l1_4.length c1_4) := (blk_cell BK230.out 4).trans rfl; have hcz13_5 : w10.cell? ⟨gb230, 5, none⟩ = some (.int .i64 a1_5) := (blk_cell BK230.out 5).trans rfl; have hcz13_6 : w10.cell? ⟨gb230, 6, none⟩ = some (.int .i64 a1_6) := (blk_cell BK230.out 6).trans rfl; have hcz13_7 : w10.cell? ⟨gb230, 7, none⟩ = some (.bool a1_7) := (blk_cell BK230.out 7).trans rfl; have hcz13_8 : w10.cell? ⟨gb230, 8, none⟩ = some (.bool a1_8) := (blk_cell BK230.out 8).trans rfl; have hcz13_9 : w10.cell? ⟨gb230, 9, none⟩ = some (.bool a1_9) := (blk_cell BK230.out 9).trans rfl; have hcz13_10 : w10.cell? ⟨gb230, 10, none⟩ = some (.int .i64 a1_10) := (blk_cell BK230.out 10).trans rfl; have hcz13_11 : w10.cell? ⟨gb230, 11, none⟩ = some (.string a1_11) := (blk_cell BK230.out 11).trans rfl; have hcz13_12 : w10.cell? ⟨gb230, 12, none⟩ = some (.string a1_12) := (blk_cell BK230.out 12).trans rfl; have hcz13_13 : w10.cell? ⟨gb230, 13, none⟩ = some (.string a1_13) := (blk_cell BK230.out 13).trans rfl; have hcz13_14 : w10.cell? ⟨gb230, 14, none⟩ = some (.int .i64 a1_14) := (blk_cell BK230.out 14).trans rfl; have hcz13_15 : w10.cell? ⟨gb230, 15, none⟩ = some (.bool a1_15) := (blk_cell BK230.out 15).trans rfl; have hcz13_16 : w10.cell? ⟨gb230, 16, none⟩ = some (.bool a1_16) := (blk_cell BK230.out 16).trans rfl; have hcz13_17 : w10.cell? ⟨gb230, 17, none⟩ = some (.int .i64 a1_17) := (blk_cell BK230.out 17).trans rfl; have hcz13_18 : w10.cell? ⟨gb230, 18, none⟩ = some (.int .i64 a1_18) := (blk_cell BK230.out 18).trans rfl; have hcz13_19 : w10.cell? ⟨gb230, 19, none⟩ = some (.string a1_19) := (blk_cell BK230.out 19).trans rfl; have hcz13_20 : w10.cell? ⟨gb230, 20, none⟩ = some (.int .i64 a1_20) := (blk_cell BK230.out 20).trans rfl; have hcz13_21 : w10.cell? ⟨gb230, 21, none⟩ = some (.int .i64 a1_21) := (blk_cell BK230.out 21).trans rfl; have hcz13_22 : w10.cell? ⟨gb230, 22, none⟩ = some (.int .i64 a1_22) := (blk_cell BK230.out 22).trans rfl; have hcz13_23 : w10.cell? ⟨gb230, 23, none⟩ = some (.int .i64 a1_23) := (blk_cell BK230.out 23).trans rfl; have hcz13_24 : w10.cell? ⟨gb230, 24, none⟩ = some (.int .i64 a1_24) := (blk_cell BK230.out 24).trans rfl; have hcz13_25 : w10.cell? ⟨gb230, 25, none⟩ = some (.bool a1_25) := (blk_cell BK230.out 25).trans rfl; have hcz13_26 : w10.cell? ⟨gb230, 26, none⟩ = some (.int .u64 a1_26) := (blk_cell BK230.out 26).trans rfl; have hcz13_27 : w10.cell? ⟨gb230, 27, none⟩ = some (.slice A1_27 l1_27.length c1_27) := (blk_cell BK230.out 27).trans rfl; have hcz13_28 : w10.cell? ⟨gb230, 28, none⟩ = some (.int .i64 a1_28) := (blk_cell BK230.out 28).trans rfl; have hcz13_29 : w10.cell? ⟨gb230, 29, none⟩ = some (.string a1_29) := (blk_cell BK230.out 29).trans rfl; have hcz13_30 : w10.cell? ⟨gb230, 30, none⟩ = some (.int .i64 a1_30) := (blk_cell BK230.out 30).trans rfl; have hcz13_31 : w10.cell? ⟨gb230, 31, none⟩ = some (.int .i64 a1_31) := (blk_cell BK230.out 31).trans rfl; have hfz13_0 := blk_frozen BK230.out 0; have hfz13_1 := blk_frozen BK230.out 1; have hfz13_2 := blk_frozen BK230.out 2; have hfz13_3 := blk_frozen BK230.out 3; have hfz13_4 := blk_frozen BK230.out 4; have hfz13_5 := blk_frozen BK230.out 5; have hfz13_6 := blk_frozen BK230.out 6; have hfz13_7 := blk_frozen BK230.out 7; have hfz13_8 := blk_frozen BK230.out 8; have hfz13_9 := blk_frozen BK230.out 9; have hfz13_10 := blk_frozen BK230.out 10; have hfz13_11 := blk_frozen BK230.out 11; have hfz13_12 := blk_frozen BK230.out 12; have hfz13_13 := blk_frozen BK230.out 13; have hfz13_14 := blk_frozen BK230.out 14; have hfz13_15 := blk_frozen BK230.out 15; have hfz13_16 := blk_frozen BK230.out 16; have hfz13_17 := blk_frozen BK230.out 17; have hfz13_18 := blk_frozen BK230.out 18; have hfz13_19 := blk_frozen BK230.out 19; have hfz13_20 := blk_frozen BK230.out 20; have hfz13_21 := blk_frozen BK230.out 21; have hfz13_22 := blk_frozen BK230.out 22; have hfz13_23 := blk_frozen BK230.out 23; have hfz13_24 := blk_frozen BK230.out 24; have hfz13_25 := blk_frozen BK230.out 25; have hfz13_26 := blk_frozen BK230.out 26; have hfz13_27 := blk_frozen BK230.out 27; have hfz13_28 := blk_frozen BK230.out 28; have hfz13_29 := blk_frozen BK230.out 29; have hfz13_30 := blk_frozen BK230.out 30; have hfz13_31 := blk_frozen BK230.out 31) | ((with_reducible refine gate_callee (f := 103) rfl ?_); refine goesL_ (some 12) rfl rfl Try.func103 (by kernel_rfl) rfl #[.slice A0_2 l0_2.length c0_2, .string a1_11] rfl (by (try simp only [List.map_toArray, List.map_cons, List.map_nil]); first | done | rfl | (simp only [List.length_drop, List.length_take]; rfl)) ?_; (with_reducible refine (rules_find.calls _ _ l0_2 a1_11 t231 t232 t233 t234 t238 t239 t240 t241 t242 t243 t244 t245 t246 t247 t248 t249 t250 t251 t252 t253 t254 t255 t256 t257 t258 t259 t263 t264 t265 t266 true _ ?side1 ?side2 A3.out).mono ?_); (case side1 => repeat (first | exact (Kd.C_below HR0_2.out HB.out) | (with_reducible refine Kd.C_alloc ?_ _) | (with_reducible refine Kd.C_drewN ?_ _) | (with_reducible refine Kd.C_drew ?_))); (case side2 => exact HC0_2.out); rintro e w14 ⟨Aq267, nq267, cq267, Aq268, nq268, cq268, rfl, hb⟩; refine ⟨_, rfl, ?_⟩; have n0_ := Aside0.mk (blk_below (g := gb229) (o := .cells #[.slice A0_0 l0_0.length c0_0, .slice A0_1 l0_1.length c0_1, .slice A0_2 l0_2.length c0_2, .slice A0_3 l0_3.length c0_3] 59 (0, 0)) (by (with_reducible repeat (first | refine blk_drewN ?_ _ | refine blk_drew ?_ | refine blk_alloc ?_ _)); exact BK229.out) hb); have n1_ := Aside0.mk (blk_below (g := gb230) (o := .cells #[.int .i64 a1_0, .string a1_1, .int .i64 a1_2, .int .i64 a1_3, .slice A1_4 l1_4.length c1_4, .int .i64 a1_5, .int .i64 a1_6, .bool a1_7, .bool a1_8, .bool a1_9, .int .i64 a1_10, .string a1_11, .string a1_12, .string a1_13, .int .i64 a1_14, .bool a1_15, .bool a1_16, .int .i64 a1_17, .int .i64 a1_18, .string a1_19, .int .i64 a1_20, .int .i64 a1_21, .int .i64 a1_22, .int .i64 a1_23, .int .i64 a1_24, .bool a1_25, .int .u64 a1_26, .slice A1_27 l1_27.length c1_27, .int .i64 a1_28, .string a1_29, .int .i64 a1_30, .int .i64 a1_31] 68 (0, 0)) (by (with_reducible repeat (first | refine blk_drewN ?_ _ | refine blk_drew ?_ | refine blk_alloc ?_ _)); exact BK230.out) hb); have n2_ := Aside0.mk (below_step (by repeat (first | (with_reducible first | exact HB.out | apply below_alloc | apply pw_below_drewN | apply below_drew1 | refine below_set ?_ GE229.out | refine below_set ?_ GE230.out) | exact HB.out)) hb); clear BK229; clear BK230; clear HB; have BK229 := n0_; have BK230 := n1_; have HB := n2_; clear n0_ n1_ n2_; (try clear hb); (try clear hb2); (try clear hk); (try clear hi)) | ((with_reducible refine gate_dst (N := 5) rfl ?_); refine box_event ?hg (N := 5) ?hd (cs := #[.int .i64 0, .string (⟨#[]⟩ : ByteArray), .int .i64 0, .int .i64 0, .slice none 0 0, .int .i64 0, .int .i64 0, .bool false, .bool false, .bool false, .int .i64 0, .string (⟨#[]⟩ : ByteArray), .string (⟨#[]⟩ : ByteArray), .string (⟨#[]⟩ : ByteArray), .int .i64 0, .bool false, .bool false, .int .i64 0, .int .i64 0, .string (⟨#[]⟩ : ByteArray), .int .i64 0, .int .i64 0, .int .i64 0, .int .i64 0, .int .i64 0, .bool false, .int .u64 0, .slice none 0 0, .int .i64 0, .string (⟨#[]⟩ : ByteArray), .int .i64 0, .int .i64 0]) (t := 68) ?hr ?_; (case hd => rfl); (case hg => rfl); (case hr => first | (go_simp; done) | (go_simp; rfl)); intro gb270 hg w15 hbox hb; have n0_ := Aside0.mk (blk_below (g := gb229) (o := .cells #[.slice A0_0 l0_0.length c0_0, .slice A0_1 l0_1.length c0_1, .slice A0_2 l0_2.length c0_2, .slice A0_3 l0_3.length c0_3] 59 (0, 0)) (by (with_reducible repeat (first | refine blk_drewN ?_ _ | refine blk_drew ?_ | refine blk_alloc ?_ _)); exact BK229.out) hb); have n1_ := Aside0.mk (blk_below (g := gb230) (o := .cells #[.int .i64 a1_0, .string a1_1, .int .i64 a1_2, .int .i64 a1_3, .slice A1_4 l1_4.length c1_4, .int .i64 a1_5, .int .i64 a1_6, .bool a1_7, .bool a1_8, .bool a1_9, .int .i64 a1_10, .string a1_11, .string a1_12, .string a1_13, .int .i64 a1_14, .bool a1_15, .bool a1_16, .int .i64 a1_17, .int .i64 a1_18, .string a1_19, .int .i64 a1_20, .int .i64 a1_21, .int .i64 a1_22, .int .i64 a1_23, .int .i64 a1_24, .bool a1_25, .int .u64 a1_26, .slice A1_27 l1_27.length c1_27, .int .i64 a1_28, .string a1_29, .int .i64 a1_30, .int .i64 a1_31] 68 (0, 0)) (by (with_reducible repeat (first | refine blk_drewN ?_ _ | refine blk_drew ?_ | refine blk_alloc ?_ _)); exact BK230.out) hb); have n2_ := Aside0.mk (below_step (by repeat (first | (with_reducible first | exact HB.out | apply below_alloc | apply pw_below_drewN | apply below_drew1 | refine below_set ?_ GE229.out | refine below_set ?_ GE230.out) | exact HB.out)) hb); have n3_ := Aside0.mk (hbox); have n4_ := Aside0.mk ((by rw [hg]; exact (below_size (by repeat (first | (with_reducible first | exact HB.out | apply below_alloc | apply pw_below_drewN | apply below_drew1 | refine below_set ?_ GE229.out | refine below_set ?_ GE230.out) | exact HB.out))) : w.heap.size ≤ gb270)); have n5_ := Aside0.mk ((by rw [hg]; exact (below_size (by repeat (first | (with_reducible first | exact HB.out | apply below_alloc | apply pw_below_drewN | apply below_drew1 | refine below_set ?_ GE229.out | refine below_set ?_ GE230.out) | exact HB.out))) : w.heap.size ≤ gb270)); have n6_ := Aside0.mk ((by rw [hg]; exact Nat.ne_of_lt (blk_lt (g := gb229) (o := .cells #[.slice A0_0 l0_0.length c0_0, .slice A0_1 l0_1.length c0_1, .slice A0_2 l0_2.length c0_2, .slice A0_3 l0_3.length c0_3] 59 (0, 0)) (by (with_reducible repeat (first | refine blk_drewN ?_ _ | refine blk_drew ?_ | refine blk_alloc ?_ _)); exact BK229.out)) : gb229 ≠ gb270)); have n7_ := Aside0.mk ((by rw [hg]; exact Nat.ne_of_gt (blk_lt (g := gb229) (o := .cells #[.slice A0_0 l0_0.length c0_0, .slice A0_1 l0_1.length c0_1, .slice A0_2 l0_2.length c0_2, .slice A0_3 l0_3.length c0_3] 59 (0, 0)) (by (with_reducible repeat (first | refine blk_drewN ?_ _ | refine blk_drew ?_ | refine blk_alloc ?_ _)); exact BK229.out)) : gb270 ≠ gb229)); have n8_ := Aside0.mk ((by rw [hg]; exact Nat.ne_of_lt (blk_lt (g := gb230) (o := .cells #[.int .i64 a1_0, .string a1_1, .int .i64 a1_2, .int .i64 a1_3, .slice A1_4 l1_4.length c1_4, .int .i64 a1_5, .int .i64 a1_6, .bool a1_7, .bool a1_8, .bool a1_9, .int .i64 a1_10, .string a1_11, .string a1_12, .string a1_13, .int .i64 a1_14, .bool a1_15, .bool a1_16, .int .i64 a1_17, .int .i64 a1_18, .string a1_19, .int .i64 a1_20, .int .i64 a1_21, .int .i64 a1_22, .int .i64 a1_23, .int .i64 a1_24, .bool a1_25, .int .u64 a1_26, .slice A1_27 l1_27.length c1_27, .int .i64 a1_28, .string a1_29, .int .i64 a1_30, .int .i64 a1_31] 68 (0, 0)) (by (with_reducible repeat (first | refine blk_drewN ?_ _ | refine blk_drew ?_ | refine blk_alloc ?_ _)); exact BK230.out)) : gb230 ≠ gb270)); have n9_ := Aside0.mk ((by rw [hg]; exact Nat.ne_of_gt (blk_lt (g := gb230) (o := .cells #[.int .i64 a1_0, .string a1_1, .int .i64 a1_2, .int .i64 a1_3, .slice A1_4 l1_4.length c1_4, .int .i64 a1_5, .int .i64 a1_6, .bool a1_7, .bool a1_8, .bool a1_9, .int .i64 a1_10, .string a1_11, .string a1_12, .string a1_13, .int .i64 a1_14, .bool a1_15, .bool a1_16, .int .i64 a1_17, .int .i64 a1_18, .string a1_19, .int .i64 a1_20, .int .i64 a1_21, .int .i64 a1_22, .int .i64 a1_23, .int .i64 a1_24, .bool a1_25, .int .u64 a1_26, .slice A1_27 l1_27.length c1_27, .int .i64 a1_28, .string a1_29, .int .i64 a1_30, .int .i64 a1_31] 68 (0, 0)) (by (with_reducible repeat (first | refine blk_drewN ?_ _ | refine blk_drew ?_ | refine blk_alloc ?_ _)); exact BK230.out)) : gb270 ≠ gb230)); clear BK229; clear BK230; clear HB; have BK229 := n0_; have BK230 := n1_; have HB := n2_; have BK270 := n3_; have GW270 := n4_; have GE270 := n5_; have NB229_270 := n6_; have NB270_229 := n7_; have NB230_270 := n8_; have NB270_230 := n9_; clear n0_ n1_ n2_ n3_ n4_ n5_ n6_ n7_ n8_ n9_; clear hb hbox hg; have hnb16 := NB270_229.out; have hnc16 := NB229_270.out; have hnb17 := NB270_230.out; have hnc17 := NB230_270.out; have hcz18_0 : w15.cell? ⟨gb270, 0, none⟩ = some (.int .i64 0) := (blk_cell BK270.out 0).trans rfl; have hcz18_1 : w15.cell? ⟨gb270, 1, none⟩ = some (.string (⟨#[]⟩ : ByteArray)) := (blk_cell BK270.out 1).trans rfl; have hcz18_2 : w15.cell? ⟨gb270, 2, none⟩ = some (.int .i64 0) := (blk_cell BK270.out 2).trans rfl; have hcz18_3 : w15.cell? ⟨gb270, 3, none⟩ = some (.int .i64 0) := (blk_cell BK270.out 3).trans rfl; have hcz18_4 : w15.cell? ⟨gb270, 4, none⟩ = some (.slice none 0 0) := (blk_cell BK270.out 4).trans rfl; have hcz18_5 : w15.cell? ⟨gb270, 5, none⟩ = some (.int .i64 0) := (blk_cell BK270.out 5).trans rfl; have hcz18_6 : w15.cell? ⟨gb270, 6, none⟩ = some (.int .i64 0) := (blk_cell BK270.out 6).trans rfl; have hcz18_7 : w15.cell? ⟨gb270, 7, none⟩ = some (.bool false) := (blk_cell BK270.out 7).trans rfl; have hcz18_8 : w15.cell? ⟨gb270, 8, none⟩ = some (.bool false) := (blk_cell BK270.out 8).trans rfl; have hcz18_9 : w15.cell? ⟨gb270, 9, none⟩ = some (.bool false) := (blk_cell BK270.out 9).trans rfl; have hcz18_10 : w15.cell? ⟨gb270, 10, none⟩ = some (.int .i64 0) := (blk_cell BK270.out 10).trans rfl; have hcz18_11 : w15.cell? ⟨gb270, 11, none⟩ = some (.string (⟨#[]⟩ : ByteArray)) := (blk_cell BK270.out 11).trans rfl; have hcz18_12 : w15.cell? ⟨gb270, 12, none⟩ = some (.string (⟨#[]⟩ : ByteArray)) := (blk_cell BK270.out 12).trans rfl; have hcz18_13 : w15.cell? ⟨gb270, 13, none⟩ = some (.string (⟨#[]⟩ : ByteArray)) := (blk_cell BK270.out 13).trans rfl; have hcz18_14 : w15.cell? ⟨gb270, 14, none⟩ = some (.int .i64 0) := (blk_cell BK270.out 14).trans rfl; have hcz18_15 : w15.cell? ⟨gb270, 15, none⟩ = some (.bool false) := (blk_cell BK270.out 15).trans rfl; have hcz18_16 : w15.cell? ⟨gb270, 16, none⟩ = some (.bool false) := (blk_cell BK270.out 16).trans rfl; have hcz18_17 : w15.cell? ⟨gb270, 17, none⟩ = some (.int .i64 0) := (blk_cell BK270.out 17).trans rfl; have hcz18_18 : w15.cell? ⟨gb270, 18, none⟩ = some (.int .i64 0) := (blk_cell BK270.out 18).trans rfl; have hcz18_19 : w15.cell? ⟨gb270, 19, none⟩ = some (.string (⟨#[]⟩ : ByteArray)) := (blk_cell BK270.out 19).trans rfl; have hcz18_20 : w15.cell? ⟨gb270, 20, none⟩ = some (.int .i64 0) := (blk_cell BK270.out 20).trans rfl; have hcz18_21 : w15.cell? ⟨gb270, 21, none⟩ = some (.int .i64 0) := (blk_cell BK270.out 21).trans rfl; have hcz18_22 : w15.cell? ⟨gb270, 22, none⟩ = some (.int .i64 0) := (blk_cell BK270.out 22).trans rfl; have hcz18_23 : w15.cell? ⟨gb270, 23, none⟩ = some (.int .i64 0) := (blk_cell BK270.out 23).trans rfl; have hcz18_24 : w15.cell? ⟨gb270, 24, none⟩ = some (.int .i64 0) := (blk_cell BK270.out 24).trans rfl; have hcz18_25 : w15.cell? ⟨gb270, 25, none⟩ = some (.bool false) := (blk_cell BK270.out 25).trans rfl; have hcz18_26 : w15.cell? ⟨gb270, 26, none⟩ = some (.int .u64 0) := (blk_cell BK270.out 26).trans rfl; have hcz18_27 : w15.cell? ⟨gb270, 27, none⟩ = some (.slice none 0 0) := (blk_cell BK270.out 27).trans rfl; have hcz18_28 : w15.cell? ⟨gb270, 28, none⟩ = some (.int .i64 0) := (blk_cell BK270.out 28).trans rfl; have hcz18_29 : w15.cell? ⟨gb270, 29, none⟩ = some (.string (⟨#[]⟩ : ByteArray)) := (blk_cell BK270.out 29).trans rfl; have hcz18_30 : w15.cell? ⟨gb270, 30, none⟩ = some (.int .i64 0) := (blk_cell BK270.out 30).trans rfl; have hcz18_31 : w15.cell? ⟨gb270, 31, none⟩ = some (.int .i64 0) := (blk_cell BK270.out 31).trans rfl; have hfz18_0 := blk_frozen BK270.out 0; have hfz18_1 := blk_frozen BK270.out 1; have hfz18_2 := blk_frozen BK270.out 2; have hfz18_3 := blk_frozen BK270.out 3; have hfz18_4 := blk_frozen BK270.out 4; have hfz18_5 := blk_frozen BK270.out 5; have hfz18_6 := blk_frozen BK270.out 6; have hfz18_7 := blk_frozen BK270.out 7; have hfz18_8 := blk_frozen BK270.out 8; have hfz18_9 := blk_frozen BK270.out 9; have hfz18_10 := blk_frozen BK270.out 10; have hfz18_11 := blk_frozen BK270.out 11; have hfz18_12 := blk_frozen BK270.out 12; have hfz18_13 := blk_frozen BK270.out 13; have hfz18_14 := blk_frozen BK270.out 14; have hfz18_15 := blk_frozen BK270.out 15; have hfz18_16 := blk_frozen BK270.out 16; have hfz18_17 := blk_frozen BK270.out 17; have hfz18_18 := blk_frozen BK270.out 18; have hfz18_19 := blk_frozen BK270.out 19; have hfz18_20 := blk_frozen BK270.out 20; have hfz18_21 := blk_frozen BK270.out 21; have hfz18_22 := blk_frozen BK270.out 22; have hfz18_23 := blk_frozen BK270.out 23; have hfz18_24 := blk_frozen BK270.out 24; have hfz18_25 := blk_frozen BK270.out 25; have hfz18_26 := blk_frozen BK270.out 26; have hfz18_27 := blk_frozen BK270.out 27; have hfz18_28 := blk_frozen BK270.out 28; have hfz18_29 := blk_frozen BK270.out 29; have hfz18_30 := blk_frozen BK270.out 30; have hfz18_31 := blk_frozen BK270.out 31) | ((with_reducible refine gate_store (t := 68) (p := 5) rfl ?_); refine box_store_event (t := 68) (ty := 68) (p := 5) (x := ?vo_w19) (g := gb270) (cs := #[.int .i64 0, .string (⟨#[]⟩ : ByteArray), .int .i64 0, .int .i64 0, .slice none 0 0, .int .i64 0, .int .i64 0, .bool false, .bool false, .bool false, .int .i64 0, .string (⟨#[]⟩ : ByteArray), .string (⟨#[]⟩ : ByteArray), .string (⟨#[]⟩ : ByteArray), .int .i64 0, .bool false, .bool false, .int .i64 0, .int .i64 0, .string (⟨#[]⟩ : ByteArray), .int .i64 0, .int .i64 0, .int .i64 0, .int .i64 0, .int .i64 0, .bool false, .int .u64 0, .slice none 0 0, .int .i64 0, .string (⟨#[]⟩ : ByteArray), .int .i64 0, .int .i64 0]) (cs' := #[.int .i64 t231, .string t232, .int .i64 t233, .int .i64 t234, .slice Aq267 nq267 cq267, .int .i64 t238, .int .i64 t239, .bool t240, .bool t241, .bool t242, .int .i64 t243, .string t244, .string t245, .string t246, .int .i64 t247, .bool t248, .bool t249, .int .i64 t250, .int .i64 t251, .string t252, .int .i64 t253, .int .i64 t254, .int .i64 t255, .int .i64 t256, .int .i64 t257, .bool t258, .int .u64 t259, .slice Aq268 nq268 cq268, .int .i64 t263, .string t264, .int .i64 t265, .int .i64 t266]) ?hgd ?ho ?hN ?he ?hv ?hi ?hb ?hs ?h1 ?_; (case ho => rfl); (case hgd => rfl); (case hN => rfl); (case he => rfl); (case hv => first | rfl | (simp; done)); (case hi => exact size68); (case hb => (with_reducible repeat (first | refine blk_drewN ?_ _ | refine blk_drew ?_ | refine blk_alloc ?_ _)); exact BK270.out); (case hs => rfl); (case h1 => rfl); intro w19 hbox hg; have n0_ := Aside0.mk (blk_grown (by (with_reducible repeat (first | refine blk_drewN ?_ _ | refine blk_drew ?_ | refine blk_alloc ?_ _)); exact BK229.out) hg (fun e_ => NB229_270.out (Option.some.inj e_))); have n1_ := Aside0.mk (blk_grown (by (with_reducible repeat (first | refine blk_drewN ?_ _ | refine blk_drew ?_ | refine blk_alloc ?_ _)); exact BK230.out) hg (fun e_ => NB230_270.out (Option.some.inj e_))); have n2_ := Aside0.mk (hbox); have n3_ := Aside0.mk (Below.grown (by repeat (first | (with_reducible first | exact HB.out | apply below_alloc | apply pw_below_drewN | apply below_drew1 | refine below_set ?_ GE229.out | refine below_set ?_ GE230.out | refine below_set ?_ GE270.out) | exact HB.out)) hg (below_size (by repeat (first | (with_reducible first | exact HB.out | apply below_alloc | apply pw_below_drewN | apply below_drew1 | refine below_set ?_ GE229.out | refine below_set ?_ GE230.out | refine below_set ?_ GE270.out) | exact HB.out))) (fun k_ e_ => by injection e_ with e_; subst e_; exact GE270.out)); clear BK229; clear BK230; clear BK270; clear HB; have BK229 := n0_; have BK230 := n1_; have BK270 := n2_; have HB := n3_; clear n0_ n1_ n2_ n3_; clear hbox hg))
      have n0_ := Aside0.mk (blk_drew BK229.out)
      have n1_ := Aside0.mk (blk_drew BK230.out)
      have n2_ := Aside0.mk (blk_drew BK270.out)
      have n3_ := Aside0.mk (below_drew1 HB.out)
      clear BK229
      clear BK230
      clear BK270
      clear HB
      have BK229 := n0_
      have BK230 := n1_
      have BK270 := n2_
      have HB := n3_
      clear n0_ n1_ n2_ n3_
      refine start_ (n := 12) (S := fun w' => w'.cell? ⟨gb229, 0, none⟩ = some (.slice A0_0 l0_0.length c0_0) ∧ w'.cell? ⟨gb229, 1, none⟩ = some (.slice A0_1 l0_1.length c0_1) ∧ w'.cell? ⟨gb229, 2, none⟩ = some (.slice A0_2 l0_2.length c0_2) ∧ w'.cell? ⟨gb229, 3, none⟩ = some (.slice A0_3 l0_3.length c0_3) ∧ w'.cell? ⟨gb270, 0, none⟩ = some (.int .i64 t231) ∧ w'.cell? ⟨gb270, 1, none⟩ = some (.string t232) ∧ w'.cell? ⟨gb270, 2, none⟩ = some (.int .i64 t233) ∧ w'.cell? ⟨gb270, 3, none⟩ = some (.int .i64 t234) ∧ w'.cell? ⟨gb270, 4, none⟩ = some (.slice Aq267 nq267 cq267) ∧ w'.cell? ⟨gb270, 5, none⟩ = some (.int .i64 t238) ∧ w'.cell? ⟨gb270, 6, none⟩ = some (.int .i64 t239) ∧ w'.cell? ⟨gb270, 7, none⟩ = some (.bool t240) ∧ w'.cell? ⟨gb270, 8, none⟩ = some (.bool t241) ∧ w'.cell? ⟨gb270, 9, none⟩ = some (.bool t242) ∧ w'.cell? ⟨gb270, 10, none⟩ = some (.int .i64 t243) ∧ w'.cell? ⟨gb270, 11, none⟩ = some (.string t244) ∧ w'.cell? ⟨gb270, 12, none⟩ = some (.string t245) ∧ w'.cell? ⟨gb270, 13, none⟩ = some (.string t246) ∧ w'.cell? ⟨gb270, 14, none⟩ = some (.int .i64 t247) ∧ w'.cell? ⟨gb270, 15, none⟩ = some (.bool t248) ∧ w'.cell? ⟨gb270, 16, none⟩ = some (.bool t249) ∧ w'.cell? ⟨gb270, 17, none⟩ = some (.int .i64 t250) ∧ w'.cell? ⟨gb270, 18, none⟩ = some (.int .i64 t251) ∧ w'.cell? ⟨gb270, 19, none⟩ = some (.string t252) ∧ w'.cell? ⟨gb270, 20, none⟩ = some (.int .i64 t253) ∧ w'.cell? ⟨gb270, 21, none⟩ = some (.int .i64 t254) ∧ w'.cell? ⟨gb270, 22, none⟩ = some (.int .i64 t255) ∧ w'.cell? ⟨gb270, 23, none⟩ = some (.int .i64 t256) ∧ w'.cell? ⟨gb270, 24, none⟩ = some (.int .i64 t257) ∧ w'.cell? ⟨gb270, 25, none⟩ = some (.bool t258) ∧ w'.cell? ⟨gb270, 26, none⟩ = some (.int .u64 t259) ∧ w'.cell? ⟨gb270, 27, none⟩ = some (.slice Aq268 nq268 cq268) ∧ w'.cell? ⟨gb270, 28, none⟩ = some (.int .i64 t263) ∧ w'.cell? ⟨gb270, 29, none⟩ = some (.string t264) ∧ w'.cell? ⟨gb270, 30, none⟩ = some (.int .i64 t265) ∧ w'.cell? ⟨gb270, 31, none⟩ = some (.int .i64 t266)) (ds := []) #[false, false, false, false, false, false, false, false, false, false, false, false] (by kernel_rfl) rfl rfl ⟨(blk_cell BK229.out 0).trans rfl, (blk_cell BK229.out 1).trans rfl, (blk_cell BK229.out 2).trans rfl, (blk_cell BK229.out 3).trans rfl, (blk_cell BK270.out 0).trans rfl, (blk_cell BK270.out 1).trans rfl, (blk_cell BK270.out 2).trans rfl, (blk_cell BK270.out 3).trans rfl, (blk_cell BK270.out 4).trans rfl, (blk_cell BK270.out 5).trans rfl, (blk_cell BK270.out 6).trans rfl, (blk_cell BK270.out 7).trans rfl, (blk_cell BK270.out 8).trans rfl, (blk_cell BK270.out 9).trans rfl, (blk_cell BK270.out 10).trans rfl, (blk_cell BK270.out 11).trans rfl, (blk_cell BK270.out 12).trans rfl, (blk_cell BK270.out 13).trans rfl, (blk_cell BK270.out 14).trans rfl, (blk_cell BK270.out 15).trans rfl, (blk_cell BK270.out 16).trans rfl, (blk_cell BK270.out 17).trans rfl, (blk_cell BK270.out 18).trans rfl, (blk_cell BK270.out 19).trans rfl, (blk_cell BK270.out 20).trans rfl, (blk_cell BK270.out 21).trans rfl, (blk_cell BK270.out 22).trans rfl, (blk_cell BK270.out 23).trans rfl, (blk_cell BK270.out 24).trans rfl, (blk_cell BK270.out 25).trans rfl, (blk_cell BK270.out 26).trans rfl, (blk_cell BK270.out 27).trans rfl, (blk_cell BK270.out 28).trans rfl, (blk_cell BK270.out 29).trans rfl, (blk_cell BK270.out 30).trans rfl, (blk_cell BK270.out 31).trans rfl⟩ (fun hHeld => ?_); refine with_tabW rules_Spawn.tab4 rules_Spawn.bits4 (fun HT_ HW_ => ?_)
      generalize w19.drew = w20 at BK229 BK230 BK270 HB hHeld ⊢
      refine pure_ (i := 1) (N := some 19) (v := ?_) (a' := ?_) #[false, true, false, false, false, false, false, false, false, false, false, false] rfl rfl (any_of HT_.out (by kernel_rfl)) (fun _ _ _ h => h) (Or.inl ⟨by rfl, ?_⟩) ?_ ?_
      rotate_left
      · intro w'
        go_simp
        with_reducible rfl
      rotate_left
      · simp only [Act.put, List.setIfInBounds_toArray, List.set_cons_zero, List.set_cons_succ, i64_w, i32_w]
        rfl
      refine pure_ (i := 4) (N := some 22) (v := ?_) (a' := ?_) #[false, true, false, false, true, false, false, false, false, false, false, false] rfl rfl (any_of HT_.out (by kernel_rfl)) (fun _ _ _ h => h) (Or.inl ⟨by rfl, ?_⟩) ?_ ?_
      rotate_left
      · intro w'
        go_simp
        with_reducible rfl
      rotate_left
      · simp only [Act.put, List.setIfInBounds_toArray, List.set_cons_zero, List.set_cons_succ, i64_w, i32_w]
        rfl
      refine pure_ (i := 7) (N := some 25) (v := ?_) (a' := ?_) #[false, true, false, false, true, false, false, true, false, false, false, false] rfl rfl (any_of HT_.out (by kernel_rfl)) (fun _ _ _ h => h) (Or.inl ⟨by rfl, ?_⟩) ?_ ?_
      rotate_left
      · intro w'
        go_simp
        with_reducible rfl
      rotate_left
      · simp only [Act.put, List.setIfInBounds_toArray, List.set_cons_zero, List.set_cons_succ, i64_w, i32_w]
        rfl
      refine take_ (i := 0) (N := some 18) (v := ?_) (a' := ?_) #[true, true, false, false, true, false, false, true, false, false, false, false] rfl rfl (take_ofW HT_.out HW_.out (by kernel_rfl)) (fun _ _ _ h => h) (Or.inl ⟨by rfl, ?_⟩) hHeld ?_ ?_
      rotate_left
      · rintro w' ⟨s0, s1, s2, s3, s4, s5, s6, s7, s8, s9, s10, s11, s12, s13, s14, s15, s16, s17, s18, s19, s20, s21, s22, s23, s24, s25, s26, s27, s28, s29, s30, s31, s32, s33, s34, s35⟩
        go_simp
        with_reducible rfl
      rotate_left
      · simp only [Act.put, List.setIfInBounds_toArray, List.set_cons_zero, List.set_cons_succ, i64_w, i32_w]
        rfl
      refine take_ (i := 2) (N := some 20) (v := ?_) (a' := ?_) #[true, true, true, false, true, false, false, true, false, false, false, false] rfl rfl (take_ofW HT_.out HW_.out (by kernel_rfl)) (fun _ _ _ h => h) (Or.inl ⟨by rfl, ?_⟩) hHeld ?_ ?_
      rotate_left
      · rintro w' ⟨s0, s1, s2, s3, s4, s5, s6, s7, s8, s9, s10, s11, s12, s13, s14, s15, s16, s17, s18, s19, s20, s21, s22, s23, s24, s25, s26, s27, s28, s29, s30, s31, s32, s33, s34, s35⟩
        go_simp
        with_reducible rfl
      rotate_left
      · simp only [Act.put, List.setIfInBounds_toArray, List.set_cons_zero, List.set_cons_succ, i64_w, i32_w]
        rfl
      refine take_ (i := 5) (N := some 23) (v := ?_) (a' := ?_) #[true, true, true, false, true, true, false, true, false, false, false, false] rfl rfl (take_ofW HT_.out HW_.out (by kernel_rfl)) (fun _ _ _ h => h) (Or.inl ⟨by rfl, ?_⟩) hHeld ?_ ?_
      rotate_left
      · rintro w' ⟨s0, s1, s2, s3, s4, s5, s6, s7, s8, s9, s10, s11, s12, s13, s14, s15, s16, s17, s18, s19, s20, s21, s22, s23, s24, s25, s26, s27, s28, s29, s30, s31, s32, s33, s34, s35⟩
        go_simp
        with_reducible rfl
      rotate_left
      · simp only [Act.put, List.setIfInBounds_toArray, List.set_cons_zero, List.set_cons_succ, i64_w, i32_w]
        rfl
      refine take_ (i := 8) (N := some 26) (v := ?_) (a' := ?_) #[true, true, true, false, true, true, false, true, true, false, false, false] rfl rfl (take_ofW HT_.out HW_.out (by kernel_rfl)) (fun _ _ _ h => h) (Or.inl ⟨by rfl, ?_⟩) hHeld ?_ ?_
      rotate_left
      · rintro w' ⟨s0, s1, s2, s3, s4, s5, s6, s7, s8, s9, s10, s11, s12, s13, s14, s15, s16, s17, s18, s19, s20, s21, s22, s23, s24, s25, s26, s27, s28, s29, s30, s31, s32, s33, s34, s35⟩
        go_simp
        with_reducible rfl
      rotate_left
      · simp only [Act.put, List.setIfInBounds_toArray, List.set_cons_zero, List.set_cons_succ, i64_w, i32_w]
        rfl
      refine one_ (i := 3) (N := some 21) #[true, true, true, true, true, true, false, true, true, false, false, false] rfl rfl (one_of HT_.out (by kernel_rfl)) (by decide) (fun K hK => ?_)
      refine goes_ Try.func34 (by kernel_rfl) rfl #[.agg #[.slice A0_0 l0_0.length c0_0, .slice A0_1 l0_1.length c0_1, .slice A0_2 l0_2.length c0_2, .slice A0_3 l0_3.length c0_3], .string t232] (by rfl) rfl rfl (by (try simp only [List.map_toArray, List.map_cons, List.map_nil]); first | done | rfl | (simp only [List.length_drop, List.length_take]; rfl)) ?_
      with_reducible refine (rules_Owned.calls _ _ l0_0 _ _ l0_1 _ _ l0_2 _ _ l0_3 t232 t271 _ ?side1 ?side2 ?side3 ?side4 ?side5 ?side6 ?side7 ?side8 A5.out).mono ?_
      (case side1 => repeat (first | exact (Kd.C_below HR0_0.out HB.out) | (with_reducible refine Kd.C_alloc ?_ _) | (with_reducible refine Kd.C_drewN ?_ _) | (with_reducible refine Kd.C_drew ?_)))
      (case side2 => exact HC0_0.out)
      (case side3 => repeat (first | exact (Kd.C_below HR0_1.out HB.out) | (with_reducible refine Kd.C_alloc ?_ _) | (with_reducible refine Kd.C_drewN ?_ _) | (with_reducible refine Kd.C_drew ?_)))
      (case side4 => exact HC0_1.out)
      (case side5 => repeat (first | exact (Kd.C_below HR0_2.out HB.out) | (with_reducible refine Kd.C_alloc ?_ _) | (with_reducible refine Kd.C_drewN ?_ _) | (with_reducible refine Kd.C_drew ?_)))
      (case side6 => exact HC0_2.out)
      (case side7 => repeat (first | exact (Kd.C_below HR0_3.out HB.out) | (with_reducible refine Kd.C_alloc ?_ _) | (with_reducible refine Kd.C_drewN ?_ _) | (with_reducible refine Kd.C_drew ?_)))
      (case side8 => exact HC0_3.out)
      rintro e w21 ⟨rfl, hb⟩
      refine ⟨_, rfl, ?_⟩
      have n0_ := Aside0.mk (blk_below (g := gb229) (o := .cells #[.slice A0_0 l0_0.length c0_0, .slice A0_1 l0_1.length c0_1, .slice A0_2 l0_2.length c0_2, .slice A0_3 l0_3.length c0_3] 59 (0, 0)) (by (with_reducible repeat (first | refine blk_drewN ?_ _ | refine blk_drew ?_ | refine blk_alloc ?_ _)); exact BK229.out) hb)
      have n1_ := Aside0.mk (blk_below (g := gb230) (o := .cells #[.int .i64 a1_0, .string a1_1, .int .i64 a1_2, .int .i64 a1_3, .slice A1_4 l1_4.length c1_4, .int .i64 a1_5, .int .i64 a1_6, .bool a1_7, .bool a1_8, .bool a1_9, .int .i64 a1_10, .string a1_11, .string a1_12, .string a1_13, .int .i64 a1_14, .bool a1_15, .bool a1_16, .int .i64 a1_17, .int .i64 a1_18, .string a1_19, .int .i64 a1_20, .int .i64 a1_21, .int .i64 a1_22, .int .i64 a1_23, .int .i64 a1_24, .bool a1_25, .int .u64 a1_26, .slice A1_27 l1_27.length c1_27, .int .i64 a1_28, .string a1_29, .int .i64 a1_30, .int .i64 a1_31] 68 (0, 0)) (by (with_reducible repeat (first | refine blk_drewN ?_ _ | refine blk_drew ?_ | refine blk_alloc ?_ _)); exact BK230.out) hb)
      have n2_ := Aside0.mk (blk_below (g := gb270) (o := .cells #[.int .i64 t231, .string t232, .int .i64 t233, .int .i64 t234, .slice Aq267 nq267 cq267, .int .i64 t238, .int .i64 t239, .bool t240, .bool t241, .bool t242, .int .i64 t243, .string t244, .string t245, .string t246, .int .i64 t247, .bool t248, .bool t249, .int .i64 t250, .int .i64 t251, .string t252, .int .i64 t253, .int .i64 t254, .int .i64 t255, .int .i64 t256, .int .i64 t257, .bool t258, .int .u64 t259, .slice Aq268 nq268 cq268, .int .i64 t263, .string t264, .int .i64 t265, .int .i64 t266] 68 (0, 0)) (by (with_reducible repeat (first | refine blk_drewN ?_ _ | refine blk_drew ?_ | refine blk_alloc ?_ _)); exact BK270.out) hb)
      have n3_ := Aside0.mk (below_step (by repeat (first | (with_reducible first | exact HB.out | apply below_alloc | apply pw_below_drewN | apply below_drew1 | refine below_set ?_ GE229.out | refine below_set ?_ GE230.out | refine below_set ?_ GE270.out) | exact HB.out)) hb)
      clear BK229
      clear BK230
      clear BK270
      clear HB
      have BK229 := n0_
      have BK230 := n1_
      have BK270 := n2_
      have HB := n3_
      clear n0_ n1_ n2_ n3_
      (try clear hb)
      (try clear hb2)
      (try clear hk)
      (try clear hi)
      refine hK.out _ _ ⟨(blk_cell BK229.out 0).trans rfl, (blk_cell BK229.out 1).trans rfl, (blk_cell BK229.out 2).trans rfl, (blk_cell BK229.out 3).trans rfl, (blk_cell BK270.out 0).trans rfl, (blk_cell BK270.out 1).trans rfl, (blk_cell BK270.out 2).trans rfl, (blk_cell BK270.out 3).trans rfl, (blk_cell BK270.out 4).trans rfl, (blk_cell BK270.out 5).trans rfl, (blk_cell BK270.out 6).trans rfl, (blk_cell BK270.out 7).trans rfl, (blk_cell BK270.out 8).trans rfl, (blk_cell BK270.out 9).trans rfl, (blk_cell BK270.out 10).trans rfl, (blk_cell BK270.out 11).trans rfl, (blk_cell BK270.out 12).trans rfl, (blk_cell BK270.out 13).trans rfl, (blk_cell BK270.out 14).trans rfl, (blk_cell BK270.out 15).trans rfl, (blk_cell BK270.out 16).trans rfl, (blk_cell BK270.out 17).trans rfl, (blk_cell BK270.out 18).trans rfl, (blk_cell BK270.out 19).trans rfl, (blk_cell BK270.out 20).trans rfl, (blk_cell BK270.out 21).trans rfl, (blk_cell BK270.out 22).trans rfl, (blk_cell BK270.out 23).trans rfl, (blk_cell BK270.out 24).trans rfl, (blk_cell BK270.out 25).trans rfl, (blk_cell BK270.out 26).trans rfl, (blk_cell BK270.out 27).trans rfl, (blk_cell BK270.out 28).trans rfl, (blk_cell BK270.out 29).trans rfl, (blk_cell BK270.out 30).trans rfl, (blk_cell BK270.out 31).trans rfl⟩ (fun hHeld => ?_)
      clear hK K
      refine norm_ (a' := ?_) ?_ ?_
      rotate_left
      · show Act.put _ (some 21) _ = _
        simp only [Act.put, List.setIfInBounds_toArray, List.set_cons_zero, List.set_cons_succ, i64_w, i32_w]
        rfl
      refine one_ (i := 6) (N := some 24) #[true, true, true, true, true, true, true, true, true, false, false, false] rfl rfl (one_of HT_.out (by kernel_rfl)) (by decide) (fun K hK => ?_)
      refine goes_ Try.func105 (by kernel_rfl) rfl #[.int .i64 t255] (by rfl) rfl rfl (by (try simp only [List.map_toArray, List.map_cons, List.map_nil]); first | done | rfl | (simp only [List.length_drop, List.length_take]; rfl)) ?_
      with_reducible refine (rules_held.calls t255 t272 _ A6.out).mono ?_
      rintro e w22 ⟨rfl, hb⟩
      refine ⟨_, rfl, ?_⟩
      have n0_ := Aside0.mk (blk_below (g := gb229) (o := .cells #[.slice A0_0 l0_0.length c0_0, .slice A0_1 l0_1.length c0_1, .slice A0_2 l0_2.length c0_2, .slice A0_3 l0_3.length c0_3] 59 (0, 0)) (by (with_reducible repeat (first | refine blk_drewN ?_ _ | refine blk_drew ?_ | refine blk_alloc ?_ _)); exact BK229.out) hb)
      have n1_ := Aside0.mk (blk_below (g := gb230) (o := .cells #[.int .i64 a1_0, .string a1_1, .int .i64 a1_2, .int .i64 a1_3, .slice A1_4 l1_4.length c1_4, .int .i64 a1_5, .int .i64 a1_6, .bool a1_7, .bool a1_8, .bool a1_9, .int .i64 a1_10, .string a1_11, .string a1_12, .string a1_13, .int .i64 a1_14, .bool a1_15, .bool a1_16, .int .i64 a1_17, .int .i64 a1_18, .string a1_19, .int .i64 a1_20, .int .i64 a1_21, .int .i64 a1_22, .int .i64 a1_23, .int .i64 a1_24, .bool a1_25, .int .u64 a1_26, .slice A1_27 l1_27.length c1_27, .int .i64 a1_28, .string a1_29, .int .i64 a1_30, .int .i64 a1_31] 68 (0, 0)) (by (with_reducible repeat (first | refine blk_drewN ?_ _ | refine blk_drew ?_ | refine blk_alloc ?_ _)); exact BK230.out) hb)
      have n2_ := Aside0.mk (blk_below (g := gb270) (o := .cells #[.int .i64 t231, .string t232, .int .i64 t233, .int .i64 t234, .slice Aq267 nq267 cq267, .int .i64 t238, .int .i64 t239, .bool t240, .bool t241, .bool t242, .int .i64 t243, .string t244, .string t245, .string t246, .int .i64 t247, .bool t248, .bool t249, .int .i64 t250, .int .i64 t251, .string t252, .int .i64 t253, .int .i64 t254, .int .i64 t255, .int .i64 t256, .int .i64 t257, .bool t258, .int .u64 t259, .slice Aq268 nq268 cq268, .int .i64 t263, .string t264, .int .i64 t265, .int .i64 t266] 68 (0, 0)) (by (with_reducible repeat (first | refine blk_drewN ?_ _ | refine blk_drew ?_ | refine blk_alloc ?_ _)); exact BK270.out) hb)
      have n3_ := Aside0.mk (below_step (by repeat (first | (with_reducible first | exact HB.out | apply below_alloc | apply pw_below_drewN | apply below_drew1 | refine below_set ?_ GE229.out | refine below_set ?_ GE230.out | refine below_set ?_ GE270.out) | exact HB.out)) hb)
      clear BK229
      clear BK230
      clear BK270
      clear HB
      have BK229 := n0_
      have BK230 := n1_
      have BK270 := n2_
      have HB := n3_
      clear n0_ n1_ n2_ n3_
      (try clear hb)
      (try clear hb2)
      (try clear hk)
      (try clear hi)
      refine hK.out _ _ ⟨(blk_cell BK229.out 0).trans rfl, (blk_cell BK229.out 1).trans rfl, (blk_cell BK229.out 2).trans rfl, (blk_cell BK229.out 3).trans rfl, (blk_cell BK270.out 0).trans rfl, (blk_cell BK270.out 1).trans rfl, (blk_cell BK270.out 2).trans rfl, (blk_cell BK270.out 3).trans rfl, (blk_cell BK270.out 4).trans rfl, (blk_cell BK270.out 5).trans rfl, (blk_cell BK270.out 6).trans rfl, (blk_cell BK270.out 7).trans rfl, (blk_cell BK270.out 8).trans rfl, (blk_cell BK270.out 9).trans rfl, (blk_cell BK270.out 10).trans rfl, (blk_cell BK270.out 11).trans rfl, (blk_cell BK270.out 12).trans rfl, (blk_cell BK270.out 13).trans rfl, (blk_cell BK270.out 14).trans rfl, (blk_cell BK270.out 15).trans rfl, (blk_cell BK270.out 16).trans rfl, (blk_cell BK270.out 17).trans rfl, (blk_cell BK270.out 18).trans rfl, (blk_cell BK270.out 19).trans rfl, (blk_cell BK270.out 20).trans rfl, (blk_cell BK270.out 21).trans rfl, (blk_cell BK270.out 22).trans rfl, (blk_cell BK270.out 23).trans rfl, (blk_cell BK270.out 24).trans rfl, (blk_cell BK270.out 25).trans rfl, (blk_cell BK270.out 26).trans rfl, (blk_cell BK270.out 27).trans rfl, (blk_cell BK270.out 28).trans rfl, (blk_cell BK270.out 29).trans rfl, (blk_cell BK270.out 30).trans rfl, (blk_cell BK270.out 31).trans rfl⟩ (fun hHeld => ?_)
      clear hK K
      refine norm_ (a' := ?_) ?_ ?_
      rotate_left
      · show Act.put _ (some 24) _ = _
        simp only [Act.put, List.setIfInBounds_toArray, List.set_cons_zero, List.set_cons_succ, i64_w, i32_w]
        rfl
      refine one_ (i := 9) (N := some 27) #[true, true, true, true, true, true, true, true, true, true, false, false] rfl rfl (one_of HT_.out (by kernel_rfl)) (by decide) (fun K hK => ?_)
      refine goes_ Try.func105 (by kernel_rfl) rfl #[.int .i64 t256] (by rfl) rfl rfl (by (try simp only [List.map_toArray, List.map_cons, List.map_nil]); first | done | rfl | (simp only [List.length_drop, List.length_take]; rfl)) ?_
      with_reducible refine (rules_held.calls t256 t273 _ A7.out).mono ?_
      rintro e w23 ⟨rfl, hb⟩
      refine ⟨_, rfl, ?_⟩
      have n0_ := Aside0.mk (blk_below (g := gb229) (o := .cells #[.slice A0_0 l0_0.length c0_0, .slice A0_1 l0_1.length c0_1, .slice A0_2 l0_2.length c0_2, .slice A0_3 l0_3.length c0_3] 59 (0, 0)) (by (with_reducible repeat (first | refine blk_drewN ?_ _ | refine blk_drew ?_ | refine blk_alloc ?_ _)); exact BK229.out) hb)
      have n1_ := Aside0.mk (blk_below (g := gb230) (o := .cells #[.int .i64 a1_0, .string a1_1, .int .i64 a1_2, .int .i64 a1_3, .slice A1_4 l1_4.length c1_4, .int .i64 a1_5, .int .i64 a1_6, .bool a1_7, .bool a1_8, .bool a1_9, .int .i64 a1_10, .string a1_11, .string a1_12, .string a1_13, .int .i64 a1_14, .bool a1_15, .bool a1_16, .int .i64 a1_17, .int .i64 a1_18, .string a1_19, .int .i64 a1_20, .int .i64 a1_21, .int .i64 a1_22, .int .i64 a1_23, .int .i64 a1_24, .bool a1_25, .int .u64 a1_26, .slice A1_27 l1_27.length c1_27, .int .i64 a1_28, .string a1_29, .int .i64 a1_30, .int .i64 a1_31] 68 (0, 0)) (by (with_reducible repeat (first | refine blk_drewN ?_ _ | refine blk_drew ?_ | refine blk_alloc ?_ _)); exact BK230.out) hb)
      have n2_ := Aside0.mk (blk_below (g := gb270) (o := .cells #[.int .i64 t231, .string t232, .int .i64 t233, .int .i64 t234, .slice Aq267 nq267 cq267, .int .i64 t238, .int .i64 t239, .bool t240, .bool t241, .bool t242, .int .i64 t243, .string t244, .string t245, .string t246, .int .i64 t247, .bool t248, .bool t249, .int .i64 t250, .int .i64 t251, .string t252, .int .i64 t253, .int .i64 t254, .int .i64 t255, .int .i64 t256, .int .i64 t257, .bool t258, .int .u64 t259, .slice Aq268 nq268 cq268, .int .i64 t263, .string t264, .int .i64 t265, .int .i64 t266] 68 (0, 0)) (by (with_reducible repeat (first | refine blk_drewN ?_ _ | refine blk_drew ?_ | refine blk_alloc ?_ _)); exact BK270.out) hb)
      have n3_ := Aside0.mk (below_step (by repeat (first | (with_reducible first | exact HB.out | apply below_alloc | apply pw_below_drewN | apply below_drew1 | refine below_set ?_ GE229.out | refine below_set ?_ GE230.out | refine below_set ?_ GE270.out) | exact HB.out)) hb)
      clear BK229
      clear BK230
      clear BK270
      clear HB
      have BK229 := n0_
      have BK230 := n1_
      have BK270 := n2_
      have HB := n3_
      clear n0_ n1_ n2_ n3_
      (try clear hb)
      (try clear hb2)
      (try clear hk)
      (try clear hi)
      refine hK.out _ _ ⟨(blk_cell BK229.out 0).trans rfl, (blk_cell BK229.out 1).trans rfl, (blk_cell BK229.out 2).trans rfl, (blk_cell BK229.out 3).trans rfl, (blk_cell BK270.out 0).trans rfl, (blk_cell BK270.out 1).trans rfl, (blk_cell BK270.out 2).trans rfl, (blk_cell BK270.out 3).trans rfl, (blk_cell BK270.out 4).trans rfl, (blk_cell BK270.out 5).trans rfl, (blk_cell BK270.out 6).trans rfl, (blk_cell BK270.out 7).trans rfl, (blk_cell BK270.out 8).trans rfl, (blk_cell BK270.out 9).trans rfl, (blk_cell BK270.out 10).trans rfl, (blk_cell BK270.out 11).trans rfl, (blk_cell BK270.out 12).trans rfl, (blk_cell BK270.out 13).trans rfl, (blk_cell BK270.out 14).trans rfl, (blk_cell BK270.out 15).trans rfl, (blk_cell BK270.out 16).trans rfl, (blk_cell BK270.out 17).trans rfl, (blk_cell BK270.out 18).trans rfl, (blk_cell BK270.out 19).trans rfl, (blk_cell BK270.out 20).trans rfl, (blk_cell BK270.out 21).trans rfl, (blk_cell BK270.out 22).trans rfl, (blk_cell BK270.out 23).trans rfl, (blk_cell BK270.out 24).trans rfl, (blk_cell BK270.out 25).trans rfl, (blk_cell BK270.out 26).trans rfl, (blk_cell BK270.out 27).trans rfl, (blk_cell BK270.out 28).trans rfl, (blk_cell BK270.out 29).trans rfl, (blk_cell BK270.out 30).trans rfl, (blk_cell BK270.out 31).trans rfl⟩ (fun hHeld => ?_)
      clear hK K
      refine norm_ (a' := ?_) ?_ ?_
      rotate_left
      · show Act.put _ (some 27) _ = _
        simp only [Act.put, List.setIfInBounds_toArray, List.set_cons_zero, List.set_cons_succ, i64_w, i32_w]
        rfl
      refine pure_ (i := 10) (N := some 28) (v := ?_) (a' := ?_) #[true, true, true, true, true, true, true, true, true, true, true, false] rfl rfl (any_of HT_.out (by kernel_rfl)) (fun _ _ _ h => h) (Or.inl ⟨by rfl, ?_⟩) ?_ ?_
      rotate_left
      · intro w'
        go_simp
        with_reducible rfl
      rotate_left
      · simp only [Act.put, List.setIfInBounds_toArray, List.set_cons_zero, List.set_cons_succ, i64_w, i32_w]
        rfl
      refine pure_ (i := 11) (N := some 29) (v := ?_) (a' := ?_) #[true, true, true, true, true, true, true, true, true, true, true, true] rfl rfl (any_of HT_.out (by kernel_rfl)) (fun _ _ _ h => h) (Or.inl ⟨by rfl, ?_⟩) ?_ ?_
      rotate_left
      · intro w'
        go_simp
        with_reducible rfl
      rotate_left
      · simp only [Act.put, List.setIfInBounds_toArray, List.set_cons_zero, List.set_cons_succ, i64_w, i32_w]
        rfl
      refine done_ (done_of HT_.out (by kernel_rfl)) ?_
      try go_wp2
      go_ret
      exact ⟨by first | rfl | (simp [errW_none, errW_some] <;> rfl) | (simp [*, errW_none, errW_some] <;> rfl), by repeat (first | (with_reducible first | exact HB.out | apply below_alloc | apply pw_below_drewN | apply below_drew1 | refine below_set ?_ GE229.out | refine below_set ?_ GE230.out | refine below_set ?_ GE270.out) | exact HB.out)⟩
    · rw [if_neg c8] at H
      have c8b0 : decide ((wrap64 (t272 + t273)) ≤ t271) = false := decide_eq_false c8
      clear c8
      obtain rfl := Option.some.inj H
      go_enter Try.func60, Try.ntmps60
      try go_wp2_with (first | ((with_reducible refine gate_dst (N := 2) rfl ?_); refine box_event ?hg (N := 2) ?hd (cs := #[.slice A0_0 l0_0.length c0_0, .slice A0_1 l0_1.length c0_1, .slice A0_2 l0_2.length c0_2, .slice A0_3 l0_3.length c0_3]) (t := 59) ?hr ?_; (case hd => rfl); (case hg => rfl); (case hr => first | (go_simp; done) | (go_simp; rfl)); intro gb229 hg w24 hbox hb; have n0_ := Aside0.mk (below_step (by repeat (first | (with_reducible first | exact HB.out | apply below_alloc | apply pw_below_drewN | apply below_drew1) | exact HB.out)) hb); have n1_ := Aside0.mk (hbox); have n2_ := Aside0.mk ((by rw [hg]; exact (below_size (by repeat (first | (with_reducible first | exact HB.out | apply below_alloc | apply pw_below_drewN | apply below_drew1) | exact HB.out))) : w.heap.size ≤ gb229)); have n3_ := Aside0.mk ((by rw [hg]; exact (below_size (by repeat (first | (with_reducible first | exact HB.out | apply below_alloc | apply pw_below_drewN | apply below_drew1) | exact HB.out))) : w.heap.size ≤ gb229)); clear HB; have HB := n0_; have BK229 := n1_; have GW229 := n2_; have GE229 := n3_; clear n0_ n1_ n2_ n3_; clear hb hbox hg) | ((with_reducible refine gate_dst (N := 3) rfl ?_); refine box_event ?hg (N := 3) ?hd (cs := #[.int .i64 a1_0, .string a1_1, .int .i64 a1_2, .int .i64 a1_3, .slice A1_4 l1_4.length c1_4, .int .i64 a1_5, .int .i64 a1_6, .bool a1_7, .bool a1_8, .bool a1_9, .int .i64 a1_10, .string a1_11, .string a1_12, .string a1_13, .int .i64 a1_14, .bool a1_15, .bool a1_16, .int .i64 a1_17, .int .i64 a1_18, .string a1_19, .int .i64 a1_20, .int .i64 a1_21, .int .i64 a1_22, .int .i64 a1_23, .int .i64 a1_24, .bool a1_25, .int .u64 a1_26, .slice A1_27 l1_27.length c1_27, .int .i64 a1_28, .string a1_29, .int .i64 a1_30, .int .i64 a1_31]) (t := 68) ?hr ?_; (case hd => rfl); (case hg => rfl); (case hr => first | (go_simp; done) | (go_simp; rfl)); intro gb230 hg w25 hbox hb; have n0_ := Aside0.mk (blk_below (g := gb229) (o := .cells #[.slice A0_0 l0_0.length c0_0, .slice A0_1 l0_1.length c0_1, .slice A0_2 l0_2.length c0_2, .slice A0_3 l0_3.length c0_3] 59 (0, 0)) (by (with_reducible repeat (first | refine blk_drewN ?_ _ | refine blk_drew ?_ | refine blk_alloc ?_ _)); exact BK229.out) hb); have n1_ := Aside0.mk (below_step (by repeat (first | (with_reducible first | exact HB.out | apply below_alloc | apply pw_below_drewN | apply below_drew1 | refine below_set ?_ GE229.out) | exact HB.out)) hb); have n2_ := Aside0.mk (hbox); have n3_ := Aside0.mk ((by rw [hg]; exact (below_size (by repeat (first | (with_reducible first | exact HB.out | apply below_alloc | apply pw_below_drewN | apply below_drew1 | refine below_set ?_ GE229.out) | exact HB.out))) : w.heap.size ≤ gb230)); have n4_ := Aside0.mk ((by rw [hg]; exact (below_size (by repeat (first | (with_reducible first | exact HB.out | apply below_alloc | apply pw_below_drewN | apply below_drew1 | refine below_set ?_ GE229.out) | exact HB.out))) : w.heap.size ≤ gb230)); have n5_ := Aside0.mk ((by rw [hg]; exact Nat.ne_of_lt (blk_lt (g := gb229) (o := .cells #[.slice A0_0 l0_0.length c0_0, .slice A0_1 l0_1.length c0_1, .slice A0_2 l0_2.length c0_2, .slice A0_3 l0_3.length c0_3] 59 (0, 0)) (by (with_reducible repeat (first | refine blk_drewN ?_ _ | refine blk_drew ?_ | refine blk_alloc ?_ _)); exact BK229.out)) : gb229 ≠ gb230)); have n6_ := Aside0.mk ((by rw [hg]; exact Nat.ne_of_gt (blk_lt (g := gb229) (o := .cells #[.slice A0_0 l0_0.length c0_0, .slice A0_1 l0_1.length c0_1, .slice A0_2 l0_2.length c0_2, .slice A0_3 l0_3.length c0_3] 59 (0, 0)) (by (with_reducible repeat (first | refine blk_drewN ?_ _ | refine blk_drew ?_ | refine blk_alloc ?_ _)); exact BK229.out)) : gb230 ≠ gb229)); clear BK229; clear HB; have BK229 := n0_; have HB := n1_; have BK230 := n2_; have GW230 := n3_; have GE230 := n4_; have NB229_230 := n5_; have NB230_229 := n6_; clear n0_ n1_ n2_ n3_ n4_ n5_ n6_; clear hb hbox hg; have hnb26 := NB229_230.out; have hnc26 := NB230_229.out; have hcz27_0 : w25.cell? ⟨gb229, 0, none⟩ = some (.slice A0_0 l0_0.length c0_0) := (blk_cell BK229.out 0).trans rfl; have hcz27_1 : w25.cell? ⟨gb229, 1, none⟩ = some (.slice A0_1 l0_1.length c0_1) := (blk_cell BK229.out 1).trans rfl; have hcz27_2 : w25.cell? ⟨gb229, 2, none⟩ = some (.slice A0_2 l0_2.length c0_2) := (blk_cell BK229.out 2).trans rfl; have hcz27_3 : w25.cell? ⟨gb229, 3, none⟩ = some (.slice A0_3 l0_3.length c0_3) := (blk_cell BK229.out 3).trans rfl; have hfz27_0 := blk_frozen BK229.out 0; have hfz27_1 := blk_frozen BK229.out 1; have hfz27_2 := blk_frozen BK229.out 2; have hfz27_3 := blk_frozen BK229.out 3; have hcz28_0 : w25.cell? ⟨gb230, 0, none⟩ = some (.int .i64 a1_0) := (blk_cell BK230.out 0).trans rfl; have hcz28_1 : w25.cell? ⟨gb230, 1, none⟩ = some (.string a1_1) := (blk_cell BK230.out 1).trans rfl; have hcz28_2 : w25.cell? ⟨gb230, 2, none⟩ = some (.int .i64 a1_2) := (blk_cell BK230.out 2).trans rfl; have hcz28_3 : w25.cell? ⟨gb230, 3, none⟩ = some (.int .i64 a1_3) := (blk_cell BK230.out 3).trans rfl; have hcz28_4 : w25.cell? ⟨gb230, 4, none⟩ = some (.slice A1_4 l1_4.length c1_4) := (blk_cell BK230.out 4).trans rfl; have hcz28_5 : w25.cell? ⟨gb230, 5, none⟩ = some (.int .i64 a1_5) := (blk_cell BK230.out 5).trans rfl; have hcz28_6 : w25.cell? ⟨gb230, 6, none⟩ = some (.int .i64 a1_6) := (blk_cell BK230.out 6).trans rfl; have hcz28_7 : w25.cell? ⟨gb230, 7, none⟩ = some (.bool a1_7) := (blk_cell BK230.out 7).trans rfl; have hcz28_8 : w25.cell? ⟨gb230, 8, none⟩ = some (.bool a1_8) := (blk_cell BK230.out 8).trans rfl; have hcz28_9 : w25.cell? ⟨gb230, 9, none⟩ = some (.bool a1_9) := (blk_cell BK230.out 9).trans rfl; have hcz28_10 : w25.cell? ⟨gb230, 10, none⟩ = some (.int .i64 a1_10) := (blk_cell BK230.out 10).trans rfl; have hcz28_11 : w25.cell? ⟨gb230, 11, none⟩ = some (.string a1_11) := (blk_cell BK230.out 11).trans rfl; have hcz28_12 : w25.cell? ⟨gb230, 12, none⟩ = some (.string a1_12) := (blk_cell BK230.out 12).trans rfl; have hcz28_13 : w25.cell? ⟨gb230, 13, none⟩ = some (.string a1_13) := (blk_cell BK230.out 13).trans rfl; have hcz28_14 : w25.cell? ⟨gb230, 14, none⟩ = some (.int .i64 a1_14) := (blk_cell BK230.out 14).trans rfl; have hcz28_15 : w25.cell? ⟨gb230, 15, none⟩ = some (.bool a1_15) := (blk_cell BK230.out 15).trans rfl; have hcz28_16 : w25.cell? ⟨gb230, 16, none⟩ = some (.bool a1_16) := (blk_cell BK230.out 16).trans rfl; have hcz28_17 : w25.cell? ⟨gb230, 17, none⟩ = some (.int .i64 a1_17) := (blk_cell BK230.out 17).trans rfl; have hcz28_18 : w25.cell? ⟨gb230, 18, none⟩ = some (.int .i64 a1_18) := (blk_cell BK230.out 18).trans rfl; have hcz28_19 : w25.cell? ⟨gb230, 19, none⟩ = some (.string a1_19) := (blk_cell BK230.out 19).trans rfl; have hcz28_20 : w25.cell? ⟨gb230, 20, none⟩ = some (.int .i64 a1_20) := (blk_cell BK230.out 20).trans rfl; have hcz28_21 : w25.cell? ⟨gb230, 21, none⟩ = some (.int .i64 a1_21) := (blk_cell BK230.out 21).trans rfl; have hcz28_22 : w25.cell? ⟨gb230, 22, none⟩ = some (.int .i64 a1_22) := (blk_cell BK230.out 22).trans rfl; have hcz28_23 : w25.cell? ⟨gb230, 23, none⟩ = some (.int .i64 a1_23) := (blk_cell BK230.out 23).trans rfl; have hcz28_24 : w25.cell? ⟨gb230, 24, none⟩ = some (.int .i64 a1_24) := (blk_cell BK230.out 24).trans rfl; have hcz28_25 : w25.cell? ⟨gb230, 25, none⟩ = some (.bool a1_25) := (blk_cell BK230.out 25).trans rfl; have hcz28_26 : w25.cell? ⟨gb230, 26, none⟩ = some (.int .u64 a1_26) := (blk_cell BK230.out 26).trans rfl; have hcz28_27 : w25.cell? ⟨gb230, 27, none⟩ = some (.slice A1_27 l1_27.length c1_27) := (blk_cell BK230.out 27).trans rfl; have hcz28_28 : w25.cell? ⟨gb230, 28, none⟩ = some (.int .i64 a1_28) := (blk_cell BK230.out 28).trans rfl; have hcz28_29 : w25.cell? ⟨gb230, 29, none⟩ = some (.string a1_29) := (blk_cell BK230.out 29).trans rfl; have hcz28_30 : w25.cell? ⟨gb230, 30, none⟩ = some (.int .i64 a1_30) := (blk_cell BK230.out 30).trans rfl; have hcz28_31 : w25.cell? ⟨gb230, 31, none⟩ = some (.int .i64 a1_31) := (blk_cell BK230.out 31).trans rfl; have hfz28_0 := blk_frozen BK230.out 0; have hfz28_1 := blk_frozen BK230.out 1; have hfz28_2 := blk_frozen BK230.out 2; have hfz28_3 := blk_frozen BK230.out 3; have hfz28_4 := blk_frozen BK230.out 4; have hfz28_5 := blk_frozen BK230.out 5; have hfz28_6 := blk_frozen BK230.out 6; have hfz28_7 := blk_frozen BK230.out 7; have hfz28_8 := blk_frozen BK230.out 8; have hfz28_9 := blk_frozen BK230.out 9; have hfz28_10 := blk_frozen BK230.out 10; have hfz28_11 := blk_frozen BK230.out 11; have hfz28_12 := blk_frozen BK230.out 12; have hfz28_13 := blk_frozen BK230.out 13; have hfz28_14 := blk_frozen BK230.out 14; have hfz28_15 := blk_frozen BK230.out 15; have hfz28_16 := blk_frozen BK230.out 16; have hfz28_17 := blk_frozen BK230.out 17; have hfz28_18 := blk_frozen BK230.out 18; have hfz28_19 := blk_frozen BK230.out 19; have hfz28_20 := blk_frozen BK230.out 20; have hfz28_21 := blk_frozen BK230.out 21; have hfz28_22 := blk_frozen BK230.out 22; have hfz28_23 := blk_frozen BK230.out 23; have hfz28_24 := blk_frozen BK230.out 24; have hfz28_25 := blk_frozen BK230.out 25; have hfz28_26 := blk_frozen BK230.out 26; have hfz28_27 := blk_frozen BK230.out 27; have hfz28_28 := blk_frozen BK230.out 28; have hfz28_29 := blk_frozen BK230.out 29; have hfz28_30 := blk_frozen BK230.out 30; have hfz28_31 := blk_frozen BK230.out 31) | ((with_reducible refine gate_callee (f := 103) rfl ?_); refine goesL_ (some 12) rfl rfl Try.func103 (by kernel_rfl) rfl #[.slice A0_2 l0_2.length c0_2, .string a1_11] rfl (by (try simp only [List.map_toArray, List.map_cons, List.map_nil]); first | done | rfl | (simp only [List.length_drop, List.length_take]; rfl)) ?_; (with_reducible refine (rules_find.calls _ _ l0_2 a1_11 t231 t232 t233 t234 t238 t239 t240 t241 t242 t243 t244 t245 t246 t247 t248 t249 t250 t251 t252 t253 t254 t255 t256 t257 t258 t259 t263 t264 t265 t266 true _ ?side1 ?side2 A3.out).mono ?_); (case side1 => repeat (first | exact (Kd.C_below HR0_2.out HB.out) | (with_reducible refine Kd.C_alloc ?_ _) | (with_reducible refine Kd.C_drewN ?_ _) | (with_reducible refine Kd.C_drew ?_))); (case side2 => exact HC0_2.out); rintro e w29 ⟨Aq267, nq267, cq267, Aq268, nq268, cq268, rfl, hb⟩; refine ⟨_, rfl, ?_⟩; have n0_ := Aside0.mk (blk_below (g := gb229) (o := .cells #[.slice A0_0 l0_0.length c0_0, .slice A0_1 l0_1.length c0_1, .slice A0_2 l0_2.length c0_2, .slice A0_3 l0_3.length c0_3] 59 (0, 0)) (by (with_reducible repeat (first | refine blk_drewN ?_ _ | refine blk_drew ?_ | refine blk_alloc ?_ _)); exact BK229.out) hb); have n1_ := Aside0.mk (blk_below (g := gb230) (o := .cells #[.int .i64 a1_0, .string a1_1, .int .i64 a1_2, .int .i64 a1_3, .slice A1_4 l1_4.length c1_4, .int .i64 a1_5, .int .i64 a1_6, .bool a1_7, .bool a1_8, .bool a1_9, .int .i64 a1_10, .string a1_11, .string a1_12, .string a1_13, .int .i64 a1_14, .bool a1_15, .bool a1_16, .int .i64 a1_17, .int .i64 a1_18, .string a1_19, .int .i64 a1_20, .int .i64 a1_21, .int .i64 a1_22, .int .i64 a1_23, .int .i64 a1_24, .bool a1_25, .int .u64 a1_26, .slice A1_27 l1_27.length c1_27, .int .i64 a1_28, .string a1_29, .int .i64 a1_30, .int .i64 a1_31] 68 (0, 0)) (by (with_reducible repeat (first | refine blk_drewN ?_ _ | refine blk_drew ?_ | refine blk_alloc ?_ _)); exact BK230.out) hb); have n2_ := Aside0.mk (below_step (by repeat (first | (with_reducible first | exact HB.out | apply below_alloc | apply pw_below_drewN | apply below_drew1 | refine below_set ?_ GE229.out | refine below_set ?_ GE230.out) | exact HB.out)) hb); clear BK229; clear BK230; clear HB; have BK229 := n0_; have BK230 := n1_; have HB := n2_; clear n0_ n1_ n2_; (try clear hb); (try clear hb2); (try clear hk); (try clear hi)) | ((with_reducible refine gate_dst (N := 5) rfl ?_); refine box_event ?hg (N := 5) ?hd (cs := #[.int .i64 0, .string (⟨#[]⟩ : ByteArray), .int .i64 0, .int .i64 0, .slice none 0 0, .int .i64 0, .int .i64 0, .bool false, .bool false, .bool false, .int .i64 0, .string (⟨#[]⟩ : ByteArray), .string (⟨#[]⟩ : ByteArray), .string (⟨#[]⟩ : ByteArray), .int .i64 0, .bool false, .bool false, .int .i64 0, .int .i64 0, .string (⟨#[]⟩ : ByteArray), .int .i64 0, .int .i64 0, .int .i64 0, .int .i64 0, .int .i64 0, .bool false, .int .u64 0, .slice none 0 0, .int .i64 0, .string (⟨#[]⟩ : ByteArray), .int .i64 0, .int .i64 0]) (t := 68) ?hr ?_; (case hd => rfl); (case hg => rfl); (case hr => first | (go_simp; done) | (go_simp; rfl)); intro gb270 hg w30 hbox hb; have n0_ := Aside0.mk (blk_below (g := gb229) (o := .cells #[.slice A0_0 l0_0.length c0_0, .slice A0_1 l0_1.length c0_1, .slice A0_2 l0_2.length c0_2, .slice A0_3 l0_3.length c0_3] 59 (0, 0)) (by (with_reducible repeat (first | refine blk_drewN ?_ _ | refine blk_drew ?_ | refine blk_alloc ?_ _)); exact BK229.out) hb); have n1_ := Aside0.mk (blk_below (g := gb230) (o := .cells #[.int .i64 a1_0, .string a1_1, .int .i64 a1_2, .int .i64 a1_3, .slice A1_4 l1_4.length c1_4, .int .i64 a1_5, .int .i64 a1_6, .bool a1_7, .bool a1_8, .bool a1_9, .int .i64 a1_10, .string a1_11, .string a1_12, .string a1_13, .int .i64 a1_14, .bool a1_15, .bool a1_16, .int .i64 a1_17, .int .i64 a1_18, .string a1_19, .int .i64 a1_20, .int .i64 a1_21, .int .i64 a1_22, .int .i64 a1_23, .int .i64 a1_24, .bool a1_25, .int .u64 a1_26, .slice A1_27 l1_27.length c1_27, .int .i64 a1_28, .string a1_29, .int .i64 a1_30, .int .i64 a1_31] 68 (0, 0)) (by (with_reducible repeat (first | refine blk_drewN ?_ _ | refine blk_drew ?_ | refine blk_alloc ?_ _)); exact BK230.out) hb); have n2_ := Aside0.mk (below_step (by repeat (first | (with_reducible first | exact HB.out | apply below_alloc | apply pw_below_drewN | apply below_drew1 | refine below_set ?_ GE229.out | refine below_set ?_ GE230.out) | exact HB.out)) hb); have n3_ := Aside0.mk (hbox); have n4_ := Aside0.mk ((by rw [hg]; exact (below_size (by repeat (first | (with_reducible first | exact HB.out | apply below_alloc | apply pw_below_drewN | apply below_drew1 | refine below_set ?_ GE229.out | refine below_set ?_ GE230.out) | exact HB.out))) : w.heap.size ≤ gb270)); have n5_ := Aside0.mk ((by rw [hg]; exact (below_size (by repeat (first | (with_reducible first | exact HB.out | apply below_alloc | apply pw_below_drewN | apply below_drew1 | refine below_set ?_ GE229.out | refine below_set ?_ GE230.out) | exact HB.out))) : w.heap.size ≤ gb270)); have n6_ := Aside0.mk ((by rw [hg]; exact Nat.ne_of_lt (blk_lt (g := gb229) (o := .cells #[.slice A0_0 l0_0.length c0_0, .slice A0_1 l0_1.length c0_1, .slice A0_2 l0_2.length c0_2, .slice A0_3 l0_3.length c0_3] 59 (0, 0)) (by (with_reducible repeat (first | refine blk_drewN ?_ _ | refine blk_drew ?_ | refine blk_alloc ?_ _)); exact BK229.out)) : gb229 ≠ gb270)); have n7_ := Aside0.mk ((by rw [hg]; exact Nat.ne_of_gt (blk_lt (g := gb229) (o := .cells #[.slice A0_0 l0_0.length c0_0, .slice A0_1 l0_1.length c0_1, .slice A0_2 l0_2.length c0_2, .slice A0_3 l0_3.length c0_3] 59 (0, 0)) (by (with_reducible repeat (first | refine blk_drewN ?_ _ | refine blk_drew ?_ | refine blk_alloc ?_ _)); exact BK229.out)) : gb270 ≠ gb229)); have n8_ := Aside0.mk ((by rw [hg]; exact Nat.ne_of_lt (blk_lt (g := gb230) (o := .cells #[.int .i64 a1_0, .string a1_1, .int .i64 a1_2, .int .i64 a1_3, .slice A1_4 l1_4.length c1_4, .int .i64 a1_5, .int .i64 a1_6, .bool a1_7, .bool a1_8, .bool a1_9, .int .i64 a1_10, .string a1_11, .string a1_12, .string a1_13, .int .i64 a1_14, .bool a1_15, .bool a1_16, .int .i64 a1_17, .int .i64 a1_18, .string a1_19, .int .i64 a1_20, .int .i64 a1_21, .int .i64 a1_22, .int .i64 a1_23, .int .i64 a1_24, .bool a1_25, .int .u64 a1_26, .slice A1_27 l1_27.length c1_27, .int .i64 a1_28, .string a1_29, .int .i64 a1_30, .int .i64 a1_31] 68 (0, 0)) (by (with_reducible repeat (first | refine blk_drewN ?_ _ | refine blk_drew ?_ | refine blk_alloc ?_ _)); exact BK230.out)) : gb230 ≠ gb270)); have n9_ := Aside0.mk ((by rw [hg]; exact Nat.ne_of_gt (blk_lt (g := gb230) (o := .cells #[.int .i64 a1_0, .string a1_1, .int .i64 a1_2, .int .i64 a1_3, .slice A1_4 l1_4.length c1_4, .int .i64 a1_5, .int .i64 a1_6, .bool a1_7, .bool a1_8, .bool a1_9, .int .i64 a1_10, .string a1_11, .string a1_12, .string a1_13, .int .i64 a1_14, .bool a1_15, .bool a1_16, .int .i64 a1_17, .int .i64 a1_18, .string a1_19, .int .i64 a1_20, .int .i64 a1_21, .int .i64 a1_22, .int .i64 a1_23, .int .i64 a1_24, .bool a1_25, .int .u64 a1_26, .slice A1_27 l1_27.length c1_27, .int .i64 a1_28, .string a1_29, .int .i64 a1_30, .int .i64 a1_31] 68 (0, 0)) (by (with_reducible repeat (first | refine blk_drewN ?_ _ | refine blk_drew ?_ | refine blk_alloc ?_ _)); exact BK230.out)) : gb270 ≠ gb230)); clear BK229; clear BK230; clear HB; have BK229 := n0_; have BK230 := n1_; have HB := n2_; have BK270 := n3_; have GW270 := n4_; have GE270 := n5_; have NB229_270 := n6_; have NB270_229 := n7_; have NB230_270 := n8_; have NB270_230 := n9_; clear n0_ n1_ n2_ n3_ n4_ n5_ n6_ n7_ n8_ n9_; clear hb hbox hg; have hnb31 := NB270_229.out; have hnc31 := NB229_270.out; have hnb32 := NB270_230.out; have hnc32 := NB230_270.out; have hcz33_0 : w30.cell? ⟨gb270, 0, none⟩ = some (.int .i64 0) := (blk_cell BK270.out 0).trans rfl; have hcz33_1 : w30.cell? ⟨gb270, 1, none⟩ = some (.string (⟨#[]⟩ : ByteArray)) := (blk_cell BK270.out 1).trans rfl; have hcz33_2 : w30.cell? ⟨gb270, 2, none⟩ = some (.int .i64 0) := (blk_cell BK270.out 2).trans rfl; have hcz33_3 : w30.cell? ⟨gb270, 3, none⟩ = some (.int .i64 0) := (blk_cell BK270.out 3).trans rfl; have hcz33_4 : w30.cell? ⟨gb270, 4, none⟩ = some (.slice none 0 0) := (blk_cell BK270.out 4).trans rfl; have hcz33_5 : w30.cell? ⟨gb270, 5, none⟩ = some (.int .i64 0) := (blk_cell BK270.out 5).trans rfl; have hcz33_6 : w30.cell? ⟨gb270, 6, none⟩ = some (.int .i64 0) := (blk_cell BK270.out 6).trans rfl; have hcz33_7 : w30.cell? ⟨gb270, 7, none⟩ = some (.bool false) := (blk_cell BK270.out 7).trans rfl; have hcz33_8 : w30.cell? ⟨gb270, 8, none⟩ = some (.bool false) := (blk_cell BK270.out 8).trans rfl; have hcz33_9 : w30.cell? ⟨gb270, 9, none⟩ = some (.bool false) := (blk_cell BK270.out 9).trans rfl; have hcz33_10 : w30.cell? ⟨gb270, 10, none⟩ = some (.int .i64 0) := (blk_cell BK270.out 10).trans rfl; have hcz33_11 : w30.cell? ⟨gb270, 11, none⟩ = some (.string (⟨#[]⟩ : ByteArray)) := (blk_cell BK270.out 11).trans rfl; have hcz33_12 : w30.cell? ⟨gb270, 12, none⟩ = some (.string (⟨#[]⟩ : ByteArray)) := (blk_cell BK270.out 12).trans rfl; have hcz33_13 : w30.cell? ⟨gb270, 13, none⟩ = some (.string (⟨#[]⟩ : ByteArray)) := (blk_cell BK270.out 13).trans rfl; have hcz33_14 : w30.cell? ⟨gb270, 14, none⟩ = some (.int .i64 0) := (blk_cell BK270.out 14).trans rfl; have hcz33_15 : w30.cell? ⟨gb270, 15, none⟩ = some (.bool false) := (blk_cell BK270.out 15).trans rfl; have hcz33_16 : w30.cell? ⟨gb270, 16, none⟩ = some (.bool false) := (blk_cell BK270.out 16).trans rfl; have hcz33_17 : w30.cell? ⟨gb270, 17, none⟩ = some (.int .i64 0) := (blk_cell BK270.out 17).trans rfl; have hcz33_18 : w30.cell? ⟨gb270, 18, none⟩ = some (.int .i64 0) := (blk_cell BK270.out 18).trans rfl; have hcz33_19 : w30.cell? ⟨gb270, 19, none⟩ = some (.string (⟨#[]⟩ : ByteArray)) := (blk_cell BK270.out 19).trans rfl; have hcz33_20 : w30.cell? ⟨gb270, 20, none⟩ = some (.int .i64 0) := (blk_cell BK270.out 20).trans rfl; have hcz33_21 : w30.cell? ⟨gb270, 21, none⟩ = some (.int .i64 0) := (blk_cell BK270.out 21).trans rfl; have hcz33_22 : w30.cell? ⟨gb270, 22, none⟩ = some (.int .i64 0) := (blk_cell BK270.out 22).trans rfl; have hcz33_23 : w30.cell? ⟨gb270, 23, none⟩ = some (.int .i64 0) := (blk_cell BK270.out 23).trans rfl; have hcz33_24 : w30.cell? ⟨gb270, 24, none⟩ = some (.int .i64 0) := (blk_cell BK270.out 24).trans rfl; have hcz33_25 : w30.cell? ⟨gb270, 25, none⟩ = some (.bool false) := (blk_cell BK270.out 25).trans rfl; have hcz33_26 : w30.cell? ⟨gb270, 26, none⟩ = some (.int .u64 0) := (blk_cell BK270.out 26).trans rfl; have hcz33_27 : w30.cell? ⟨gb270, 27, none⟩ = some (.slice none 0 0) := (blk_cell BK270.out 27).trans rfl; have hcz33_28 : w30.cell? ⟨gb270, 28, none⟩ = some (.int .i64 0) := (blk_cell BK270.out 28).trans rfl; have hcz33_29 : w30.cell? ⟨gb270, 29, none⟩ = some (.string (⟨#[]⟩ : ByteArray)) := (blk_cell BK270.out 29).trans rfl; have hcz33_30 : w30.cell? ⟨gb270, 30, none⟩ = some (.int .i64 0) := (blk_cell BK270.out 30).trans rfl; have hcz33_31 : w30.cell? ⟨gb270, 31, none⟩ = some (.int .i64 0) := (blk_cell BK270.out 31).trans rfl; have hfz33_0 := blk_frozen BK270.out 0; have hfz33_1 := blk_frozen BK270.out 1; have hfz33_2 := blk_frozen BK270.out 2; have hfz33_3 := blk_frozen BK270.out 3; have hfz33_4 := blk_frozen BK270.out 4; have hfz33_5 := blk_frozen BK270.out 5; have hfz33_6 := blk_frozen BK270.out 6; have hfz33_7 := blk_frozen BK270.out 7; have hfz33_8 := blk_frozen BK270.out 8; have hfz33_9 := blk_frozen BK270.out 9; have hfz33_10 := blk_frozen BK270.out 10; have hfz33_11 := blk_frozen BK270.out 11; have hfz33_12 := blk_frozen BK270.out 12; have hfz33_13 := blk_frozen BK270.out 13; have hfz33_14 := blk_frozen BK270.out 14; have hfz33_15 := blk_frozen BK270.out 15; have hfz33_16 := blk_frozen BK270.out 16; have hfz33_17 := blk_frozen BK270.out 17; have hfz33_18 := blk_frozen BK270.out 18; have hfz33_19 := blk_frozen BK270.out 19; have hfz33_20 := blk_frozen BK270.out 20; have hfz33_21 := blk_frozen BK270.out 21; have hfz33_22 := blk_frozen BK270.out 22; have hfz33_23 := blk_frozen BK270.out 23; have hfz33_24 := blk_frozen BK270.out 24; have hfz33_25 := blk_frozen BK270.out 25; have hfz33_26 := blk_frozen BK270.out 26; have hfz33_27 := blk_frozen BK270.out 27; have hfz33_28 := blk_frozen BK270.out 28; have hfz33_29 := blk_frozen BK270.out 29; have hfz33_30 := blk_frozen BK270.out 30; have hfz33_31 := blk_frozen BK270.out 31) | ((with_reducible refine gate_store (t := 68) (p := 5) rfl ?_); refine box_store_event (t := 68) (ty := 68) (p := 5) (x := ?vo_w34) (g := gb270) (cs := #[.int .i64 0, .string (⟨#[]⟩ : ByteArray), .int .i64 0, .int .i64 0, .slice none 0 0, .int .i64 0, .int .i64 0, .bool false, .bool false, .bool false, .int .i64 0, .string (⟨#[]⟩ : ByteArray), .string (⟨#[]⟩ : ByteArray), .string (⟨#[]⟩ : ByteArray), .int .i64 0, .bool false, .bool false, .int .i64 0, .int .i64 0, .string (⟨#[]⟩ : ByteArray), .int .i64 0, .int .i64 0, .int .i64 0, .int .i64 0, .int .i64 0, .bool false, .int .u64 0, .slice none 0 0, .int .i64 0, .string (⟨#[]⟩ : ByteArray), .int .i64 0, .int .i64 0]) (cs' := #[.int .i64 t231, .string t232, .int .i64 t233, .int .i64 t234, .slice Aq267 nq267 cq267, .int .i64 t238, .int .i64 t239, .bool t240, .bool t241, .bool t242, .int .i64 t243, .string t244, .string t245, .string t246, .int .i64 t247, .bool t248, .bool t249, .int .i64 t250, .int .i64 t251, .string t252, .int .i64 t253, .int .i64 t254, .int .i64 t255, .int .i64 t256, .int .i64 t257, .bool t258, .int .u64 t259, .slice Aq268 nq268 cq268, .int .i64 t263, .string t264, .int .i64 t265, .int .i64 t266]) ?hgd ?ho ?hN ?he ?hv ?hi ?hb ?hs ?h1 ?_; (case ho => rfl); (case hgd => rfl); (case hN => rfl); (case he => rfl); (case hv => first | rfl | (simp; done)); (case hi => exact size68); (case hb => (with_reducible repeat (first | refine blk_drewN ?_ _ | refine blk_drew ?_ | refine blk_alloc ?_ _)); exact BK270.out); (case hs => rfl); (case h1 => rfl); intro w34 hbox hg; have n0_ := Aside0.mk (blk_grown (by (with_reducible repeat (first | refine blk_drewN ?_ _ | refine blk_drew ?_ | refine blk_alloc ?_ _)); exact BK229.out) hg (fun e_ => NB229_270.out (Option.some.inj e_))); have n1_ := Aside0.mk (blk_grown (by (with_reducible repeat (first | refine blk_drewN ?_ _ | refine blk_drew ?_ | refine blk_alloc ?_ _)); exact BK230.out) hg (fun e_ => NB230_270.out (Option.some.inj e_))); have n2_ := Aside0.mk (hbox); have n3_ := Aside0.mk (Below.grown (by repeat (first | (with_reducible first | exact HB.out | apply below_alloc | apply pw_below_drewN | apply below_drew1 | refine below_set ?_ GE229.out | refine below_set ?_ GE230.out | refine below_set ?_ GE270.out) | exact HB.out)) hg (below_size (by repeat (first | (with_reducible first | exact HB.out | apply below_alloc | apply pw_below_drewN | apply below_drew1 | refine below_set ?_ GE229.out | refine below_set ?_ GE230.out | refine below_set ?_ GE270.out) | exact HB.out))) (fun k_ e_ => by injection e_ with e_; subst e_; exact GE270.out)); clear BK229; clear BK230; clear BK270; clear HB; have BK229 := n0_; have BK230 := n1_; have BK270 := n2_; have HB := n3_; clear n0_ n1_ n2_ n3_; clear hbox hg))
      have n0_ := Aside0.mk (blk_drew BK229.out)
      have n1_ := Aside0.mk (blk_drew BK230.out)
      have n2_ := Aside0.mk (blk_drew BK270.out)
      have n3_ := Aside0.mk (below_drew1 HB.out)
      clear BK229
      clear BK230
      clear BK270
      clear HB
      have BK229 := n0_
      have BK230 := n1_
      have BK270 := n2_
      have HB := n3_
      clear n0_ n1_ n2_ n3_
      refine start_ (n := 12) (S := fun w' => w'.cell? ⟨gb229, 0, none⟩ = some (.slice A0_0 l0_0.length c0_0) ∧ w'.cell? ⟨gb229, 1, none⟩ = some (.slice A0_1 l0_1.length c0_1) ∧ w'.cell? ⟨gb229, 2, none⟩ = some (.slice A0_2 l0_2.length c0_2) ∧ w'.cell? ⟨gb229, 3, none⟩ = some (.slice A0_3 l0_3.length c0_3) ∧ w'.cell? ⟨gb270, 0, none⟩ = some (.int .i64 t231) ∧ w'.cell? ⟨gb270, 1, none⟩ = some (.string t232) ∧ w'.cell? ⟨gb270, 2, none⟩ = some (.int .i64 t233) ∧ w'.cell? ⟨gb270, 3, none⟩ = some (.int .i64 t234) ∧ w'.cell? ⟨gb270, 4, none⟩ = some (.slice Aq267 nq267 cq267) ∧ w'.cell? ⟨gb270, 5, none⟩ = some (.int .i64 t238) ∧ w'.cell? ⟨gb270, 6, none⟩ = some (.int .i64 t239) ∧ w'.cell? ⟨gb270, 7, none⟩ = some (.bool t240) ∧ w'.cell? ⟨gb270, 8, none⟩ = some (.bool t241) ∧ w'.cell? ⟨gb270, 9, none⟩ = some (.bool t242) ∧ w'.cell? ⟨gb270, 10, none⟩ = some (.int .i64 t243) ∧ w'.cell? ⟨gb270, 11, none⟩ = some (.string t244) ∧ w'.cell? ⟨gb270, 12, none⟩ = some (.string t245) ∧ w'.cell? ⟨gb270, 13, none⟩ = some (.string t246) ∧ w'.cell? ⟨gb270, 14, none⟩ = some (.int .i64 t247) ∧ w'.cell? ⟨gb270, 15, none⟩ = some (.bool t248) ∧ w'.cell? ⟨gb270, 16, none⟩ = some (.bool t249) ∧ w'.cell? ⟨gb270, 17, none⟩ = some (.int .i64 t250) ∧ w'.cell? ⟨gb270, 18, none⟩ = some (.int .i64 t251) ∧ w'.cell? ⟨gb270, 19, none⟩ = some (.string t252) ∧ w'.cell? ⟨gb270, 20, none⟩ = some (.int .i64 t253) ∧ w'.cell? ⟨gb270, 21, none⟩ = some (.int .i64 t254) ∧ w'.cell? ⟨gb270, 22, none⟩ = some (.int .i64 t255) ∧ w'.cell? ⟨gb270, 23, none⟩ = some (.int .i64 t256) ∧ w'.cell? ⟨gb270, 24, none⟩ = some (.int .i64 t257) ∧ w'.cell? ⟨gb270, 25, none⟩ = some (.bool t258) ∧ w'.cell? ⟨gb270, 26, none⟩ = some (.int .u64 t259) ∧ w'.cell? ⟨gb270, 27, none⟩ = some (.slice Aq268 nq268 cq268) ∧ w'.cell? ⟨gb270, 28, none⟩ = some (.int .i64 t263) ∧ w'.cell? ⟨gb270, 29, none⟩ = some (.string t264) ∧ w'.cell? ⟨gb270, 30, none⟩ = some (.int .i64 t265) ∧ w'.cell? ⟨gb270, 31, none⟩ = some (.int .i64 t266)) (ds := []) #[false, false, false, false, false, false, false, false, false, false, false, false] (by kernel_rfl) rfl rfl ⟨(blk_cell BK229.out 0).trans rfl, (blk_cell BK229.out 1).trans rfl, (blk_cell BK229.out 2).trans rfl, (blk_cell BK229.out 3).trans rfl, (blk_cell BK270.out 0).trans rfl, (blk_cell BK270.out 1).trans rfl, (blk_cell BK270.out 2).trans rfl, (blk_cell BK270.out 3).trans rfl, (blk_cell BK270.out 4).trans rfl, (blk_cell BK270.out 5).trans rfl, (blk_cell BK270.out 6).trans rfl, (blk_cell BK270.out 7).trans rfl, (blk_cell BK270.out 8).trans rfl, (blk_cell BK270.out 9).trans rfl, (blk_cell BK270.out 10).trans rfl, (blk_cell BK270.out 11).trans rfl, (blk_cell BK270.out 12).trans rfl, (blk_cell BK270.out 13).trans rfl, (blk_cell BK270.out 14).trans rfl, (blk_cell BK270.out 15).trans rfl, (blk_cell BK270.out 16).trans rfl, (blk_cell BK270.out 17).trans rfl, (blk_cell BK270.out 18).trans rfl, (blk_cell BK270.out 19).trans rfl, (blk_cell BK270.out 20).trans rfl, (blk_cell BK270.out 21).trans rfl, (blk_cell BK270.out 22).trans rfl, (blk_cell BK270.out 23).trans rfl, (blk_cell BK270.out 24).trans rfl, (blk_cell BK270.out 25).trans rfl, (blk_cell BK270.out 26).trans rfl, (blk_cell BK270.out 27).trans rfl, (blk_cell BK270.out 28).trans rfl, (blk_cell BK270.out 29).trans rfl, (blk_cell BK270.out 30).trans rfl, (blk_cell BK270.out 31).trans rfl⟩ (fun hHeld => ?_); refine with_tabW rules_Spawn.tab4 rules_Spawn.bits4 (fun HT_ HW_ => ?_)
      generalize w34.drew = w35 at BK229 BK230 BK270 HB hHeld ⊢
      refine pure_ (i := 1) (N := some 19) (v := ?_) (a' := ?_) #[false, true, false, false, false, false, false, false, false, false, false, false] rfl rfl (any_of HT_.out (by kernel_rfl)) (fun _ _ _ h => h) (Or.inl ⟨by rfl, ?_⟩) ?_ ?_
      rotate_left
      · intro w'
        go_simp
        with_reducible rfl
      rotate_left
      · simp only [Act.put, List.setIfInBounds_toArray, List.set_cons_zero, List.set_cons_succ, i64_w, i32_w]
        rfl
      refine pure_ (i := 4) (N := some 22) (v := ?_) (a' := ?_) #[false, true, false, false, true, false, false, false, false, false, false, false] rfl rfl (any_of HT_.out (by kernel_rfl)) (fun _ _ _ h => h) (Or.inl ⟨by rfl, ?_⟩) ?_ ?_
      rotate_left
      · intro w'
        go_simp
        with_reducible rfl
      rotate_left
      · simp only [Act.put, List.setIfInBounds_toArray, List.set_cons_zero, List.set_cons_succ, i64_w, i32_w]
        rfl
      refine pure_ (i := 7) (N := some 25) (v := ?_) (a' := ?_) #[false, true, false, false, true, false, false, true, false, false, false, false] rfl rfl (any_of HT_.out (by kernel_rfl)) (fun _ _ _ h => h) (Or.inl ⟨by rfl, ?_⟩) ?_ ?_
      rotate_left
      · intro w'
        go_simp
        with_reducible rfl
      rotate_left
      · simp only [Act.put, List.setIfInBounds_toArray, List.set_cons_zero, List.set_cons_succ, i64_w, i32_w]
        rfl
      refine take_ (i := 0) (N := some 18) (v := ?_) (a' := ?_) #[true, true, false, false, true, false, false, true, false, false, false, false] rfl rfl (take_ofW HT_.out HW_.out (by kernel_rfl)) (fun _ _ _ h => h) (Or.inl ⟨by rfl, ?_⟩) hHeld ?_ ?_
      rotate_left
      · rintro w' ⟨s0, s1, s2, s3, s4, s5, s6, s7, s8, s9, s10, s11, s12, s13, s14, s15, s16, s17, s18, s19, s20, s21, s22, s23, s24, s25, s26, s27, s28, s29, s30, s31, s32, s33, s34, s35⟩
        go_simp
        with_reducible rfl
      rotate_left
      · simp only [Act.put, List.setIfInBounds_toArray, List.set_cons_zero, List.set_cons_succ, i64_w, i32_w]
        rfl
      refine take_ (i := 2) (N := some 20) (v := ?_) (a' := ?_) #[true, true, true, false, true, false, false, true, false, false, false, false] rfl rfl (take_ofW HT_.out HW_.out (by kernel_rfl)) (fun _ _ _ h => h) (Or.inl ⟨by rfl, ?_⟩) hHeld ?_ ?_
      rotate_left
      · rintro w' ⟨s0, s1, s2, s3, s4, s5, s6, s7, s8, s9, s10, s11, s12, s13, s14, s15, s16, s17, s18, s19, s20, s21, s22, s23, s24, s25, s26, s27, s28, s29, s30, s31, s32, s33, s34, s35⟩
        go_simp
        with_reducible rfl
      rotate_left
      · simp only [Act.put, List.setIfInBounds_toArray, List.set_cons_zero, List.set_cons_succ, i64_w, i32_w]
        rfl
      refine take_ (i := 5) (N := some 23) (v := ?_) (a' := ?_) #[true, true, true, false, true, true, false, true, false, false, false, false] rfl rfl (take_ofW HT_.out HW_.out (by kernel_rfl)) (fun _ _ _ h => h) (Or.inl ⟨by rfl, ?_⟩) hHeld ?_ ?_
      rotate_left
      · rintro w' ⟨s0, s1, s2, s3, s4, s5, s6, s7, s8, s9, s10, s11, s12, s13, s14, s15, s16, s17, s18, s19, s20, s21, s22, s23, s24, s25, s26, s27, s28, s29, s30, s31, s32, s33, s34, s35⟩
        go_simp
        with_reducible rfl
      rotate_left
      · simp only [Act.put, List.setIfInBounds_toArray, List.set_cons_zero, List.set_cons_succ, i64_w, i32_w]
        rfl
      refine take_ (i := 8) (N := some 26) (v := ?_) (a' := ?_) #[true, true, true, false, true, true, false, true, true, false, false, false] rfl rfl (take_ofW HT_.out HW_.out (by kernel_rfl)) (fun _ _ _ h => h) (Or.inl ⟨by rfl, ?_⟩) hHeld ?_ ?_
      rotate_left
      · rintro w' ⟨s0, s1, s2, s3, s4, s5, s6, s7, s8, s9, s10, s11, s12, s13, s14, s15, s16, s17, s18, s19, s20, s21, s22, s23, s24, s25, s26, s27, s28, s29, s30, s31, s32, s33, s34, s35⟩
        go_simp
        with_reducible rfl
      rotate_left
      · simp only [Act.put, List.setIfInBounds_toArray, List.set_cons_zero, List.set_cons_succ, i64_w, i32_w]
        rfl
      refine one_ (i := 3) (N := some 21) #[true, true, true, true, true, true, false, true, true, false, false, false] rfl rfl (one_of HT_.out (by kernel_rfl)) (by decide) (fun K hK => ?_)
      refine goes_ Try.func34 (by kernel_rfl) rfl #[.agg #[.slice A0_0 l0_0.length c0_0, .slice A0_1 l0_1.length c0_1, .slice A0_2 l0_2.length c0_2, .slice A0_3 l0_3.length c0_3], .string t232] (by rfl) rfl rfl (by (try simp only [List.map_toArray, List.map_cons, List.map_nil]); first | done | rfl | (simp only [List.length_drop, List.length_take]; rfl)) ?_
      with_reducible refine (rules_Owned.calls _ _ l0_0 _ _ l0_1 _ _ l0_2 _ _ l0_3 t232 t271 _ ?side1 ?side2 ?side3 ?side4 ?side5 ?side6 ?side7 ?side8 A5.out).mono ?_
      (case side1 => repeat (first | exact (Kd.C_below HR0_0.out HB.out) | (with_reducible refine Kd.C_alloc ?_ _) | (with_reducible refine Kd.C_drewN ?_ _) | (with_reducible refine Kd.C_drew ?_)))
      (case side2 => exact HC0_0.out)
      (case side3 => repeat (first | exact (Kd.C_below HR0_1.out HB.out) | (with_reducible refine Kd.C_alloc ?_ _) | (with_reducible refine Kd.C_drewN ?_ _) | (with_reducible refine Kd.C_drew ?_)))
      (case side4 => exact HC0_1.out)
      (case side5 => repeat (first | exact (Kd.C_below HR0_2.out HB.out) | (with_reducible refine Kd.C_alloc ?_ _) | (with_reducible refine Kd.C_drewN ?_ _) | (with_reducible refine Kd.C_drew ?_)))
      (case side6 => exact HC0_2.out)
      (case side7 => repeat (first | exact (Kd.C_below HR0_3.out HB.out) | (with_reducible refine Kd.C_alloc ?_ _) | (with_reducible refine Kd.C_drewN ?_ _) | (with_reducible refine Kd.C_drew ?_)))
      (case side8 => exact HC0_3.out)
      rintro e w36 ⟨rfl, hb⟩
      refine ⟨_, rfl, ?_⟩
      have n0_ := Aside0.mk (blk_below (g := gb229) (o := .cells #[.slice A0_0 l0_0.length c0_0, .slice A0_1 l0_1.length c0_1, .slice A0_2 l0_2.length c0_2, .slice A0_3 l0_3.length c0_3] 59 (0, 0)) (by (with_reducible repeat (first | refine blk_drewN ?_ _ | refine blk_drew ?_ | refine blk_alloc ?_ _)); exact BK229.out) hb)
      have n1_ := Aside0.mk (blk_below (g := gb230) (o := .cells #[.int .i64 a1_0, .string a1_1, .int .i64 a1_2, .int .i64 a1_3, .slice A1_4 l1_4.length c1_4, .int .i64 a1_5, .int .i64 a1_6, .bool a1_7, .bool a1_8, .bool a1_9, .int .i64 a1_10, .string a1_11, .string a1_12, .string a1_13, .int .i64 a1_14, .bool a1_15, .bool a1_16, .int .i64 a1_17, .int .i64 a1_18, .string a1_19, .int .i64 a1_20, .int .i64 a1_21, .int .i64 a1_22, .int .i64 a1_23, .int .i64 a1_24, .bool a1_25, .int .u64 a1_26, .slice A1_27 l1_27.length c1_27, .int .i64 a1_28, .string a1_29, .int .i64 a1_30, .int .i64 a1_31] 68 (0, 0)) (by (with_reducible repeat (first | refine blk_drewN ?_ _ | refine blk_drew ?_ | refine blk_alloc ?_ _)); exact BK230.out) hb)
      have n2_ := Aside0.mk (blk_below (g := gb270) (o := .cells #[.int .i64 t231, .string t232, .int .i64 t233, .int .i64 t234, .slice Aq267 nq267 cq267, .int .i64 t238, .int .i64 t239, .bool t240, .bool t241, .bool t242, .int .i64 t243, .string t244, .string t245, .string t246, .int .i64 t247, .bool t248, .bool t249, .int .i64 t250, .int .i64 t251, .string t252, .int .i64 t253, .int .i64 t254, .int .i64 t255, .int .i64 t256, .int .i64 t257, .bool t258, .int .u64 t259, .slice Aq268 nq268 cq268, .int .i64 t263, .string t264, .int .i64 t265, .int .i64 t266] 68 (0, 0)) (by (with_reducible repeat (first | refine blk_drewN ?_ _ | refine blk_drew ?_ | refine blk_alloc ?_ _)); exact BK270.out) hb)
      have n3_ := Aside0.mk (below_step (by repeat (first | (with_reducible first | exact HB.out | apply below_alloc | apply pw_below_drewN | apply below_drew1 | refine below_set ?_ GE229.out | refine below_set ?_ GE230.out | refine below_set ?_ GE270.out) | exact HB.out)) hb)
      clear BK229
      clear BK230
      clear BK270
      clear HB
      have BK229 := n0_
      have BK230 := n1_
      have BK270 := n2_
      have HB := n3_
      clear n0_ n1_ n2_ n3_
      (try clear hb)
      (try clear hb2)
      (try clear hk)
      (try clear hi)
      refine hK.out _ _ ⟨(blk_cell BK229.out 0).trans rfl, (blk_cell BK229.out 1).trans rfl, (blk_cell BK229.out 2).trans rfl, (blk_cell BK229.out 3).trans rfl, (blk_cell BK270.out 0).trans rfl, (blk_cell BK270.out 1).trans rfl, (blk_cell BK270.out 2).trans rfl, (blk_cell BK270.out 3).trans rfl, (blk_cell BK270.out 4).trans rfl, (blk_cell BK270.out 5).trans rfl, (blk_cell BK270.out 6).trans rfl, (blk_cell BK270.out 7).trans rfl, (blk_cell BK270.out 8).trans rfl, (blk_cell BK270.out 9).trans rfl, (blk_cell BK270.out 10).trans rfl, (blk_cell BK270.out 11).trans rfl, (blk_cell BK270.out 12).trans rfl, (blk_cell BK270.out 13).trans rfl, (blk_cell BK270.out 14).trans rfl, (blk_cell BK270.out 15).trans rfl, (blk_cell BK270.out 16).trans rfl, (blk_cell BK270.out 17).trans rfl, (blk_cell BK270.out 18).trans rfl, (blk_cell BK270.out 19).trans rfl, (blk_cell BK270.out 20).trans rfl, (blk_cell BK270.out 21).trans rfl, (blk_cell BK270.out 22).trans rfl, (blk_cell BK270.out 23).trans rfl, (blk_cell BK270.out 24).trans rfl, (blk_cell BK270.out 25).trans rfl, (blk_cell BK270.out 26).trans rfl, (blk_cell BK270.out 27).trans rfl, (blk_cell BK270.out 28).trans rfl, (blk_cell BK270.out 29).trans rfl, (blk_cell BK270.out 30).trans rfl, (blk_cell BK270.out 31).trans rfl⟩ (fun hHeld => ?_)
      clear hK K
      refine norm_ (a' := ?_) ?_ ?_
      rotate_left
      · show Act.put _ (some 21) _ = _
        simp only [Act.put, List.setIfInBounds_toArray, List.set_cons_zero, List.set_cons_succ, i64_w, i32_w]
        rfl
      refine one_ (i := 6) (N := some 24) #[true, true, true, true, true, true, true, true, true, false, false, false] rfl rfl (one_of HT_.out (by kernel_rfl)) (by decide) (fun K hK => ?_)
      refine goes_ Try.func105 (by kernel_rfl) rfl #[.int .i64 t255] (by rfl) rfl rfl (by (try simp only [List.map_toArray, List.map_cons, List.map_nil]); first | done | rfl | (simp only [List.length_drop, List.length_take]; rfl)) ?_
      with_reducible refine (rules_held.calls t255 t272 _ A6.out).mono ?_
      rintro e w37 ⟨rfl, hb⟩
      refine ⟨_, rfl, ?_⟩
      have n0_ := Aside0.mk (blk_below (g := gb229) (o := .cells #[.slice A0_0 l0_0.length c0_0, .slice A0_1 l0_1.length c0_1, .slice A0_2 l0_2.length c0_2, .slice A0_3 l0_3.length c0_3] 59 (0, 0)) (by (with_reducible repeat (first | refine blk_drewN ?_ _ | refine blk_drew ?_ | refine blk_alloc ?_ _)); exact BK229.out) hb)
      have n1_ := Aside0.mk (blk_below (g := gb230) (o := .cells #[.int .i64 a1_0, .string a1_1, .int .i64 a1_2, .int .i64 a1_3, .slice A1_4 l1_4.length c1_4, .int .i64 a1_5, .int .i64 a1_6, .bool a1_7, .bool a1_8, .bool a1_9, .int .i64 a1_10, .string a1_11, .string a1_12, .string a1_13, .int .i64 a1_14, .bool a1_15, .bool a1_16, .int .i64 a1_17, .int .i64 a1_18, .string a1_19, .int .i64 a1_20, .int .i64 a1_21, .int .i64 a1_22, .int .i64 a1_23, .int .i64 a1_24, .bool a1_25, .int .u64 a1_26, .slice A1_27 l1_27.length c1_27, .int .i64 a1_28, .string a1_29, .int .i64 a1_30, .int .i64 a1_31] 68 (0, 0)) (by (with_reducible repeat (first | refine blk_drewN ?_ _ | refine blk_drew ?_ | refine blk_alloc ?_ _)); exact BK230.out) hb)
      have n2_ := Aside0.mk (blk_below (g := gb270) (o := .cells #[.int .i64 t231, .string t232, .int .i64 t233, .int .i64 t234, .slice Aq267 nq267 cq267, .int .i64 t238, .int .i64 t239, .bool t240, .bool t241, .bool t242, .int .i64 t243, .string t244, .string t245, .string t246, .int .i64 t247, .bool t248, .bool t249, .int .i64 t250, .int .i64 t251, .string t252, .int .i64 t253, .int .i64 t254, .int .i64 t255, .int .i64 t256, .int .i64 t257, .bool t258, .int .u64 t259, .slice Aq268 nq268 cq268, .int .i64 t263, .string t264, .int .i64 t265, .int .i64 t266] 68 (0, 0)) (by (with_reducible repeat (first | refine blk_drewN ?_ _ | refine blk_drew ?_ | refine blk_alloc ?_ _)); exact BK270.out) hb)
      have n3_ := Aside0.mk (below_step (by repeat (first | (with_reducible first | exact HB.out | apply below_alloc | apply pw_below_drewN | apply below_drew1 | refine below_set ?_ GE229.out | refine below_set ?_ GE230.out | refine below_set ?_ GE270.out) | exact HB.out)) hb)
      clear BK229
      clear BK230
      clear BK270
      clear HB
      have BK229 := n0_
      have BK230 := n1_
      have BK270 := n2_
      have HB := n3_
      clear n0_ n1_ n2_ n3_
      (try clear hb)
      (try clear hb2)
      (try clear hk)
      (try clear hi)
      refine hK.out _ _ ⟨(blk_cell BK229.out 0).trans rfl, (blk_cell BK229.out 1).trans rfl, (blk_cell BK229.out 2).trans rfl, (blk_cell BK229.out 3).trans rfl, (blk_cell BK270.out 0).trans rfl, (blk_cell BK270.out 1).trans rfl, (blk_cell BK270.out 2).trans rfl, (blk_cell BK270.out 3).trans rfl, (blk_cell BK270.out 4).trans rfl, (blk_cell BK270.out 5).trans rfl, (blk_cell BK270.out 6).trans rfl, (blk_cell BK270.out 7).trans rfl, (blk_cell BK270.out 8).trans rfl, (blk_cell BK270.out 9).trans rfl, (blk_cell BK270.out 10).trans rfl, (blk_cell BK270.out 11).trans rfl, (blk_cell BK270.out 12).trans rfl, (blk_cell BK270.out 13).trans rfl, (blk_cell BK270.out 14).trans rfl, (blk_cell BK270.out 15).trans rfl, (blk_cell BK270.out 16).trans rfl, (blk_cell BK270.out 17).trans rfl, (blk_cell BK270.out 18).trans rfl, (blk_cell BK270.out 19).trans rfl, (blk_cell BK270.out 20).trans rfl, (blk_cell BK270.out 21).trans rfl, (blk_cell BK270.out 22).trans rfl, (blk_cell BK270.out 23).trans rfl, (blk_cell BK270.out 24).trans rfl, (blk_cell BK270.out 25).trans rfl, (blk_cell BK270.out 26).trans rfl, (blk_cell BK270.out 27).trans rfl, (blk_cell BK270.out 28).trans rfl, (blk_cell BK270.out 29).trans rfl, (blk_cell BK270.out 30).trans rfl, (blk_cell BK270.out 31).trans rfl⟩ (fun hHeld => ?_)
      clear hK K
      refine norm_ (a' := ?_) ?_ ?_
      rotate_left
      · show Act.put _ (some 24) _ = _
        simp only [Act.put, List.setIfInBounds_toArray, List.set_cons_zero, List.set_cons_succ, i64_w, i32_w]
        rfl
      refine one_ (i := 9) (N := some 27) #[true, true, true, true, true, true, true, true, true, true, false, false] rfl rfl (one_of HT_.out (by kernel_rfl)) (by decide) (fun K hK => ?_)
      refine goes_ Try.func105 (by kernel_rfl) rfl #[.int .i64 t256] (by rfl) rfl rfl (by (try simp only [List.map_toArray, List.map_cons, List.map_nil]); first | done | rfl | (simp only [List.length_drop, List.length_take]; rfl)) ?_
      with_reducible refine (rules_held.calls t256 t273 _ A7.out).mono ?_
      rintro e w38 ⟨rfl, hb⟩
      refine ⟨_, rfl, ?_⟩
      have n0_ := Aside0.mk (blk_below (g := gb229) (o := .cells #[.slice A0_0 l0_0.length c0_0, .slice A0_1 l0_1.length c0_1, .slice A0_2 l0_2.length c0_2, .slice A0_3 l0_3.length c0_3] 59 (0, 0)) (by (with_reducible repeat (first | refine blk_drewN ?_ _ | refine blk_drew ?_ | refine blk_alloc ?_ _)); exact BK229.out) hb)
      have n1_ := Aside0.mk (blk_below (g := gb230) (o := .cells #[.int .i64 a1_0, .string a1_1, .int .i64 a1_2, .int .i64 a1_3, .slice A1_4 l1_4.length c1_4, .int .i64 a1_5, .int .i64 a1_6, .bool a1_7, .bool a1_8, .bool a1_9, .int .i64 a1_10, .string a1_11, .string a1_12, .string a1_13, .int .i64 a1_14, .bool a1_15, .bool a1_16, .int .i64 a1_17, .int .i64 a1_18, .string a1_19, .int .i64 a1_20, .int .i64 a1_21, .int .i64 a1_22, .int .i64 a1_23, .int .i64 a1_24, .bool a1_25, .int .u64 a1_26, .slice A1_27 l1_27.length c1_27, .int .i64 a1_28, .string a1_29, .int .i64 a1_30, .int .i64 a1_31] 68 (0, 0)) (by (with_reducible repeat (first | refine blk_drewN ?_ _ | refine blk_drew ?_ | refine blk_alloc ?_ _)); exact BK230.out) hb)
      have n2_ := Aside0.mk (blk_below (g := gb270) (o := .cells #[.int .i64 t231, .string t232, .int .i64 t233, .int .i64 t234, .slice Aq267 nq267 cq267, .int .i64 t238, .int .i64 t239, .bool t240, .bool t241, .bool t242, .int .i64 t243, .string t244, .string t245, .string t246, .int .i64 t247, .bool t248, .bool t249, .int .i64 t250, .int .i64 t251, .string t252, .int .i64 t253, .int .i64 t254, .int .i64 t255, .int .i64 t256, .int .i64 t257, .bool t258, .int .u64 t259, .slice Aq268 nq268 cq268, .int .i64 t263, .string t264, .int .i64 t265, .int .i64 t266] 68 (0, 0)) (by (with_reducible repeat (first | refine blk_drewN ?_ _ | refine blk_drew ?_ | refine blk_alloc ?_ _)); exact BK270.out) hb)
      have n3_ := Aside0.mk (below_step (by repeat (first | (with_reducible first | exact HB.out | apply below_alloc | apply pw_below_drewN | apply below_drew1 | refine below_set ?_ GE229.out | refine below_set ?_ GE230.out | refine below_set ?_ GE270.out) | exact HB.out)) hb)
      clear BK229
      clear BK230
      clear BK270
      clear HB
      have BK229 := n0_
      have BK230 := n1_
      have BK270 := n2_
      have HB := n3_
      clear n0_ n1_ n2_ n3_
      (try clear hb)
      (try clear hb2)
      (try clear hk)
      (try clear hi)
      refine hK.out _ _ ⟨(blk_cell BK229.out 0).trans rfl, (blk_cell BK229.out 1).trans rfl, (blk_cell BK229.out 2).trans rfl, (blk_cell BK229.out 3).trans rfl, (blk_cell BK270.out 0).trans rfl, (blk_cell BK270.out 1).trans rfl, (blk_cell BK270.out 2).trans rfl, (blk_cell BK270.out 3).trans rfl, (blk_cell BK270.out 4).trans rfl, (blk_cell BK270.out 5).trans rfl, (blk_cell BK270.out 6).trans rfl, (blk_cell BK270.out 7).trans rfl, (blk_cell BK270.out 8).trans rfl, (blk_cell BK270.out 9).trans rfl, (blk_cell BK270.out 10).trans rfl, (blk_cell BK270.out 11).trans rfl, (blk_cell BK270.out 12).trans rfl, (blk_cell BK270.out 13).trans rfl, (blk_cell BK270.out 14).trans rfl, (blk_cell BK270.out 15).trans rfl, (blk_cell BK270.out 16).trans rfl, (blk_cell BK270.out 17).trans rfl, (blk_cell BK270.out 18).trans rfl, (blk_cell BK270.out 19).trans rfl, (blk_cell BK270.out 20).trans rfl, (blk_cell BK270.out 21).trans rfl, (blk_cell BK270.out 22).trans rfl, (blk_cell BK270.out 23).trans rfl, (blk_cell BK270.out 24).trans rfl, (blk_cell BK270.out 25).trans rfl, (blk_cell BK270.out 26).trans rfl, (blk_cell BK270.out 27).trans rfl, (blk_cell BK270.out 28).trans rfl, (blk_cell BK270.out 29).trans rfl, (blk_cell BK270.out 30).trans rfl, (blk_cell BK270.out 31).trans rfl⟩ (fun hHeld => ?_)
      clear hK K
      refine norm_ (a' := ?_) ?_ ?_
      rotate_left
      · show Act.put _ (some 27) _ = _
        simp only [Act.put, List.setIfInBounds_toArray, List.set_cons_zero, List.set_cons_succ, i64_w, i32_w]
        rfl
      refine pure_ (i := 10) (N := some 28) (v := ?_) (a' := ?_) #[true, true, true, true, true, true, true, true, true, true, true, false] rfl rfl (any_of HT_.out (by kernel_rfl)) (fun _ _ _ h => h) (Or.inl ⟨by rfl, ?_⟩) ?_ ?_
      rotate_left
      · intro w'
        go_simp
        with_reducible rfl
      rotate_left
      · simp only [Act.put, List.setIfInBounds_toArray, List.set_cons_zero, List.set_cons_succ, i64_w, i32_w]
        rfl
      refine pure_ (i := 11) (N := some 29) (v := ?_) (a' := ?_) #[true, true, true, true, true, true, true, true, true, true, true, true] rfl rfl (any_of HT_.out (by kernel_rfl)) (fun _ _ _ h => h) (Or.inl ⟨by rfl, ?_⟩) ?_ ?_
      rotate_left
      · intro w'
        go_simp
        with_reducible rfl
      rotate_left
      · simp only [Act.put, List.setIfInBounds_toArray, List.set_cons_zero, List.set_cons_succ, i64_w, i32_w]
        rfl
      refine done_ (done_of HT_.out (by kernel_rfl)) ?_
      try go_wp2
      go_ret
      exact ⟨by first | rfl | (simp [errW_none, errW_some] <;> rfl) | (simp [*, errW_none, errW_some] <;> rfl), by repeat (first | (with_reducible first | exact HB.out | apply below_alloc | apply pw_below_drewN | apply below_drew1 | refine below_set ?_ GE229.out | refine below_set ?_ GE230.out | refine below_set ?_ GE270.out) | exact HB.out)⟩
  · replace c4 := Bool.eq_false_iff.mpr c4
    subst c4
    have H1 : (some (some 10)) = some r := by rw [if_neg (show ¬ (false = true) by decide)] at H; exact H
    clear H
    have H := H1
    clear H1
    obtain rfl := Option.some.inj H
    go_enter Try.func60, Try.ntmps60
    go_wp2_with (first | ((with_reducible refine gate_dst (N := 2) rfl ?_); refine box_event ?hg (N := 2) ?hd (cs := #[.slice A0_0 l0_0.length c0_0, .slice A0_1 l0_1.length c0_1, .slice A0_2 l0_2.length c0_2, .slice A0_3 l0_3.length c0_3]) (t := 59) ?hr ?_; (case hd => rfl); (case hg => rfl); (case hr => first | (go_simp; done) | (go_simp; rfl)); intro gb229 hg w39 hbox hb; have n0_ := Aside0.mk (below_step (by repeat (first | (with_reducible first | exact HB.out | apply below_alloc | apply pw_below_drewN | apply below_drew1) | exact HB.out)) hb); have n1_ := Aside0.mk (hbox); have n2_ := Aside0.mk ((by rw [hg]; exact (below_size (by repeat (first | (with_reducible first | exact HB.out | apply below_alloc | apply pw_below_drewN | apply below_drew1) | exact HB.out))) : w.heap.size ≤ gb229)); have n3_ := Aside0.mk ((by rw [hg]; exact (below_size (by repeat (first | (with_reducible first | exact HB.out | apply below_alloc | apply pw_below_drewN | apply below_drew1) | exact HB.out))) : w.heap.size ≤ gb229)); clear HB; have HB := n0_; have BK229 := n1_; have GW229 := n2_; have GE229 := n3_; clear n0_ n1_ n2_ n3_; clear hb hbox hg) | ((with_reducible refine gate_dst (N := 3) rfl ?_); refine box_event ?hg (N := 3) ?hd (cs := #[.int .i64 a1_0, .string a1_1, .int .i64 a1_2, .int .i64 a1_3, .slice A1_4 l1_4.length c1_4, .int .i64 a1_5, .int .i64 a1_6, .bool a1_7, .bool a1_8, .bool a1_9, .int .i64 a1_10, .string a1_11, .string a1_12, .string a1_13, .int .i64 a1_14, .bool a1_15, .bool a1_16, .int .i64 a1_17, .int .i64 a1_18, .string a1_19, .int .i64 a1_20, .int .i64 a1_21, .int .i64 a1_22, .int .i64 a1_23, .int .i64 a1_24, .bool a1_25, .int .u64 a1_26, .slice A1_27 l1_27.length c1_27, .int .i64 a1_28, .string a1_29, .int .i64 a1_30, .int .i64 a1_31]) (t := 68) ?hr ?_; (case hd => rfl); (case hg => rfl); (case hr => first | (go_simp; done) | (go_simp; rfl)); intro gb230 hg w40 hbox hb; have n0_ := Aside0.mk (blk_below (g := gb229) (o := .cells #[.slice A0_0 l0_0.length c0_0, .slice A0_1 l0_1.length c0_1, .slice A0_2 l0_2.length c0_2, .slice A0_3 l0_3.length c0_3] 59 (0, 0)) (by (with_reducible repeat (first | refine blk_drewN ?_ _ | refine blk_drew ?_ | refine blk_alloc ?_ _)); exact BK229.out) hb); have n1_ := Aside0.mk (below_step (by repeat (first | (with_reducible first | exact HB.out | apply below_alloc | apply pw_below_drewN | apply below_drew1 | refine below_set ?_ GE229.out) | exact HB.out)) hb); have n2_ := Aside0.mk (hbox); have n3_ := Aside0.mk ((by rw [hg]; exact (below_size (by repeat (first | (with_reducible first | exact HB.out | apply below_alloc | apply pw_below_drewN | apply below_drew1 | refine below_set ?_ GE229.out) | exact HB.out))) : w.heap.size ≤ gb230)); have n4_ := Aside0.mk ((by rw [hg]; exact (below_size (by repeat (first | (with_reducible first | exact HB.out | apply below_alloc | apply pw_below_drewN | apply below_drew1 | refine below_set ?_ GE229.out) | exact HB.out))) : w.heap.size ≤ gb230)); have n5_ := Aside0.mk ((by rw [hg]; exact Nat.ne_of_lt (blk_lt (g := gb229) (o := .cells #[.slice A0_0 l0_0.length c0_0, .slice A0_1 l0_1.length c0_1, .slice A0_2 l0_2.length c0_2, .slice A0_3 l0_3.length c0_3] 59 (0, 0)) (by (with_reducible repeat (first | refine blk_drewN ?_ _ | refine blk_drew ?_ | refine blk_alloc ?_ _)); exact BK229.out)) : gb229 ≠ gb230)); have n6_ := Aside0.mk ((by rw [hg]; exact Nat.ne_of_gt (blk_lt (g := gb229) (o := .cells #[.slice A0_0 l0_0.length c0_0, .slice A0_1 l0_1.length c0_1, .slice A0_2 l0_2.length c0_2, .slice A0_3 l0_3.length c0_3] 59 (0, 0)) (by (with_reducible repeat (first | refine blk_drewN ?_ _ | refine blk_drew ?_ | refine blk_alloc ?_ _)); exact BK229.out)) : gb230 ≠ gb229)); clear BK229; clear HB; have BK229 := n0_; have HB := n1_; have BK230 := n2_; have GW230 := n3_; have GE230 := n4_; have NB229_230 := n5_; have NB230_229 := n6_; clear n0_ n1_ n2_ n3_ n4_ n5_ n6_; clear hb hbox hg; have hnb41 := NB229_230.out; have hnc41 := NB230_229.out; have hcz42_0 : w40.cell? ⟨gb229, 0, none⟩ = some (.slice A0_0 l0_0.length c0_0) := (blk_cell BK229.out 0).trans rfl; have hcz42_1 : w40.cell? ⟨gb229, 1, none⟩ = some (.slice A0_1 l0_1.length c0_1) := (blk_cell BK229.out 1).trans rfl; have hcz42_2 : w40.cell? ⟨gb229, 2, none⟩ = some (.slice A0_2 l0_2.length c0_2) := (blk_cell BK229.out 2).trans rfl; have hcz42_3 : w40.cell? ⟨gb229, 3, none⟩ = some (.slice A0_3 l0_3.length c0_3) := (blk_cell BK229.out 3).trans rfl; have hfz42_0 := blk_frozen BK229.out 0; have hfz42_1 := blk_frozen BK229.out 1; have hfz42_2 := blk_frozen BK229.out 2; have hfz42_3 := blk_frozen BK229.out 3; have hcz43_0 : w40.cell? ⟨gb230, 0, none⟩ = some (.int .i64 a1_0) := (blk_cell BK230.out 0).trans rfl; have hcz43_1 : w40.cell? ⟨gb230, 1, none⟩ = some (.string a1_1) := (blk_cell BK230.out 1).trans rfl; have hcz43_2 : w40.cell? ⟨gb230, 2, none⟩ = some (.int .i64 a1_2) := (blk_cell BK230.out 2).trans rfl; have hcz43_3 : w40.cell? ⟨gb230, 3, none⟩ = some (.int .i64 a1_3) := (blk_cell BK230.out 3).trans rfl; have hcz43_4 : w40.cell? ⟨gb230, 4, none⟩ = some (.slice A1_4 l1_4.length c1_4) := (blk_cell BK230.out 4).trans rfl; have hcz43_5 : w40.cell? ⟨gb230, 5, none⟩ = some (.int .i64 a1_5) := (blk_cell BK230.out 5).trans rfl; have hcz43_6 : w40.cell? ⟨gb230, 6, none⟩ = some (.int .i64 a1_6) := (blk_cell BK230.out 6).trans rfl; have hcz43_7 : w40.cell? ⟨gb230, 7, none⟩ = some (.bool a1_7) := (blk_cell BK230.out 7).trans rfl; have hcz43_8 : w40.cell? ⟨gb230, 8, none⟩ = some (.bool a1_8) := (blk_cell BK230.out 8).trans rfl; have hcz43_9 : w40.cell? ⟨gb230, 9, none⟩ = some (.bool a1_9) := (blk_cell BK230.out 9).trans rfl; have hcz43_10 : w40.cell? ⟨gb230, 10, none⟩ = some (.int .i64 a1_10) := (blk_cell BK230.out 10).trans rfl; have hcz43_11 : w40.cell? ⟨gb230, 11, none⟩ = some (.string a1_11) := (blk_cell BK230.out 11).trans rfl; have hcz43_12 : w40.cell? ⟨gb230, 12, none⟩ = some (.string a1_12) := (blk_cell BK230.out 12).trans rfl; have hcz43_13 : w40.cell? ⟨gb230, 13, none⟩ = some (.string a1_13) := (blk_cell BK230.out 13).trans rfl; have hcz43_14 : w40.cell? ⟨gb230, 14, none⟩ = some (.int .i64 a1_14) := (blk_cell BK230.out 14).trans rfl; have hcz43_15 : w40.cell? ⟨gb230, 15, none⟩ = some (.bool a1_15) := (blk_cell BK230.out 15).trans rfl; have hcz43_16 : w40.cell? ⟨gb230, 16, none⟩ = some (.bool a1_16) := (blk_cell BK230.out 16).trans rfl; have hcz43_17 : w40.cell? ⟨gb230, 17, none⟩ = some (.int .i64 a1_17) := (blk_cell BK230.out 17).trans rfl; have hcz43_18 : w40.cell? ⟨gb230, 18, none⟩ = some (.int .i64 a1_18) := (blk_cell BK230.out 18).trans rfl; have hcz43_19 : w40.cell? ⟨gb230, 19, none⟩ = some (.string a1_19) := (blk_cell BK230.out 19).trans rfl; have hcz43_20 : w40.cell? ⟨gb230, 20, none⟩ = some (.int .i64 a1_20) := (blk_cell BK230.out 20).trans rfl; have hcz43_21 : w40.cell? ⟨gb230, 21, none⟩ = some (.int .i64 a1_21) := (blk_cell BK230.out 21).trans rfl; have hcz43_22 : w40.cell? ⟨gb230, 22, none⟩ = some (.int .i64 a1_22) := (blk_cell BK230.out 22).trans rfl; have hcz43_23 : w40.cell? ⟨gb230, 23, none⟩ = some (.int .i64 a1_23) := (blk_cell BK230.out 23).trans rfl; have hcz43_24 : w40.cell? ⟨gb230, 24, none⟩ = some (.int .i64 a1_24) := (blk_cell BK230.out 24).trans rfl; have hcz43_25 : w40.cell? ⟨gb230, 25, none⟩ = some (.bool a1_25) := (blk_cell BK230.out 25).trans rfl; have hcz43_26 : w40.cell? ⟨gb230, 26, none⟩ = some (.int .u64 a1_26) := (blk_cell BK230.out 26).trans rfl; have hcz43_27 : w40.cell? ⟨gb230, 27, none⟩ = some (.slice A1_27 l1_27.length c1_27) := (blk_cell BK230.out 27).trans rfl; have hcz43_28 : w40.cell? ⟨gb230, 28, none⟩ = some (.int .i64 a1_28) := (blk_cell BK230.out 28).trans rfl; have hcz43_29 : w40.cell? ⟨gb230, 29, none⟩ = some (.string a1_29) := (blk_cell BK230.out 29).trans rfl; have hcz43_30 : w40.cell? ⟨gb230, 30, none⟩ = some (.int .i64 a1_30) := (blk_cell BK230.out 30).trans rfl; have hcz43_31 : w40.cell? ⟨gb230, 31, none⟩ = some (.int .i64 a1_31) := (blk_cell BK230.out 31).trans rfl; have hfz43_0 := blk_frozen BK230.out 0; have hfz43_1 := blk_frozen BK230.out 1; have hfz43_2 := blk_frozen BK230.out 2; have hfz43_3 := blk_frozen BK230.out 3; have hfz43_4 := blk_frozen BK230.out 4; have hfz43_5 := blk_frozen BK230.out 5; have hfz43_6 := blk_frozen BK230.out 6; have hfz43_7 := blk_frozen BK230.out 7; have hfz43_8 := blk_frozen BK230.out 8; have hfz43_9 := blk_frozen BK230.out 9; have hfz43_10 := blk_frozen BK230.out 10; have hfz43_11 := blk_frozen BK230.out 11; have hfz43_12 := blk_frozen BK230.out 12; have hfz43_13 := blk_frozen BK230.out 13; have hfz43_14 := blk_frozen BK230.out 14; have hfz43_15 := blk_frozen BK230.out 15; have hfz43_16 := blk_frozen BK230.out 16; have hfz43_17 := blk_frozen BK230.out 17; have hfz43_18 := blk_frozen BK230.out 18; have hfz43_19 := blk_frozen BK230.out 19; have hfz43_20 := blk_frozen BK230.out 20; have hfz43_21 := blk_frozen BK230.out 21; have hfz43_22 := blk_frozen BK230.out 22; have hfz43_23 := blk_frozen BK230.out 23; have hfz43_24 := blk_frozen BK230.out 24; have hfz43_25 := blk_frozen BK230.out 25; have hfz43_26 := blk_frozen BK230.out 26; have hfz43_27 := blk_frozen BK230.out 27; have hfz43_28 := blk_frozen BK230.out 28; have hfz43_29 := blk_frozen BK230.out 29; have hfz43_30 := blk_frozen BK230.out 30; have hfz43_31 := blk_frozen BK230.out 31) | ((with_reducible refine gate_callee (f := 103) rfl ?_); refine goesL_ (some 12) rfl rfl Try.func103 (by kernel_rfl) rfl #[.slice A0_2 l0_2.length c0_2, .string a1_11] rfl (by (try simp only [List.map_toArray, List.map_cons, List.map_nil]); first | done | rfl | (simp only [List.length_drop, List.length_take]; rfl)) ?_; (with_reducible refine (rules_find.calls _ _ l0_2 a1_11 t231 t232 t233 t234 t238 t239 t240 t241 t242 t243 t244 t245 t246 t247 t248 t249 t250 t251 t252 t253 t254 t255 t256 t257 t258 t259 t263 t264 t265 t266 false _ ?side1 ?side2 A3.out).mono ?_); (case side1 => repeat (first | exact (Kd.C_below HR0_2.out HB.out) | (with_reducible refine Kd.C_alloc ?_ _) | (with_reducible refine Kd.C_drewN ?_ _) | (with_reducible refine Kd.C_drew ?_))); (case side2 => exact HC0_2.out); rintro e w44 ⟨Aq267, nq267, cq267, Aq268, nq268, cq268, rfl, hb⟩; refine ⟨_, rfl, ?_⟩; have n0_ := Aside0.mk (blk_below (g := gb229) (o := .cells #[.slice A0_0 l0_0.length c0_0, .slice A0_1 l0_1.length c0_1, .slice A0_2 l0_2.length c0_2, .slice A0_3 l0_3.length c0_3] 59 (0, 0)) (by (with_reducible repeat (first | refine blk_drewN ?_ _ | refine blk_drew ?_ | refine blk_alloc ?_ _)); exact BK229.out) hb); have n1_ := Aside0.mk (blk_below (g := gb230) (o := .cells #[.int .i64 a1_0, .string a1_1, .int .i64 a1_2, .int .i64 a1_3, .slice A1_4 l1_4.length c1_4, .int .i64 a1_5, .int .i64 a1_6, .bool a1_7, .bool a1_8, .bool a1_9, .int .i64 a1_10, .string a1_11, .string a1_12, .string a1_13, .int .i64 a1_14, .bool a1_15, .bool a1_16, .int .i64 a1_17, .int .i64 a1_18, .string a1_19, .int .i64 a1_20, .int .i64 a1_21, .int .i64 a1_22, .int .i64 a1_23, .int .i64 a1_24, .bool a1_25, .int .u64 a1_26, .slice A1_27 l1_27.length c1_27, .int .i64 a1_28, .string a1_29, .int .i64 a1_30, .int .i64 a1_31] 68 (0, 0)) (by (with_reducible repeat (first | refine blk_drewN ?_ _ | refine blk_drew ?_ | refine blk_alloc ?_ _)); exact BK230.out) hb); have n2_ := Aside0.mk (below_step (by repeat (first | (with_reducible first | exact HB.out | apply below_alloc | apply pw_below_drewN | apply below_drew1 | refine below_set ?_ GE229.out | refine below_set ?_ GE230.out) | exact HB.out)) hb); clear BK229; clear BK230; clear HB; have BK229 := n0_; have BK230 := n1_; have HB := n2_; clear n0_ n1_ n2_; (try clear hb); (try clear hb2); (try clear hk); (try clear hi)) | ((with_reducible refine gate_dst (N := 5) rfl ?_); refine box_event ?hg (N := 5) ?hd (cs := #[.int .i64 0, .string (⟨#[]⟩ : ByteArray), .int .i64 0, .int .i64 0, .slice none 0 0, .int .i64 0, .int .i64 0, .bool false, .bool false, .bool false, .int .i64 0, .string (⟨#[]⟩ : ByteArray), .string (⟨#[]⟩ : ByteArray), .string (⟨#[]⟩ : ByteArray), .int .i64 0, .bool false, .bool false, .int .i64 0, .int .i64 0, .string (⟨#[]⟩ : ByteArray), .int .i64 0, .int .i64 0, .int .i64 0, .int .i64 0, .int .i64 0, .bool false, .int .u64 0, .slice none 0 0, .int .i64 0, .string (⟨#[]⟩ : ByteArray), .int .i64 0, .int .i64 0]) (t := 68) ?hr ?_; (case hd => rfl); (case hg => rfl); (case hr => first | (go_simp; done) | (go_simp; rfl)); intro gb270 hg w45 hbox hb; have n0_ := Aside0.mk (blk_below (g := gb229) (o := .cells #[.slice A0_0 l0_0.length c0_0, .slice A0_1 l0_1.length c0_1, .slice A0_2 l0_2.length c0_2, .slice A0_3 l0_3.length c0_3] 59 (0, 0)) (by (with_reducible repeat (first | refine blk_drewN ?_ _ | refine blk_drew ?_ | refine blk_alloc ?_ _)); exact BK229.out) hb); have n1_ := Aside0.mk (blk_below (g := gb230) (o := .cells #[.int .i64 a1_0, .string a1_1, .int .i64 a1_2, .int .i64 a1_3, .slice A1_4 l1_4.length c1_4, .int .i64 a1_5, .int .i64 a1_6, .bool a1_7, .bool a1_8, .bool a1_9, .int .i64 a1_10, .string a1_11, .string a1_12, .string a1_13, .int .i64 a1_14, .bool a1_15, .bool a1_16, .int .i64 a1_17, .int .i64 a1_18, .string a1_19, .int .i64 a1_20, .int .i64 a1_21, .int .i64 a1_22, .int .i64 a1_23, .int .i64 a1_24, .bool a1_25, .int .u64 a1_26, .slice A1_27 l1_27.length c1_27, .int .i64 a1_28, .string a1_29, .int .i64 a1_30, .int .i64 a1_31] 68 (0, 0)) (by (with_reducible repeat (first | refine blk_drewN ?_ _ | refine blk_drew ?_ | refine blk_alloc ?_ _)); exact BK230.out) hb); have n2_ := Aside0.mk (below_step (by repeat (first | (with_reducible first | exact HB.out | apply below_alloc | apply pw_below_drewN | apply below_drew1 | refine below_set ?_ GE229.out | refine below_set ?_ GE230.out) | exact HB.out)) hb); have n3_ := Aside0.mk (hbox); have n4_ := Aside0.mk ((by rw [hg]; exact (below_size (by repeat (first | (with_reducible first | exact HB.out | apply below_alloc | apply pw_below_drewN | apply below_drew1 | refine below_set ?_ GE229.out | refine below_set ?_ GE230.out) | exact HB.out))) : w.heap.size ≤ gb270)); have n5_ := Aside0.mk ((by rw [hg]; exact (below_size (by repeat (first | (with_reducible first | exact HB.out | apply below_alloc | apply pw_below_drewN | apply below_drew1 | refine below_set ?_ GE229.out | refine below_set ?_ GE230.out) | exact HB.out))) : w.heap.size ≤ gb270)); have n6_ := Aside0.mk ((by rw [hg]; exact Nat.ne_of_lt (blk_lt (g := gb229) (o := .cells #[.slice A0_0 l0_0.length c0_0, .slice A0_1 l0_1.length c0_1, .slice A0_2 l0_2.length c0_2, .slice A0_3 l0_3.length c0_3] 59 (0, 0)) (by (with_reducible repeat (first | refine blk_drewN ?_ _ | refine blk_drew ?_ | refine blk_alloc ?_ _)); exact BK229.out)) : gb229 ≠ gb270)); have n7_ := Aside0.mk ((by rw [hg]; exact Nat.ne_of_gt (blk_lt (g := gb229) (o := .cells #[.slice A0_0 l0_0.length c0_0, .slice A0_1 l0_1.length c0_1, .slice A0_2 l0_2.length c0_2, .slice A0_3 l0_3.length c0_3] 59 (0, 0)) (by (with_reducible repeat (first | refine blk_drewN ?_ _ | refine blk_drew ?_ | refine blk_alloc ?_ _)); exact BK229.out)) : gb270 ≠ gb229)); have n8_ := Aside0.mk ((by rw [hg]; exact Nat.ne_of_lt (blk_lt (g := gb230) (o := .cells #[.int .i64 a1_0, .string a1_1, .int .i64 a1_2, .int .i64 a1_3, .slice A1_4 l1_4.length c1_4, .int .i64 a1_5, .int .i64 a1_6, .bool a1_7, .bool a1_8, .bool a1_9, .int .i64 a1_10, .string a1_11, .string a1_12, .string a1_13, .int .i64 a1_14, .bool a1_15, .bool a1_16, .int .i64 a1_17, .int .i64 a1_18, .string a1_19, .int .i64 a1_20, .int .i64 a1_21, .int .i64 a1_22, .int .i64 a1_23, .int .i64 a1_24, .bool a1_25, .int .u64 a1_26, .slice A1_27 l1_27.length c1_27, .int .i64 a1_28, .string a1_29, .int .i64 a1_30, .int .i64 a1_31] 68 (0, 0)) (by (with_reducible repeat (first | refine blk_drewN ?_ _ | refine blk_drew ?_ | refine blk_alloc ?_ _)); exact BK230.out)) : gb230 ≠ gb270)); have n9_ := Aside0.mk ((by rw [hg]; exact Nat.ne_of_gt (blk_lt (g := gb230) (o := .cells #[.int .i64 a1_0, .string a1_1, .int .i64 a1_2, .int .i64 a1_3, .slice A1_4 l1_4.length c1_4, .int .i64 a1_5, .int .i64 a1_6, .bool a1_7, .bool a1_8, .bool a1_9, .int .i64 a1_10, .string a1_11, .string a1_12, .string a1_13, .int .i64 a1_14, .bool a1_15, .bool a1_16, .int .i64 a1_17, .int .i64 a1_18, .string a1_19, .int .i64 a1_20, .int .i64 a1_21, .int .i64 a1_22, .int .i64 a1_23, .int .i64 a1_24, .bool a1_25, .int .u64 a1_26, .slice A1_27 l1_27.length c1_27, .int .i64 a1_28, .string a1_29, .int .i64 a1_30, .int .i64 a1_31] 68 (0, 0)) (by (with_reducible repeat (first | refine blk_drewN ?_ _ | refine blk_drew ?_ | refine blk_alloc ?_ _)); exact BK230.out)) : gb270 ≠ gb230)); clear BK229; clear BK230; clear HB; have BK229 := n0_; have BK230 := n1_; have HB := n2_; have BK270 := n3_; have GW270 := n4_; have GE270 := n5_; have NB229_270 := n6_; have NB270_229 := n7_; have NB230_270 := n8_; have NB270_230 := n9_; clear n0_ n1_ n2_ n3_ n4_ n5_ n6_ n7_ n8_ n9_; clear hb hbox hg; have hnb46 := NB270_229.out; have hnc46 := NB229_270.out; have hnb47 := NB270_230.out; have hnc47 := NB230_270.out; have hcz48_0 : w45.cell? ⟨gb270, 0, none⟩ = some (.int .i64 0) := (blk_cell BK270.out 0).trans rfl; have hcz48_1 : w45.cell? ⟨gb270, 1, none⟩ = some (.string (⟨#[]⟩ : ByteArray)) := (blk_cell BK270.out 1).trans rfl; have hcz48_2 : w45.cell? ⟨gb270, 2, none⟩ = some (.int .i64 0) := (blk_cell BK270.out 2).trans rfl; have hcz48_3 : w45.cell? ⟨gb270, 3, none⟩ = some (.int .i64 0) := (blk_cell BK270.out 3).trans rfl; have hcz48_4 : w45.cell? ⟨gb270, 4, none⟩ = some (.slice none 0 0) := (blk_cell BK270.out 4).trans rfl; have hcz48_5 : w45.cell? ⟨gb270, 5, none⟩ = some (.int .i64 0) := (blk_cell BK270.out 5).trans rfl; have hcz48_6 : w45.cell? ⟨gb270, 6, none⟩ = some (.int .i64 0) := (blk_cell BK270.out 6).trans rfl; have hcz48_7 : w45.cell? ⟨gb270, 7, none⟩ = some (.bool false) := (blk_cell BK270.out 7).trans rfl; have hcz48_8 : w45.cell? ⟨gb270, 8, none⟩ = some (.bool false) := (blk_cell BK270.out 8).trans rfl; have hcz48_9 : w45.cell? ⟨gb270, 9, none⟩ = some (.bool false) := (blk_cell BK270.out 9).trans rfl; have hcz48_10 : w45.cell? ⟨gb270, 10, none⟩ = some (.int .i64 0) := (blk_cell BK270.out 10).trans rfl; have hcz48_11 : w45.cell? ⟨gb270, 11, none⟩ = some (.string (⟨#[]⟩ : ByteArray)) := (blk_cell BK270.out 11).trans rfl; have hcz48_12 : w45.cell? ⟨gb270, 12, none⟩ = some (.string (⟨#[]⟩ : ByteArray)) := (blk_cell BK270.out 12).trans rfl; have hcz48_13 : w45.cell? ⟨gb270, 13, none⟩ = some (.string (⟨#[]⟩ : ByteArray)) := (blk_cell BK270.out 13).trans rfl; have hcz48_14 : w45.cell? ⟨gb270, 14, none⟩ = some (.int .i64 0) := (blk_cell BK270.out 14).trans rfl; have hcz48_15 : w45.cell? ⟨gb270, 15, none⟩ = some (.bool false) := (blk_cell BK270.out 15).trans rfl; have hcz48_16 : w45.cell? ⟨gb270, 16, none⟩ = some (.bool false) := (blk_cell BK270.out 16).trans rfl; have hcz48_17 : w45.cell? ⟨gb270, 17, none⟩ = some (.int .i64 0) := (blk_cell BK270.out 17).trans rfl; have hcz48_18 : w45.cell? ⟨gb270, 18, none⟩ = some (.int .i64 0) := (blk_cell BK270.out 18).trans rfl; have hcz48_19 : w45.cell? ⟨gb270, 19, none⟩ = some (.string (⟨#[]⟩ : ByteArray)) := (blk_cell BK270.out 19).trans rfl; have hcz48_20 : w45.cell? ⟨gb270, 20, none⟩ = some (.int .i64 0) := (blk_cell BK270.out 20).trans rfl; have hcz48_21 : w45.cell? ⟨gb270, 21, none⟩ = some (.int .i64 0) := (blk_cell BK270.out 21).trans rfl; have hcz48_22 : w45.cell? ⟨gb270, 22, none⟩ = some (.int .i64 0) := (blk_cell BK270.out 22).trans rfl; have hcz48_23 : w45.cell? ⟨gb270, 23, none⟩ = some (.int .i64 0) := (blk_cell BK270.out 23).trans rfl; have hcz48_24 : w45.cell? ⟨gb270, 24, none⟩ = some (.int .i64 0) := (blk_cell BK270.out 24).trans rfl; have hcz48_25 : w45.cell? ⟨gb270, 25, none⟩ = some (.bool false) := (blk_cell BK270.out 25).trans rfl; have hcz48_26 : w45.cell? ⟨gb270, 26, none⟩ = some (.int .u64 0) := (blk_cell BK270.out 26).trans rfl; have hcz48_27 : w45.cell? ⟨gb270, 27, none⟩ = some (.slice none 0 0) := (blk_cell BK270.out 27).trans rfl; have hcz48_28 : w45.cell? ⟨gb270, 28, none⟩ = some (.int .i64 0) := (blk_cell BK270.out 28).trans rfl; have hcz48_29 : w45.cell? ⟨gb270, 29, none⟩ = some (.string (⟨#[]⟩ : ByteArray)) := (blk_cell BK270.out 29).trans rfl; have hcz48_30 : w45.cell? ⟨gb270, 30, none⟩ = some (.int .i64 0) := (blk_cell BK270.out 30).trans rfl; have hcz48_31 : w45.cell? ⟨gb270, 31, none⟩ = some (.int .i64 0) := (blk_cell BK270.out 31).trans rfl; have hfz48_0 := blk_frozen BK270.out 0; have hfz48_1 := blk_frozen BK270.out 1; have hfz48_2 := blk_frozen BK270.out 2; have hfz48_3 := blk_frozen BK270.out 3; have hfz48_4 := blk_frozen BK270.out 4; have hfz48_5 := blk_frozen BK270.out 5; have hfz48_6 := blk_frozen BK270.out 6; have hfz48_7 := blk_frozen BK270.out 7; have hfz48_8 := blk_frozen BK270.out 8; have hfz48_9 := blk_frozen BK270.out 9; have hfz48_10 := blk_frozen BK270.out 10; have hfz48_11 := blk_frozen BK270.out 11; have hfz48_12 := blk_frozen BK270.out 12; have hfz48_13 := blk_frozen BK270.out 13; have hfz48_14 := blk_frozen BK270.out 14; have hfz48_15 := blk_frozen BK270.out 15; have hfz48_16 := blk_frozen BK270.out 16; have hfz48_17 := blk_frozen BK270.out 17; have hfz48_18 := blk_frozen BK270.out 18; have hfz48_19 := blk_frozen BK270.out 19; have hfz48_20 := blk_frozen BK270.out 20; have hfz48_21 := blk_frozen BK270.out 21; have hfz48_22 := blk_frozen BK270.out 22; have hfz48_23 := blk_frozen BK270.out 23; have hfz48_24 := blk_frozen BK270.out 24; have hfz48_25 := blk_frozen BK270.out 25; have hfz48_26 := blk_frozen BK270.out 26; have hfz48_27 := blk_frozen BK270.out 27; have hfz48_28 := blk_frozen BK270.out 28; have hfz48_29 := blk_frozen BK270.out 29; have hfz48_30 := blk_frozen BK270.out 30; have hfz48_31 := blk_frozen BK270.out 31) | ((with_reducible refine gate_store (t := 68) (p := 5) rfl ?_); refine box_store_event (t := 68) (ty := 68) (p := 5) (x := ?vo_w49) (g := gb270) (cs := #[.int .i64 0, .string (⟨#[]⟩ : ByteArray), .int .i64 0, .int .i64 0, .slice none 0 0, .int .i64 0, .int .i64 0, .bool false, .bool false, .bool false, .int .i64 0, .string (⟨#[]⟩ : ByteArray), .string (⟨#[]⟩ : ByteArray), .string (⟨#[]⟩ : ByteArray), .int .i64 0, .bool false, .bool false, .int .i64 0, .int .i64 0, .string (⟨#[]⟩ : ByteArray), .int .i64 0, .int .i64 0, .int .i64 0, .int .i64 0, .int .i64 0, .bool false, .int .u64 0, .slice none 0 0, .int .i64 0, .string (⟨#[]⟩ : ByteArray), .int .i64 0, .int .i64 0]) (cs' := #[.int .i64 t231, .string t232, .int .i64 t233, .int .i64 t234, .slice Aq267 nq267 cq267, .int .i64 t238, .int .i64 t239, .bool t240, .bool t241, .bool t242, .int .i64 t243, .string t244, .string t245, .string t246, .int .i64 t247, .bool t248, .bool t249, .int .i64 t250, .int .i64 t251, .string t252, .int .i64 t253, .int .i64 t254, .int .i64 t255, .int .i64 t256, .int .i64 t257, .bool t258, .int .u64 t259, .slice Aq268 nq268 cq268, .int .i64 t263, .string t264, .int .i64 t265, .int .i64 t266]) ?hgd ?ho ?hN ?he ?hv ?hi ?hb ?hs ?h1 ?_; (case ho => rfl); (case hgd => rfl); (case hN => rfl); (case he => rfl); (case hv => first | rfl | (simp; done)); (case hi => exact size68); (case hb => (with_reducible repeat (first | refine blk_drewN ?_ _ | refine blk_drew ?_ | refine blk_alloc ?_ _)); exact BK270.out); (case hs => rfl); (case h1 => rfl); intro w49 hbox hg; have n0_ := Aside0.mk (blk_grown (by (with_reducible repeat (first | refine blk_drewN ?_ _ | refine blk_drew ?_ | refine blk_alloc ?_ _)); exact BK229.out) hg (fun e_ => NB229_270.out (Option.some.inj e_))); have n1_ := Aside0.mk (blk_grown (by (with_reducible repeat (first | refine blk_drewN ?_ _ | refine blk_drew ?_ | refine blk_alloc ?_ _)); exact BK230.out) hg (fun e_ => NB230_270.out (Option.some.inj e_))); have n2_ := Aside0.mk (hbox); have n3_ := Aside0.mk (Below.grown (by repeat (first | (with_reducible first | exact HB.out | apply below_alloc | apply pw_below_drewN | apply below_drew1 | refine below_set ?_ GE229.out | refine below_set ?_ GE230.out | refine below_set ?_ GE270.out) | exact HB.out)) hg (below_size (by repeat (first | (with_reducible first | exact HB.out | apply below_alloc | apply pw_below_drewN | apply below_drew1 | refine below_set ?_ GE229.out | refine below_set ?_ GE230.out | refine below_set ?_ GE270.out) | exact HB.out))) (fun k_ e_ => by injection e_ with e_; subst e_; exact GE270.out)); clear BK229; clear BK230; clear BK270; clear HB; have BK229 := n0_; have BK230 := n1_; have BK270 := n2_; have HB := n3_; clear n0_ n1_ n2_ n3_; clear hbox hg))
    go_ret
    exact ⟨by first | rfl | (simp [errW_none, errW_some] <;> rfl) | (simp [*, errW_none, errW_some] <;> rfl), by repeat (first | (with_reducible first | exact HB.out | apply below_alloc | apply pw_below_drewN | apply below_drew1 | refine below_set ?_ GE229.out | refine below_set ?_ GE230.out | refine below_set ?_ GE270.out) | exact HB.out)⟩
end Go.Proofs.Ytamjjeakkkdfhaa.PC
end
section
namespace Go.Proofs.Ytamjjeakkkdfhaa.PB
open Go.RowKit Go.Proofs.YtamjjeakkkdfhaaW.PrintWords Go.Proofs.YtamjjeakkkdfhaaW.PrintLast Go.Proofs.YtamjjeakkkdfhaaW.PrintMore
open Go.Proofs.Ytamjjeakkkdfhaa.K Go.Proofs.Ytamjjeakkkdfhaa.G Go.Proofs.YtamjjeakkkdfhaaE
attribute [local go_sem] max2_int min2_int max_two min_two max_three min_three max_four min_four
set_option linter.unusedVariables false
set_option linter.unusedSimpArgs false
def flotillalaw16_held.f (a0 : Int) : Option (Int) := some (mn (mx a0 (-1125899906842624)) 1125899906842624)
set_option maxHeartbeats 8000000 in
set_option maxRecDepth 100000 in
theorem flotillalaw16_held.calls (a0 : Int) (r : Int) (w : World) (h : flotillalaw16_held.f a0 = some r) :
    Calls Try.prog 62 #[.int .i64 a0] w fun e w' => e = .returned (.int .i64 r) ∧ Below w.heap.size w w' := by
  have HB := Aside0.mk (Below.refl w.heap.size w)
  have H : (some (mn (mx a0 (-1125899906842624)) 1125899906842624)) = some r := h
  clear h
  obtain ⟨ji2, hji2⟩ : ∃ j_ : Int, (mx a0 (-1125899906842624)) = j_ := ⟨_, rfl⟩
  replace H : (some (mn (ji2) 1125899906842624)) = some r := by first | (rw [hji2] at H; exact H) | (simp only [hji2] at H ⊢; exact H)
  have hji2_ : (if a0 < (-1125899906842624) then (-1125899906842624) else a0) = ji2 := hji2
  obtain ⟨ji3, hji3⟩ : ∃ j_ : Int, (mn (ji2) 1125899906842624) = j_ := ⟨_, rfl⟩
  replace H : (some ji3) = some r := by first | (rw [hji3] at H; exact H) | (simp only [hji3] at H ⊢; exact H)
  have hji3_ : (if 1125899906842624 < (ji2) then 1125899906842624 else (ji2)) = ji3 := hji3
  obtain rfl := Option.some.inj H
  go_enter Try.func62, Try.ntmps62
  go_wp2
  go_ret
  exact ⟨by first | rfl | (simp [errW_none, errW_some] <;> rfl) | (simp only [← hji2, ← hji3]; first | rfl | (simp [errW_none, errW_some] <;> rfl)) | (simp [*, errW_none, errW_some] <;> rfl), by repeat (first | (with_reducible first | exact HB.out | apply below_alloc | apply pw_below_drewN | apply below_drew1) | exact HB.out)⟩
end Go.Proofs.Ytamjjeakkkdfhaa.PB
end
section
namespace Go.Proofs.Ytamjjeakkkdfhaa.G
open Go.RowKit Go.Proofs.YtamjjeakkkdfhaaW.PrintWords Go.Proofs.YtamjjeakkkdfhaaW.PrintLast Go.Proofs.YtamjjeakkkdfhaaW.PrintMore
open Go.Proofs.Ytamjjeakkkdfhaa.K Go.Proofs.YtamjjeakkkdfhaaE Go.Proofs.Ytamjjeakkkdfhaa.PB Go.Proofs.Ytamjjeakkkdfhaa.PC Go.Proofs.Ytamjjeakkkdfhaa.PD
set_option linter.unusedVariables false
set_option linter.unusedSimpArgs false
def cO (x : S68) (v4 v27 : Value) : Array Value := #[.int .i64 x.f0, .string x.f1, .int .i64 x.f2, .int .i64 x.f3, v4, .int .i64 x.f5.f0, .int .i64 x.f5.f1, .bool x.f6, .bool x.f7, .bool x.f8, .int .i64 x.f9, .string x.f10, .string x.f11, .string x.f12, .int .i64 x.f13, .bool x.f14, .bool x.f15, .int .i64 x.f16.f0, .int .i64 x.f16.f1, .string x.f17, .int .i64 x.f18, .int .i64 x.f19, .int .i64 x.f20, .int .i64 x.f21, .int .i64 x.f22, .bool x.f23, .int .u64 x.f24, v27, .int .i64 x.f26, .string x.f27, .int .i64 x.f28, .int .i64 x.f29]
def kO (w : World) (x : S68) (v4 v27 : Value) : Prop := ∃ A4 c4 A27 c27, v4 = .slice A4 x.f4.length c4 ∧ v27 = .slice A27 x.f25.length c27 ∧ x.f4.length ≤ c4 ∧ k31.C w A4 x.f4.length x.f4 ∧ x.f25.length ≤ c27 ∧ k31.C w A27 x.f25.length x.f25
theorem kO_below {w w' : World} {x : S68} {v4 v27 : Value} (h : kO w x v4 v27) (hb : Below w.heap.size w w') : kO w' x v4 v27 := by
  obtain ⟨A4, c4, A27, c27, e4, e27, l4, g4, l27, g27⟩ := h
  exact ⟨A4, c4, A27, c27, e4, e27, l4, Kd.C_below g4 hb, l27, Kd.C_below g27 hb⟩
theorem K_kO {w : World} {x : S68} {cs : List Value} (h : k68.K w x cs) : ∃ v4 v27, cs = (cO x v4 v27).toList ∧ kO w x v4 v27 := by
  obtain ⟨A4, c4, A27, c27, rfl, l4, g4, l27, g27⟩ := k68_open h
  exact ⟨_, _, rfl, A4, c4, A27, c27, rfl, rfl, l4, g4, l27, g27⟩
theorem cO_size (x : S68) (v4 v27 : Value) : (cO x v4 v27).size = 32 := rfl
theorem cO_one {x : S68} {v4 v27 : Value} (h4 : v4.oneCell' = true) (h27 : v27.oneCell' = true) : (cO x v4 v27).toList.all (·.oneCell') = true := by
  simp only [cO, List.all_cons, List.all_nil, h4, h27, Bool.and_true, Bool.true_and]; rfl
theorem load_obj {ops : Array Oper} {rest : List Oper} {o : Oper} {a : Act} {Q : Exit → Act → World → Prop} {W : World} {p : Operand} {g : Nat} {cs : Array Value} (ho : o.op = .load 68 p) (hgd : o.guard = none) (he : a.eval p = .pointer (some ⟨g, 0, none⟩)) (hb : W.heap[g]? = some (.cells cs 68 (0, 0))) (hs : cs.size = 32)
    (h : wpList Try.prog ops Q rest (a.put o.dst (.agg cs)) W) : wpList Try.prog ops Q (o :: rest) a W :=
  load_list (cs := cs.toList) hgd ho he Try.underlying68 rfl (by rw [Array.length_toList, hs]; exact size68) (fun j v hj => by
    have := blk_cell hb j
    unfold Addr.add
    by_cases h0 : j = 0
    · subst h0; rw [if_pos rfl, this]; simpa using hj
    · rw [if_neg h0, Nat.zero_add, this]; simpa using hj) (by rw [Array.toArray_toList]; exact h)
theorem cell_store_event {P : Program} {ops : Array Oper} {rest : List Oper} {o : Oper} {a : Act} {Q : Exit → Act → World → Prop} {W : World} (hgd : o.guard = none) {t ty : TypeId} {p : Tmp} {x : Operand} (ho : o.op = .store t (.tmp p) x) (hN : o.dst = none) {g j : Nat} {cs : Array Value} {v : Value}
    (he : a.eval (.tmp p) = .pointer (some ⟨g, j, none⟩)) (hv : a.eval x = v) (hi : (P.info? t).map (·.size) = some 1) (hb : W.heap[g]? = some (.cells cs ty (0, 0))) (hj : j < cs.size) (hc : v.cells.toList = [v]) (h1 : v.oneCell' = true)
    (h : ∀ w', w'.heap[g]? = some (.cells (cs.setIfInBounds j v) ty (0, 0)) → W.grownBy w' (some g) → wpList P ops Q rest a w') : wpList P ops Q (o :: rest) a W := by
  have hrun := run_store_run (P := P) t v [v] hb hc (by rw [hi]; rfl) (o := j) (by simp; omega) (fun q hq => by simp only [List.mem_singleton] at hq; rw [hq]; exact h1)
  refine wpList_plain hgd fun K hK => ?_
  unfold Oper.wp
  have hx : (execOp a.eval o).run P W = .ok .skip (W.setCell ⟨g, j, none⟩ v) := by
    simp only [execOp, ho, he, hv]
    simp [hrun, Result.andThen]
    rfl
  rw [hx]
  show K (a.put o.dst undef) _
  rw [hN]
  obtain ⟨q1, q2, q3, q4⟩ := setCells_same g [v] j W
  exact hK _ _ (h _ (blk_put hb j v rfl) (show W.grownBy (W.setCells g j [v]) (some g) from ⟨q1, q2, q3, by rw [q4]; exact Nat.le_refl _, fun k hk hne => setCells_far [v] _ k (fun e => hne (by rw [e]))⟩))
theorem at_cO {w : World} {A : Option Addr} {n : Nat} {xs : List S68} (h : k68.C w A n xs) (i : Nat) (hi : i < n) : ∃ ad v4 v27, A = some ad ∧ kO w (rd_T68 xs (i : Int)) v4 v27 ∧ w.cell? (ad.add (i * 32)) = some (.int .i64 (rd_T68 xs (i : Int)).f0) ∧ ∀ (j : Nat) (v : Value), 0 < j → (cO (rd_T68 xs (i : Int)) v4 v27)[j]? = some v → w.cell? ⟨(ad.add (i * 32)).block, (ad.add (i * 32)).off + j, none⟩ = some v := by
  obtain ⟨ad, cs, e, hcl, hK, hcells⟩ := Kd.C_get h z68 (i : Int) (by omega) (by omega)
  obtain ⟨v4, v27, rfl, hk⟩ := K_kO hK
  rw [Int.toNat_natCast] at hcells
  refine ⟨ad, v4, v27, e, hk, ?_, fun j v hj hv => ?_⟩
  · have := hcells 0 (.int .i64 (rd_T68 xs (i : Int)).f0) rfl
    rwa [Nat.add_zero] at this
  · have := hcells j v (by rw [Array.getElem?_toList]; exact hv)
    have he : ad.add (i * k68.sz + j) = ⟨(ad.add (i * 32)).block, (ad.add (i * 32)).off + j, none⟩ := by
      rw [show k68.sz = 32 from rfl, ← addr_add_add]
      generalize ad.add (i * 32) = b
      unfold Addr.add; rw [if_neg (by omega)]
    rwa [he] at this
theorem build_cO (x : S68) (v4 v27 : Value) : Array.foldl (fun (cs : Array Value) (x : Value × Nat) => cs.setIfInBounds x.snd x.fst) #[.int .i64 0, .string (⟨#[]⟩ : ByteArray), .int .i64 0, .int .i64 0, .slice none 0 0, .int .i64 0, .int .i64 0, .bool false, .bool false, .bool false, .int .i64 0, .string (⟨#[]⟩ : ByteArray), .string (⟨#[]⟩ : ByteArray), .string (⟨#[]⟩ : ByteArray), .int .i64 0, .bool false, .bool false, .int .i64 0, .int .i64 0, .string (⟨#[]⟩ : ByteArray), .int .i64 0, .int .i64 0, .int .i64 0, .int .i64 0, .int .i64 0, .bool false, .int .u64 0, .slice none 0 0, .int .i64 0, .string (⟨#[]⟩ : ByteArray), .int .i64 0, .int .i64 0] ((cO x v4 v27).zipIdx 0) 0 32 = cO x v4 v27 := by
  unfold cO
  simp [Array.zipIdx, Array.foldl]
def spawnOK (l1 l2 : List S68) (x : S68) : Prop := ∃ d, findL x.f10 l2 = some d ∧ ((countL (isOwned x.f10) l1 : Nat) : Int) < heldI d.f20 + heldI d.f21
theorem owned_named {d : S68} {a : ByteArray} (h : isNamed a d = true) : isOwned d.f1 = isOwned a := by
  unfold isNamed at h
  simp only [beq_iff_eq] at h
  funext y; unfold isOwned; rw [h]
theorem held_sum (a b : Int) : wrap64 (heldI a + heldI b) = heldI a + heldI b := by
  have h1 : -1125899906842624 ≤ heldI a ∧ heldI a ≤ 1125899906842624 := by unfold heldI mn mx; split <;> split <;> omega
  have h2 : -1125899906842624 ≤ heldI b ∧ heldI b ≤ 1125899906842624 := by unfold heldI mn mx; split <;> split <;> omega
  unfold wrap64; omega
theorem held_is (n : Int) : rules_held.f n = some (heldI n) := rfl
theorem spawn_is (l0 l1 l2 l3 : List S68) (x : S68) : ∃ b, rules_Spawn.f l0 l1 l2 l3 x.f0 x.f1 x.f2 x.f3 x.f4 x.f5.f0 x.f5.f1 x.f6 x.f7 x.f8 x.f9 x.f10 x.f11 x.f12 x.f13 x.f14 x.f15 x.f16.f0 x.f16.f1 x.f17 x.f18 x.f19 x.f20 x.f21 x.f22 x.f23 x.f24 x.f25 x.f26 x.f27 x.f28 x.f29 = some b ∧ (b = none → spawnOK l1 l2 x) := by
  unfold rules_Spawn.f rules_find.f
  cases h : findL x.f10 l2 with
  | none => exact ⟨some 10, rfl, fun h => by cases h⟩
  | some d =>
    have hn : isNamed x.f10 d = true := List.find?_some h
    by_cases hc : ((countL (isOwned x.f10) l1 : Nat) : Int) < heldI d.f20 + heldI d.f21
    · refine ⟨none, ?_, fun _ => ⟨d, h, hc⟩⟩
      simp only [Option.bind_some, flatFound, if_true, rules_Owned.f, held_is, held_sum, owned_named hn]
      rw [if_neg (by omega)]
    · refine ⟨some 20, ?_, fun h => by cases h⟩
      simp only [Option.bind_some, flatFound, if_true, rules_Owned.f, held_is, held_sum, owned_named hn]
      rw [if_pos (by omega)]
theorem spawn_co (A0 : Option Addr) (c0 : Nat) (l0 : List S68) (A1 : Option Addr) (c1 : Nat) (l1 : List S68) (A2 : Option Addr) (c2 : Nat) (l2 : List S68) (A3 : Option Addr) (c3 : Nat) (l3 : List S68) (x : S68) (v4 v27 : Value) (b : Option Int) (w : World) (hr0 : k68.C w A0 l0.length l0) (hc0 : l0.length ≤ c0) (hr1 : k68.C w A1 l1.length l1) (hc1 : l1.length ≤ c1) (hr2 : k68.C w A2 l2.length l2) (hc2 : l2.length ≤ c2) (hr3 : k68.C w A3 l3.length l3) (hc3 : l3.length ≤ c3) (hx : kO w x v4 v27)
    (h : rules_Spawn.f l0 l1 l2 l3 x.f0 x.f1 x.f2 x.f3 x.f4 x.f5.f0 x.f5.f1 x.f6 x.f7 x.f8 x.f9 x.f10 x.f11 x.f12 x.f13 x.f14 x.f15 x.f16.f0 x.f16.f1 x.f17 x.f18 x.f19 x.f20 x.f21 x.f22 x.f23 x.f24 x.f25 x.f26 x.f27 x.f28 x.f29 = some b) : Calls Try.prog 60 #[.agg #[.slice A0 l0.length c0, .slice A1 l1.length c1, .slice A2 l2.length c2, .slice A3 l3.length c3], .agg (cO x v4 v27)] w fun e w' => e = .returned (errW b) ∧ Below w.heap.size w w' := by
  obtain ⟨A4, c4, A27, c27, rfl, rfl, l4, g4, l27, g27⟩ := hx
  exact rules_Spawn.calls A0 c0 l0 A1 c1 l1 A2 c2 l2 A3 c3 l3 x.f0 x.f1 x.f2 x.f3 A4 c4 x.f4 x.f5.f0 x.f5.f1 x.f6 x.f7 x.f8 x.f9 x.f10 x.f11 x.f12 x.f13 x.f14 x.f15 x.f16.f0 x.f16.f1 x.f17 x.f18 x.f19 x.f20 x.f21 x.f22 x.f23 x.f24 A27 c27 x.f25 x.f26 x.f27 x.f28 x.f29 b w hr0 hc0 hr1 hc1 hr2 hc2 hr3 hc3 g4 l4 g27 l27 h
theorem copy_co (x : S68) (v4 v27 : Value) (w : World) (hx : kO w x v4 v27) (h4 : x.f4.length * 32 ≤ 140737488351232) (h25 : x.f25.length * 32 ≤ 140737488351232) :
    Calls Try.prog 61 #[.agg (cO x v4 v27)] w fun e w' => ∃ u4 u27, e = .returned (.agg (cO x u4 u27)) ∧ k31.R 31 w' w.heap.size (fun _ => True) u4 x.f4 ∧ k31.R 31 w' w.heap.size (fun _ => True) u27 x.f25 ∧ Below w.heap.size w w' := by
  obtain ⟨A4, c4, A27, c27, rfl, rfl, l4, g4, l27, g27⟩ := hx
  have hf : flotillaref0_CopyObject.f (x.f4.length + x.f25.length + 1) x.f0 x.f1 x.f2 x.f3 x.f4 x.f5.f0 x.f5.f1 x.f6 x.f7 x.f8 x.f9 x.f10 x.f11 x.f12 x.f13 x.f14 x.f15 x.f16.f0 x.f16.f1 x.f17 x.f18 x.f19 x.f20 x.f21 x.f22 x.f23 x.f24 x.f25 x.f26 x.f27 x.f28 x.f29 = some (x.f0, x.f1, x.f2, x.f3, x.f4, x.f5.f0, x.f5.f1, x.f6, x.f7, x.f8, x.f9, x.f10, x.f11, x.f12, x.f13, x.f14, x.f15, x.f16.f0, x.f16.f1, x.f17, x.f18, x.f19, x.f20, x.f21, x.f22, x.f23, x.f24, x.f25, x.f26, x.f27, x.f28, x.f29) := by
    unfold flotillaref0_CopyObject.f
    rw [copyLabels_all x.f4 (by omega) _ (by omega), copyLabels_all x.f25 (by omega) _ (by omega)]; rfl
  refine (flotillaref0_CopyObject.calls _ x.f0 x.f1 x.f2 x.f3 A4 c4 x.f4 x.f5.f0 x.f5.f1 x.f6 x.f7 x.f8 x.f9 x.f10 x.f11 x.f12 x.f13 x.f14 x.f15 x.f16.f0 x.f16.f1 x.f17 x.f18 x.f19 x.f20 x.f21 x.f22 x.f23 x.f24 A27 c27 x.f25 x.f26 x.f27 x.f28 x.f29 x.f0 x.f1 x.f2 x.f3 x.f4 x.f5.f0 x.f5.f1 x.f6 x.f7 x.f8 x.f9 x.f10 x.f11 x.f12 x.f13 x.f14 x.f15 x.f16.f0 x.f16.f1 x.f17 x.f18 x.f19 x.f20 x.f21 x.f22 x.f23 x.f24 x.f25 x.f26 x.f27 x.f28 x.f29 w g4 l4 g27 l27 hf).mono ?_
  rintro e w' ⟨u4, u27, rfl, r4, r27, hb⟩
  exact ⟨u4, u27, rfl, Kd.R_mono r4 (fun _ _ => trivial), Kd.R_mono r27 (fun _ _ => trivial), hb⟩
def bigF (l0 l1 l2 l3 : List S68) : Bool := decide (l0.length > 300) || decide (l1.length > 300) || decide (l2.length > 300) || decide (l3.length > 300)
theorem bigF_is (l0 l1 l2 l3 : List S68) : flotillalaw16_big.f l0 l1 l2 l3 = some (bigF l0 l1 l2 l3) := by
  unfold flotillalaw16_big.f bigF
  by_cases h0 : l0.length > 300
  · rw [if_pos (by omega)]; simp [h0]
  · rw [if_neg (by omega)]
    by_cases h1 : l1.length > 300
    · rw [if_pos (by omega)]; simp [h1]
    · rw [if_neg (by omega)]
      by_cases h2 : l2.length > 300
      · rw [if_pos (by omega)]; simp [h2]
      · rw [if_neg (by omega)]
        by_cases h3 : l3.length > 300
        · simp [h3]; omega
        · simp [h0, h1, h2, h3]; omega
end Go.Proofs.Ytamjjeakkkdfhaa.G
end
section
namespace Go.Proofs.Ytamjjeakkkdfhaa.G
open Go.RowKit Go.Proofs.YtamjjeakkkdfhaaW.PrintWords Go.Proofs.YtamjjeakkkdfhaaW.PrintLast Go.Proofs.YtamjjeakkkdfhaaW.PrintMore
open Go.Proofs.Ytamjjeakkkdfhaa.K Go.Proofs.YtamjjeakkkdfhaaE Go.Proofs.Ytamjjeakkkdfhaa.PB Go.Proofs.Ytamjjeakkkdfhaa.PC
set_option linter.unusedVariables false
set_option linter.unusedSimpArgs false
def exLab : S31 := ⟨(⟨#[97, 112, 112]⟩ : ByteArray), (⟨#[119, 101, 98]⟩ : ByteArray)⟩
def exPod (nm nd : ByteArray) (ph : Int) (rd : Bool) : S68 := { z68 with f0 := 1, f1 := nm, f4 := [exLab], f10 := (⟨#[119, 101, 98]⟩ : ByteArray), f11 := (⟨#[119, 101, 98, 45, 97]⟩ : ByteArray), f12 := nd, f13 := ph, f14 := rd, f16 := ⟨400, 16⟩ }
def exNode : S68 := { z68 with f0 := 0, f1 := (⟨#[110, 49]⟩ : ByteArray), f5 := ⟨1000, 64⟩ }
def exDeploy : S68 := { z68 with f0 := 2, f1 := (⟨#[119, 101, 98]⟩ : ByteArray), f20 := 2, f21 := 1, f22 := 1 }
def exPods : List S68 := [exPod (⟨#[112, 48]⟩ : ByteArray) (⟨#[110, 49]⟩ : ByteArray) 1 true, exPod (⟨#[112, 49]⟩ : ByteArray) (⟨#[110, 49]⟩ : ByteArray) 1 true, exPod (⟨#[112, 50]⟩ : ByteArray) (⟨#[]⟩ : ByteArray) 0 false]
theorem lit_R {α : Type} (d : Kd α) (e : Nat) (W : World) (base : Nat) (ok : Nat → Prop) (x : α) (cs : List Value) (hM : ∀ (w : World) (ok : Nat → Prop), d.M w base ok x cs) (hb : base ≤ W.heap.size) (hok : ok W.heap.size) : d.R e (W.alloc (.cells cs.toArray e)) base ok (.slice (some ⟨W.heap.size, 0, none⟩) 1 1) [x] :=
  ⟨fun k hk => by simp [Value.ownBlock] at hk; subst hk; exact hok, OwnRow.lit W base (Reps.snoc (Reps.none _ _) (hM _ _) (d.K_len (d.K_of_M (hM W ok)))) hb (by simp)⟩
theorem gen_wp {prog : Program} {c : Code} {Q : Exit → Act → World → Prop} {a : Act} {W : World} (F : World → Prop) (hF : F W) (h : ∀ W', F W' → Code.wp prog c Q a W') : Code.wp prog c Q a W := h W hF
theorem gen_list {prog : Program} {ops : Array Oper} {rest : List Oper} {Q : Exit → Act → World → Prop} {a : Act} {W : World} (F : World → Prop) (hF : F W) (h : ∀ W', F W' → wpList prog ops Q rest a W') : wpList prog ops Q rest a W := h W hF
set_option maxRecDepth 100000 in
set_option maxHeartbeats 8000000 in
theorem law16_example.calls (w : World) :
    Calls Try.prog 99 #[] w fun e w' => ∃ (Ap : Option Addr) (cp gn gd : Nat), e = .returned (.agg #[.slice (some ⟨gn, 0, none⟩) 1 1, .slice Ap 3 cp, .slice (some ⟨gd, 0, none⟩) 1 1, .slice none 0 0]) ∧ 3 ≤ cp ∧ k68.C w' (some ⟨gn, 0, none⟩) 1 [exNode] ∧ k68.C w' Ap 3 exPods ∧ k68.C w' (some ⟨gd, 0, none⟩) 1 [exDeploy] ∧ Below w.heap.size w w' := by
  have hu59 := Try.underlying59
  have hu57 := Try.underlying57
  go_enter Try.func99, Try.ntmps99
  go_wp2_with ((with_reducible refine gate_dst (N := 3) rfl ?_); refine hold ?_)
  refine Hold.intro ?_
  refine gen_list (fun W => W.heap.size = w.heap.size + 3 ∧ W.heap[w.heap.size]? = some (.cells #[.slice none 0 0, .slice none 0 0, .slice none 0 0, .slice none 0 0] 59 (0, 0)) ∧ k31.R 31 W w.heap.size (fun k_ => k_ = w.heap.size + 1) (.slice (some ⟨w.heap.size + 1, 0, none⟩) 1 1) [exLab] ∧ Below w.heap.size w W) ⟨by simp [World.size_alloc], blk_alloc (blk_alloc (blk_new w _) _) _, ?_, below_alloc (below_alloc (below_alloc (Below.refl _ _) _) _) _⟩ ?_
  · refine Kd.R_below ?_ (below_alloc (Below.refl _ _) _)
    have h := lit_R k31 31 (w.alloc (.cells #[.slice none 0 0, .slice none 0 0, .slice none 0 0, .slice none 0 0] 59)) w.heap.size (fun k_ => k_ = w.heap.size + 1) exLab [.string exLab.f0, .string exLab.f1] (fun W ok => k31_mkM W _ ok exLab) (by simp [World.size_alloc]) (by simp [World.size_alloc])
    rw [World.size_alloc] at h
    exact h
  rintro w1 ⟨hs1, hF1, hL1, hB1⟩
  refine alloc_obj rfl rfl rfl ?_
  intro g3 hg3 w2 hbox hb
  have HB2 := Aside0.mk (below_step hB1 hb)
  have HF2 := Aside0.mk (blk_below hF1 hb)
  have HL2 := Aside0.mk (Kd.R_below hL1 hb)
  have HP2 := Aside0.mk hbox
  have HG3 := Aside0.mk (show g3 = w.heap.size + 3 by rw [hg3, hs1])
  have HS2 := Aside0.mk hb.size
  clear hbox hb hF1 hL1 hB1 hs1 hg3
  go_wp2_with ((with_reducible refine gate_store (t := 68) (p := 3) rfl ?_); refine hold ?_)
  refine Hold.intro (box_store_event (t := 68) (ty := 68) (p := 3) (x := .tmp 11) (g := g3) (cs := zcObj) (cs' := #[.int .i64 1, .string (⟨#[]⟩ : ByteArray), .int .i64 0, .int .i64 0, .slice (some ⟨(w.heap.size + 1), 0, none⟩) 1 1, .int .i64 0, .int .i64 0, .bool false, .bool false, .bool false, .int .i64 0, .string (⟨#[119, 101, 98]⟩ : ByteArray), .string (⟨#[119, 101, 98, 45, 97]⟩ : ByteArray), .string (⟨#[110, 49]⟩ : ByteArray), .int .i64 1, .bool true, .bool false, .int .i64 400, .int .i64 16, .string (⟨#[]⟩ : ByteArray), .int .i64 0, .int .i64 0, .int .i64 0, .int .i64 0, .int .i64 0, .bool false, .int .u64 0, .slice none 0 0, .int .i64 0, .string (⟨#[]⟩ : ByteArray), .int .i64 0, .int .i64 0]) rfl rfl rfl rfl rfl size68 HP2.out rfl rfl ?_)
  intro w3 hbox3 hg
  have HB3 := Aside0.mk (Below.grown HB2.out hg HB2.out.size (fun k_ e_ => by injection e_ with e_; subst e_; have := HG3.out; omega))
  have HF3 := Aside0.mk (blk_grown HF2.out hg (fun e_ => by have := HG3.out; injection e_ with e_; omega))
  have HL3 := Aside0.mk (Kd.R_grown HL2.out hg (fun k_ hk_ e_ => by have := HG3.out; injection e_ with e_; omega))
  have HP3 := Aside0.mk hbox3
  have HG4 := Aside0.mk (show g3 < w3.heap.size from blk_lt hbox3)
  clear hbox3 hg HB2 HF2 HL2 HP2 HS2
  go_wp2_with ((with_reducible refine gate_dst (N := 4) rfl ?_); refine hold ?_)
  refine Hold.intro ?_
  obtain ⟨gn, hgn⟩ : ∃ gn, gn = w3.heap.size := ⟨_, rfl⟩
  obtain ⟨gd, hgd⟩ : ∃ gd, gd = w3.heap.size + 1 := ⟨_, rfl⟩
  rw [← hgd, ← hgn]
  refine gen_list (fun W => W.heap.size = w3.heap.size + 2 ∧ k68.R 68 W w.heap.size (fun k_ => k_ = gn) (.slice (some ⟨gn, 0, none⟩) 1 1) [exNode] ∧ k68.R 68 W w.heap.size (fun k_ => k_ = gd) (.slice (some ⟨gd, 0, none⟩) 1 1) [exDeploy] ∧ Below w3.heap.size w3 W) ⟨by simp [World.size_alloc], ?_, ?_, below_alloc (below_alloc (Below.refl _ _) _) _⟩ ?_
  · refine Kd.R_below ?_ (below_alloc (Below.refl _ _) _)
    rw [hgn]
    exact lit_R k68 68 w3 w.heap.size _ exNode [.int .i64 0, .string (⟨#[110, 49]⟩ : ByteArray), .int .i64 0, .int .i64 0, .slice none 0 0, .int .i64 1000, .int .i64 64, .bool false, .bool false, .bool false, .int .i64 0, .string (⟨#[]⟩ : ByteArray), .string (⟨#[]⟩ : ByteArray), .string (⟨#[]⟩ : ByteArray), .int .i64 0, .bool false, .bool false, .int .i64 0, .int .i64 0, .string (⟨#[]⟩ : ByteArray), .int .i64 0, .int .i64 0, .int .i64 0, .int .i64 0, .int .i64 0, .bool false, .int .u64 0, .slice none 0 0, .int .i64 0, .string (⟨#[]⟩ : ByteArray), .int .i64 0, .int .i64 0] (fun W ok => k68_mkM W _ ok exNode (Kd.R_nil _ _ _ _ _) (Kd.R_nil _ _ _ _ _)) HB3.out.size rfl
  · have h := lit_R k68 68 (w3.alloc (.cells #[.int .i64 0, .string (⟨#[110, 49]⟩ : ByteArray), .int .i64 0, .int .i64 0, .slice none 0 0, .int .i64 1000, .int .i64 64, .bool false, .bool false, .bool false, .int .i64 0, .string (⟨#[]⟩ : ByteArray), .string (⟨#[]⟩ : ByteArray), .string (⟨#[]⟩ : ByteArray), .int .i64 0, .bool false, .bool false, .int .i64 0, .int .i64 0, .string (⟨#[]⟩ : ByteArray), .int .i64 0, .int .i64 0, .int .i64 0, .int .i64 0, .int .i64 0, .bool false, .int .u64 0, .slice none 0 0, .int .i64 0, .string (⟨#[]⟩ : ByteArray), .int .i64 0, .int .i64 0] 68)) w.heap.size (fun k_ => k_ = gd) exDeploy [.int .i64 2, .string (⟨#[119, 101, 98]⟩ : ByteArray), .int .i64 0, .int .i64 0, .slice none 0 0, .int .i64 0, .int .i64 0, .bool false, .bool false, .bool false, .int .i64 0, .string (⟨#[]⟩ : ByteArray), .string (⟨#[]⟩ : ByteArray), .string (⟨#[]⟩ : ByteArray), .int .i64 0, .bool false, .bool false, .int .i64 0, .int .i64 0, .string (⟨#[]⟩ : ByteArray), .int .i64 0, .int .i64 0, .int .i64 2, .int .i64 1, .int .i64 1, .bool false, .int .u64 0, .slice none 0 0, .int .i64 0, .string (⟨#[]⟩ : ByteArray), .int .i64 0, .int .i64 0] (fun W ok => k68_mkM W _ ok exDeploy (Kd.R_nil _ _ _ _ _) (Kd.R_nil _ _ _ _ _)) (by rw [World.size_alloc]; have := HB3.out.size; omega) (by rw [World.size_alloc, hgd])
    rw [World.size_alloc, ← hgd] at h
    exact h
  rintro w4 ⟨hs4, hN4, hD4, hb⟩
  refine box_event (N := 4) (t := 59) (cs := #[.slice none 0 0, .slice none 0 0, .slice none 0 0, .slice none 0 0]) rfl rfl ?hr ?_
  case hr => first | (go_simp; done) | (go_simp; rfl)
  intro gf hgf w5 hbox hb5
  have HB5 := Aside0.mk (below_step (below_step HB3.out hb) hb5)
  have HF5 := Aside0.mk (blk_below (blk_below HF3.out hb) hb5)
  have HL5 := Aside0.mk (Kd.R_below (Kd.R_below HL3.out hb) hb5)
  have HP5 := Aside0.mk (blk_below (blk_below HP3.out hb) hb5)
  have HN5 := Aside0.mk (Kd.R_below hN4 hb5)
  have HD5 := Aside0.mk (Kd.R_below hD4 hb5)
  have HX5 := Aside0.mk hbox
  have HGG := Aside0.mk (show g3 = w.heap.size + 3 ∧ g3 < gn ∧ gd = gn + 1 ∧ gf = gn + 2 from ⟨HG3.out, by rw [hgn]; exact HG4.out, by omega, by omega⟩)
  clear hbox hb5 hb hs4 hN4 hD4 hgf hgn hgd HB3 HF3 HL3 HP3 HG3 HG4
  go_wp2_with ((with_reducible refine gate_store (t := 59) (p := 4) rfl ?_); refine hold ?_)
  refine Hold.intro (box_store_event (t := 59) (ty := 59) (p := 4) (x := .tmp 17) (g := gf) (cs := #[.slice none 0 0, .slice none 0 0, .slice none 0 0, .slice none 0 0]) (cs' := #[.slice (some ⟨gn, 0, none⟩) 1 1, .slice none 0 0, .slice (some ⟨gd, 0, none⟩) 1 1, .slice none 0 0]) rfl rfl rfl rfl rfl size59 HX5.out rfl rfl ?_)
  intro w6 hbox6 hg
  obtain ⟨e1_, e2_, e3_, e4_⟩ := HGG.out
  have HB6 := Aside0.mk (Below.grown HB5.out hg HB5.out.size (fun k_ e_ => by injection e_ with e_; omega))
  have HF6 := Aside0.mk (blk_grown HF5.out hg (fun e_ => by injection e_ with e_; omega))
  have HP6 := Aside0.mk (blk_grown HP5.out hg (fun e_ => by injection e_ with e_; omega))
  have HL6 := Aside0.mk (Kd.R_grown HL5.out hg (fun k_ hk_ e_ => by injection e_ with e_; omega))
  have HN6 := Aside0.mk (Kd.R_grown HN5.out hg (fun k_ hk_ e_ => by injection e_ with e_; omega))
  have HD6 := Aside0.mk (Kd.R_grown HD5.out hg (fun k_ hk_ e_ => by injection e_ with e_; omega))
  have HX6 := Aside0.mk hbox6
  clear hbox6 hg e1_ e2_ e3_ e4_ HB5 HF5 HP5 HL5 HN5 HD5 HX5
  go_wp2
  go_loopw [5] (fun i wr => ∃ (k : Int) (nm nd : ByteArray) (ph : Int) (rd : Bool) (A : Option Addr) (c : Nat), (k = 0 ∨ k = 1 ∨ k = 2 ∨ k = 3) ∧ i = .int .i64 k ∧ Aside0 (k < 3 → nd = (⟨#[110, 49]⟩ : ByteArray) ∧ ph = 1 ∧ rd = true) ∧ Aside0 (k.toNat ≤ c) ∧ Aside0 (wr.heap[g3]? = some (.cells #[.int .i64 1, .string nm, .int .i64 0, .int .i64 0, .slice (some ⟨(w.heap.size + 1), 0, none⟩) 1 1, .int .i64 0, .int .i64 0, .bool false, .bool false, .bool false, .int .i64 0, .string (⟨#[119, 101, 98]⟩ : ByteArray), .string (⟨#[119, 101, 98, 45, 97]⟩ : ByteArray), .string nd, .int .i64 ph, .bool rd, .bool false, .int .i64 400, .int .i64 16, .string (⟨#[]⟩ : ByteArray), .int .i64 0, .int .i64 0, .int .i64 0, .int .i64 0, .int .i64 0, .bool false, .int .u64 0, .slice none 0 0, .int .i64 0, .string (⟨#[]⟩ : ByteArray), .int .i64 0, .int .i64 0] 68 (0, 0))) ∧ Aside0 (wr.heap[gf]? = some (.cells #[.slice (some ⟨gn, 0, none⟩) 1 1, .slice A k.toNat c, .slice (some ⟨gd, 0, none⟩) 1 1, .slice none 0 0] 59 (0, 0))) ∧ Aside0 (k31.R 31 wr w.heap.size (fun k_ => k_ = w.heap.size + 1) (.slice (some ⟨w.heap.size + 1, 0, none⟩) 1 1) [exLab]) ∧ Aside0 (k68.R 68 wr w.heap.size (fun k_ => k_ = gn) (.slice (some ⟨gn, 0, none⟩) 1 1) [exNode]) ∧ Aside0 (k68.R 68 wr w.heap.size (fun k_ => k_ = gd) (.slice (some ⟨gd, 0, none⟩) 1 1) [exDeploy]) ∧ Aside0 (k68.R 68 wr w.heap.size (fun k_ => k_ ≠ g3 ∧ k_ ≠ gf ∧ k_ ≠ gn ∧ k_ ≠ gd ∧ k_ ≠ w.heap.size) (.slice A k.toNat c) (exPods.take k.toNat)) ∧ Aside0 (wr.heap[w.heap.size]? = some (.cells #[.slice none 0 0, .slice none 0 0, .slice none 0 0, .slice none 0 0] 59 (0, 0))) ∧ Aside0 (Below w.heap.size w wr)) (fun i _ => 3 - (intOf i).toNat)
  case atStart => exact ⟨0, (⟨#[]⟩ : ByteArray), (⟨#[110, 49]⟩ : ByteArray), 1, true, none, 0, .inl rfl, rfl, ⟨fun _ => ⟨rfl, rfl, rfl⟩⟩, ⟨Nat.le_refl _⟩, HP6, HX6, HL6, HN6, HD6, ⟨Kd.R_nil _ _ _ _ _⟩, HF6, HB6⟩
  case round =>
    obtain ⟨k, nm, nd, ph, rd, A, c, hk, rfl, HK, HCC, HP, HX, HL, HN, HD, HS, HF, HB⟩ := hrel
    have hne1 : g3 ≠ gf := by have := HGG.out; omega
    have hne2 : gf ≠ g3 := fun e => hne1 e.symm
    have hx1 : wr.cell? ⟨gf, 1, none⟩ = some (.slice A k.toNat c) := (blk_cell HX.out 1).trans rfl
    have hp1 : wr.cell? ⟨g3, 1, none⟩ = some (.string nm) := (blk_cell HP.out 1).trans rfl
    have hp13 : wr.cell? ⟨g3, 13, none⟩ = some (.string nd) := (blk_cell HP.out 13).trans rfl
    have hp14 : wr.cell? ⟨g3, 14, none⟩ = some (.int .i64 ph) := (blk_cell HP.out 14).trans rfl
    have hp15 : wr.cell? ⟨g3, 15, none⟩ = some (.bool rd) := (blk_cell HP.out 15).trans rfl
    have hlt3 : g3 < wr.heap.size := blk_lt HP.out
    have hltf : gf < wr.heap.size := blk_lt HX.out
    have hfp1 := blk_frozen HP.out 1
    have hfp13 := blk_frozen HP.out 13
    have hfp14 := blk_frozen HP.out 14
    have hfp15 := blk_frozen HP.out 15
    rcases hk with rfl | rfl | rfl | rfl
    · obtain ⟨rfl, rfl, rfl⟩ := HK.out (by decide)
      clear HK
      have hcv : (convert 122 9 (.slice (some ⟨wr.heap.size, 0, none⟩) 2 2)).run Try.prog (wr.alloc (.cells #[.int .u8 112, .int .u8 48] 5)) = .ok (.string (⟨#[112, 48]⟩ : ByteArray)) (wr.alloc (.cells #[.int .u8 112, .int .u8 48] 5)) := own_string (P := Try.prog) Try.underlying122 Try.underlying5 Try.underlying9 (own_lit wr 0 5 .u8 [112, 48] (Nat.zero_le _) (by decide))
      go_upto_region 13 with (fail)
      obtain ⟨e1_, e2_, e3_, e4_⟩ := HGG.out
      have hB3 : w.heap.size ≤ g3 := by omega
      refine gen_wp (fun W => Aside0 (W.heap[g3]? = some (.cells #[.int .i64 1, .string (⟨#[112, 48]⟩ : ByteArray), .int .i64 0, .int .i64 0, .slice (some ⟨(w.heap.size + 1), 0, none⟩) 1 1, .int .i64 0, .int .i64 0, .bool false, .bool false, .bool false, .int .i64 0, .string (⟨#[119, 101, 98]⟩ : ByteArray), .string (⟨#[119, 101, 98, 45, 97]⟩ : ByteArray), .string (⟨#[110, 49]⟩ : ByteArray), .int .i64 1, .bool true, .bool false, .int .i64 400, .int .i64 16, .string (⟨#[]⟩ : ByteArray), .int .i64 0, .int .i64 0, .int .i64 0, .int .i64 0, .int .i64 0, .bool false, .int .u64 0, .slice none 0 0, .int .i64 0, .string (⟨#[]⟩ : ByteArray), .int .i64 0, .int .i64 0] 68 (0, 0))) ∧ Aside0 (W.heap[gf]? = some (.cells #[.slice (some ⟨gn, 0, none⟩) 1 1, .slice A 0 c, .slice (some ⟨gd, 0, none⟩) 1 1, .slice none 0 0] 59 (0, 0))) ∧ Aside0 (k31.R 31 W w.heap.size (fun k_ => k_ = w.heap.size + 1) (.slice (some ⟨w.heap.size + 1, 0, none⟩) 1 1) [exLab]) ∧ Aside0 (k68.R 68 W w.heap.size (fun k_ => k_ = gn) (.slice (some ⟨gn, 0, none⟩) 1 1) [exNode]) ∧ Aside0 (k68.R 68 W w.heap.size (fun k_ => k_ = gd) (.slice (some ⟨gd, 0, none⟩) 1 1) [exDeploy]) ∧ Aside0 (k68.R 68 W w.heap.size (fun k_ => k_ ≠ g3 ∧ k_ ≠ gf ∧ k_ ≠ gn ∧ k_ ≠ gd ∧ k_ ≠ w.heap.size) (.slice A 0 c) (exPods.take 0)) ∧ Aside0 (W.heap[w.heap.size]? = some (.cells #[.slice none 0 0, .slice none 0 0, .slice none 0 0, .slice none 0 0] 59 (0, 0))) ∧ Aside0 (Below w.heap.size w W)) ⟨⟨(blk_alloc (blk_set HP.out 1 _) _)⟩, ⟨(blk_alloc ((Below.heap_setCell _ ⟨g3, 1, none⟩ _ _ hne2).trans HX.out) _)⟩, ⟨(Kd.R_below (Kd.R_far HL.out (p := ⟨g3, 1, none⟩) (fun k_ hk_ => by show k_ ≠ g3; omega) _) (below_alloc (Below.refl _ _) _))⟩, ⟨(Kd.R_below (Kd.R_far HN.out (p := ⟨g3, 1, none⟩) (fun k_ hk_ => by show k_ ≠ g3; omega) _) (below_alloc (Below.refl _ _) _))⟩, ⟨(Kd.R_below (Kd.R_far HD.out (p := ⟨g3, 1, none⟩) (fun k_ hk_ => by show k_ ≠ g3; omega) _) (below_alloc (Below.refl _ _) _))⟩, ⟨(Kd.R_below (Kd.R_far HS.out (p := ⟨g3, 1, none⟩) (fun k_ hk_ => hk_.1) _) (below_alloc (Below.refl _ _) _))⟩, ⟨(blk_alloc ((Below.heap_setCell _ ⟨g3, 1, none⟩ _ _ (by show w.heap.size ≠ g3; omega)).trans HF.out) _)⟩, ⟨(below_alloc (below_set HB.out hB3) _)⟩⟩ ?_
      clear e1_ e2_ e3_ e4_ HP HX HL HN HD HS HF HB hcv hx1 hp1 hp13 hp14 hp15 hfp1 hfp13 hfp14 hfp15 hlt3 hltf
      rintro W ⟨HP, HX, HL, HN, HD, HS, HF, HB⟩
      have hx1 : W.cell? ⟨gf, 1, none⟩ = some (.slice A 0 c) := (blk_cell HX.out 1).trans rfl
      have hlt3 : g3 < W.heap.size := blk_lt HP.out
      have hltf : gf < W.heap.size := blk_lt HX.out
      have HC := Aside0.mk (fun (j : Nat) (v : Value) (h : ([.int .i64 1, .string (⟨#[112, 48]⟩ : ByteArray), .int .i64 0, .int .i64 0, .slice (some ⟨(w.heap.size + 1), 0, none⟩) 1 1, .int .i64 0, .int .i64 0, .bool false, .bool false, .bool false, .int .i64 0, .string (⟨#[119, 101, 98]⟩ : ByteArray), .string (⟨#[119, 101, 98, 45, 97]⟩ : ByteArray), .string (⟨#[110, 49]⟩ : ByteArray), .int .i64 1, .bool true, .bool false, .int .i64 400, .int .i64 16, .string (⟨#[]⟩ : ByteArray), .int .i64 0, .int .i64 0, .int .i64 0, .int .i64 0, .int .i64 0, .bool false, .int .u64 0, .slice none 0 0, .int .i64 0, .string (⟨#[]⟩ : ByteArray), .int .i64 0, .int .i64 0] : List Value)[j]? = some v) => (show W.cell? ((⟨g3, 0, none⟩ : Addr).add j) = some v by rw [add_plain, blk_cell HP.out j]; simpa using h))
      have HNL := Aside0.mk (show some (w.heap.size + 1) ≠ (Value.slice A 0 c).ownBlock by
        obtain ⟨i1, h1⟩ := Kd.R_own HL.out
        obtain ⟨i2, h2⟩ := Kd.R_own HS.out
        rcases own_type_ne h1 h2 (by decide) with h | h
        · exact absurd h (by simp [Value.ownBlock])
        · intro e; exact h e)
      go_wp2_with (first | ((with_reducible refine gate_load (t := 68) rfl ?_); refine load_list rfl rfl rfl Try.underlying68 rfl ?hi HC.out ?_; (case hi => exact size68)) | ((with_reducible refine gate_builtin (b := .append) (xs := #[.tmp 34, .tmp 36]) rfl ?_); refine hold ?_))
      refine Hold.intro (Kd.R_append k68 (w0 := w) w.heap.size rfl (.tmp 34) (.tmp 36) 57 68 (.agg zcObj) 312 rfl Try.underlying57 info68 rfl (by decide) (by omega) (.slice A 0 c) (exPods.take 0) (exPod (⟨#[112, 48]⟩ : ByteArray) (⟨#[110, 49]⟩ : ByteArray) 1 true) [.int .i64 1, .string (⟨#[112, 48]⟩ : ByteArray), .int .i64 0, .int .i64 0, .slice (some ⟨(w.heap.size + 1), 0, none⟩) 1 1, .int .i64 0, .int .i64 0, .bool false, .bool false, .bool false, .int .i64 0, .string (⟨#[119, 101, 98]⟩ : ByteArray), .string (⟨#[119, 101, 98, 45, 97]⟩ : ByteArray), .string (⟨#[110, 49]⟩ : ByteArray), .int .i64 1, .bool true, .bool false, .int .i64 400, .int .i64 16, .string (⟨#[]⟩ : ByteArray), .int .i64 0, .int .i64 0, .int .i64 0, .int .i64 0, .int .i64 0, .bool false, .int .u64 0, .slice none 0 0, .int .i64 0, .string (⟨#[]⟩ : ByteArray), .int .i64 0, .int .i64 0] (fun k_ => k_ ≠ g3 ∧ k_ ≠ gf ∧ k_ ≠ gn ∧ k_ ≠ gd ∧ k_ ≠ w.heap.size) (fun k_ => k_ = w.heap.size + 1) rfl rfl (k68_mkM W w.heap.size _ (exPod (⟨#[112, 48]⟩ : ByteArray) (⟨#[110, 49]⟩ : ByteArray) 1 true) HL.out (Kd.R_nil _ _ _ _ _)) (fun k_ hk_ => ⟨by have := HGG.out; omega, by rw [hk_]; exact HNL.out⟩) (fun k_ hk_ => by have := HGG.out; omega) HS.out HB.out HB.out.size (by decide) ?_)
      intro v1 w9 ho hb9 hg hat
      have ho' : k68.R 68 w9 w.heap.size (fun k_ => k_ ≠ g3 ∧ k_ ≠ gf ∧ k_ ≠ gn ∧ k_ ≠ gd ∧ k_ ≠ w.heap.size) v1 (exPods.take 1) := ho
      obtain ⟨A', c', e, hc', -⟩ := Kd.R_reads ho'
      rw [show (exPods.take 1).length = 1 from rfl] at e hc'
      subst e
      have HP9 := Aside0.mk (blk_grown HP.out hg (fun e => (HS.out.1 g3 e.symm).1 rfl))
      have HX9 := Aside0.mk (blk_grown HX.out hg (fun e => (HS.out.1 gf e.symm).2.1 rfl))
      have HF9 := Aside0.mk (blk_grown HF.out hg (fun e => (HS.out.1 _ e.symm).2.2.2.2 rfl))
      have HL9 := Aside0.mk (Kd.R_grown HL.out hg (fun k_ hk_ => by rw [hk_]; exact HNL.out))
      have HN9 := Aside0.mk (Kd.R_grown HN.out hg (fun k_ hk_ e => (HS.out.1 _ e.symm).2.2.1 hk_))
      have HD9 := Aside0.mk (Kd.R_grown HD.out hg (fun k_ hk_ e => (HS.out.1 _ e.symm).2.2.2.1 hk_))
      have HS9 := Aside0.mk ho'
      have HB9 := Aside0.mk hb9
      have HCC9 := Aside0.mk hc'
      have hx9 : w9.cell? ⟨gf, 1, none⟩ = some (.slice A 0 c) := (blk_cell HX9.out 1).trans rfl
      have hfx9 := blk_frozen HX9.out 1
      have hltf9 : gf < w9.heap.size := blk_lt HX9.out
      clear ho ho' hb9 hg hat hc' hlt3 hltf hx1 HP HX HL HN HD HS HF HB HC HNL HCC
      go_wp2
      go_roundw
      case rel => exact ⟨1, (⟨#[112, 48]⟩ : ByteArray), (⟨#[110, 49]⟩ : ByteArray), 1, true, A', c', by decide, rfl, ⟨fun _ => ⟨rfl, rfl, rfl⟩⟩, ⟨HCC9.out⟩, ⟨(Below.heap_setCell _ ⟨gf, 1, none⟩ _ g3 hne1).trans HP9.out⟩, ⟨blk_set HX9.out 1 _⟩, ⟨Kd.R_far HL9.out (p := ⟨gf, 1, none⟩) (fun k_ hk_ => by have := HGG.out; show k_ ≠ gf; omega) _⟩, ⟨Kd.R_far HN9.out (p := ⟨gf, 1, none⟩) (fun k_ hk_ => by have := HGG.out; show k_ ≠ gf; omega) _⟩, ⟨Kd.R_far HD9.out (p := ⟨gf, 1, none⟩) (fun k_ hk_ => by have := HGG.out; show k_ ≠ gf; omega) _⟩, ⟨Kd.R_far HS9.out (p := ⟨gf, 1, none⟩) (fun k_ hk_ => hk_.2.1) _⟩, ⟨(Below.heap_setCell _ ⟨gf, 1, none⟩ _ w.heap.size (by have := HGG.out; show w.heap.size ≠ gf; omega)).trans HF9.out⟩, ⟨below_set HB9.out (by have := HGG.out; omega)⟩⟩
      case measure => simp [intOf]
    · obtain ⟨rfl, rfl, rfl⟩ := HK.out (by decide)
      clear HK
      have hcv : (convert 122 9 (.slice (some ⟨wr.heap.size, 0, none⟩) 2 2)).run Try.prog (wr.alloc (.cells #[.int .u8 112, .int .u8 49] 5)) = .ok (.string (⟨#[112, 49]⟩ : ByteArray)) (wr.alloc (.cells #[.int .u8 112, .int .u8 49] 5)) := own_string (P := Try.prog) Try.underlying122 Try.underlying5 Try.underlying9 (own_lit wr 0 5 .u8 [112, 49] (Nat.zero_le _) (by decide))
      go_upto_region 13 with (fail)
      obtain ⟨e1_, e2_, e3_, e4_⟩ := HGG.out
      have hB3 : w.heap.size ≤ g3 := by omega
      refine gen_wp (fun W => Aside0 (W.heap[g3]? = some (.cells #[.int .i64 1, .string (⟨#[112, 49]⟩ : ByteArray), .int .i64 0, .int .i64 0, .slice (some ⟨(w.heap.size + 1), 0, none⟩) 1 1, .int .i64 0, .int .i64 0, .bool false, .bool false, .bool false, .int .i64 0, .string (⟨#[119, 101, 98]⟩ : ByteArray), .string (⟨#[119, 101, 98, 45, 97]⟩ : ByteArray), .string (⟨#[110, 49]⟩ : ByteArray), .int .i64 1, .bool true, .bool false, .int .i64 400, .int .i64 16, .string (⟨#[]⟩ : ByteArray), .int .i64 0, .int .i64 0, .int .i64 0, .int .i64 0, .int .i64 0, .bool false, .int .u64 0, .slice none 0 0, .int .i64 0, .string (⟨#[]⟩ : ByteArray), .int .i64 0, .int .i64 0] 68 (0, 0))) ∧ Aside0 (W.heap[gf]? = some (.cells #[.slice (some ⟨gn, 0, none⟩) 1 1, .slice A 1 c, .slice (some ⟨gd, 0, none⟩) 1 1, .slice none 0 0] 59 (0, 0))) ∧ Aside0 (k31.R 31 W w.heap.size (fun k_ => k_ = w.heap.size + 1) (.slice (some ⟨w.heap.size + 1, 0, none⟩) 1 1) [exLab]) ∧ Aside0 (k68.R 68 W w.heap.size (fun k_ => k_ = gn) (.slice (some ⟨gn, 0, none⟩) 1 1) [exNode]) ∧ Aside0 (k68.R 68 W w.heap.size (fun k_ => k_ = gd) (.slice (some ⟨gd, 0, none⟩) 1 1) [exDeploy]) ∧ Aside0 (k68.R 68 W w.heap.size (fun k_ => k_ ≠ g3 ∧ k_ ≠ gf ∧ k_ ≠ gn ∧ k_ ≠ gd ∧ k_ ≠ w.heap.size) (.slice A 1 c) (exPods.take 1)) ∧ Aside0 (W.heap[w.heap.size]? = some (.cells #[.slice none 0 0, .slice none 0 0, .slice none 0 0, .slice none 0 0] 59 (0, 0))) ∧ Aside0 (Below w.heap.size w W)) ⟨⟨(blk_alloc (blk_set HP.out 1 _) _)⟩, ⟨(blk_alloc ((Below.heap_setCell _ ⟨g3, 1, none⟩ _ _ hne2).trans HX.out) _)⟩, ⟨(Kd.R_below (Kd.R_far HL.out (p := ⟨g3, 1, none⟩) (fun k_ hk_ => by show k_ ≠ g3; omega) _) (below_alloc (Below.refl _ _) _))⟩, ⟨(Kd.R_below (Kd.R_far HN.out (p := ⟨g3, 1, none⟩) (fun k_ hk_ => by show k_ ≠ g3; omega) _) (below_alloc (Below.refl _ _) _))⟩, ⟨(Kd.R_below (Kd.R_far HD.out (p := ⟨g3, 1, none⟩) (fun k_ hk_ => by show k_ ≠ g3; omega) _) (below_alloc (Below.refl _ _) _))⟩, ⟨(Kd.R_below (Kd.R_far HS.out (p := ⟨g3, 1, none⟩) (fun k_ hk_ => hk_.1) _) (below_alloc (Below.refl _ _) _))⟩, ⟨(blk_alloc ((Below.heap_setCell _ ⟨g3, 1, none⟩ _ _ (by show w.heap.size ≠ g3; omega)).trans HF.out) _)⟩, ⟨(below_alloc (below_set HB.out hB3) _)⟩⟩ ?_
      clear e1_ e2_ e3_ e4_ HP HX HL HN HD HS HF HB hcv hx1 hp1 hp13 hp14 hp15 hfp1 hfp13 hfp14 hfp15 hlt3 hltf
      rintro W ⟨HP, HX, HL, HN, HD, HS, HF, HB⟩
      have hx1 : W.cell? ⟨gf, 1, none⟩ = some (.slice A 1 c) := (blk_cell HX.out 1).trans rfl
      have hlt3 : g3 < W.heap.size := blk_lt HP.out
      have hltf : gf < W.heap.size := blk_lt HX.out
      have HC := Aside0.mk (fun (j : Nat) (v : Value) (h : ([.int .i64 1, .string (⟨#[112, 49]⟩ : ByteArray), .int .i64 0, .int .i64 0, .slice (some ⟨(w.heap.size + 1), 0, none⟩) 1 1, .int .i64 0, .int .i64 0, .bool false, .bool false, .bool false, .int .i64 0, .string (⟨#[119, 101, 98]⟩ : ByteArray), .string (⟨#[119, 101, 98, 45, 97]⟩ : ByteArray), .string (⟨#[110, 49]⟩ : ByteArray), .int .i64 1, .bool true, .bool false, .int .i64 400, .int .i64 16, .string (⟨#[]⟩ : ByteArray), .int .i64 0, .int .i64 0, .int .i64 0, .int .i64 0, .int .i64 0, .bool false, .int .u64 0, .slice none 0 0, .int .i64 0, .string (⟨#[]⟩ : ByteArray), .int .i64 0, .int .i64 0] : List Value)[j]? = some v) => (show W.cell? ((⟨g3, 0, none⟩ : Addr).add j) = some v by rw [add_plain, blk_cell HP.out j]; simpa using h))
      have HNL := Aside0.mk (show some (w.heap.size + 1) ≠ (Value.slice A 1 c).ownBlock by
        obtain ⟨i1, h1⟩ := Kd.R_own HL.out
        obtain ⟨i2, h2⟩ := Kd.R_own HS.out
        rcases own_type_ne h1 h2 (by decide) with h | h
        · exact absurd h (by simp [Value.ownBlock])
        · intro e; exact h e)
      go_wp2_with (first | ((with_reducible refine gate_load (t := 68) rfl ?_); refine load_list rfl rfl rfl Try.underlying68 rfl ?hi HC.out ?_; (case hi => exact size68)) | ((with_reducible refine gate_builtin (b := .append) (xs := #[.tmp 34, .tmp 36]) rfl ?_); refine hold ?_))
      refine Hold.intro (Kd.R_append k68 (w0 := w) w.heap.size rfl (.tmp 34) (.tmp 36) 57 68 (.agg zcObj) 312 rfl Try.underlying57 info68 rfl (by decide) (by omega) (.slice A 1 c) (exPods.take 1) (exPod (⟨#[112, 49]⟩ : ByteArray) (⟨#[110, 49]⟩ : ByteArray) 1 true) [.int .i64 1, .string (⟨#[112, 49]⟩ : ByteArray), .int .i64 0, .int .i64 0, .slice (some ⟨(w.heap.size + 1), 0, none⟩) 1 1, .int .i64 0, .int .i64 0, .bool false, .bool false, .bool false, .int .i64 0, .string (⟨#[119, 101, 98]⟩ : ByteArray), .string (⟨#[119, 101, 98, 45, 97]⟩ : ByteArray), .string (⟨#[110, 49]⟩ : ByteArray), .int .i64 1, .bool true, .bool false, .int .i64 400, .int .i64 16, .string (⟨#[]⟩ : ByteArray), .int .i64 0, .int .i64 0, .int .i64 0, .int .i64 0, .int .i64 0, .bool false, .int .u64 0, .slice none 0 0, .int .i64 0, .string (⟨#[]⟩ : ByteArray), .int .i64 0, .int .i64 0] (fun k_ => k_ ≠ g3 ∧ k_ ≠ gf ∧ k_ ≠ gn ∧ k_ ≠ gd ∧ k_ ≠ w.heap.size) (fun k_ => k_ = w.heap.size + 1) rfl rfl (k68_mkM W w.heap.size _ (exPod (⟨#[112, 49]⟩ : ByteArray) (⟨#[110, 49]⟩ : ByteArray) 1 true) HL.out (Kd.R_nil _ _ _ _ _)) (fun k_ hk_ => ⟨by have := HGG.out; omega, by rw [hk_]; exact HNL.out⟩) (fun k_ hk_ => by have := HGG.out; omega) HS.out HB.out HB.out.size (by decide) ?_)
      intro v1 w9 ho hb9 hg hat
      have ho' : k68.R 68 w9 w.heap.size (fun k_ => k_ ≠ g3 ∧ k_ ≠ gf ∧ k_ ≠ gn ∧ k_ ≠ gd ∧ k_ ≠ w.heap.size) v1 (exPods.take 2) := ho
      obtain ⟨A', c', e, hc', -⟩ := Kd.R_reads ho'
      rw [show (exPods.take 2).length = 2 from rfl] at e hc'
      subst e
      have HP9 := Aside0.mk (blk_grown HP.out hg (fun e => (HS.out.1 g3 e.symm).1 rfl))
      have HX9 := Aside0.mk (blk_grown HX.out hg (fun e => (HS.out.1 gf e.symm).2.1 rfl))
      have HF9 := Aside0.mk (blk_grown HF.out hg (fun e => (HS.out.1 _ e.symm).2.2.2.2 rfl))
      have HL9 := Aside0.mk (Kd.R_grown HL.out hg (fun k_ hk_ => by rw [hk_]; exact HNL.out))
      have HN9 := Aside0.mk (Kd.R_grown HN.out hg (fun k_ hk_ e => (HS.out.1 _ e.symm).2.2.1 hk_))
      have HD9 := Aside0.mk (Kd.R_grown HD.out hg (fun k_ hk_ e => (HS.out.1 _ e.symm).2.2.2.1 hk_))
      have HS9 := Aside0.mk ho'
      have HB9 := Aside0.mk hb9
      have HCC9 := Aside0.mk hc'
      have hx9 : w9.cell? ⟨gf, 1, none⟩ = some (.slice A 1 c) := (blk_cell HX9.out 1).trans rfl
      have hfx9 := blk_frozen HX9.out 1
      have hltf9 : gf < w9.heap.size := blk_lt HX9.out
      clear ho ho' hb9 hg hat hc' hlt3 hltf hx1 HP HX HL HN HD HS HF HB HC HNL HCC
      go_wp2
      go_roundw
      case rel => exact ⟨2, (⟨#[112, 49]⟩ : ByteArray), (⟨#[110, 49]⟩ : ByteArray), 1, true, A', c', by decide, rfl, ⟨fun _ => ⟨rfl, rfl, rfl⟩⟩, ⟨HCC9.out⟩, ⟨(Below.heap_setCell _ ⟨gf, 1, none⟩ _ g3 hne1).trans HP9.out⟩, ⟨blk_set HX9.out 1 _⟩, ⟨Kd.R_far HL9.out (p := ⟨gf, 1, none⟩) (fun k_ hk_ => by have := HGG.out; show k_ ≠ gf; omega) _⟩, ⟨Kd.R_far HN9.out (p := ⟨gf, 1, none⟩) (fun k_ hk_ => by have := HGG.out; show k_ ≠ gf; omega) _⟩, ⟨Kd.R_far HD9.out (p := ⟨gf, 1, none⟩) (fun k_ hk_ => by have := HGG.out; show k_ ≠ gf; omega) _⟩, ⟨Kd.R_far HS9.out (p := ⟨gf, 1, none⟩) (fun k_ hk_ => hk_.2.1) _⟩, ⟨(Below.heap_setCell _ ⟨gf, 1, none⟩ _ w.heap.size (by have := HGG.out; show w.heap.size ≠ gf; omega)).trans HF9.out⟩, ⟨below_set HB9.out (by have := HGG.out; omega)⟩⟩
      case measure => simp [intOf]
    · obtain ⟨rfl, rfl, rfl⟩ := HK.out (by decide)
      clear HK
      have hcv : (convert 122 9 (.slice (some ⟨wr.heap.size, 0, none⟩) 2 2)).run Try.prog (wr.alloc (.cells #[.int .u8 112, .int .u8 50] 5)) = .ok (.string (⟨#[112, 50]⟩ : ByteArray)) (wr.alloc (.cells #[.int .u8 112, .int .u8 50] 5)) := own_string (P := Try.prog) Try.underlying122 Try.underlying5 Try.underlying9 (own_lit wr 0 5 .u8 [112, 50] (Nat.zero_le _) (by decide))
      go_upto_region 13 with (fail)
      obtain ⟨e1_, e2_, e3_, e4_⟩ := HGG.out
      have hB3 : w.heap.size ≤ g3 := by omega
      refine gen_wp (fun W => Aside0 (W.heap[g3]? = some (.cells #[.int .i64 1, .string (⟨#[112, 50]⟩ : ByteArray), .int .i64 0, .int .i64 0, .slice (some ⟨(w.heap.size + 1), 0, none⟩) 1 1, .int .i64 0, .int .i64 0, .bool false, .bool false, .bool false, .int .i64 0, .string (⟨#[119, 101, 98]⟩ : ByteArray), .string (⟨#[119, 101, 98, 45, 97]⟩ : ByteArray), .string (⟨#[]⟩ : ByteArray), .int .i64 0, .bool false, .bool false, .int .i64 400, .int .i64 16, .string (⟨#[]⟩ : ByteArray), .int .i64 0, .int .i64 0, .int .i64 0, .int .i64 0, .int .i64 0, .bool false, .int .u64 0, .slice none 0 0, .int .i64 0, .string (⟨#[]⟩ : ByteArray), .int .i64 0, .int .i64 0] 68 (0, 0))) ∧ Aside0 (W.heap[gf]? = some (.cells #[.slice (some ⟨gn, 0, none⟩) 1 1, .slice A 2 c, .slice (some ⟨gd, 0, none⟩) 1 1, .slice none 0 0] 59 (0, 0))) ∧ Aside0 (k31.R 31 W w.heap.size (fun k_ => k_ = w.heap.size + 1) (.slice (some ⟨w.heap.size + 1, 0, none⟩) 1 1) [exLab]) ∧ Aside0 (k68.R 68 W w.heap.size (fun k_ => k_ = gn) (.slice (some ⟨gn, 0, none⟩) 1 1) [exNode]) ∧ Aside0 (k68.R 68 W w.heap.size (fun k_ => k_ = gd) (.slice (some ⟨gd, 0, none⟩) 1 1) [exDeploy]) ∧ Aside0 (k68.R 68 W w.heap.size (fun k_ => k_ ≠ g3 ∧ k_ ≠ gf ∧ k_ ≠ gn ∧ k_ ≠ gd ∧ k_ ≠ w.heap.size) (.slice A 2 c) (exPods.take 2)) ∧ Aside0 (W.heap[w.heap.size]? = some (.cells #[.slice none 0 0, .slice none 0 0, .slice none 0 0, .slice none 0 0] 59 (0, 0))) ∧ Aside0 (Below w.heap.size w W)) ⟨⟨(blk_alloc (blk_set (blk_set (blk_set (blk_set HP.out 1 _) 13 _) 14 _) 15 _) _)⟩, ⟨(blk_alloc ((Below.heap_setCell _ ⟨g3, 15, none⟩ _ _ hne2).trans ((Below.heap_setCell _ ⟨g3, 14, none⟩ _ _ hne2).trans ((Below.heap_setCell _ ⟨g3, 13, none⟩ _ _ hne2).trans ((Below.heap_setCell _ ⟨g3, 1, none⟩ _ _ hne2).trans HX.out)))) _)⟩, ⟨(Kd.R_below (Kd.R_far (Kd.R_far (Kd.R_far (Kd.R_far HL.out (p := ⟨g3, 1, none⟩) (fun k_ hk_ => by show k_ ≠ g3; omega) _) (p := ⟨g3, 13, none⟩) (fun k_ hk_ => by show k_ ≠ g3; omega) _) (p := ⟨g3, 14, none⟩) (fun k_ hk_ => by show k_ ≠ g3; omega) _) (p := ⟨g3, 15, none⟩) (fun k_ hk_ => by show k_ ≠ g3; omega) _) (below_alloc (Below.refl _ _) _))⟩, ⟨(Kd.R_below (Kd.R_far (Kd.R_far (Kd.R_far (Kd.R_far HN.out (p := ⟨g3, 1, none⟩) (fun k_ hk_ => by show k_ ≠ g3; omega) _) (p := ⟨g3, 13, none⟩) (fun k_ hk_ => by show k_ ≠ g3; omega) _) (p := ⟨g3, 14, none⟩) (fun k_ hk_ => by show k_ ≠ g3; omega) _) (p := ⟨g3, 15, none⟩) (fun k_ hk_ => by show k_ ≠ g3; omega) _) (below_alloc (Below.refl _ _) _))⟩, ⟨(Kd.R_below (Kd.R_far (Kd.R_far (Kd.R_far (Kd.R_far HD.out (p := ⟨g3, 1, none⟩) (fun k_ hk_ => by show k_ ≠ g3; omega) _) (p := ⟨g3, 13, none⟩) (fun k_ hk_ => by show k_ ≠ g3; omega) _) (p := ⟨g3, 14, none⟩) (fun k_ hk_ => by show k_ ≠ g3; omega) _) (p := ⟨g3, 15, none⟩) (fun k_ hk_ => by show k_ ≠ g3; omega) _) (below_alloc (Below.refl _ _) _))⟩, ⟨(Kd.R_below (Kd.R_far (Kd.R_far (Kd.R_far (Kd.R_far HS.out (p := ⟨g3, 1, none⟩) (fun k_ hk_ => hk_.1) _) (p := ⟨g3, 13, none⟩) (fun k_ hk_ => hk_.1) _) (p := ⟨g3, 14, none⟩) (fun k_ hk_ => hk_.1) _) (p := ⟨g3, 15, none⟩) (fun k_ hk_ => hk_.1) _) (below_alloc (Below.refl _ _) _))⟩, ⟨(blk_alloc ((Below.heap_setCell _ ⟨g3, 15, none⟩ _ _ (by show w.heap.size ≠ g3; omega)).trans ((Below.heap_setCell _ ⟨g3, 14, none⟩ _ _ (by show w.heap.size ≠ g3; omega)).trans ((Below.heap_setCell _ ⟨g3, 13, none⟩ _ _ (by show w.heap.size ≠ g3; omega)).trans ((Below.heap_setCell _ ⟨g3, 1, none⟩ _ _ (by show w.heap.size ≠ g3; omega)).trans HF.out)))) _)⟩, ⟨(below_alloc (below_set (below_set (below_set (below_set HB.out hB3) hB3) hB3) hB3) _)⟩⟩ ?_
      clear e1_ e2_ e3_ e4_ HP HX HL HN HD HS HF HB hcv hx1 hp1 hp13 hp14 hp15 hfp1 hfp13 hfp14 hfp15 hlt3 hltf
      rintro W ⟨HP, HX, HL, HN, HD, HS, HF, HB⟩
      have hx1 : W.cell? ⟨gf, 1, none⟩ = some (.slice A 2 c) := (blk_cell HX.out 1).trans rfl
      have hlt3 : g3 < W.heap.size := blk_lt HP.out
      have hltf : gf < W.heap.size := blk_lt HX.out
      have HC := Aside0.mk (fun (j : Nat) (v : Value) (h : ([.int .i64 1, .string (⟨#[112, 50]⟩ : ByteArray), .int .i64 0, .int .i64 0, .slice (some ⟨(w.heap.size + 1), 0, none⟩) 1 1, .int .i64 0, .int .i64 0, .bool false, .bool false, .bool false, .int .i64 0, .string (⟨#[119, 101, 98]⟩ : ByteArray), .string (⟨#[119, 101, 98, 45, 97]⟩ : ByteArray), .string (⟨#[]⟩ : ByteArray), .int .i64 0, .bool false, .bool false, .int .i64 400, .int .i64 16, .string (⟨#[]⟩ : ByteArray), .int .i64 0, .int .i64 0, .int .i64 0, .int .i64 0, .int .i64 0, .bool false, .int .u64 0, .slice none 0 0, .int .i64 0, .string (⟨#[]⟩ : ByteArray), .int .i64 0, .int .i64 0] : List Value)[j]? = some v) => (show W.cell? ((⟨g3, 0, none⟩ : Addr).add j) = some v by rw [add_plain, blk_cell HP.out j]; simpa using h))
      have HNL := Aside0.mk (show some (w.heap.size + 1) ≠ (Value.slice A 2 c).ownBlock by
        obtain ⟨i1, h1⟩ := Kd.R_own HL.out
        obtain ⟨i2, h2⟩ := Kd.R_own HS.out
        rcases own_type_ne h1 h2 (by decide) with h | h
        · exact absurd h (by simp [Value.ownBlock])
        · intro e; exact h e)
      go_wp2_with (first | ((with_reducible refine gate_load (t := 68) rfl ?_); refine load_list rfl rfl rfl Try.underlying68 rfl ?hi HC.out ?_; (case hi => exact size68)) | ((with_reducible refine gate_builtin (b := .append) (xs := #[.tmp 34, .tmp 36]) rfl ?_); refine hold ?_))
      refine Hold.intro (Kd.R_append k68 (w0 := w) w.heap.size rfl (.tmp 34) (.tmp 36) 57 68 (.agg zcObj) 312 rfl Try.underlying57 info68 rfl (by decide) (by omega) (.slice A 2 c) (exPods.take 2) (exPod (⟨#[112, 50]⟩ : ByteArray) (⟨#[]⟩ : ByteArray) 0 false) [.int .i64 1, .string (⟨#[112, 50]⟩ : ByteArray), .int .i64 0, .int .i64 0, .slice (some ⟨(w.heap.size + 1), 0, none⟩) 1 1, .int .i64 0, .int .i64 0, .bool false, .bool false, .bool false, .int .i64 0, .string (⟨#[119, 101, 98]⟩ : ByteArray), .string (⟨#[119, 101, 98, 45, 97]⟩ : ByteArray), .string (⟨#[]⟩ : ByteArray), .int .i64 0, .bool false, .bool false, .int .i64 400, .int .i64 16, .string (⟨#[]⟩ : ByteArray), .int .i64 0, .int .i64 0, .int .i64 0, .int .i64 0, .int .i64 0, .bool false, .int .u64 0, .slice none 0 0, .int .i64 0, .string (⟨#[]⟩ : ByteArray), .int .i64 0, .int .i64 0] (fun k_ => k_ ≠ g3 ∧ k_ ≠ gf ∧ k_ ≠ gn ∧ k_ ≠ gd ∧ k_ ≠ w.heap.size) (fun k_ => k_ = w.heap.size + 1) rfl rfl (k68_mkM W w.heap.size _ (exPod (⟨#[112, 50]⟩ : ByteArray) (⟨#[]⟩ : ByteArray) 0 false) HL.out (Kd.R_nil _ _ _ _ _)) (fun k_ hk_ => ⟨by have := HGG.out; omega, by rw [hk_]; exact HNL.out⟩) (fun k_ hk_ => by have := HGG.out; omega) HS.out HB.out HB.out.size (by decide) ?_)
      intro v1 w9 ho hb9 hg hat
      have ho' : k68.R 68 w9 w.heap.size (fun k_ => k_ ≠ g3 ∧ k_ ≠ gf ∧ k_ ≠ gn ∧ k_ ≠ gd ∧ k_ ≠ w.heap.size) v1 (exPods.take 3) := ho
      obtain ⟨A', c', e, hc', -⟩ := Kd.R_reads ho'
      rw [show (exPods.take 3).length = 3 from rfl] at e hc'
      subst e
      have HP9 := Aside0.mk (blk_grown HP.out hg (fun e => (HS.out.1 g3 e.symm).1 rfl))
      have HX9 := Aside0.mk (blk_grown HX.out hg (fun e => (HS.out.1 gf e.symm).2.1 rfl))
      have HF9 := Aside0.mk (blk_grown HF.out hg (fun e => (HS.out.1 _ e.symm).2.2.2.2 rfl))
      have HL9 := Aside0.mk (Kd.R_grown HL.out hg (fun k_ hk_ => by rw [hk_]; exact HNL.out))
      have HN9 := Aside0.mk (Kd.R_grown HN.out hg (fun k_ hk_ e => (HS.out.1 _ e.symm).2.2.1 hk_))
      have HD9 := Aside0.mk (Kd.R_grown HD.out hg (fun k_ hk_ e => (HS.out.1 _ e.symm).2.2.2.1 hk_))
      have HS9 := Aside0.mk ho'
      have HB9 := Aside0.mk hb9
      have HCC9 := Aside0.mk hc'
      have hx9 : w9.cell? ⟨gf, 1, none⟩ = some (.slice A 2 c) := (blk_cell HX9.out 1).trans rfl
      have hfx9 := blk_frozen HX9.out 1
      have hltf9 : gf < w9.heap.size := blk_lt HX9.out
      clear ho ho' hb9 hg hat hc' hlt3 hltf hx1 HP HX HL HN HD HS HF HB HC HNL HCC
      go_wp2
      go_roundw
      case rel => exact ⟨3, (⟨#[112, 50]⟩ : ByteArray), (⟨#[]⟩ : ByteArray), 0, false, A', c', by decide, rfl, ⟨fun h => absurd h (by decide)⟩, ⟨HCC9.out⟩, ⟨(Below.heap_setCell _ ⟨gf, 1, none⟩ _ g3 hne1).trans HP9.out⟩, ⟨blk_set HX9.out 1 _⟩, ⟨Kd.R_far HL9.out (p := ⟨gf, 1, none⟩) (fun k_ hk_ => by have := HGG.out; show k_ ≠ gf; omega) _⟩, ⟨Kd.R_far HN9.out (p := ⟨gf, 1, none⟩) (fun k_ hk_ => by have := HGG.out; show k_ ≠ gf; omega) _⟩, ⟨Kd.R_far HD9.out (p := ⟨gf, 1, none⟩) (fun k_ hk_ => by have := HGG.out; show k_ ≠ gf; omega) _⟩, ⟨Kd.R_far HS9.out (p := ⟨gf, 1, none⟩) (fun k_ hk_ => hk_.2.1) _⟩, ⟨(Below.heap_setCell _ ⟨gf, 1, none⟩ _ w.heap.size (by have := HGG.out; show w.heap.size ≠ gf; omega)).trans HF9.out⟩, ⟨below_set HB9.out (by have := HGG.out; omega)⟩⟩
      case measure => simp [intOf]
    · have hx0 : wr.cell? ⟨gf, 0, none⟩ = some (.slice (some ⟨gn, 0, none⟩) 1 1) := (blk_cell HX.out 0).trans rfl
      have hx2 : wr.cell? ⟨gf, 2, none⟩ = some (.slice (some ⟨gd, 0, none⟩) 1 1) := (blk_cell HX.out 2).trans rfl
      have hx3 : wr.cell? ⟨gf, 3, none⟩ = some (.slice none 0 0) := (blk_cell HX.out 3).trans rfl
      have hx1' : wr.cell? ⟨gf, 1, none⟩ = some (.slice A 3 c) := hx1
      clear hx1 hp1 hp13 hp14 hp15 hfp1 hfp13 hfp14 hfp15
      go_wp2_with ((with_reducible refine gate_store (t := 59) (p := 0) rfl ?_); refine hold ?_)
      refine Hold.intro (box_store_event (t := 59) (ty := 59) (p := 0) (x := .tmp 39) (g := w.heap.size) (cs := #[.slice none 0 0, .slice none 0 0, .slice none 0 0, .slice none 0 0]) (cs' := #[.slice (some ⟨gn, 0, none⟩) 1 1, .slice A 3 c, .slice (some ⟨gd, 0, none⟩) 1 1, .slice none 0 0]) rfl rfl rfl rfl rfl size59 HF.out rfl rfl ?_)
      intro w7 hbox7 hg
      obtain ⟨e1_, e2_, e3_, e4_⟩ := HGG.out
      have HB7 := Aside0.mk (Below.grown HB.out hg HB.out.size (fun k_ e_ => by injection e_ with e_; omega))
      have HN7 := Aside0.mk (Kd.R_grown HN.out hg (fun k_ hk_ e_ => by injection e_ with e_; omega))
      have HD7 := Aside0.mk (Kd.R_grown HD.out hg (fun k_ hk_ e_ => by injection e_ with e_; omega))
      have HS7 := Aside0.mk (Kd.R_grown HS.out hg (fun k_ hk_ e_ => by injection e_ with e_; omega))
      have HX7 := Aside0.mk hbox7
      have hz0 : w7.cell? ⟨w.heap.size, 0, none⟩ = some (.slice (some ⟨gn, 0, none⟩) 1 1) := (blk_cell hbox7 0).trans rfl
      have hz1 : w7.cell? ⟨w.heap.size, 1, none⟩ = some (.slice A 3 c) := (blk_cell hbox7 1).trans rfl
      have hz2 : w7.cell? ⟨w.heap.size, 2, none⟩ = some (.slice (some ⟨gd, 0, none⟩) 1 1) := (blk_cell hbox7 2).trans rfl
      have hz3 : w7.cell? ⟨w.heap.size, 3, none⟩ = some (.slice none 0 0) := (blk_cell hbox7 3).trans rfl
      clear e1_ e2_ e3_ e4_ hbox7 hg hx0 hx1' hx2 hx3 HP HX HL HN HD HS HF HB
      go_wp2
      refine bodyPost_ret (results_cell_row rfl _ _ w.heap.size 59 #[.slice (some ⟨gn, 0, none⟩) 1 1, .slice A 3 c, .slice (some ⟨gd, 0, none⟩) 1 1, .slice none 0 0] (0, 0) _ rfl HX7.out Try.underlying59 rfl (by kernel_rfl)) rfl ?_
      exact ⟨A, c, gn, gd, rfl, HCC.out, (Kd.R_reads' HN7.out).2.2, (Kd.R_reads' HS7.out).2.2, (Kd.R_reads' HD7.out).2.2, HB7.out⟩
end Go.Proofs.Ytamjjeakkkdfhaa.G
end
section
namespace Go.Proofs.Ytamjjeakkkdfhaa.G
open Go.RowKit Go.Proofs.YtamjjeakkkdfhaaW.PrintWords Go.Proofs.YtamjjeakkkdfhaaW.PrintLast Go.Proofs.YtamjjeakkkdfhaaW.PrintMore
open Go.Proofs.Ytamjjeakkkdfhaa.K Go.Proofs.YtamjjeakkkdfhaaE Go.Proofs.Ytamjjeakkkdfhaa.PB Go.Proofs.Ytamjjeakkkdfhaa.PC
set_option linter.unusedVariables false
set_option linter.unusedSimpArgs false
theorem ex_owned : countL (isOwned (⟨#[119, 101, 98]⟩ : ByteArray)) exPods = 3 := by kernel_rfl
theorem ex_ready : countL (isReady (⟨#[119, 101, 98]⟩ : ByteArray)) exPods = 2 := by kernel_rfl
theorem ex_sound : soundL [exNode] exPods = none := by kernel_rfl
theorem ex_bind : rules_Bind.f 5 [exNode] exPods [exDeploy] [] ⟨#[112, 50]⟩ ⟨#[110, 49]⟩ = some (some 23) := by kernel_rfl
theorem ex_owned_calls (Ap : Option Addr) (cp gn gd : Nat) (w : World) (hc : 3 ≤ cp) (h0 : k68.C w (some ⟨gn, 0, none⟩) 1 [exNode]) (h1 : k68.C w Ap 3 exPods) (h2 : k68.C w (some ⟨gd, 0, none⟩) 1 [exDeploy]) :
    Calls Try.prog 34 #[.agg #[.slice (some ⟨gn, 0, none⟩) 1 1, .slice Ap 3 cp, .slice (some ⟨gd, 0, none⟩) 1 1, .slice none 0 0], .string (⟨#[119, 101, 98]⟩ : ByteArray)] w fun e w' => e = .returned (.int .i64 3) ∧ Below w.heap.size w w' :=
  rules_Owned.calls _ 1 [exNode] Ap cp exPods _ 1 [exDeploy] none 0 [] (⟨#[119, 101, 98]⟩ : ByteArray) 3 w h0 (Nat.le_refl _) h1 hc h2 (Nat.le_refl _) (Kd.C_nil _ _) (Nat.le_refl _) (by show some ((countL (isOwned (⟨#[119, 101, 98]⟩ : ByteArray)) exPods : Nat) : Int) = some 3; rw [ex_owned]; rfl)
theorem ex_ready_calls (Ap : Option Addr) (cp gn gd : Nat) (w : World) (hc : 3 ≤ cp) (h0 : k68.C w (some ⟨gn, 0, none⟩) 1 [exNode]) (h1 : k68.C w Ap 3 exPods) (h2 : k68.C w (some ⟨gd, 0, none⟩) 1 [exDeploy]) :
    Calls Try.prog 36 #[.agg #[.slice (some ⟨gn, 0, none⟩) 1 1, .slice Ap 3 cp, .slice (some ⟨gd, 0, none⟩) 1 1, .slice none 0 0], .string (⟨#[119, 101, 98]⟩ : ByteArray)] w fun e w' => e = .returned (.int .i64 2) ∧ Below w.heap.size w w' :=
  rules_Ready.calls _ 1 [exNode] Ap cp exPods _ 1 [exDeploy] none 0 [] (⟨#[119, 101, 98]⟩ : ByteArray) 2 w h0 (Nat.le_refl _) h1 hc h2 (Nat.le_refl _) (Kd.C_nil _ _) (Nat.le_refl _) (by show some ((countL (isReady (⟨#[119, 101, 98]⟩ : ByteArray)) exPods : Nat) : Int) = some 2; rw [ex_ready]; rfl)
theorem ex_sound_calls (Ap : Option Addr) (cp gn gd : Nat) (w : World) (hc : 3 ≤ cp) (h0 : k68.C w (some ⟨gn, 0, none⟩) 1 [exNode]) (h1 : k68.C w Ap 3 exPods) (h2 : k68.C w (some ⟨gd, 0, none⟩) 1 [exDeploy]) :
    Calls Try.prog 55 #[.agg #[.slice (some ⟨gn, 0, none⟩) 1 1, .slice Ap 3 cp, .slice (some ⟨gd, 0, none⟩) 1 1, .slice none 0 0]] w fun e w' => e = .returned (.nilIface) ∧ Below w.heap.size w w' :=
  by have h := rules_Sound.walked _ 1 [exNode] Ap cp exPods _ 1 [exDeploy] none 0 [] w h0 (Nat.le_refl _) h1 hc h2 (Nat.le_refl _) (Kd.C_nil _ _) (Nat.le_refl _) (by kernel_rfl) (by kernel_rfl); rw [ex_sound] at h; exact h
theorem ex_bind_calls (Ap : Option Addr) (cp gn gd : Nat) (w : World) (hc : 3 ≤ cp) (h0 : k68.C w (some ⟨gn, 0, none⟩) 1 [exNode]) (h1 : k68.C w Ap 3 exPods) (h2 : k68.C w (some ⟨gd, 0, none⟩) 1 [exDeploy]) :
    Calls Try.prog 57 #[.agg #[.slice (some ⟨gn, 0, none⟩) 1 1, .slice Ap 3 cp, .slice (some ⟨gd, 0, none⟩) 1 1, .slice none 0 0], .string (⟨#[112, 50]⟩ : ByteArray), .string (⟨#[110, 49]⟩ : ByteArray)] w fun e w' => e = .returned (errW (some 23)) ∧ Below w.heap.size w w' :=
  rules_Bind.calls 5 _ 1 [exNode] Ap cp exPods _ 1 [exDeploy] none 0 [] (⟨#[112, 50]⟩ : ByteArray) (⟨#[110, 49]⟩ : ByteArray) (some 23) w h0 (Nat.le_refl _) h1 hc h2 (Nat.le_refl _) (Kd.C_nil _ _) (Nat.le_refl _) ex_bind
set_option maxRecDepth 100000 in
set_option maxHeartbeats 4000000 in
theorem law16_works.calls (w : World) : Calls Try.prog 54 #[] w fun e w' => e = .returned (.bool true) ∧ Below w.heap.size w w' := by
  have HB := Aside0.mk (Below.refl w.heap.size w)
  go_enter Try.func54, Try.ntmps54
  go_wp2_with (go_at_call 99; refine hold ?_)
  refine Hold.intro ((law16_example.calls _).mono ?_)
  rintro e w1 ⟨Ap0, cp0, gn0, gd0, rfl, hc, h0, h1, h2, hb⟩
  have HB1 := Aside0.mk (below_step HB.out hb)
  have HC := Aside0.mk (ex_owned_calls _ _ _ _ _ hc h0 h1 h2)
  clear hb HB hc h0 h1 h2
  go_wp2_with (go_at_call 34; refine hold ?_)
  refine Hold.intro (HC.out.mono ?_)
  rintro e w2 ⟨rfl, hb⟩
  have HB2 := Aside0.mk (below_step HB1.out hb)
  clear hb HB1 HC
  go_wp2_with (go_at_call 99; refine hold ?_)
  refine Hold.intro ((law16_example.calls _).mono ?_)
  rintro e w3 ⟨Ap1, cp1, gn1, gd1, rfl, hc, h0, h1, h2, hb⟩
  have HB3 := Aside0.mk (below_step HB2.out hb)
  have HC := Aside0.mk (ex_ready_calls _ _ _ _ _ hc h0 h1 h2)
  clear hb HB2 hc h0 h1 h2
  go_wp2_with (go_at_call 36; refine hold ?_)
  refine Hold.intro (HC.out.mono ?_)
  rintro e w4 ⟨rfl, hb⟩
  have HB4 := Aside0.mk (below_step HB3.out hb)
  clear hb HB3 HC
  go_wp2_with (go_at_call 99; refine hold ?_)
  refine Hold.intro ((law16_example.calls _).mono ?_)
  rintro e w5 ⟨Ap2, cp2, gn2, gd2, rfl, hc, h0, h1, h2, hb⟩
  have HB5 := Aside0.mk (below_step HB4.out hb)
  have HC := Aside0.mk (ex_sound_calls _ _ _ _ _ hc h0 h1 h2)
  clear hb HB4 hc h0 h1 h2
  go_wp2_with (go_at_call 55; refine hold ?_)
  refine Hold.intro (HC.out.mono ?_)
  rintro e w6 ⟨rfl, hb⟩
  have HB6 := Aside0.mk (below_step HB5.out hb)
  clear hb HB5 HC
  go_wp2_with (go_at_call 99; refine hold ?_)
  refine Hold.intro ((law16_example.calls _).mono ?_)
  rintro e w7 ⟨Ap3, cp3, gn3, gd3, rfl, hc, h0, h1, h2, hb⟩
  have HB7 := Aside0.mk (below_step HB6.out hb)
  have HC := Aside0.mk (ex_bind_calls _ _ _ _ _ hc h0 h1 h2)
  clear hb HB6 hc h0 h1 h2
  go_wp2_with (go_at_call 57; refine hold ?_)
  refine Hold.intro (HC.out.mono ?_)
  rintro e w8 ⟨rfl, hb⟩
  have HB8 := Aside0.mk (below_step HB7.out hb)
  clear hb HB7 HC
  rw [errW_some]
  go_wp2
  go_ret
  exact ⟨rfl, HB8.out⟩
end Go.Proofs.Ytamjjeakkkdfhaa.G
end
