/- Parts of the proof of RulesCounted: lemmas, put together by a program of this session (pack.py) out of the kit's words, printed contracts and texts of its own. -/
import Derived.Test.YtamjjeakkkdfhaaProg
import Derived.Below
import Derived.Deep.Draws
import Derived.Deep.AppendLies
import Derived.Maps.AppendAt
import Derived.OwnWalk
import Derived.Laws.BytesArg
import Derived.Laws.MakeOwn
import Derived.Laws.OwnMore
import Derived.Deep.OwnRows
import Derived.Tactics
import Derived.Lib.ConvBytes
import Derived.Laws.Slices
import Derived.WalkKit
import Derived.KernelRfl
import Derived.RowKit3
import Derived.Deep.LoopGhost
import Derived.Deep.QuietTactic
import Derived.BigQuiet
import Derived.WideLaws
import Derived.Deep.DeepCutAuto
import Derived.Deep.CutBlock
import Derived.Deep.RegionHeld3
import Derived.Laws.Rows
import Derived.Lib.AppendStr
import Derived.ArgAppend
import Derived.Laws.IdiomCopy
import Derived.OrdersHeld
import Derived.Laws.BitsLemmas
import Derived.RowKit
import Derived.Laws.StructEq
import Derived.RangeFuncNested
import Derived.RangeFuncBound
import Derived.RangeFuncCalls
import Derived.RangeFuncLeaves
import Derived.Shelf.Abstract
import Derived.Shelf.RegionOpen
import Derived.OwnWalkIn
import Derived.TacticsInMore
import Derived.LoopNIn
import Derived.LoopIn
import Derived.Maps.Own
import Derived.Maps.OwnOps
import Derived.Maps.Views
import Derived.StringKeys
import Derived.ChangeArms
import Derived.SizedLaws
import Derived.SliceStrings
import Derived.Test.YtamjjeakkkdfhaaZRulesCounteda
import Derived.Test.YtamjjeakkkdfhaaZRulesCountedb
import Derived.Test.YtamjjeakkkdfhaaZRulesCountedc
namespace Foot
end Foot
namespace Go.Proofs.Ytamjjeakkkdfhaa
end Go.Proofs.Ytamjjeakkkdfhaa
namespace Go.Proofs.Ytamjjeakkkdfhaa.G
end Go.Proofs.Ytamjjeakkkdfhaa.G
namespace Go.Proofs.Ytamjjeakkkdfhaa.K
end Go.Proofs.Ytamjjeakkkdfhaa.K
namespace Go.Proofs.Ytamjjeakkkdfhaa.OP
end Go.Proofs.Ytamjjeakkkdfhaa.OP
namespace Go.Proofs.Ytamjjeakkkdfhaa.PB
end Go.Proofs.Ytamjjeakkkdfhaa.PB
namespace Go.Proofs.Ytamjjeakkkdfhaa.PC
end Go.Proofs.Ytamjjeakkkdfhaa.PC
namespace Go.Proofs.Ytamjjeakkkdfhaa.PD
end Go.Proofs.Ytamjjeakkkdfhaa.PD
namespace Go.Proofs.Ytamjjeakkkdfhaa.rulesCounted
end Go.Proofs.Ytamjjeakkkdfhaa.rulesCounted
namespace Go.Proofs.YtamjjeakkkdfhaaE
end Go.Proofs.YtamjjeakkkdfhaaE
namespace Go.Proofs.YtamjjeakkkdfhaaRF
end Go.Proofs.YtamjjeakkkdfhaaRF
namespace Go.Proofs.YtamjjeakkkdfhaaW.PrintLast
end Go.Proofs.YtamjjeakkkdfhaaW.PrintLast
namespace Go.Proofs.YtamjjeakkkdfhaaW.PrintMore
end Go.Proofs.YtamjjeakkkdfhaaW.PrintMore
namespace Go.Proofs.YtamjjeakkkdfhaaW.PrintWords
end Go.Proofs.YtamjjeakkkdfhaaW.PrintWords
namespace Kd
end Kd
section
namespace Go.Proofs.Ytamjjeakkkdfhaa.PB
open Go.RowKit Go.Proofs.YtamjjeakkkdfhaaW.PrintWords Go.Proofs.YtamjjeakkkdfhaaW.PrintLast Go.Proofs.YtamjjeakkkdfhaaW.PrintMore
open Go.Proofs.Ytamjjeakkkdfhaa.K Go.Proofs.Ytamjjeakkkdfhaa.G Go.Proofs.YtamjjeakkkdfhaaE
attribute [local go_sem] max2_int min2_int max_two min_two max_three min_three max_four min_four
set_option linter.unusedVariables false
set_option linter.unusedSimpArgs false
def flotillaref16_Guarded.l0 : Nat → Int → Int → List (S68) → List (S68) → List (S68) → List (S68) → Int → ByteArray → Int → Int → List (S31) → Int → Int → Bool → Bool → Bool → Int → ByteArray → ByteArray → ByteArray → Int → Bool → Bool → Int → Int → ByteArray → Int → Int → Int → Int → Int → Bool → Int → List (S31) → Int → ByteArray → Int → Int → Option (Int)
  | 0, _, _, _, _, _, _, _, _, _, _, _, _, _, _, _, _, _, _, _, _, _, _, _, _, _, _, _, _, _, _, _, _, _, _, _, _, _, _ => none
  | k + 1, x5, x6, x294000, x294001, x294002, x294003, x295000, x295001, x295002, x295003, x295004, x295005, x295006, x295007, x295008, x295009, x295010, x295011, x295012, x295013, x295014, x295015, x295016, x295017, x295018, x295019, x295020, x295021, x295022, x295023, x295024, x295025, x295026, x295027, x295028, x295029, x295030, x295031 => if x6 < (x294001.length : Int) then (if 0 ≤ x6 then (if (rd_T68 x294001 x6).f14 = true then (if ((rd_T68 x294001 x6).f15 = true) then (flotillaref16_Guarded.l0 k x5 (wrap64 (x6 + 1)) x294000 x294001 x294002 x294003 x295000 x295001 x295002 x295003 x295004 x295005 x295006 x295007 x295008 x295009 x295010 x295011 x295012 x295013 x295014 x295015 x295016 x295017 x295018 x295019 x295020 x295021 x295022 x295023 x295024 x295025 x295026 x295027 x295028 x295029 x295030 x295031) else ((flotillaref02_Matches.f k x295027 ((rd_T68 x294001 x6).f4)).bind fun t297 => (if t297 = true then (flotillaref16_Guarded.l0 k (wrap64 (x5 + 1)) (wrap64 (x6 + 1)) x294000 x294001 x294002 x294003 x295000 x295001 x295002 x295003 x295004 x295005 x295006 x295007 x295008 x295009 x295010 x295011 x295012 x295013 x295014 x295015 x295016 x295017 x295018 x295019 x295020 x295021 x295022 x295023 x295024 x295025 x295026 x295027 x295028 x295029 x295030 x295031) else (flotillaref16_Guarded.l0 k x5 (wrap64 (x6 + 1)) x294000 x294001 x294002 x294003 x295000 x295001 x295002 x295003 x295004 x295005 x295006 x295007 x295008 x295009 x295010 x295011 x295012 x295013 x295014 x295015 x295016 x295017 x295018 x295019 x295020 x295021 x295022 x295023 x295024 x295025 x295026 x295027 x295028 x295029 x295030 x295031)))) else (flotillaref16_Guarded.l0 k x5 (wrap64 (x6 + 1)) x294000 x294001 x294002 x294003 x295000 x295001 x295002 x295003 x295004 x295005 x295006 x295007 x295008 x295009 x295010 x295011 x295012 x295013 x295014 x295015 x295016 x295017 x295018 x295019 x295020 x295021 x295022 x295023 x295024 x295025 x295026 x295027 x295028 x295029 x295030 x295031)) else (none)) else (some x5)
def flotillaref16_Guarded.f (k : Nat) (l0_0 : List (S68)) (l0_1 : List (S68)) (l0_2 : List (S68)) (l0_3 : List (S68)) (a1_0 : Int) (a1_1 : ByteArray) (a1_2 : Int) (a1_3 : Int) (l1_4 : List (S31)) (a1_5 : Int) (a1_6 : Int) (a1_7 : Bool) (a1_8 : Bool) (a1_9 : Bool) (a1_10 : Int) (a1_11 : ByteArray) (a1_12 : ByteArray) (a1_13 : ByteArray) (a1_14 : Int) (a1_15 : Bool) (a1_16 : Bool) (a1_17 : Int) (a1_18 : Int) (a1_19 : ByteArray) (a1_20 : Int) (a1_21 : Int) (a1_22 : Int) (a1_23 : Int) (a1_24 : Int) (a1_25 : Bool) (a1_26 : Int) (l1_27 : List (S31)) (a1_28 : Int) (a1_29 : ByteArray) (a1_30 : Int) (a1_31 : Int) : Option (Int) := flotillaref16_Guarded.l0 k 0 0 l0_0 l0_1 l0_2 l0_3 a1_0 a1_1 a1_2 a1_3 l1_4 a1_5 a1_6 a1_7 a1_8 a1_9 a1_10 a1_11 a1_12 a1_13 a1_14 a1_15 a1_16 a1_17 a1_18 a1_19 a1_20 a1_21 a1_22 a1_23 a1_24 a1_25 a1_26 l1_27 a1_28 a1_29 a1_30 a1_31
set_option maxHeartbeats 8000000 in
set_option maxRecDepth 100000 in
theorem flotillaref16_Guarded.calls (k : Nat) (A0_0 : Option Addr) (c0_0 : Nat) (l0_0 : List (S68)) (A0_1 : Option Addr) (c0_1 : Nat) (l0_1 : List (S68)) (A0_2 : Option Addr) (c0_2 : Nat) (l0_2 : List (S68)) (A0_3 : Option Addr) (c0_3 : Nat) (l0_3 : List (S68)) (a1_0 : Int) (a1_1 : ByteArray) (a1_2 : Int) (a1_3 : Int) (A1_4 : Option Addr) (c1_4 : Nat) (l1_4 : List (S31)) (a1_5 : Int) (a1_6 : Int) (a1_7 : Bool) (a1_8 : Bool) (a1_9 : Bool) (a1_10 : Int) (a1_11 : ByteArray) (a1_12 : ByteArray) (a1_13 : ByteArray) (a1_14 : Int) (a1_15 : Bool) (a1_16 : Bool) (a1_17 : Int) (a1_18 : Int) (a1_19 : ByteArray) (a1_20 : Int) (a1_21 : Int) (a1_22 : Int) (a1_23 : Int) (a1_24 : Int) (a1_25 : Bool) (a1_26 : Int) (A1_27 : Option Addr) (c1_27 : Nat) (l1_27 : List (S31)) (a1_28 : Int) (a1_29 : ByteArray) (a1_30 : Int) (a1_31 : Int) (r : Int) (w : World) (hr0_0 : Kd.C k68 w A0_0 l0_0.length l0_0) (hc0_0 : l0_0.length ≤ c0_0) (hr0_1 : Kd.C k68 w A0_1 l0_1.length l0_1) (hc0_1 : l0_1.length ≤ c0_1) (hr0_2 : Kd.C k68 w A0_2 l0_2.length l0_2) (hc0_2 : l0_2.length ≤ c0_2) (hr0_3 : Kd.C k68 w A0_3 l0_3.length l0_3) (hc0_3 : l0_3.length ≤ c0_3) (hr1_4 : Kd.C k31 w A1_4 l1_4.length l1_4) (hc1_4 : l1_4.length ≤ c1_4) (hr1_27 : Kd.C k31 w A1_27 l1_27.length l1_27) (hc1_27 : l1_27.length ≤ c1_27) (h : flotillaref16_Guarded.f k l0_0 l0_1 l0_2 l0_3 a1_0 a1_1 a1_2 a1_3 l1_4 a1_5 a1_6 a1_7 a1_8 a1_9 a1_10 a1_11 a1_12 a1_13 a1_14 a1_15 a1_16 a1_17 a1_18 a1_19 a1_20 a1_21 a1_22 a1_23 a1_24 a1_25 a1_26 l1_27 a1_28 a1_29 a1_30 a1_31 = some r) :
    Calls Try.prog 41 #[.agg #[.slice A0_0 l0_0.length c0_0, .slice A0_1 l0_1.length c0_1, .slice A0_2 l0_2.length c0_2, .slice A0_3 l0_3.length c0_3], .agg #[.int .i64 a1_0, .string a1_1, .int .i64 a1_2, .int .i64 a1_3, .slice A1_4 l1_4.length c1_4, .int .i64 a1_5, .int .i64 a1_6, .bool a1_7, .bool a1_8, .bool a1_9, .int .i64 a1_10, .string a1_11, .string a1_12, .string a1_13, .int .i64 a1_14, .bool a1_15, .bool a1_16, .int .i64 a1_17, .int .i64 a1_18, .string a1_19, .int .i64 a1_20, .int .i64 a1_21, .int .i64 a1_22, .int .i64 a1_23, .int .i64 a1_24, .bool a1_25, .int .u64 a1_26, .slice A1_27 l1_27.length c1_27, .int .i64 a1_28, .string a1_29, .int .i64 a1_30, .int .i64 a1_31]] w fun e w' => e = .returned (.int .i64 r) ∧ Below w.heap.size w w' := by
  have hu59 := Try.underlying59
  have hu68 := Try.underlying68
  have HR0_0 := Aside0.mk hr0_0
  have HC0_0 := Aside0.mk hc0_0
  clear hr0_0 hc0_0
  have HR0_1 := Aside0.mk hr0_1
  have HC0_1 := Aside0.mk hc0_1
  clear hr0_1 hc0_1
  have HR0_2 := Aside0.mk hr0_2
  have HC0_2 := Aside0.mk hc0_2
  clear hr0_2 hc0_2
  have HR0_3 := Aside0.mk hr0_3
  have HC0_3 := Aside0.mk hc0_3
  clear hr0_3 hc0_3
  have HR1_4 := Aside0.mk hr1_4
  have HC1_4 := Aside0.mk hc1_4
  clear hr1_4 hc1_4
  have HR1_27 := Aside0.mk hr1_27
  have HC1_27 := Aside0.mk hc1_27
  clear hr1_27 hc1_27
  have HB := Aside0.mk (Below.refl w.heap.size w)
  have H : (flotillaref16_Guarded.l0 k 0 0 l0_0 l0_1 l0_2 l0_3 a1_0 a1_1 a1_2 a1_3 l1_4 a1_5 a1_6 a1_7 a1_8 a1_9 a1_10 a1_11 a1_12 a1_13 a1_14 a1_15 a1_16 a1_17 a1_18 a1_19 a1_20 a1_21 a1_22 a1_23 a1_24 a1_25 a1_26 l1_27 a1_28 a1_29 a1_30 a1_31) = some r := h
  clear h
  have H' := Aside0.mk H
  clear H
  go_enter Try.func41, Try.ntmps41
  go_wp2_with (first | ((with_reducible refine gate_load (t := 68) rfl ?_); first | (refine load68_box rfl rfl rfl (by with_reducible assumption) (by with_reducible assumption) (by with_reducible assumption) (by with_reducible assumption) (by with_reducible assumption) (by with_reducible assumption) (by with_reducible assumption) (by with_reducible assumption) (by with_reducible assumption) (by with_reducible assumption) (by with_reducible assumption) (by with_reducible assumption) (by with_reducible assumption) (by with_reducible assumption) (by with_reducible assumption) (by with_reducible assumption) (by with_reducible assumption) (by with_reducible assumption) (by with_reducible assumption) (by with_reducible assumption) (by with_reducible assumption) (by with_reducible assumption) (by with_reducible assumption) (by with_reducible assumption) (by with_reducible assumption) (by with_reducible assumption) (by with_reducible assumption) (by with_reducible assumption) (by with_reducible assumption) (by with_reducible assumption) (by with_reducible assumption) (by with_reducible assumption) ?_) | (refine load68_at rfl rfl rfl (by with_reducible assumption) (by with_reducible assumption) (by with_reducible assumption) (by with_reducible assumption) (by with_reducible assumption) (by with_reducible assumption) (by with_reducible assumption) (by with_reducible assumption) (by with_reducible assumption) (by with_reducible assumption) (by with_reducible assumption) (by with_reducible assumption) (by with_reducible assumption) (by with_reducible assumption) (by with_reducible assumption) (by with_reducible assumption) (by with_reducible assumption) (by with_reducible assumption) (by with_reducible assumption) (by with_reducible assumption) (by with_reducible assumption) (by with_reducible assumption) (by with_reducible assumption) (by with_reducible assumption) (by with_reducible assumption) (by with_reducible assumption) (by with_reducible assumption) (by with_reducible assumption) (by with_reducible assumption) (by with_reducible assumption) (by with_reducible assumption) (by with_reducible assumption) ?_)) | ((with_reducible refine gate_dst (N := 2) rfl ?_); refine box_event ?hg (N := 2) ?hd (cs := #[.slice A0_0 l0_0.length c0_0, .slice A0_1 l0_1.length c0_1, .slice A0_2 l0_2.length c0_2, .slice A0_3 l0_3.length c0_3]) (t := 59) ?hr ?_; (case hd => rfl); (case hg => rfl); (case hr => first | (go_simp; done) | (go_simp; rfl)); intro gb293 hg w3 hbox hb; have n0_ := Aside0.mk (below_step (by repeat (first | (with_reducible first | exact HB.out | apply below_alloc | apply pw_below_drewN | apply below_drew1) | exact HB.out)) hb); have n1_ := Aside0.mk (hbox); have n2_ := Aside0.mk ((by rw [hg]; exact (below_size (by repeat (first | (with_reducible first | exact HB.out | apply below_alloc | apply pw_below_drewN | apply below_drew1) | exact HB.out))) : w.heap.size ≤ gb293)); have n3_ := Aside0.mk ((by rw [hg]; exact (below_size (by repeat (first | (with_reducible first | exact HB.out | apply below_alloc | apply pw_below_drewN | apply below_drew1) | exact HB.out))) : w.heap.size ≤ gb293)); clear HB; have HB := n0_; have BK293 := n1_; have GW293 := n2_; have GE293 := n3_; clear n0_ n1_ n2_ n3_; clear hb hbox hg) | ((with_reducible refine gate_dst (N := 3) rfl ?_); refine box_event ?hg (N := 3) ?hd (cs := #[.int .i64 a1_0, .string a1_1, .int .i64 a1_2, .int .i64 a1_3, .slice A1_4 l1_4.length c1_4, .int .i64 a1_5, .int .i64 a1_6, .bool a1_7, .bool a1_8, .bool a1_9, .int .i64 a1_10, .string a1_11, .string a1_12, .string a1_13, .int .i64 a1_14, .bool a1_15, .bool a1_16, .int .i64 a1_17, .int .i64 a1_18, .string a1_19, .int .i64 a1_20, .int .i64 a1_21, .int .i64 a1_22, .int .i64 a1_23, .int .i64 a1_24, .bool a1_25, .int .u64 a1_26, .slice A1_27 l1_27.length c1_27, .int .i64 a1_28, .string a1_29, .int .i64 a1_30, .int .i64 a1_31]) (t := 68) ?hr ?_; (case hd => rfl); (case hg => rfl); (case hr => first | (go_simp; done) | (go_simp; rfl)); intro gb294 hg w4 hbox hb; have n0_ := Aside0.mk (blk_below (g := gb293) (o := .cells #[.slice A0_0 l0_0.length c0_0, .slice A0_1 l0_1.length c0_1, .slice A0_2 l0_2.length c0_2, .slice A0_3 l0_3.length c0_3] 59 (0, 0)) (by (with_reducible repeat (first | refine blk_drewN ?_ _ | refine blk_drew ?_ | refine blk_alloc ?_ _)); exact BK293.out) hb); have n1_ := Aside0.mk (below_step (by repeat (first | (with_reducible first | exact HB.out | apply below_alloc | apply pw_below_drewN | apply below_drew1 | refine below_set ?_ GE293.out) | exact HB.out)) hb); have n2_ := Aside0.mk (hbox); have n3_ := Aside0.mk ((by rw [hg]; exact (below_size (by repeat (first | (with_reducible first | exact HB.out | apply below_alloc | apply pw_below_drewN | apply below_drew1 | refine below_set ?_ GE293.out) | exact HB.out))) : w.heap.size ≤ gb294)); have n4_ := Aside0.mk ((by rw [hg]; exact (below_size (by repeat (first | (with_reducible first | exact HB.out | apply below_alloc | apply pw_below_drewN | apply below_drew1 | refine below_set ?_ GE293.out) | exact HB.out))) : w.heap.size ≤ gb294)); have n5_ := Aside0.mk ((by rw [hg]; exact Nat.ne_of_lt (blk_lt (g := gb293) (o := .cells #[.slice A0_0 l0_0.length c0_0, .slice A0_1 l0_1.length c0_1, .slice A0_2 l0_2.length c0_2, .slice A0_3 l0_3.length c0_3] 59 (0, 0)) (by (with_reducible repeat (first | refine blk_drewN ?_ _ | refine blk_drew ?_ | refine blk_alloc ?_ _)); exact BK293.out)) : gb293 ≠ gb294)); have n6_ := Aside0.mk ((by rw [hg]; exact Nat.ne_of_gt (blk_lt (g := gb293) (o := .cells #[.slice A0_0 l0_0.length c0_0, .slice A0_1 l0_1.length c0_1, .slice A0_2 l0_2.length c0_2, .slice A0_3 l0_3.length c0_3] 59 (0, 0)) (by (with_reducible repeat (first | refine blk_drewN ?_ _ | refine blk_drew ?_ | refine blk_alloc ?_ _)); exact BK293.out)) : gb294 ≠ gb293)); clear BK293; clear HB; have BK293 := n0_; have HB := n1_; have BK294 := n2_; have GW294 := n3_; have GE294 := n4_; have NB293_294 := n5_; have NB294_293 := n6_; clear n0_ n1_ n2_ n3_ n4_ n5_ n6_; clear hb hbox hg))
  go_loopg [5, 6] k (fun kq v5 v6 w' => ∃ (x5_1 : Int) (x6_1 : Int), v5 = .int .i64 x5_1 ∧ v6 = .int .i64 x6_1 ∧ Aside0 (flotillaref16_Guarded.l0 kq x5_1 x6_1 l0_0 l0_1 l0_2 l0_3 a1_0 a1_1 a1_2 a1_3 l1_4 a1_5 a1_6 a1_7 a1_8 a1_9 a1_10 a1_11 a1_12 a1_13 a1_14 a1_15 a1_16 a1_17 a1_18 a1_19 a1_20 a1_21 a1_22 a1_23 a1_24 a1_25 a1_26 l1_27 a1_28 a1_29 a1_30 a1_31 = some r) ∧ Aside0 (kq ≤ k) ∧ Aside0 (w'.heap[gb293]? = some (.cells #[(.slice A0_0 l0_0.length c0_0), (.slice A0_1 l0_1.length c0_1), (.slice A0_2 l0_2.length c0_2), (.slice A0_3 l0_3.length c0_3)] 59 (0, 0))) ∧ Aside0 (w'.heap[gb294]? = some (.cells #[.int .i64 a1_0, .string a1_1, .int .i64 a1_2, .int .i64 a1_3, (.slice A1_4 l1_4.length c1_4), .int .i64 a1_5, .int .i64 a1_6, .bool a1_7, .bool a1_8, .bool a1_9, .int .i64 a1_10, .string a1_11, .string a1_12, .string a1_13, .int .i64 a1_14, .bool a1_15, .bool a1_16, .int .i64 a1_17, .int .i64 a1_18, .string a1_19, .int .i64 a1_20, .int .i64 a1_21, .int .i64 a1_22, .int .i64 a1_23, .int .i64 a1_24, .bool a1_25, .int .u64 a1_26, (.slice A1_27 l1_27.length c1_27), .int .i64 a1_28, .string a1_29, .int .i64 a1_30, .int .i64 a1_31] 68 (0, 0))) ∧ Aside0 (Below w.heap.size w w'))
  case atStart => exact ⟨(0), (0), (by first | rfl | (simp; done) | (simp [*]; done)), (by first | rfl | (simp; done) | (simp [*]; done)), H', ⟨Nat.le_refl _⟩, ⟨by (with_reducible repeat (first | refine blk_drewN ?_ _ | refine blk_drew ?_ | refine blk_alloc ?_ _)); exact BK293.out⟩, ⟨by (with_reducible repeat (first | refine blk_drewN ?_ _ | refine blk_drew ?_ | refine blk_alloc ?_ _)); exact BK294.out⟩, ⟨by repeat (first | (with_reducible first | exact HB.out | apply below_alloc | apply pw_below_drewN | apply below_drew1 | refine below_set ?_ GE293.out | refine below_set ?_ GE294.out) | exact HB.out)⟩⟩
  case round =>
    clear H'
    try clear c1
    try clear p2
    try clear c4
    obtain ⟨x5_1, x6_1, rfl, rfl, HA, HK1, BK293, BK294, HB⟩ := hrel
    cases gk with
    | zero => exact absurd HA.out (by simp [flotillaref16_Guarded.l0])
    | succ k1 =>
      have H := HA.out
      clear HA
      simp only [flotillaref16_Guarded.l0] at H
      by_cases c5 : x6_1 < (l0_1.length : Int)
      · rw [if_pos c5] at H
        have c5b0 : decide (x6_1 < (l0_1.length : Int)) = true := decide_eq_true c5
        clear c5
        by_cases c6 : 0 ≤ x6_1
        · rw [if_pos c6] at H
          have c6b0 : decide (0 ≤ x6_1) = true := decide_eq_true c6
          clear c6
          obtain ⟨bq7, hbq7⟩ : ∃ b_ : Bool, b_ = ((rd_T68 l0_1 x6_1).f14) := ⟨_, rfl⟩
          replace H : (if bq7 = true then (if ((rd_T68 l0_1 x6_1).f15 = true) then (flotillaref16_Guarded.l0 k1 x5_1 (wrap64 (x6_1 + 1)) l0_0 l0_1 l0_2 l0_3 a1_0 a1_1 a1_2 a1_3 l1_4 a1_5 a1_6 a1_7 a1_8 a1_9 a1_10 a1_11 a1_12 a1_13 a1_14 a1_15 a1_16 a1_17 a1_18 a1_19 a1_20 a1_21 a1_22 a1_23 a1_24 a1_25 a1_26 l1_27 a1_28 a1_29 a1_30 a1_31) else ((flotillaref02_Matches.f k1 l1_27 ((rd_T68 l0_1 x6_1).f4)).bind fun t297 => (if t297 = true then (flotillaref16_Guarded.l0 k1 (wrap64 (x5_1 + 1)) (wrap64 (x6_1 + 1)) l0_0 l0_1 l0_2 l0_3 a1_0 a1_1 a1_2 a1_3 l1_4 a1_5 a1_6 a1_7 a1_8 a1_9 a1_10 a1_11 a1_12 a1_13 a1_14 a1_15 a1_16 a1_17 a1_18 a1_19 a1_20 a1_21 a1_22 a1_23 a1_24 a1_25 a1_26 l1_27 a1_28 a1_29 a1_30 a1_31) else (flotillaref16_Guarded.l0 k1 x5_1 (wrap64 (x6_1 + 1)) l0_0 l0_1 l0_2 l0_3 a1_0 a1_1 a1_2 a1_3 l1_4 a1_5 a1_6 a1_7 a1_8 a1_9 a1_10 a1_11 a1_12 a1_13 a1_14 a1_15 a1_16 a1_17 a1_18 a1_19 a1_20 a1_21 a1_22 a1_23 a1_24 a1_25 a1_26 l1_27 a1_28 a1_29 a1_30 a1_31)))) else (flotillaref16_Guarded.l0 k1 x5_1 (wrap64 (x6_1 + 1)) l0_0 l0_1 l0_2 l0_3 a1_0 a1_1 a1_2 a1_3 l1_4 a1_5 a1_6 a1_7 a1_8 a1_9 a1_10 a1_11 a1_12 a1_13 a1_14 a1_15 a1_16 a1_17 a1_18 a1_19 a1_20 a1_21 a1_22 a1_23 a1_24 a1_25 a1_26 l1_27 a1_28 a1_29 a1_30 a1_31)) = some r := by rw [← hbq7] at H; exact H
          have Nbq7 := Aside0.mk hbq7
          clear hbq7
          by_cases c8 : bq7 = true
          · subst c8
            have H1 : (if ((rd_T68 l0_1 x6_1).f15 = true) then (flotillaref16_Guarded.l0 k1 x5_1 (wrap64 (x6_1 + 1)) l0_0 l0_1 l0_2 l0_3 a1_0 a1_1 a1_2 a1_3 l1_4 a1_5 a1_6 a1_7 a1_8 a1_9 a1_10 a1_11 a1_12 a1_13 a1_14 a1_15 a1_16 a1_17 a1_18 a1_19 a1_20 a1_21 a1_22 a1_23 a1_24 a1_25 a1_26 l1_27 a1_28 a1_29 a1_30 a1_31) else ((flotillaref02_Matches.f k1 l1_27 ((rd_T68 l0_1 x6_1).f4)).bind fun t297 => (if t297 = true then (flotillaref16_Guarded.l0 k1 (wrap64 (x5_1 + 1)) (wrap64 (x6_1 + 1)) l0_0 l0_1 l0_2 l0_3 a1_0 a1_1 a1_2 a1_3 l1_4 a1_5 a1_6 a1_7 a1_8 a1_9 a1_10 a1_11 a1_12 a1_13 a1_14 a1_15 a1_16 a1_17 a1_18 a1_19 a1_20 a1_21 a1_22 a1_23 a1_24 a1_25 a1_26 l1_27 a1_28 a1_29 a1_30 a1_31) else (flotillaref16_Guarded.l0 k1 x5_1 (wrap64 (x6_1 + 1)) l0_0 l0_1 l0_2 l0_3 a1_0 a1_1 a1_2 a1_3 l1_4 a1_5 a1_6 a1_7 a1_8 a1_9 a1_10 a1_11 a1_12 a1_13 a1_14 a1_15 a1_16 a1_17 a1_18 a1_19 a1_20 a1_21 a1_22 a1_23 a1_24 a1_25 a1_26 l1_27 a1_28 a1_29 a1_30 a1_31)))) = some r := by rw [if_pos rfl] at H; exact H
            clear H
            have H := H1
            clear H1
            obtain ⟨bq9, hbq9⟩ : ∃ b_ : Bool, b_ = ((rd_T68 l0_1 x6_1).f15) := ⟨_, rfl⟩
            replace H : (if (bq9 = true) then (flotillaref16_Guarded.l0 k1 x5_1 (wrap64 (x6_1 + 1)) l0_0 l0_1 l0_2 l0_3 a1_0 a1_1 a1_2 a1_3 l1_4 a1_5 a1_6 a1_7 a1_8 a1_9 a1_10 a1_11 a1_12 a1_13 a1_14 a1_15 a1_16 a1_17 a1_18 a1_19 a1_20 a1_21 a1_22 a1_23 a1_24 a1_25 a1_26 l1_27 a1_28 a1_29 a1_30 a1_31) else ((flotillaref02_Matches.f k1 l1_27 ((rd_T68 l0_1 x6_1).f4)).bind fun t297 => (if t297 = true then (flotillaref16_Guarded.l0 k1 (wrap64 (x5_1 + 1)) (wrap64 (x6_1 + 1)) l0_0 l0_1 l0_2 l0_3 a1_0 a1_1 a1_2 a1_3 l1_4 a1_5 a1_6 a1_7 a1_8 a1_9 a1_10 a1_11 a1_12 a1_13 a1_14 a1_15 a1_16 a1_17 a1_18 a1_19 a1_20 a1_21 a1_22 a1_23 a1_24 a1_25 a1_26 l1_27 a1_28 a1_29 a1_30 a1_31) else (flotillaref16_Guarded.l0 k1 x5_1 (wrap64 (x6_1 + 1)) l0_0 l0_1 l0_2 l0_3 a1_0 a1_1 a1_2 a1_3 l1_4 a1_5 a1_6 a1_7 a1_8 a1_9 a1_10 a1_11 a1_12 a1_13 a1_14 a1_15 a1_16 a1_17 a1_18 a1_19 a1_20 a1_21 a1_22 a1_23 a1_24 a1_25 a1_26 l1_27 a1_28 a1_29 a1_30 a1_31)))) = some r := by rw [← hbq9] at H; exact H
            have Nbq9 := Aside0.mk hbq9
            clear hbq9
            by_cases c10 : (bq9 = true)
            · subst c10
              have H1 : (flotillaref16_Guarded.l0 k1 x5_1 (wrap64 (x6_1 + 1)) l0_0 l0_1 l0_2 l0_3 a1_0 a1_1 a1_2 a1_3 l1_4 a1_5 a1_6 a1_7 a1_8 a1_9 a1_10 a1_11 a1_12 a1_13 a1_14 a1_15 a1_16 a1_17 a1_18 a1_19 a1_20 a1_21 a1_22 a1_23 a1_24 a1_25 a1_26 l1_27 a1_28 a1_29 a1_30 a1_31) = some r := by rw [if_pos rfl] at H; exact H
              clear H
              have H := H1
              clear H1
              have H' := Aside0.mk H
              clear H
              have hnb11 := NB293_294.out
              have hnc11 := NB294_293.out
              have hcz12_0 : wr.cell? ⟨gb293, 0, none⟩ = some (.slice A0_0 l0_0.length c0_0) := (blk_cell BK293.out 0).trans rfl
              have hcz12_1 : wr.cell? ⟨gb293, 1, none⟩ = some (.slice A0_1 l0_1.length c0_1) := (blk_cell BK293.out 1).trans rfl
              have hcz12_2 : wr.cell? ⟨gb293, 2, none⟩ = some (.slice A0_2 l0_2.length c0_2) := (blk_cell BK293.out 2).trans rfl
              have hcz12_3 : wr.cell? ⟨gb293, 3, none⟩ = some (.slice A0_3 l0_3.length c0_3) := (blk_cell BK293.out 3).trans rfl
              have hfz12_0 := blk_frozen BK293.out 0
              have hfz12_1 := blk_frozen BK293.out 1
              have hfz12_2 := blk_frozen BK293.out 2
              have hfz12_3 := blk_frozen BK293.out 3
              have p295 : 0 ≤ (x6_1 : Int) := of_decide_eq_true (by first | (with_reducible assumption) | assumption)
              have q295 : x6_1 < (l0_1.length : Int) := of_decide_eq_true (by first | (with_reducible assumption) | assumption)
              obtain ⟨ad295, A295_4, c295_4, A295_27, c295_27, e295, hx295_0, hx295_1, hx295_2, hx295_3, hx295_4, hx295_5, hx295_6, hx295_7, hx295_8, hx295_9, hx295_10, hx295_11, hx295_12, hx295_13, hx295_14, hx295_15, hx295_16, hx295_17, hx295_18, hx295_19, hx295_20, hx295_21, hx295_22, hx295_23, hx295_24, hx295_25, hx295_26, hx295_27, hx295_28, hx295_29, hx295_30, hx295_31, hl295_4, hi295_4, hl295_27, hi295_27⟩ := at_T68 HR0_1.out x6_1 p295 q295
              (try rw [← Nbq7.out] at hx295_7)
              (try rw [← Nbq9.out] at hx295_7)
              (try rw [← Nbq7.out] at hx295_8)
              (try rw [← Nbq9.out] at hx295_8)
              (try rw [← Nbq7.out] at hx295_9)
              (try rw [← Nbq9.out] at hx295_9)
              (try rw [← Nbq7.out] at hx295_15)
              (try rw [← Nbq9.out] at hx295_15)
              (try rw [← Nbq7.out] at hx295_16)
              (try rw [← Nbq9.out] at hx295_16)
              (try rw [← Nbq7.out] at hx295_25)
              (try rw [← Nbq9.out] at hx295_25)
              cases e295
              replace hx295_0 := (HB.out.cell (World.block_lt_of_cell? w _ hx295_0)).trans hx295_0
              replace hx295_1 := (HB.out.cell (World.block_lt_of_cell? w _ hx295_1)).trans hx295_1
              replace hx295_2 := (HB.out.cell (World.block_lt_of_cell? w _ hx295_2)).trans hx295_2
              replace hx295_3 := (HB.out.cell (World.block_lt_of_cell? w _ hx295_3)).trans hx295_3
              replace hx295_4 := (HB.out.cell (World.block_lt_of_cell? w _ hx295_4)).trans hx295_4
              replace hx295_5 := (HB.out.cell (World.block_lt_of_cell? w _ hx295_5)).trans hx295_5
              replace hx295_6 := (HB.out.cell (World.block_lt_of_cell? w _ hx295_6)).trans hx295_6
              replace hx295_7 := (HB.out.cell (World.block_lt_of_cell? w _ hx295_7)).trans hx295_7
              replace hx295_8 := (HB.out.cell (World.block_lt_of_cell? w _ hx295_8)).trans hx295_8
              replace hx295_9 := (HB.out.cell (World.block_lt_of_cell? w _ hx295_9)).trans hx295_9
              replace hx295_10 := (HB.out.cell (World.block_lt_of_cell? w _ hx295_10)).trans hx295_10
              replace hx295_11 := (HB.out.cell (World.block_lt_of_cell? w _ hx295_11)).trans hx295_11
              replace hx295_12 := (HB.out.cell (World.block_lt_of_cell? w _ hx295_12)).trans hx295_12
              replace hx295_13 := (HB.out.cell (World.block_lt_of_cell? w _ hx295_13)).trans hx295_13
              replace hx295_14 := (HB.out.cell (World.block_lt_of_cell? w _ hx295_14)).trans hx295_14
              replace hx295_15 := (HB.out.cell (World.block_lt_of_cell? w _ hx295_15)).trans hx295_15
              replace hx295_16 := (HB.out.cell (World.block_lt_of_cell? w _ hx295_16)).trans hx295_16
              replace hx295_17 := (HB.out.cell (World.block_lt_of_cell? w _ hx295_17)).trans hx295_17
              replace hx295_18 := (HB.out.cell (World.block_lt_of_cell? w _ hx295_18)).trans hx295_18
              replace hx295_19 := (HB.out.cell (World.block_lt_of_cell? w _ hx295_19)).trans hx295_19
              replace hx295_20 := (HB.out.cell (World.block_lt_of_cell? w _ hx295_20)).trans hx295_20
              replace hx295_21 := (HB.out.cell (World.block_lt_of_cell? w _ hx295_21)).trans hx295_21
              replace hx295_22 := (HB.out.cell (World.block_lt_of_cell? w _ hx295_22)).trans hx295_22
              replace hx295_23 := (HB.out.cell (World.block_lt_of_cell? w _ hx295_23)).trans hx295_23
              replace hx295_24 := (HB.out.cell (World.block_lt_of_cell? w _ hx295_24)).trans hx295_24
              replace hx295_25 := (HB.out.cell (World.block_lt_of_cell? w _ hx295_25)).trans hx295_25
              replace hx295_26 := (HB.out.cell (World.block_lt_of_cell? w _ hx295_26)).trans hx295_26
              replace hx295_27 := (HB.out.cell (World.block_lt_of_cell? w _ hx295_27)).trans hx295_27
              replace hx295_28 := (HB.out.cell (World.block_lt_of_cell? w _ hx295_28)).trans hx295_28
              replace hx295_29 := (HB.out.cell (World.block_lt_of_cell? w _ hx295_29)).trans hx295_29
              replace hx295_30 := (HB.out.cell (World.block_lt_of_cell? w _ hx295_30)).trans hx295_30
              replace hx295_31 := (HB.out.cell (World.block_lt_of_cell? w _ hx295_31)).trans hx295_31
              have HR295_4 := Aside0.mk hi295_4
              have HC295_4 := Aside0.mk hl295_4
              clear hi295_4 hl295_4
              have HR295_27 := Aside0.mk hi295_27
              have HC295_27 := Aside0.mk hl295_27
              clear hi295_27 hl295_27
              replace p295 := eq_true p295
              replace q295 := eq_true q295
              go_wp2_with (first | ((with_reducible refine gate_load (t := 68) rfl ?_); first | (refine load68_box rfl rfl rfl (by with_reducible assumption) (by with_reducible assumption) (by with_reducible assumption) (by with_reducible assumption) (by with_reducible assumption) (by with_reducible assumption) (by with_reducible assumption) (by with_reducible assumption) (by with_reducible assumption) (by with_reducible assumption) (by with_reducible assumption) (by with_reducible assumption) (by with_reducible assumption) (by with_reducible assumption) (by with_reducible assumption) (by with_reducible assumption) (by with_reducible assumption) (by with_reducible assumption) (by with_reducible assumption) (by with_reducible assumption) (by with_reducible assumption) (by with_reducible assumption) (by with_reducible assumption) (by with_reducible assumption) (by with_reducible assumption) (by with_reducible assumption) (by with_reducible assumption) (by with_reducible assumption) (by with_reducible assumption) (by with_reducible assumption) (by with_reducible assumption) (by with_reducible assumption) ?_) | (refine load68_at rfl rfl rfl (by with_reducible assumption) (by with_reducible assumption) (by with_reducible assumption) (by with_reducible assumption) (by with_reducible assumption) (by with_reducible assumption) (by with_reducible assumption) (by with_reducible assumption) (by with_reducible assumption) (by with_reducible assumption) (by with_reducible assumption) (by with_reducible assumption) (by with_reducible assumption) (by with_reducible assumption) (by with_reducible assumption) (by with_reducible assumption) (by with_reducible assumption) (by with_reducible assumption) (by with_reducible assumption) (by with_reducible assumption) (by with_reducible assumption) (by with_reducible assumption) (by with_reducible assumption) (by with_reducible assumption) (by with_reducible assumption) (by with_reducible assumption) (by with_reducible assumption) (by with_reducible assumption) (by with_reducible assumption) (by with_reducible assumption) (by with_reducible assumption) (by with_reducible assumption) ?_)) | ((with_reducible refine gate_dst (N := 7) rfl ?_); refine box_event ?hg (N := 7) ?hd (cs := #[.int .i64 0, .string (⟨#[]⟩ : ByteArray), .int .i64 0, .int .i64 0, .slice none 0 0, .int .i64 0, .int .i64 0, .bool false, .bool false, .bool false, .int .i64 0, .string (⟨#[]⟩ : ByteArray), .string (⟨#[]⟩ : ByteArray), .string (⟨#[]⟩ : ByteArray), .int .i64 0, .bool false, .bool false, .int .i64 0, .int .i64 0, .string (⟨#[]⟩ : ByteArray), .int .i64 0, .int .i64 0, .int .i64 0, .int .i64 0, .int .i64 0, .bool false, .int .u64 0, .slice none 0 0, .int .i64 0, .string (⟨#[]⟩ : ByteArray), .int .i64 0, .int .i64 0]) (t := 68) ?hr ?_; (case hd => rfl); (case hg => rfl); (case hr => first | (go_simp; done) | (go_simp; rfl)); intro gb296 hg w13 hbox hb; have n0_ := Aside0.mk (blk_below (g := gb293) (o := .cells #[.slice A0_0 l0_0.length c0_0, .slice (some ad295) l0_1.length c0_1, .slice A0_2 l0_2.length c0_2, .slice A0_3 l0_3.length c0_3] 59 (0, 0)) (by (with_reducible repeat (first | refine blk_drewN ?_ _ | refine blk_drew ?_ | refine blk_alloc ?_ _)); exact BK293.out) hb); have n1_ := Aside0.mk (blk_below (g := gb294) (o := .cells #[.int .i64 a1_0, .string a1_1, .int .i64 a1_2, .int .i64 a1_3, .slice A1_4 l1_4.length c1_4, .int .i64 a1_5, .int .i64 a1_6, .bool a1_7, .bool a1_8, .bool a1_9, .int .i64 a1_10, .string a1_11, .string a1_12, .string a1_13, .int .i64 a1_14, .bool a1_15, .bool a1_16, .int .i64 a1_17, .int .i64 a1_18, .string a1_19, .int .i64 a1_20, .int .i64 a1_21, .int .i64 a1_22, .int .i64 a1_23, .int .i64 a1_24, .bool a1_25, .int .u64 a1_26, .slice A1_27 l1_27.length c1_27, .int .i64 a1_28, .string a1_29, .int .i64 a1_30, .int .i64 a1_31] 68 (0, 0)) (by (with_reducible repeat (first | refine blk_drewN ?_ _ | refine blk_drew ?_ | refine blk_alloc ?_ _)); exact BK294.out) hb); have n2_ := Aside0.mk (below_step (by repeat (first | (with_reducible first | exact HB.out | apply below_alloc | apply pw_below_drewN | apply below_drew1 | refine below_set ?_ GE293.out | refine below_set ?_ GE294.out) | exact HB.out)) hb); have n3_ := Aside0.mk (hbox); have n4_ := Aside0.mk ((by rw [hg]; exact (below_size (by repeat (first | (with_reducible first | exact HB.out | apply below_alloc | apply pw_below_drewN | apply below_drew1 | refine below_set ?_ GE293.out | refine below_set ?_ GE294.out) | exact HB.out))) : w.heap.size ≤ gb296)); have n5_ := Aside0.mk ((by rw [hg]; exact (below_size (by repeat (first | (with_reducible first | exact HB.out | apply below_alloc | apply pw_below_drewN | apply below_drew1 | refine below_set ?_ GE293.out | refine below_set ?_ GE294.out) | exact HB.out))) : w.heap.size ≤ gb296)); have n6_ := Aside0.mk ((by rw [hg]; exact Nat.ne_of_lt (blk_lt (g := gb293) (o := .cells #[.slice A0_0 l0_0.length c0_0, .slice (some ad295) l0_1.length c0_1, .slice A0_2 l0_2.length c0_2, .slice A0_3 l0_3.length c0_3] 59 (0, 0)) (by (with_reducible repeat (first | refine blk_drewN ?_ _ | refine blk_drew ?_ | refine blk_alloc ?_ _)); exact BK293.out)) : gb293 ≠ gb296)); have n7_ := Aside0.mk ((by rw [hg]; exact Nat.ne_of_gt (blk_lt (g := gb293) (o := .cells #[.slice A0_0 l0_0.length c0_0, .slice (some ad295) l0_1.length c0_1, .slice A0_2 l0_2.length c0_2, .slice A0_3 l0_3.length c0_3] 59 (0, 0)) (by (with_reducible repeat (first | refine blk_drewN ?_ _ | refine blk_drew ?_ | refine blk_alloc ?_ _)); exact BK293.out)) : gb296 ≠ gb293)); have n8_ := Aside0.mk ((by rw [hg]; exact Nat.ne_of_lt (blk_lt (g := gb294) (o := .cells #[.int .i64 a1_0, .string a1_1, .int .i64 a1_2, .int .i64 a1_3, .slice A1_4 l1_4.length c1_4, .int .i64 a1_5, .int .i64 a1_6, .bool a1_7, .bool a1_8, .bool a1_9, .int .i64 a1_10, .string a1_11, .string a1_12, .string a1_13, .int .i64 a1_14, .bool a1_15, .bool a1_16, .int .i64 a1_17, .int .i64 a1_18, .string a1_19, .int .i64 a1_20, .int .i64 a1_21, .int .i64 a1_22, .int .i64 a1_23, .int .i64 a1_24, .bool a1_25, .int .u64 a1_26, .slice A1_27 l1_27.length c1_27, .int .i64 a1_28, .string a1_29, .int .i64 a1_30, .int .i64 a1_31] 68 (0, 0)) (by (with_reducible repeat (first | refine blk_drewN ?_ _ | refine blk_drew ?_ | refine blk_alloc ?_ _)); exact BK294.out)) : gb294 ≠ gb296)); have n9_ := Aside0.mk ((by rw [hg]; exact Nat.ne_of_gt (blk_lt (g := gb294) (o := .cells #[.int .i64 a1_0, .string a1_1, .int .i64 a1_2, .int .i64 a1_3, .slice A1_4 l1_4.length c1_4, .int .i64 a1_5, .int .i64 a1_6, .bool a1_7, .bool a1_8, .bool a1_9, .int .i64 a1_10, .string a1_11, .string a1_12, .string a1_13, .int .i64 a1_14, .bool a1_15, .bool a1_16, .int .i64 a1_17, .int .i64 a1_18, .string a1_19, .int .i64 a1_20, .int .i64 a1_21, .int .i64 a1_22, .int .i64 a1_23, .int .i64 a1_24, .bool a1_25, .int .u64 a1_26, .slice A1_27 l1_27.length c1_27, .int .i64 a1_28, .string a1_29, .int .i64 a1_30, .int .i64 a1_31] 68 (0, 0)) (by (with_reducible repeat (first | refine blk_drewN ?_ _ | refine blk_drew ?_ | refine blk_alloc ?_ _)); exact BK294.out)) : gb296 ≠ gb294)); clear BK293; clear BK294; clear HB; have BK293 := n0_; have BK294 := n1_; have HB := n2_; have BK296 := n3_; have GW296 := n4_; have GE296 := n5_; have NB293_296 := n6_; have NB296_293 := n7_; have NB294_296 := n8_; have NB296_294 := n9_; clear n0_ n1_ n2_ n3_ n4_ n5_ n6_ n7_ n8_ n9_; clear hb hbox hg; have hnb14 := NB296_293.out; have hnc14 := NB293_296.out; have hnb15 := NB296_294.out; have hnc15 := NB294_296.out; have hcz16_0 : w13.cell? ⟨gb296, 0, none⟩ = some (.int .i64 0) := (blk_cell BK296.out 0).trans rfl; have hcz16_1 : w13.cell? ⟨gb296, 1, none⟩ = some (.string (⟨#[]⟩ : ByteArray)) := (blk_cell BK296.out 1).trans rfl; have hcz16_2 : w13.cell? ⟨gb296, 2, none⟩ = some (.int .i64 0) := (blk_cell BK296.out 2).trans rfl; have hcz16_3 : w13.cell? ⟨gb296, 3, none⟩ = some (.int .i64 0) := (blk_cell BK296.out 3).trans rfl; have hcz16_4 : w13.cell? ⟨gb296, 4, none⟩ = some (.slice none 0 0) := (blk_cell BK296.out 4).trans rfl; have hcz16_5 : w13.cell? ⟨gb296, 5, none⟩ = some (.int .i64 0) := (blk_cell BK296.out 5).trans rfl; have hcz16_6 : w13.cell? ⟨gb296, 6, none⟩ = some (.int .i64 0) := (blk_cell BK296.out 6).trans rfl; have hcz16_7 : w13.cell? ⟨gb296, 7, none⟩ = some (.bool false) := (blk_cell BK296.out 7).trans rfl; have hcz16_8 : w13.cell? ⟨gb296, 8, none⟩ = some (.bool false) := (blk_cell BK296.out 8).trans rfl; have hcz16_9 : w13.cell? ⟨gb296, 9, none⟩ = some (.bool false) := (blk_cell BK296.out 9).trans rfl; have hcz16_10 : w13.cell? ⟨gb296, 10, none⟩ = some (.int .i64 0) := (blk_cell BK296.out 10).trans rfl; have hcz16_11 : w13.cell? ⟨gb296, 11, none⟩ = some (.string (⟨#[]⟩ : ByteArray)) := (blk_cell BK296.out 11).trans rfl; have hcz16_12 : w13.cell? ⟨gb296, 12, none⟩ = some (.string (⟨#[]⟩ : ByteArray)) := (blk_cell BK296.out 12).trans rfl; have hcz16_13 : w13.cell? ⟨gb296, 13, none⟩ = some (.string (⟨#[]⟩ : ByteArray)) := (blk_cell BK296.out 13).trans rfl; have hcz16_14 : w13.cell? ⟨gb296, 14, none⟩ = some (.int .i64 0) := (blk_cell BK296.out 14).trans rfl; have hcz16_15 : w13.cell? ⟨gb296, 15, none⟩ = some (.bool false) := (blk_cell BK296.out 15).trans rfl; have hcz16_16 : w13.cell? ⟨gb296, 16, none⟩ = some (.bool false) := (blk_cell BK296.out 16).trans rfl; have hcz16_17 : w13.cell? ⟨gb296, 17, none⟩ = some (.int .i64 0) := (blk_cell BK296.out 17).trans rfl; have hcz16_18 : w13.cell? ⟨gb296, 18, none⟩ = some (.int .i64 0) := (blk_cell BK296.out 18).trans rfl; have hcz16_19 : w13.cell? ⟨gb296, 19, none⟩ = some (.string (⟨#[]⟩ : ByteArray)) := (blk_cell BK296.out 19).trans rfl; have hcz16_20 : w13.cell? ⟨gb296, 20, none⟩ = some (.int .i64 0) := (blk_cell BK296.out 20).trans rfl; have hcz16_21 : w13.cell? ⟨gb296, 21, none⟩ = some (.int .i64 0) := (blk_cell BK296.out 21).trans rfl; have hcz16_22 : w13.cell? ⟨gb296, 22, none⟩ = some (.int .i64 0) := (blk_cell BK296.out 22).trans rfl; have hcz16_23 : w13.cell? ⟨gb296, 23, none⟩ = some (.int .i64 0) := (blk_cell BK296.out 23).trans rfl; have hcz16_24 : w13.cell? ⟨gb296, 24, none⟩ = some (.int .i64 0) := (blk_cell BK296.out 24).trans rfl; have hcz16_25 : w13.cell? ⟨gb296, 25, none⟩ = some (.bool false) := (blk_cell BK296.out 25).trans rfl; have hcz16_26 : w13.cell? ⟨gb296, 26, none⟩ = some (.int .u64 0) := (blk_cell BK296.out 26).trans rfl; have hcz16_27 : w13.cell? ⟨gb296, 27, none⟩ = some (.slice none 0 0) := (blk_cell BK296.out 27).trans rfl; have hcz16_28 : w13.cell? ⟨gb296, 28, none⟩ = some (.int .i64 0) := (blk_cell BK296.out 28).trans rfl; have hcz16_29 : w13.cell? ⟨gb296, 29, none⟩ = some (.string (⟨#[]⟩ : ByteArray)) := (blk_cell BK296.out 29).trans rfl; have hcz16_30 : w13.cell? ⟨gb296, 30, none⟩ = some (.int .i64 0) := (blk_cell BK296.out 30).trans rfl; have hcz16_31 : w13.cell? ⟨gb296, 31, none⟩ = some (.int .i64 0) := (blk_cell BK296.out 31).trans rfl; have hfz16_0 := blk_frozen BK296.out 0; have hfz16_1 := blk_frozen BK296.out 1; have hfz16_2 := blk_frozen BK296.out 2; have hfz16_3 := blk_frozen BK296.out 3; have hfz16_4 := blk_frozen BK296.out 4; have hfz16_5 := blk_frozen BK296.out 5; have hfz16_6 := blk_frozen BK296.out 6; have hfz16_7 := blk_frozen BK296.out 7; have hfz16_8 := blk_frozen BK296.out 8; have hfz16_9 := blk_frozen BK296.out 9; have hfz16_10 := blk_frozen BK296.out 10; have hfz16_11 := blk_frozen BK296.out 11; have hfz16_12 := blk_frozen BK296.out 12; have hfz16_13 := blk_frozen BK296.out 13; have hfz16_14 := blk_frozen BK296.out 14; have hfz16_15 := blk_frozen BK296.out 15; have hfz16_16 := blk_frozen BK296.out 16; have hfz16_17 := blk_frozen BK296.out 17; have hfz16_18 := blk_frozen BK296.out 18; have hfz16_19 := blk_frozen BK296.out 19; have hfz16_20 := blk_frozen BK296.out 20; have hfz16_21 := blk_frozen BK296.out 21; have hfz16_22 := blk_frozen BK296.out 22; have hfz16_23 := blk_frozen BK296.out 23; have hfz16_24 := blk_frozen BK296.out 24; have hfz16_25 := blk_frozen BK296.out 25; have hfz16_26 := blk_frozen BK296.out 26; have hfz16_27 := blk_frozen BK296.out 27; have hfz16_28 := blk_frozen BK296.out 28; have hfz16_29 := blk_frozen BK296.out 29; have hfz16_30 := blk_frozen BK296.out 30; have hfz16_31 := blk_frozen BK296.out 31) | ((with_reducible refine gate_store (t := 68) (p := 7) rfl ?_); refine box_store_event (t := 68) (ty := 68) (p := 7) (x := ?vo_w17) (g := gb296) (cs := #[.int .i64 0, .string (⟨#[]⟩ : ByteArray), .int .i64 0, .int .i64 0, .slice none 0 0, .int .i64 0, .int .i64 0, .bool false, .bool false, .bool false, .int .i64 0, .string (⟨#[]⟩ : ByteArray), .string (⟨#[]⟩ : ByteArray), .string (⟨#[]⟩ : ByteArray), .int .i64 0, .bool false, .bool false, .int .i64 0, .int .i64 0, .string (⟨#[]⟩ : ByteArray), .int .i64 0, .int .i64 0, .int .i64 0, .int .i64 0, .int .i64 0, .bool false, .int .u64 0, .slice none 0 0, .int .i64 0, .string (⟨#[]⟩ : ByteArray), .int .i64 0, .int .i64 0]) (cs' := #[.int .i64 ((rd_T68 l0_1 x6_1).f0), .string ((rd_T68 l0_1 x6_1).f1), .int .i64 ((rd_T68 l0_1 x6_1).f2), .int .i64 ((rd_T68 l0_1 x6_1).f3), .slice A295_4 ((rd_T68 l0_1 x6_1).f4).length c295_4, .int .i64 ((rd_T68 l0_1 x6_1).f5.f0), .int .i64 ((rd_T68 l0_1 x6_1).f5.f1), .bool ((rd_T68 l0_1 x6_1).f6), .bool ((rd_T68 l0_1 x6_1).f7), .bool ((rd_T68 l0_1 x6_1).f8), .int .i64 ((rd_T68 l0_1 x6_1).f9), .string ((rd_T68 l0_1 x6_1).f10), .string ((rd_T68 l0_1 x6_1).f11), .string ((rd_T68 l0_1 x6_1).f12), .int .i64 ((rd_T68 l0_1 x6_1).f13), .bool true, .bool true, .int .i64 ((rd_T68 l0_1 x6_1).f16.f0), .int .i64 ((rd_T68 l0_1 x6_1).f16.f1), .string ((rd_T68 l0_1 x6_1).f17), .int .i64 ((rd_T68 l0_1 x6_1).f18), .int .i64 ((rd_T68 l0_1 x6_1).f19), .int .i64 ((rd_T68 l0_1 x6_1).f20), .int .i64 ((rd_T68 l0_1 x6_1).f21), .int .i64 ((rd_T68 l0_1 x6_1).f22), .bool ((rd_T68 l0_1 x6_1).f23), .int .u64 ((rd_T68 l0_1 x6_1).f24), .slice A295_27 ((rd_T68 l0_1 x6_1).f25).length c295_27, .int .i64 ((rd_T68 l0_1 x6_1).f26), .string ((rd_T68 l0_1 x6_1).f27), .int .i64 ((rd_T68 l0_1 x6_1).f28), .int .i64 ((rd_T68 l0_1 x6_1).f29)]) ?hgd ?ho ?hN ?he ?hv ?hi ?hb ?hs ?h1 ?_; (case ho => rfl); (case hgd => rfl); (case hN => rfl); (case he => rfl); (case hv => first | rfl | (simp; done)); (case hi => exact size68); (case hb => (with_reducible repeat (first | refine blk_drewN ?_ _ | refine blk_drew ?_ | refine blk_alloc ?_ _)); exact BK296.out); (case hs => rfl); (case h1 => rfl); intro w17 hbox hg; have n0_ := Aside0.mk (blk_grown (by (with_reducible repeat (first | refine blk_drewN ?_ _ | refine blk_drew ?_ | refine blk_alloc ?_ _)); exact BK293.out) hg (fun e_ => NB293_296.out (Option.some.inj e_))); have n1_ := Aside0.mk (blk_grown (by (with_reducible repeat (first | refine blk_drewN ?_ _ | refine blk_drew ?_ | refine blk_alloc ?_ _)); exact BK294.out) hg (fun e_ => NB294_296.out (Option.some.inj e_))); have n2_ := Aside0.mk (hbox); have n3_ := Aside0.mk (Below.grown (by repeat (first | (with_reducible first | exact HB.out | apply below_alloc | apply pw_below_drewN | apply below_drew1 | refine below_set ?_ GE293.out | refine below_set ?_ GE294.out | refine below_set ?_ GE296.out) | exact HB.out)) hg (below_size (by repeat (first | (with_reducible first | exact HB.out | apply below_alloc | apply pw_below_drewN | apply below_drew1 | refine below_set ?_ GE293.out | refine below_set ?_ GE294.out | refine below_set ?_ GE296.out) | exact HB.out))) (fun k_ e_ => by injection e_ with e_; subst e_; exact GE296.out)); clear BK293; clear BK294; clear BK296; clear HB; have BK293 := n0_; have BK294 := n1_; have BK296 := n2_; have HB := n3_; clear n0_ n1_ n2_ n3_; clear hbox hg; have hcz18_0 : w17.cell? ⟨gb296, 0, none⟩ = some (.int .i64 ((rd_T68 l0_1 x6_1).f0)) := (blk_cell BK296.out 0).trans rfl; have hcz18_1 : w17.cell? ⟨gb296, 1, none⟩ = some (.string ((rd_T68 l0_1 x6_1).f1)) := (blk_cell BK296.out 1).trans rfl; have hcz18_2 : w17.cell? ⟨gb296, 2, none⟩ = some (.int .i64 ((rd_T68 l0_1 x6_1).f2)) := (blk_cell BK296.out 2).trans rfl; have hcz18_3 : w17.cell? ⟨gb296, 3, none⟩ = some (.int .i64 ((rd_T68 l0_1 x6_1).f3)) := (blk_cell BK296.out 3).trans rfl; have hcz18_4 : w17.cell? ⟨gb296, 4, none⟩ = some (.slice A295_4 ((rd_T68 l0_1 x6_1).f4).length c295_4) := (blk_cell BK296.out 4).trans rfl; have hcz18_5 : w17.cell? ⟨gb296, 5, none⟩ = some (.int .i64 ((rd_T68 l0_1 x6_1).f5.f0)) := (blk_cell BK296.out 5).trans rfl; have hcz18_6 : w17.cell? ⟨gb296, 6, none⟩ = some (.int .i64 ((rd_T68 l0_1 x6_1).f5.f1)) := (blk_cell BK296.out 6).trans rfl; have hcz18_7 : w17.cell? ⟨gb296, 7, none⟩ = some (.bool ((rd_T68 l0_1 x6_1).f6)) := (blk_cell BK296.out 7).trans rfl; have hcz18_8 : w17.cell? ⟨gb296, 8, none⟩ = some (.bool ((rd_T68 l0_1 x6_1).f7)) := (blk_cell BK296.out 8).trans rfl; have hcz18_9 : w17.cell? ⟨gb296, 9, none⟩ = some (.bool ((rd_T68 l0_1 x6_1).f8)) := (blk_cell BK296.out 9).trans rfl; have hcz18_10 : w17.cell? ⟨gb296, 10, none⟩ = some (.int .i64 ((rd_T68 l0_1 x6_1).f9)) := (blk_cell BK296.out 10).trans rfl; have hcz18_11 : w17.cell? ⟨gb296, 11, none⟩ = some (.string ((rd_T68 l0_1 x6_1).f10)) := (blk_cell BK296.out 11).trans rfl; have hcz18_12 : w17.cell? ⟨gb296, 12, none⟩ = some (.string ((rd_T68 l0_1 x6_1).f11)) := (blk_cell BK296.out 12).trans rfl; have hcz18_13 : w17.cell? ⟨gb296, 13, none⟩ = some (.string ((rd_T68 l0_1 x6_1).f12)) := (blk_cell BK296.out 13).trans rfl; have hcz18_14 : w17.cell? ⟨gb296, 14, none⟩ = some (.int .i64 ((rd_T68 l0_1 x6_1).f13)) := (blk_cell BK296.out 14).trans rfl; have hcz18_15 : w17.cell? ⟨gb296, 15, none⟩ = some (.bool true) := (blk_cell BK296.out 15).trans rfl; have hcz18_16 : w17.cell? ⟨gb296, 16, none⟩ = some (.bool true) := (blk_cell BK296.out 16).trans rfl; have hcz18_17 : w17.cell? ⟨gb296, 17, none⟩ = some (.int .i64 ((rd_T68 l0_1 x6_1).f16.f0)) := (blk_cell BK296.out 17).trans rfl; have hcz18_18 : w17.cell? ⟨gb296, 18, none⟩ = some (.int .i64 ((rd_T68 l0_1 x6_1).f16.f1)) := (blk_cell BK296.out 18).trans rfl; have hcz18_19 : w17.cell? ⟨gb296, 19, none⟩ = some (.string ((rd_T68 l0_1 x6_1).f17)) := (blk_cell BK296.out 19).trans rfl; have hcz18_20 : w17.cell? ⟨gb296, 20, none⟩ = some (.int .i64 ((rd_T68 l0_1 x6_1).f18)) := (blk_cell BK296.out 20).trans rfl; have hcz18_21 : w17.cell? ⟨gb296, 21, none⟩ = some (.int .i64 ((rd_T68 l0_1 x6_1).f19)) := (blk_cell BK296.out 21).trans rfl; have hcz18_22 : w17.cell? ⟨gb296, 22, none⟩ = some (.int .i64 ((rd_T68 l0_1 x6_1).f20)) := (blk_cell BK296.out 22).trans rfl; have hcz18_23 : w17.cell? ⟨gb296, 23, none⟩ = some (.int .i64 ((rd_T68 l0_1 x6_1).f21)) := (blk_cell BK296.out 23).trans rfl; have hcz18_24 : w17.cell? ⟨gb296, 24, none⟩ = some (.int .i64 ((rd_T68 l0_1 x6_1).f22)) := (blk_cell BK296.out 24).trans rfl; have hcz18_25 : w17.cell? ⟨gb296, 25, none⟩ = some (.bool ((rd_T68 l0_1 x6_1).f23)) := (blk_cell BK296.out 25).trans rfl; have hcz18_26 : w17.cell? ⟨gb296, 26, none⟩ = some (.int .u64 ((rd_T68 l0_1 x6_1).f24)) := (blk_cell BK296.out 26).trans rfl; have hcz18_27 : w17.cell? ⟨gb296, 27, none⟩ = some (.slice A295_27 ((rd_T68 l0_1 x6_1).f25).length c295_27) := (blk_cell BK296.out 27).trans rfl; have hcz18_28 : w17.cell? ⟨gb296, 28, none⟩ = some (.int .i64 ((rd_T68 l0_1 x6_1).f26)) := (blk_cell BK296.out 28).trans rfl; have hcz18_29 : w17.cell? ⟨gb296, 29, none⟩ = some (.string ((rd_T68 l0_1 x6_1).f27)) := (blk_cell BK296.out 29).trans rfl; have hcz18_30 : w17.cell? ⟨gb296, 30, none⟩ = some (.int .i64 ((rd_T68 l0_1 x6_1).f28)) := (blk_cell BK296.out 30).trans rfl; have hcz18_31 : w17.cell? ⟨gb296, 31, none⟩ = some (.int .i64 ((rd_T68 l0_1 x6_1).f29)) := (blk_cell BK296.out 31).trans rfl; have hfz18_0 := blk_frozen BK296.out 0; have hfz18_1 := blk_frozen BK296.out 1; have hfz18_2 := blk_frozen BK296.out 2; have hfz18_3 := blk_frozen BK296.out 3; have hfz18_4 := blk_frozen BK296.out 4; have hfz18_5 := blk_frozen BK296.out 5; have hfz18_6 := blk_frozen BK296.out 6; have hfz18_7 := blk_frozen BK296.out 7; have hfz18_8 := blk_frozen BK296.out 8; have hfz18_9 := blk_frozen BK296.out 9; have hfz18_10 := blk_frozen BK296.out 10; have hfz18_11 := blk_frozen BK296.out 11; have hfz18_12 := blk_frozen BK296.out 12; have hfz18_13 := blk_frozen BK296.out 13; have hfz18_14 := blk_frozen BK296.out 14; have hfz18_15 := blk_frozen BK296.out 15; have hfz18_16 := blk_frozen BK296.out 16; have hfz18_17 := blk_frozen BK296.out 17; have hfz18_18 := blk_frozen BK296.out 18; have hfz18_19 := blk_frozen BK296.out 19; have hfz18_20 := blk_frozen BK296.out 20; have hfz18_21 := blk_frozen BK296.out 21; have hfz18_22 := blk_frozen BK296.out 22; have hfz18_23 := blk_frozen BK296.out 23; have hfz18_24 := blk_frozen BK296.out 24; have hfz18_25 := blk_frozen BK296.out 25; have hfz18_26 := blk_frozen BK296.out 26; have hfz18_27 := blk_frozen BK296.out 27; have hfz18_28 := blk_frozen BK296.out 28; have hfz18_29 := blk_frozen BK296.out 29; have hfz18_30 := blk_frozen BK296.out 30; have hfz18_31 := blk_frozen BK296.out 31))
              go_roundg k1
              case measure => have := HK1.out; omega
              case rel => exact ⟨(x5_1), (wrap64 (x6_1 + 1)), (by first | rfl | (simp; done) | (simp [*]; done)), (by first | rfl | (simp; done) | (simp [*]; done)), H', ⟨by have := HK1.out; omega⟩, ⟨by (with_reducible repeat (first | refine blk_drewN ?_ _ | refine blk_drew ?_ | refine blk_alloc ?_ _)); exact BK293.out⟩, ⟨by (with_reducible repeat (first | refine blk_drewN ?_ _ | refine blk_drew ?_ | refine blk_alloc ?_ _)); exact BK294.out⟩, ⟨by repeat (first | (with_reducible first | exact HB.out | apply below_alloc | apply pw_below_drewN | apply below_drew1 | refine below_set ?_ GE293.out | refine below_set ?_ GE294.out | refine below_set ?_ GE296.out) | exact HB.out)⟩⟩
            · replace c10 := Bool.eq_false_iff.mpr c10
              subst c10
              have H1 : ((flotillaref02_Matches.f k1 l1_27 ((rd_T68 l0_1 x6_1).f4)).bind fun t297 => (if t297 = true then (flotillaref16_Guarded.l0 k1 (wrap64 (x5_1 + 1)) (wrap64 (x6_1 + 1)) l0_0 l0_1 l0_2 l0_3 a1_0 a1_1 a1_2 a1_3 l1_4 a1_5 a1_6 a1_7 a1_8 a1_9 a1_10 a1_11 a1_12 a1_13 a1_14 a1_15 a1_16 a1_17 a1_18 a1_19 a1_20 a1_21 a1_22 a1_23 a1_24 a1_25 a1_26 l1_27 a1_28 a1_29 a1_30 a1_31) else (flotillaref16_Guarded.l0 k1 x5_1 (wrap64 (x6_1 + 1)) l0_0 l0_1 l0_2 l0_3 a1_0 a1_1 a1_2 a1_3 l1_4 a1_5 a1_6 a1_7 a1_8 a1_9 a1_10 a1_11 a1_12 a1_13 a1_14 a1_15 a1_16 a1_17 a1_18 a1_19 a1_20 a1_21 a1_22 a1_23 a1_24 a1_25 a1_26 l1_27 a1_28 a1_29 a1_30 a1_31))) = some r := by rw [if_neg (show ¬ (false = true) by decide)] at H; exact H
              clear H
              have H := H1
              clear H1
              replace H := Option.bind_eq_some_iff.mp H
              obtain ⟨t297, A190, H⟩ := H
              replace H : (if t297 = true then (flotillaref16_Guarded.l0 k1 (wrap64 (x5_1 + 1)) (wrap64 (x6_1 + 1)) l0_0 l0_1 l0_2 l0_3 a1_0 a1_1 a1_2 a1_3 l1_4 a1_5 a1_6 a1_7 a1_8 a1_9 a1_10 a1_11 a1_12 a1_13 a1_14 a1_15 a1_16 a1_17 a1_18 a1_19 a1_20 a1_21 a1_22 a1_23 a1_24 a1_25 a1_26 l1_27 a1_28 a1_29 a1_30 a1_31) else (flotillaref16_Guarded.l0 k1 x5_1 (wrap64 (x6_1 + 1)) l0_0 l0_1 l0_2 l0_3 a1_0 a1_1 a1_2 a1_3 l1_4 a1_5 a1_6 a1_7 a1_8 a1_9 a1_10 a1_11 a1_12 a1_13 a1_14 a1_15 a1_16 a1_17 a1_18 a1_19 a1_20 a1_21 a1_22 a1_23 a1_24 a1_25 a1_26 l1_27 a1_28 a1_29 a1_30 a1_31)) = some r := H
              have A19 := Aside0.mk A190
              clear A190
              by_cases c20 : t297 = true
              · subst c20
                have H1 : (flotillaref16_Guarded.l0 k1 (wrap64 (x5_1 + 1)) (wrap64 (x6_1 + 1)) l0_0 l0_1 l0_2 l0_3 a1_0 a1_1 a1_2 a1_3 l1_4 a1_5 a1_6 a1_7 a1_8 a1_9 a1_10 a1_11 a1_12 a1_13 a1_14 a1_15 a1_16 a1_17 a1_18 a1_19 a1_20 a1_21 a1_22 a1_23 a1_24 a1_25 a1_26 l1_27 a1_28 a1_29 a1_30 a1_31) = some r := by rw [if_pos rfl] at H; exact H
                clear H
                have H := H1
                clear H1
                have H' := Aside0.mk H
                clear H
                have hnb21 := NB293_294.out
                have hnc21 := NB294_293.out
                have hcz22_0 : wr.cell? ⟨gb293, 0, none⟩ = some (.slice A0_0 l0_0.length c0_0) := (blk_cell BK293.out 0).trans rfl
                have hcz22_1 : wr.cell? ⟨gb293, 1, none⟩ = some (.slice A0_1 l0_1.length c0_1) := (blk_cell BK293.out 1).trans rfl
                have hcz22_2 : wr.cell? ⟨gb293, 2, none⟩ = some (.slice A0_2 l0_2.length c0_2) := (blk_cell BK293.out 2).trans rfl
                have hcz22_3 : wr.cell? ⟨gb293, 3, none⟩ = some (.slice A0_3 l0_3.length c0_3) := (blk_cell BK293.out 3).trans rfl
                have hfz22_0 := blk_frozen BK293.out 0
                have hfz22_1 := blk_frozen BK293.out 1
                have hfz22_2 := blk_frozen BK293.out 2
                have hfz22_3 := blk_frozen BK293.out 3
                have p295 : 0 ≤ (x6_1 : Int) := of_decide_eq_true (by first | (with_reducible assumption) | assumption)
                have q295 : x6_1 < (l0_1.length : Int) := of_decide_eq_true (by first | (with_reducible assumption) | assumption)
                obtain ⟨ad295, A295_4, c295_4, A295_27, c295_27, e295, hx295_0, hx295_1, hx295_2, hx295_3, hx295_4, hx295_5, hx295_6, hx295_7, hx295_8, hx295_9, hx295_10, hx295_11, hx295_12, hx295_13, hx295_14, hx295_15, hx295_16, hx295_17, hx295_18, hx295_19, hx295_20, hx295_21, hx295_22, hx295_23, hx295_24, hx295_25, hx295_26, hx295_27, hx295_28, hx295_29, hx295_30, hx295_31, hl295_4, hi295_4, hl295_27, hi295_27⟩ := at_T68 HR0_1.out x6_1 p295 q295
                (try rw [← Nbq7.out] at hx295_7)
                (try rw [← Nbq9.out] at hx295_7)
                (try rw [← Nbq7.out] at hx295_8)
                (try rw [← Nbq9.out] at hx295_8)
                (try rw [← Nbq7.out] at hx295_9)
                (try rw [← Nbq9.out] at hx295_9)
                (try rw [← Nbq7.out] at hx295_15)
                (try rw [← Nbq9.out] at hx295_15)
                (try rw [← Nbq7.out] at hx295_16)
                (try rw [← Nbq9.out] at hx295_16)
                (try rw [← Nbq7.out] at hx295_25)
                (try rw [← Nbq9.out] at hx295_25)
                cases e295
                replace hx295_0 := (HB.out.cell (World.block_lt_of_cell? w _ hx295_0)).trans hx295_0
                replace hx295_1 := (HB.out.cell (World.block_lt_of_cell? w _ hx295_1)).trans hx295_1
                replace hx295_2 := (HB.out.cell (World.block_lt_of_cell? w _ hx295_2)).trans hx295_2
                replace hx295_3 := (HB.out.cell (World.block_lt_of_cell? w _ hx295_3)).trans hx295_3
                replace hx295_4 := (HB.out.cell (World.block_lt_of_cell? w _ hx295_4)).trans hx295_4
                replace hx295_5 := (HB.out.cell (World.block_lt_of_cell? w _ hx295_5)).trans hx295_5
                replace hx295_6 := (HB.out.cell (World.block_lt_of_cell? w _ hx295_6)).trans hx295_6
                replace hx295_7 := (HB.out.cell (World.block_lt_of_cell? w _ hx295_7)).trans hx295_7
                replace hx295_8 := (HB.out.cell (World.block_lt_of_cell? w _ hx295_8)).trans hx295_8
                replace hx295_9 := (HB.out.cell (World.block_lt_of_cell? w _ hx295_9)).trans hx295_9
                replace hx295_10 := (HB.out.cell (World.block_lt_of_cell? w _ hx295_10)).trans hx295_10
                replace hx295_11 := (HB.out.cell (World.block_lt_of_cell? w _ hx295_11)).trans hx295_11
                replace hx295_12 := (HB.out.cell (World.block_lt_of_cell? w _ hx295_12)).trans hx295_12
                replace hx295_13 := (HB.out.cell (World.block_lt_of_cell? w _ hx295_13)).trans hx295_13
                replace hx295_14 := (HB.out.cell (World.block_lt_of_cell? w _ hx295_14)).trans hx295_14
                replace hx295_15 := (HB.out.cell (World.block_lt_of_cell? w _ hx295_15)).trans hx295_15
                replace hx295_16 := (HB.out.cell (World.block_lt_of_cell? w _ hx295_16)).trans hx295_16
                replace hx295_17 := (HB.out.cell (World.block_lt_of_cell? w _ hx295_17)).trans hx295_17
                replace hx295_18 := (HB.out.cell (World.block_lt_of_cell? w _ hx295_18)).trans hx295_18
                replace hx295_19 := (HB.out.cell (World.block_lt_of_cell? w _ hx295_19)).trans hx295_19
                replace hx295_20 := (HB.out.cell (World.block_lt_of_cell? w _ hx295_20)).trans hx295_20
                replace hx295_21 := (HB.out.cell (World.block_lt_of_cell? w _ hx295_21)).trans hx295_21
                replace hx295_22 := (HB.out.cell (World.block_lt_of_cell? w _ hx295_22)).trans hx295_22
                replace hx295_23 := (HB.out.cell (World.block_lt_of_cell? w _ hx295_23)).trans hx295_23
                replace hx295_24 := (HB.out.cell (World.block_lt_of_cell? w _ hx295_24)).trans hx295_24
                replace hx295_25 := (HB.out.cell (World.block_lt_of_cell? w _ hx295_25)).trans hx295_25
                replace hx295_26 := (HB.out.cell (World.block_lt_of_cell? w _ hx295_26)).trans hx295_26
                replace hx295_27 := (HB.out.cell (World.block_lt_of_cell? w _ hx295_27)).trans hx295_27
                replace hx295_28 := (HB.out.cell (World.block_lt_of_cell? w _ hx295_28)).trans hx295_28
                replace hx295_29 := (HB.out.cell (World.block_lt_of_cell? w _ hx295_29)).trans hx295_29
                replace hx295_30 := (HB.out.cell (World.block_lt_of_cell? w _ hx295_30)).trans hx295_30
                replace hx295_31 := (HB.out.cell (World.block_lt_of_cell? w _ hx295_31)).trans hx295_31
                have HR295_4 := Aside0.mk hi295_4
                have HC295_4 := Aside0.mk hl295_4
                clear hi295_4 hl295_4
                have HR295_27 := Aside0.mk hi295_27
                have HC295_27 := Aside0.mk hl295_27
                clear hi295_27 hl295_27
                replace p295 := eq_true p295
                replace q295 := eq_true q295
                go_wp2_with (first | ((with_reducible refine gate_load (t := 68) rfl ?_); first | (refine load68_box rfl rfl rfl (by with_reducible assumption) (by with_reducible assumption) (by with_reducible assumption) (by with_reducible assumption) (by with_reducible assumption) (by with_reducible assumption) (by with_reducible assumption) (by with_reducible assumption) (by with_reducible assumption) (by with_reducible assumption) (by with_reducible assumption) (by with_reducible assumption) (by with_reducible assumption) (by with_reducible assumption) (by with_reducible assumption) (by with_reducible assumption) (by with_reducible assumption) (by with_reducible assumption) (by with_reducible assumption) (by with_reducible assumption) (by with_reducible assumption) (by with_reducible assumption) (by with_reducible assumption) (by with_reducible assumption) (by with_reducible assumption) (by with_reducible assumption) (by with_reducible assumption) (by with_reducible assumption) (by with_reducible assumption) (by with_reducible assumption) (by with_reducible assumption) (by with_reducible assumption) ?_) | (refine load68_at rfl rfl rfl (by with_reducible assumption) (by with_reducible assumption) (by with_reducible assumption) (by with_reducible assumption) (by with_reducible assumption) (by with_reducible assumption) (by with_reducible assumption) (by with_reducible assumption) (by with_reducible assumption) (by with_reducible assumption) (by with_reducible assumption) (by with_reducible assumption) (by with_reducible assumption) (by with_reducible assumption) (by with_reducible assumption) (by with_reducible assumption) (by with_reducible assumption) (by with_reducible assumption) (by with_reducible assumption) (by with_reducible assumption) (by with_reducible assumption) (by with_reducible assumption) (by with_reducible assumption) (by with_reducible assumption) (by with_reducible assumption) (by with_reducible assumption) (by with_reducible assumption) (by with_reducible assumption) (by with_reducible assumption) (by with_reducible assumption) (by with_reducible assumption) (by with_reducible assumption) ?_)) | ((with_reducible refine gate_dst (N := 7) rfl ?_); refine box_event ?hg (N := 7) ?hd (cs := #[.int .i64 0, .string (⟨#[]⟩ : ByteArray), .int .i64 0, .int .i64 0, .slice none 0 0, .int .i64 0, .int .i64 0, .bool false, .bool false, .bool false, .int .i64 0, .string (⟨#[]⟩ : ByteArray), .string (⟨#[]⟩ : ByteArray), .string (⟨#[]⟩ : ByteArray), .int .i64 0, .bool false, .bool false, .int .i64 0, .int .i64 0, .string (⟨#[]⟩ : ByteArray), .int .i64 0, .int .i64 0, .int .i64 0, .int .i64 0, .int .i64 0, .bool false, .int .u64 0, .slice none 0 0, .int .i64 0, .string (⟨#[]⟩ : ByteArray), .int .i64 0, .int .i64 0]) (t := 68) ?hr ?_; (case hd => rfl); (case hg => rfl); (case hr => first | (go_simp; done) | (go_simp; rfl)); intro gb296 hg w23 hbox hb; have n0_ := Aside0.mk (blk_below (g := gb293) (o := .cells #[.slice A0_0 l0_0.length c0_0, .slice (some ad295) l0_1.length c0_1, .slice A0_2 l0_2.length c0_2, .slice A0_3 l0_3.length c0_3] 59 (0, 0)) (by (with_reducible repeat (first | refine blk_drewN ?_ _ | refine blk_drew ?_ | refine blk_alloc ?_ _)); exact BK293.out) hb); have n1_ := Aside0.mk (blk_below (g := gb294) (o := .cells #[.int .i64 a1_0, .string a1_1, .int .i64 a1_2, .int .i64 a1_3, .slice A1_4 l1_4.length c1_4, .int .i64 a1_5, .int .i64 a1_6, .bool a1_7, .bool a1_8, .bool a1_9, .int .i64 a1_10, .string a1_11, .string a1_12, .string a1_13, .int .i64 a1_14, .bool a1_15, .bool a1_16, .int .i64 a1_17, .int .i64 a1_18, .string a1_19, .int .i64 a1_20, .int .i64 a1_21, .int .i64 a1_22, .int .i64 a1_23, .int .i64 a1_24, .bool a1_25, .int .u64 a1_26, .slice A1_27 l1_27.length c1_27, .int .i64 a1_28, .string a1_29, .int .i64 a1_30, .int .i64 a1_31] 68 (0, 0)) (by (with_reducible repeat (first | refine blk_drewN ?_ _ | refine blk_drew ?_ | refine blk_alloc ?_ _)); exact BK294.out) hb); have n2_ := Aside0.mk (below_step (by repeat (first | (with_reducible first | exact HB.out | apply below_alloc | apply pw_below_drewN | apply below_drew1 | refine below_set ?_ GE293.out | refine below_set ?_ GE294.out) | exact HB.out)) hb); have n3_ := Aside0.mk (hbox); have n4_ := Aside0.mk ((by rw [hg]; exact (below_size (by repeat (first | (with_reducible first | exact HB.out | apply below_alloc | apply pw_below_drewN | apply below_drew1 | refine below_set ?_ GE293.out | refine below_set ?_ GE294.out) | exact HB.out))) : w.heap.size ≤ gb296)); have n5_ := Aside0.mk ((by rw [hg]; exact (below_size (by repeat (first | (with_reducible first | exact HB.out | apply below_alloc | apply pw_below_drewN | apply below_drew1 | refine below_set ?_ GE293.out | refine below_set ?_ GE294.out) | exact HB.out))) : w.heap.size ≤ gb296)); have n6_ := Aside0.mk ((by rw [hg]; exact Nat.ne_of_lt (blk_lt (g := gb293) (o := .cells #[.slice A0_0 l0_0.length c0_0, .slice (some ad295) l0_1.length c0_1, .slice A0_2 l0_2.length c0_2, .slice A0_3 l0_3.length c0_3] 59 (0, 0)) (by (with_reducible repeat (first | refine blk_drewN ?_ _ | refine blk_drew ?_ | refine blk_alloc ?_ _)); exact BK293.out)) : gb293 ≠ gb296)); have n7_ := Aside0.mk ((by rw [hg]; exact Nat.ne_of_gt (blk_lt (g := gb293) (o := .cells #[.slice A0_0 l0_0.length c0_0, .slice (some ad295) l0_1.length c0_1, .slice A0_2 l0_2.length c0_2, .slice A0_3 l0_3.length c0_3] 59 (0, 0)) (by (with_reducible repeat (first | refine blk_drewN ?_ _ | refine blk_drew ?_ | refine blk_alloc ?_ _)); exact BK293.out)) : gb296 ≠ gb293)); have n8_ := Aside0.mk ((by rw [hg]; exact Nat.ne_of_lt (blk_lt (g := gb294) (o := .cells #[.int .i64 a1_0, .string a1_1, .int .i64 a1_2, .int .i64 a1_3, .slice A1_4 l1_4.length c1_4, .int .i64 a1_5, .int .i64 a1_6, .bool a1_7, .bool a1_8, .bool a1_9, .int .i64 a1_10, .string a1_11, .string a1_12, .string a1_13, .int .i64 a1_14, .bool a1_15, .bool a1_16, .int .i64 a1_17, .int .i64 a1_18, .string a1_19, .int .i64 a1_20, .int .i64 a1_21, .int .i64 a1_22, .int .i64 a1_23, .int .i64 a1_24, .bool a1_25, .int .u64 a1_26, .slice A1_27 l1_27.length c1_27, .int .i64 a1_28, .string a1_29, .int .i64 a1_30, .int .i64 a1_31] 68 (0, 0)) (by (with_reducible repeat (first | refine blk_drewN ?_ _ | refine blk_drew ?_ | refine blk_alloc ?_ _)); exact BK294.out)) : gb294 ≠ gb296)); have n9_ := Aside0.mk ((by rw [hg]; exact Nat.ne_of_gt (blk_lt (g := gb294) (o := .cells #[.int .i64 a1_0, .string a1_1, .int .i64 a1_2, .int .i64 a1_3, .slice A1_4 l1_4.length c1_4, .int .i64 a1_5, .int .i64 a1_6, .bool a1_7, .bool a1_8, .bool a1_9, .int .i64 a1_10, .string a1_11, .string a1_12, .string a1_13, .int .i64 a1_14, .bool a1_15, .bool a1_16, .int .i64 a1_17, .int .i64 a1_18, .string a1_19, .int .i64 a1_20, .int .i64 a1_21, .int .i64 a1_22, .int .i64 a1_23, .int .i64 a1_24, .bool a1_25, .int .u64 a1_26, .slice A1_27 l1_27.length c1_27, .int .i64 a1_28, .string a1_29, .int .i64 a1_30, .int .i64 a1_31] 68 (0, 0)) (by (with_reducible repeat (first | refine blk_drewN ?_ _ | refine blk_drew ?_ | refine blk_alloc ?_ _)); exact BK294.out)) : gb296 ≠ gb294)); clear BK293; clear BK294; clear HB; have BK293 := n0_; have BK294 := n1_; have HB := n2_; have BK296 := n3_; have GW296 := n4_; have GE296 := n5_; have NB293_296 := n6_; have NB296_293 := n7_; have NB294_296 := n8_; have NB296_294 := n9_; clear n0_ n1_ n2_ n3_ n4_ n5_ n6_ n7_ n8_ n9_; clear hb hbox hg; have hnb24 := NB296_293.out; have hnc24 := NB293_296.out; have hnb25 := NB296_294.out; have hnc25 := NB294_296.out; have hcz26_0 : w23.cell? ⟨gb296, 0, none⟩ = some (.int .i64 0) := (blk_cell BK296.out 0).trans rfl; have hcz26_1 : w23.cell? ⟨gb296, 1, none⟩ = some (.string (⟨#[]⟩ : ByteArray)) := (blk_cell BK296.out 1).trans rfl; have hcz26_2 : w23.cell? ⟨gb296, 2, none⟩ = some (.int .i64 0) := (blk_cell BK296.out 2).trans rfl; have hcz26_3 : w23.cell? ⟨gb296, 3, none⟩ = some (.int .i64 0) := (blk_cell BK296.out 3).trans rfl; have hcz26_4 : w23.cell? ⟨gb296, 4, none⟩ = some (.slice none 0 0) := (blk_cell BK296.out 4).trans rfl; have hcz26_5 : w23.cell? ⟨gb296, 5, none⟩ = some (.int .i64 0) := (blk_cell BK296.out 5).trans rfl; have hcz26_6 : w23.cell? ⟨gb296, 6, none⟩ = some (.int .i64 0) := (blk_cell BK296.out 6).trans rfl; have hcz26_7 : w23.cell? ⟨gb296, 7, none⟩ = some (.bool false) := (blk_cell BK296.out 7).trans rfl; have hcz26_8 : w23.cell? ⟨gb296, 8, none⟩ = some (.bool false) := (blk_cell BK296.out 8).trans rfl; have hcz26_9 : w23.cell? ⟨gb296, 9, none⟩ = some (.bool false) := (blk_cell BK296.out 9).trans rfl; have hcz26_10 : w23.cell? ⟨gb296, 10, none⟩ = some (.int .i64 0) := (blk_cell BK296.out 10).trans rfl; have hcz26_11 : w23.cell? ⟨gb296, 11, none⟩ = some (.string (⟨#[]⟩ : ByteArray)) := (blk_cell BK296.out 11).trans rfl; have hcz26_12 : w23.cell? ⟨gb296, 12, none⟩ = some (.string (⟨#[]⟩ : ByteArray)) := (blk_cell BK296.out 12).trans rfl; have hcz26_13 : w23.cell? ⟨gb296, 13, none⟩ = some (.string (⟨#[]⟩ : ByteArray)) := (blk_cell BK296.out 13).trans rfl; have hcz26_14 : w23.cell? ⟨gb296, 14, none⟩ = some (.int .i64 0) := (blk_cell BK296.out 14).trans rfl; have hcz26_15 : w23.cell? ⟨gb296, 15, none⟩ = some (.bool false) := (blk_cell BK296.out 15).trans rfl; have hcz26_16 : w23.cell? ⟨gb296, 16, none⟩ = some (.bool false) := (blk_cell BK296.out 16).trans rfl; have hcz26_17 : w23.cell? ⟨gb296, 17, none⟩ = some (.int .i64 0) := (blk_cell BK296.out 17).trans rfl; have hcz26_18 : w23.cell? ⟨gb296, 18, none⟩ = some (.int .i64 0) := (blk_cell BK296.out 18).trans rfl; have hcz26_19 : w23.cell? ⟨gb296, 19, none⟩ = some (.string (⟨#[]⟩ : ByteArray)) := (blk_cell BK296.out 19).trans rfl; have hcz26_20 : w23.cell? ⟨gb296, 20, none⟩ = some (.int .i64 0) := (blk_cell BK296.out 20).trans rfl; have hcz26_21 : w23.cell? ⟨gb296, 21, none⟩ = some (.int .i64 0) := (blk_cell BK296.out 21).trans rfl; have hcz26_22 : w23.cell? ⟨gb296, 22, none⟩ = some (.int .i64 0) := (blk_cell BK296.out 22).trans rfl; have hcz26_23 : w23.cell? ⟨gb296, 23, none⟩ = some (.int .i64 0) := (blk_cell BK296.out 23).trans rfl; have hcz26_24 : w23.cell? ⟨gb296, 24, none⟩ = some (.int .i64 0) := (blk_cell BK296.out 24).trans rfl; have hcz26_25 : w23.cell? ⟨gb296, 25, none⟩ = some (.bool false) := (blk_cell BK296.out 25).trans rfl; have hcz26_26 : w23.cell? ⟨gb296, 26, none⟩ = some (.int .u64 0) := (blk_cell BK296.out 26).trans rfl; have hcz26_27 : w23.cell? ⟨gb296, 27, none⟩ = some (.slice none 0 0) := (blk_cell BK296.out 27).trans rfl; have hcz26_28 : w23.cell? ⟨gb296, 28, none⟩ = some (.int .i64 0) := (blk_cell BK296.out 28).trans rfl; have hcz26_29 : w23.cell? ⟨gb296, 29, none⟩ = some (.string (⟨#[]⟩ : ByteArray)) := (blk_cell BK296.out 29).trans rfl; have hcz26_30 : w23.cell? ⟨gb296, 30, none⟩ = some (.int .i64 0) := (blk_cell BK296.out 30).trans rfl; have hcz26_31 : w23.cell? ⟨gb296, 31, none⟩ = some (.int .i64 0) := (blk_cell BK296.out 31).trans rfl; have hfz26_0 := blk_frozen BK296.out 0; have hfz26_1 := blk_frozen BK296.out 1; have hfz26_2 := blk_frozen BK296.out 2; have hfz26_3 := blk_frozen BK296.out 3; have hfz26_4 := blk_frozen BK296.out 4; have hfz26_5 := blk_frozen BK296.out 5; have hfz26_6 := blk_frozen BK296.out 6; have hfz26_7 := blk_frozen BK296.out 7; have hfz26_8 := blk_frozen BK296.out 8; have hfz26_9 := blk_frozen BK296.out 9; have hfz26_10 := blk_frozen BK296.out 10; have hfz26_11 := blk_frozen BK296.out 11; have hfz26_12 := blk_frozen BK296.out 12; have hfz26_13 := blk_frozen BK296.out 13; have hfz26_14 := blk_frozen BK296.out 14; have hfz26_15 := blk_frozen BK296.out 15; have hfz26_16 := blk_frozen BK296.out 16; have hfz26_17 := blk_frozen BK296.out 17; have hfz26_18 := blk_frozen BK296.out 18; have hfz26_19 := blk_frozen BK296.out 19; have hfz26_20 := blk_frozen BK296.out 20; have hfz26_21 := blk_frozen BK296.out 21; have hfz26_22 := blk_frozen BK296.out 22; have hfz26_23 := blk_frozen BK296.out 23; have hfz26_24 := blk_frozen BK296.out 24; have hfz26_25 := blk_frozen BK296.out 25; have hfz26_26 := blk_frozen BK296.out 26; have hfz26_27 := blk_frozen BK296.out 27; have hfz26_28 := blk_frozen BK296.out 28; have hfz26_29 := blk_frozen BK296.out 29; have hfz26_30 := blk_frozen BK296.out 30; have hfz26_31 := blk_frozen BK296.out 31) | ((with_reducible refine gate_store (t := 68) (p := 7) rfl ?_); refine box_store_event (t := 68) (ty := 68) (p := 7) (x := ?vo_w27) (g := gb296) (cs := #[.int .i64 0, .string (⟨#[]⟩ : ByteArray), .int .i64 0, .int .i64 0, .slice none 0 0, .int .i64 0, .int .i64 0, .bool false, .bool false, .bool false, .int .i64 0, .string (⟨#[]⟩ : ByteArray), .string (⟨#[]⟩ : ByteArray), .string (⟨#[]⟩ : ByteArray), .int .i64 0, .bool false, .bool false, .int .i64 0, .int .i64 0, .string (⟨#[]⟩ : ByteArray), .int .i64 0, .int .i64 0, .int .i64 0, .int .i64 0, .int .i64 0, .bool false, .int .u64 0, .slice none 0 0, .int .i64 0, .string (⟨#[]⟩ : ByteArray), .int .i64 0, .int .i64 0]) (cs' := #[.int .i64 ((rd_T68 l0_1 x6_1).f0), .string ((rd_T68 l0_1 x6_1).f1), .int .i64 ((rd_T68 l0_1 x6_1).f2), .int .i64 ((rd_T68 l0_1 x6_1).f3), .slice A295_4 ((rd_T68 l0_1 x6_1).f4).length c295_4, .int .i64 ((rd_T68 l0_1 x6_1).f5.f0), .int .i64 ((rd_T68 l0_1 x6_1).f5.f1), .bool ((rd_T68 l0_1 x6_1).f6), .bool ((rd_T68 l0_1 x6_1).f7), .bool ((rd_T68 l0_1 x6_1).f8), .int .i64 ((rd_T68 l0_1 x6_1).f9), .string ((rd_T68 l0_1 x6_1).f10), .string ((rd_T68 l0_1 x6_1).f11), .string ((rd_T68 l0_1 x6_1).f12), .int .i64 ((rd_T68 l0_1 x6_1).f13), .bool true, .bool false, .int .i64 ((rd_T68 l0_1 x6_1).f16.f0), .int .i64 ((rd_T68 l0_1 x6_1).f16.f1), .string ((rd_T68 l0_1 x6_1).f17), .int .i64 ((rd_T68 l0_1 x6_1).f18), .int .i64 ((rd_T68 l0_1 x6_1).f19), .int .i64 ((rd_T68 l0_1 x6_1).f20), .int .i64 ((rd_T68 l0_1 x6_1).f21), .int .i64 ((rd_T68 l0_1 x6_1).f22), .bool ((rd_T68 l0_1 x6_1).f23), .int .u64 ((rd_T68 l0_1 x6_1).f24), .slice A295_27 ((rd_T68 l0_1 x6_1).f25).length c295_27, .int .i64 ((rd_T68 l0_1 x6_1).f26), .string ((rd_T68 l0_1 x6_1).f27), .int .i64 ((rd_T68 l0_1 x6_1).f28), .int .i64 ((rd_T68 l0_1 x6_1).f29)]) ?hgd ?ho ?hN ?he ?hv ?hi ?hb ?hs ?h1 ?_; (case ho => rfl); (case hgd => rfl); (case hN => rfl); (case he => rfl); (case hv => first | rfl | (simp; done)); (case hi => exact size68); (case hb => (with_reducible repeat (first | refine blk_drewN ?_ _ | refine blk_drew ?_ | refine blk_alloc ?_ _)); exact BK296.out); (case hs => rfl); (case h1 => rfl); intro w27 hbox hg; have n0_ := Aside0.mk (blk_grown (by (with_reducible repeat (first | refine blk_drewN ?_ _ | refine blk_drew ?_ | refine blk_alloc ?_ _)); exact BK293.out) hg (fun e_ => NB293_296.out (Option.some.inj e_))); have n1_ := Aside0.mk (blk_grown (by (with_reducible repeat (first | refine blk_drewN ?_ _ | refine blk_drew ?_ | refine blk_alloc ?_ _)); exact BK294.out) hg (fun e_ => NB294_296.out (Option.some.inj e_))); have n2_ := Aside0.mk (hbox); have n3_ := Aside0.mk (Below.grown (by repeat (first | (with_reducible first | exact HB.out | apply below_alloc | apply pw_below_drewN | apply below_drew1 | refine below_set ?_ GE293.out | refine below_set ?_ GE294.out | refine below_set ?_ GE296.out) | exact HB.out)) hg (below_size (by repeat (first | (with_reducible first | exact HB.out | apply below_alloc | apply pw_below_drewN | apply below_drew1 | refine below_set ?_ GE293.out | refine below_set ?_ GE294.out | refine below_set ?_ GE296.out) | exact HB.out))) (fun k_ e_ => by injection e_ with e_; subst e_; exact GE296.out)); clear BK293; clear BK294; clear BK296; clear HB; have BK293 := n0_; have BK294 := n1_; have BK296 := n2_; have HB := n3_; clear n0_ n1_ n2_ n3_; clear hbox hg; have hcz28_0 : w27.cell? ⟨gb296, 0, none⟩ = some (.int .i64 ((rd_T68 l0_1 x6_1).f0)) := (blk_cell BK296.out 0).trans rfl; have hcz28_1 : w27.cell? ⟨gb296, 1, none⟩ = some (.string ((rd_T68 l0_1 x6_1).f1)) := (blk_cell BK296.out 1).trans rfl; have hcz28_2 : w27.cell? ⟨gb296, 2, none⟩ = some (.int .i64 ((rd_T68 l0_1 x6_1).f2)) := (blk_cell BK296.out 2).trans rfl; have hcz28_3 : w27.cell? ⟨gb296, 3, none⟩ = some (.int .i64 ((rd_T68 l0_1 x6_1).f3)) := (blk_cell BK296.out 3).trans rfl; have hcz28_4 : w27.cell? ⟨gb296, 4, none⟩ = some (.slice A295_4 ((rd_T68 l0_1 x6_1).f4).length c295_4) := (blk_cell BK296.out 4).trans rfl; have hcz28_5 : w27.cell? ⟨gb296, 5, none⟩ = some (.int .i64 ((rd_T68 l0_1 x6_1).f5.f0)) := (blk_cell BK296.out 5).trans rfl; have hcz28_6 : w27.cell? ⟨gb296, 6, none⟩ = some (.int .i64 ((rd_T68 l0_1 x6_1).f5.f1)) := (blk_cell BK296.out 6).trans rfl; have hcz28_7 : w27.cell? ⟨gb296, 7, none⟩ = some (.bool ((rd_T68 l0_1 x6_1).f6)) := (blk_cell BK296.out 7).trans rfl; have hcz28_8 : w27.cell? ⟨gb296, 8, none⟩ = some (.bool ((rd_T68 l0_1 x6_1).f7)) := (blk_cell BK296.out 8).trans rfl; have hcz28_9 : w27.cell? ⟨gb296, 9, none⟩ = some (.bool ((rd_T68 l0_1 x6_1).f8)) := (blk_cell BK296.out 9).trans rfl; have hcz28_10 : w27.cell? ⟨gb296, 10, none⟩ = some (.int .i64 ((rd_T68 l0_1 x6_1).f9)) := (blk_cell BK296.out 10).trans rfl; have hcz28_11 : w27.cell? ⟨gb296, 11, none⟩ = some (.string ((rd_T68 l0_1 x6_1).f10)) := (blk_cell BK296.out 11).trans rfl; have hcz28_12 : w27.cell? ⟨gb296, 12, none⟩ = some (.string ((rd_T68 l0_1 x6_1).f11)) := (blk_cell BK296.out 12).trans rfl; have hcz28_13 : w27.cell? ⟨gb296, 13, none⟩ = some (.string ((rd_T68 l0_1 x6_1).f12)) := (blk_cell BK296.out 13).trans rfl; have hcz28_14 : w27.cell? ⟨gb296, 14, none⟩ = some (.int .i64 ((rd_T68 l0_1 x6_1).f13)) := (blk_cell BK296.out 14).trans rfl; have hcz28_15 : w27.cell? ⟨gb296, 15, none⟩ = some (.bool true) := (blk_cell BK296.out 15).trans rfl; have hcz28_16 : w27.cell? ⟨gb296, 16, none⟩ = some (.bool false) := (blk_cell BK296.out 16).trans rfl; have hcz28_17 : w27.cell? ⟨gb296, 17, none⟩ = some (.int .i64 ((rd_T68 l0_1 x6_1).f16.f0)) := (blk_cell BK296.out 17).trans rfl; have hcz28_18 : w27.cell? ⟨gb296, 18, none⟩ = some (.int .i64 ((rd_T68 l0_1 x6_1).f16.f1)) := (blk_cell BK296.out 18).trans rfl; have hcz28_19 : w27.cell? ⟨gb296, 19, none⟩ = some (.string ((rd_T68 l0_1 x6_1).f17)) := (blk_cell BK296.out 19).trans rfl; have hcz28_20 : w27.cell? ⟨gb296, 20, none⟩ = some (.int .i64 ((rd_T68 l0_1 x6_1).f18)) := (blk_cell BK296.out 20).trans rfl; have hcz28_21 : w27.cell? ⟨gb296, 21, none⟩ = some (.int .i64 ((rd_T68 l0_1 x6_1).f19)) := (blk_cell BK296.out 21).trans rfl; have hcz28_22 : w27.cell? ⟨gb296, 22, none⟩ = some (.int .i64 ((rd_T68 l0_1 x6_1).f20)) := (blk_cell BK296.out 22).trans rfl; have hcz28_23 : w27.cell? ⟨gb296, 23, none⟩ = some (.int .i64 ((rd_T68 l0_1 x6_1).f21)) := (blk_cell BK296.out 23).trans rfl; have hcz28_24 : w27.cell? ⟨gb296, 24, none⟩ = some (.int .i64 ((rd_T68 l0_1 x6_1).f22)) := (blk_cell BK296.out 24).trans rfl; have hcz28_25 : w27.cell? ⟨gb296, 25, none⟩ = some (.bool ((rd_T68 l0_1 x6_1).f23)) := (blk_cell BK296.out 25).trans rfl; have hcz28_26 : w27.cell? ⟨gb296, 26, none⟩ = some (.int .u64 ((rd_T68 l0_1 x6_1).f24)) := (blk_cell BK296.out 26).trans rfl; have hcz28_27 : w27.cell? ⟨gb296, 27, none⟩ = some (.slice A295_27 ((rd_T68 l0_1 x6_1).f25).length c295_27) := (blk_cell BK296.out 27).trans rfl; have hcz28_28 : w27.cell? ⟨gb296, 28, none⟩ = some (.int .i64 ((rd_T68 l0_1 x6_1).f26)) := (blk_cell BK296.out 28).trans rfl; have hcz28_29 : w27.cell? ⟨gb296, 29, none⟩ = some (.string ((rd_T68 l0_1 x6_1).f27)) := (blk_cell BK296.out 29).trans rfl; have hcz28_30 : w27.cell? ⟨gb296, 30, none⟩ = some (.int .i64 ((rd_T68 l0_1 x6_1).f28)) := (blk_cell BK296.out 30).trans rfl; have hcz28_31 : w27.cell? ⟨gb296, 31, none⟩ = some (.int .i64 ((rd_T68 l0_1 x6_1).f29)) := (blk_cell BK296.out 31).trans rfl; have hfz28_0 := blk_frozen BK296.out 0; have hfz28_1 := blk_frozen BK296.out 1; have hfz28_2 := blk_frozen BK296.out 2; have hfz28_3 := blk_frozen BK296.out 3; have hfz28_4 := blk_frozen BK296.out 4; have hfz28_5 := blk_frozen BK296.out 5; have hfz28_6 := blk_frozen BK296.out 6; have hfz28_7 := blk_frozen BK296.out 7; have hfz28_8 := blk_frozen BK296.out 8; have hfz28_9 := blk_frozen BK296.out 9; have hfz28_10 := blk_frozen BK296.out 10; have hfz28_11 := blk_frozen BK296.out 11; have hfz28_12 := blk_frozen BK296.out 12; have hfz28_13 := blk_frozen BK296.out 13; have hfz28_14 := blk_frozen BK296.out 14; have hfz28_15 := blk_frozen BK296.out 15; have hfz28_16 := blk_frozen BK296.out 16; have hfz28_17 := blk_frozen BK296.out 17; have hfz28_18 := blk_frozen BK296.out 18; have hfz28_19 := blk_frozen BK296.out 19; have hfz28_20 := blk_frozen BK296.out 20; have hfz28_21 := blk_frozen BK296.out 21; have hfz28_22 := blk_frozen BK296.out 22; have hfz28_23 := blk_frozen BK296.out 23; have hfz28_24 := blk_frozen BK296.out 24; have hfz28_25 := blk_frozen BK296.out 25; have hfz28_26 := blk_frozen BK296.out 26; have hfz28_27 := blk_frozen BK296.out 27; have hfz28_28 := blk_frozen BK296.out 28; have hfz28_29 := blk_frozen BK296.out 29; have hfz28_30 := blk_frozen BK296.out 30; have hfz28_31 := blk_frozen BK296.out 31; have hcz29_0 : w27.cell? ⟨gb294, 0, none⟩ = some (.int .i64 a1_0) := (blk_cell BK294.out 0).trans rfl; have hcz29_1 : w27.cell? ⟨gb294, 1, none⟩ = some (.string a1_1) := (blk_cell BK294.out 1).trans rfl; have hcz29_2 : w27.cell? ⟨gb294, 2, none⟩ = some (.int .i64 a1_2) := (blk_cell BK294.out 2).trans rfl; have hcz29_3 : w27.cell? ⟨gb294, 3, none⟩ = some (.int .i64 a1_3) := (blk_cell BK294.out 3).trans rfl; have hcz29_4 : w27.cell? ⟨gb294, 4, none⟩ = some (.slice A1_4 l1_4.length c1_4) := (blk_cell BK294.out 4).trans rfl; have hcz29_5 : w27.cell? ⟨gb294, 5, none⟩ = some (.int .i64 a1_5) := (blk_cell BK294.out 5).trans rfl; have hcz29_6 : w27.cell? ⟨gb294, 6, none⟩ = some (.int .i64 a1_6) := (blk_cell BK294.out 6).trans rfl; have hcz29_7 : w27.cell? ⟨gb294, 7, none⟩ = some (.bool a1_7) := (blk_cell BK294.out 7).trans rfl; have hcz29_8 : w27.cell? ⟨gb294, 8, none⟩ = some (.bool a1_8) := (blk_cell BK294.out 8).trans rfl; have hcz29_9 : w27.cell? ⟨gb294, 9, none⟩ = some (.bool a1_9) := (blk_cell BK294.out 9).trans rfl; have hcz29_10 : w27.cell? ⟨gb294, 10, none⟩ = some (.int .i64 a1_10) := (blk_cell BK294.out 10).trans rfl; have hcz29_11 : w27.cell? ⟨gb294, 11, none⟩ = some (.string a1_11) := (blk_cell BK294.out 11).trans rfl; have hcz29_12 : w27.cell? ⟨gb294, 12, none⟩ = some (.string a1_12) := (blk_cell BK294.out 12).trans rfl; have hcz29_13 : w27.cell? ⟨gb294, 13, none⟩ = some (.string a1_13) := (blk_cell BK294.out 13).trans rfl; have hcz29_14 : w27.cell? ⟨gb294, 14, none⟩ = some (.int .i64 a1_14) := (blk_cell BK294.out 14).trans rfl; have hcz29_15 : w27.cell? ⟨gb294, 15, none⟩ = some (.bool a1_15) := (blk_cell BK294.out 15).trans rfl; have hcz29_16 : w27.cell? ⟨gb294, 16, none⟩ = some (.bool a1_16) := (blk_cell BK294.out 16).trans rfl; have hcz29_17 : w27.cell? ⟨gb294, 17, none⟩ = some (.int .i64 a1_17) := (blk_cell BK294.out 17).trans rfl; have hcz29_18 : w27.cell? ⟨gb294, 18, none⟩ = some (.int .i64 a1_18) := (blk_cell BK294.out 18).trans rfl; have hcz29_19 : w27.cell? ⟨gb294, 19, none⟩ = some (.string a1_19) := (blk_cell BK294.out 19).trans rfl; have hcz29_20 : w27.cell? ⟨gb294, 20, none⟩ = some (.int .i64 a1_20) := (blk_cell BK294.out 20).trans rfl; have hcz29_21 : w27.cell? ⟨gb294, 21, none⟩ = some (.int .i64 a1_21) := (blk_cell BK294.out 21).trans rfl; have hcz29_22 : w27.cell? ⟨gb294, 22, none⟩ = some (.int .i64 a1_22) := (blk_cell BK294.out 22).trans rfl; have hcz29_23 : w27.cell? ⟨gb294, 23, none⟩ = some (.int .i64 a1_23) := (blk_cell BK294.out 23).trans rfl; have hcz29_24 : w27.cell? ⟨gb294, 24, none⟩ = some (.int .i64 a1_24) := (blk_cell BK294.out 24).trans rfl; have hcz29_25 : w27.cell? ⟨gb294, 25, none⟩ = some (.bool a1_25) := (blk_cell BK294.out 25).trans rfl; have hcz29_26 : w27.cell? ⟨gb294, 26, none⟩ = some (.int .u64 a1_26) := (blk_cell BK294.out 26).trans rfl; have hcz29_27 : w27.cell? ⟨gb294, 27, none⟩ = some (.slice A1_27 l1_27.length c1_27) := (blk_cell BK294.out 27).trans rfl; have hcz29_28 : w27.cell? ⟨gb294, 28, none⟩ = some (.int .i64 a1_28) := (blk_cell BK294.out 28).trans rfl; have hcz29_29 : w27.cell? ⟨gb294, 29, none⟩ = some (.string a1_29) := (blk_cell BK294.out 29).trans rfl; have hcz29_30 : w27.cell? ⟨gb294, 30, none⟩ = some (.int .i64 a1_30) := (blk_cell BK294.out 30).trans rfl; have hcz29_31 : w27.cell? ⟨gb294, 31, none⟩ = some (.int .i64 a1_31) := (blk_cell BK294.out 31).trans rfl; have hfz29_0 := blk_frozen BK294.out 0; have hfz29_1 := blk_frozen BK294.out 1; have hfz29_2 := blk_frozen BK294.out 2; have hfz29_3 := blk_frozen BK294.out 3; have hfz29_4 := blk_frozen BK294.out 4; have hfz29_5 := blk_frozen BK294.out 5; have hfz29_6 := blk_frozen BK294.out 6; have hfz29_7 := blk_frozen BK294.out 7; have hfz29_8 := blk_frozen BK294.out 8; have hfz29_9 := blk_frozen BK294.out 9; have hfz29_10 := blk_frozen BK294.out 10; have hfz29_11 := blk_frozen BK294.out 11; have hfz29_12 := blk_frozen BK294.out 12; have hfz29_13 := blk_frozen BK294.out 13; have hfz29_14 := blk_frozen BK294.out 14; have hfz29_15 := blk_frozen BK294.out 15; have hfz29_16 := blk_frozen BK294.out 16; have hfz29_17 := blk_frozen BK294.out 17; have hfz29_18 := blk_frozen BK294.out 18; have hfz29_19 := blk_frozen BK294.out 19; have hfz29_20 := blk_frozen BK294.out 20; have hfz29_21 := blk_frozen BK294.out 21; have hfz29_22 := blk_frozen BK294.out 22; have hfz29_23 := blk_frozen BK294.out 23; have hfz29_24 := blk_frozen BK294.out 24; have hfz29_25 := blk_frozen BK294.out 25; have hfz29_26 := blk_frozen BK294.out 26; have hfz29_27 := blk_frozen BK294.out 27; have hfz29_28 := blk_frozen BK294.out 28; have hfz29_29 := blk_frozen BK294.out 29; have hfz29_30 := blk_frozen BK294.out 30; have hfz29_31 := blk_frozen BK294.out 31) | (go_at_call 16; (with_reducible refine (flotillaref02_Matches.calls k1 _ _ l1_27 _ _ ((rd_T68 l0_1 x6_1).f4) true _ ?side1 ?side2 ?side3 ?side4 A19.out).mono ?_); (case side1 => repeat (first | exact (Kd.C_below HR1_27.out HB.out) | (with_reducible refine Kd.C_alloc ?_ _) | (with_reducible refine Kd.C_drewN ?_ _) | (with_reducible refine Kd.C_drew ?_))); (case side2 => exact HC1_27.out); (case side3 => repeat (first | exact (Kd.C_below HR295_4.out HB.out) | (with_reducible refine Kd.C_alloc ?_ _) | (with_reducible refine Kd.C_drewN ?_ _) | (with_reducible refine Kd.C_drew ?_))); (case side4 => exact HC295_4.out); rintro e w30 ⟨rfl, hb⟩; have n0_ := Aside0.mk (blk_below (g := gb293) (o := .cells #[.slice A0_0 l0_0.length c0_0, .slice (some ad295) l0_1.length c0_1, .slice A0_2 l0_2.length c0_2, .slice A0_3 l0_3.length c0_3] 59 (0, 0)) (by (with_reducible repeat (first | refine blk_drewN ?_ _ | refine blk_drew ?_ | refine blk_alloc ?_ _)); exact BK293.out) hb); have n1_ := Aside0.mk (blk_below (g := gb294) (o := .cells #[.int .i64 a1_0, .string a1_1, .int .i64 a1_2, .int .i64 a1_3, .slice A1_4 l1_4.length c1_4, .int .i64 a1_5, .int .i64 a1_6, .bool a1_7, .bool a1_8, .bool a1_9, .int .i64 a1_10, .string a1_11, .string a1_12, .string a1_13, .int .i64 a1_14, .bool a1_15, .bool a1_16, .int .i64 a1_17, .int .i64 a1_18, .string a1_19, .int .i64 a1_20, .int .i64 a1_21, .int .i64 a1_22, .int .i64 a1_23, .int .i64 a1_24, .bool a1_25, .int .u64 a1_26, .slice A1_27 l1_27.length c1_27, .int .i64 a1_28, .string a1_29, .int .i64 a1_30, .int .i64 a1_31] 68 (0, 0)) (by (with_reducible repeat (first | refine blk_drewN ?_ _ | refine blk_drew ?_ | refine blk_alloc ?_ _)); exact BK294.out) hb); have n2_ := Aside0.mk (blk_below (g := gb296) (o := .cells #[.int .i64 ((rd_T68 l0_1 x6_1).f0), .string ((rd_T68 l0_1 x6_1).f1), .int .i64 ((rd_T68 l0_1 x6_1).f2), .int .i64 ((rd_T68 l0_1 x6_1).f3), .slice A295_4 ((rd_T68 l0_1 x6_1).f4).length c295_4, .int .i64 ((rd_T68 l0_1 x6_1).f5.f0), .int .i64 ((rd_T68 l0_1 x6_1).f5.f1), .bool ((rd_T68 l0_1 x6_1).f6), .bool ((rd_T68 l0_1 x6_1).f7), .bool ((rd_T68 l0_1 x6_1).f8), .int .i64 ((rd_T68 l0_1 x6_1).f9), .string ((rd_T68 l0_1 x6_1).f10), .string ((rd_T68 l0_1 x6_1).f11), .string ((rd_T68 l0_1 x6_1).f12), .int .i64 ((rd_T68 l0_1 x6_1).f13), .bool true, .bool false, .int .i64 ((rd_T68 l0_1 x6_1).f16.f0), .int .i64 ((rd_T68 l0_1 x6_1).f16.f1), .string ((rd_T68 l0_1 x6_1).f17), .int .i64 ((rd_T68 l0_1 x6_1).f18), .int .i64 ((rd_T68 l0_1 x6_1).f19), .int .i64 ((rd_T68 l0_1 x6_1).f20), .int .i64 ((rd_T68 l0_1 x6_1).f21), .int .i64 ((rd_T68 l0_1 x6_1).f22), .bool ((rd_T68 l0_1 x6_1).f23), .int .u64 ((rd_T68 l0_1 x6_1).f24), .slice A295_27 ((rd_T68 l0_1 x6_1).f25).length c295_27, .int .i64 ((rd_T68 l0_1 x6_1).f26), .string ((rd_T68 l0_1 x6_1).f27), .int .i64 ((rd_T68 l0_1 x6_1).f28), .int .i64 ((rd_T68 l0_1 x6_1).f29)] 68 (0, 0)) (by (with_reducible repeat (first | refine blk_drewN ?_ _ | refine blk_drew ?_ | refine blk_alloc ?_ _)); exact BK296.out) hb); have n3_ := Aside0.mk (below_step (by repeat (first | (with_reducible first | exact HB.out | apply below_alloc | apply pw_below_drewN | apply below_drew1 | refine below_set ?_ GE293.out | refine below_set ?_ GE294.out | refine below_set ?_ GE296.out) | exact HB.out)) hb); clear BK293; clear BK294; clear BK296; clear HB; have BK293 := n0_; have BK294 := n1_; have BK296 := n2_; have HB := n3_; clear n0_ n1_ n2_ n3_; (try clear hb); (try clear hb2); (try clear hk); (try clear hi)))
                go_roundg k1
                case measure => have := HK1.out; omega
                case rel => exact ⟨(wrap64 (x5_1 + 1)), (wrap64 (x6_1 + 1)), (by first | rfl | (simp; done) | (simp [*]; done)), (by first | rfl | (simp; done) | (simp [*]; done)), H', ⟨by have := HK1.out; omega⟩, ⟨by (with_reducible repeat (first | refine blk_drewN ?_ _ | refine blk_drew ?_ | refine blk_alloc ?_ _)); exact BK293.out⟩, ⟨by (with_reducible repeat (first | refine blk_drewN ?_ _ | refine blk_drew ?_ | refine blk_alloc ?_ _)); exact BK294.out⟩, ⟨by repeat (first | (with_reducible first | exact HB.out | apply below_alloc | apply pw_below_drewN | apply below_drew1 | refine below_set ?_ GE293.out | refine below_set ?_ GE294.out | refine below_set ?_ GE296.out) | exact HB.out)⟩⟩
              · replace c20 := Bool.eq_false_iff.mpr c20
                subst c20
                have H1 : (flotillaref16_Guarded.l0 k1 x5_1 (wrap64 (x6_1 + 1)) l0_0 l0_1 l0_2 l0_3 a1_0 a1_1 a1_2 a1_3 l1_4 a1_5 a1_6 a1_7 a1_8 a1_9 a1_10 a1_11 a1_12 a1_13 a1_14 a1_15 a1_16 a1_17 a1_18 a1_19 a1_20 a1_21 a1_22 a1_23 a1_24 a1_25 a1_26 l1_27 a1_28 a1_29 a1_30 a1_31) = some r := by rw [if_neg (show ¬ (false = true) by decide)] at H; exact H
                clear H
                have H := H1
                clear H1
                have H' := Aside0.mk H
                clear H
                have hnb31 := NB293_294.out
                have hnc31 := NB294_293.out
                have hcz32_0 : wr.cell? ⟨gb293, 0, none⟩ = some (.slice A0_0 l0_0.length c0_0) := (blk_cell BK293.out 0).trans rfl
                have hcz32_1 : wr.cell? ⟨gb293, 1, none⟩ = some (.slice A0_1 l0_1.length c0_1) := (blk_cell BK293.out 1).trans rfl
                have hcz32_2 : wr.cell? ⟨gb293, 2, none⟩ = some (.slice A0_2 l0_2.length c0_2) := (blk_cell BK293.out 2).trans rfl
                have hcz32_3 : wr.cell? ⟨gb293, 3, none⟩ = some (.slice A0_3 l0_3.length c0_3) := (blk_cell BK293.out 3).trans rfl
                have hfz32_0 := blk_frozen BK293.out 0
                have hfz32_1 := blk_frozen BK293.out 1
                have hfz32_2 := blk_frozen BK293.out 2
                have hfz32_3 := blk_frozen BK293.out 3
                have p295 : 0 ≤ (x6_1 : Int) := of_decide_eq_true (by first | (with_reducible assumption) | assumption)
                have q295 : x6_1 < (l0_1.length : Int) := of_decide_eq_true (by first | (with_reducible assumption) | assumption)
                obtain ⟨ad295, A295_4, c295_4, A295_27, c295_27, e295, hx295_0, hx295_1, hx295_2, hx295_3, hx295_4, hx295_5, hx295_6, hx295_7, hx295_8, hx295_9, hx295_10, hx295_11, hx295_12, hx295_13, hx295_14, hx295_15, hx295_16, hx295_17, hx295_18, hx295_19, hx295_20, hx295_21, hx295_22, hx295_23, hx295_24, hx295_25, hx295_26, hx295_27, hx295_28, hx295_29, hx295_30, hx295_31, hl295_4, hi295_4, hl295_27, hi295_27⟩ := at_T68 HR0_1.out x6_1 p295 q295
                (try rw [← Nbq7.out] at hx295_7)
                (try rw [← Nbq9.out] at hx295_7)
                (try rw [← Nbq7.out] at hx295_8)
                (try rw [← Nbq9.out] at hx295_8)
                (try rw [← Nbq7.out] at hx295_9)
                (try rw [← Nbq9.out] at hx295_9)
                (try rw [← Nbq7.out] at hx295_15)
                (try rw [← Nbq9.out] at hx295_15)
                (try rw [← Nbq7.out] at hx295_16)
                (try rw [← Nbq9.out] at hx295_16)
                (try rw [← Nbq7.out] at hx295_25)
                (try rw [← Nbq9.out] at hx295_25)
                cases e295
                replace hx295_0 := (HB.out.cell (World.block_lt_of_cell? w _ hx295_0)).trans hx295_0
                replace hx295_1 := (HB.out.cell (World.block_lt_of_cell? w _ hx295_1)).trans hx295_1
                replace hx295_2 := (HB.out.cell (World.block_lt_of_cell? w _ hx295_2)).trans hx295_2
                replace hx295_3 := (HB.out.cell (World.block_lt_of_cell? w _ hx295_3)).trans hx295_3
                replace hx295_4 := (HB.out.cell (World.block_lt_of_cell? w _ hx295_4)).trans hx295_4
                replace hx295_5 := (HB.out.cell (World.block_lt_of_cell? w _ hx295_5)).trans hx295_5
                replace hx295_6 := (HB.out.cell (World.block_lt_of_cell? w _ hx295_6)).trans hx295_6
                replace hx295_7 := (HB.out.cell (World.block_lt_of_cell? w _ hx295_7)).trans hx295_7
                replace hx295_8 := (HB.out.cell (World.block_lt_of_cell? w _ hx295_8)).trans hx295_8
                replace hx295_9 := (HB.out.cell (World.block_lt_of_cell? w _ hx295_9)).trans hx295_9
                replace hx295_10 := (HB.out.cell (World.block_lt_of_cell? w _ hx295_10)).trans hx295_10
                replace hx295_11 := (HB.out.cell (World.block_lt_of_cell? w _ hx295_11)).trans hx295_11
                replace hx295_12 := (HB.out.cell (World.block_lt_of_cell? w _ hx295_12)).trans hx295_12
                replace hx295_13 := (HB.out.cell (World.block_lt_of_cell? w _ hx295_13)).trans hx295_13
                replace hx295_14 := (HB.out.cell (World.block_lt_of_cell? w _ hx295_14)).trans hx295_14
                replace hx295_15 := (HB.out.cell (World.block_lt_of_cell? w _ hx295_15)).trans hx295_15
                replace hx295_16 := (HB.out.cell (World.block_lt_of_cell? w _ hx295_16)).trans hx295_16
                replace hx295_17 := (HB.out.cell (World.block_lt_of_cell? w _ hx295_17)).trans hx295_17
                replace hx295_18 := (HB.out.cell (World.block_lt_of_cell? w _ hx295_18)).trans hx295_18
                replace hx295_19 := (HB.out.cell (World.block_lt_of_cell? w _ hx295_19)).trans hx295_19
                replace hx295_20 := (HB.out.cell (World.block_lt_of_cell? w _ hx295_20)).trans hx295_20
                replace hx295_21 := (HB.out.cell (World.block_lt_of_cell? w _ hx295_21)).trans hx295_21
                replace hx295_22 := (HB.out.cell (World.block_lt_of_cell? w _ hx295_22)).trans hx295_22
                replace hx295_23 := (HB.out.cell (World.block_lt_of_cell? w _ hx295_23)).trans hx295_23
                replace hx295_24 := (HB.out.cell (World.block_lt_of_cell? w _ hx295_24)).trans hx295_24
                replace hx295_25 := (HB.out.cell (World.block_lt_of_cell? w _ hx295_25)).trans hx295_25
                replace hx295_26 := (HB.out.cell (World.block_lt_of_cell? w _ hx295_26)).trans hx295_26
                replace hx295_27 := (HB.out.cell (World.block_lt_of_cell? w _ hx295_27)).trans hx295_27
                replace hx295_28 := (HB.out.cell (World.block_lt_of_cell? w _ hx295_28)).trans hx295_28
                replace hx295_29 := (HB.out.cell (World.block_lt_of_cell? w _ hx295_29)).trans hx295_29
                replace hx295_30 := (HB.out.cell (World.block_lt_of_cell? w _ hx295_30)).trans hx295_30
                replace hx295_31 := (HB.out.cell (World.block_lt_of_cell? w _ hx295_31)).trans hx295_31
                have HR295_4 := Aside0.mk hi295_4
                have HC295_4 := Aside0.mk hl295_4
                clear hi295_4 hl295_4
                have HR295_27 := Aside0.mk hi295_27
                have HC295_27 := Aside0.mk hl295_27
                clear hi295_27 hl295_27
                replace p295 := eq_true p295
                replace q295 := eq_true q295
                go_wp2_with (first | ((with_reducible refine gate_load (t := 68) rfl ?_); first | (refine load68_box rfl rfl rfl (by with_reducible assumption) (by with_reducible assumption) (by with_reducible assumption) (by with_reducible assumption) (by with_reducible assumption) (by with_reducible assumption) (by with_reducible assumption) (by with_reducible assumption) (by with_reducible assumption) (by with_reducible assumption) (by with_reducible assumption) (by with_reducible assumption) (by with_reducible assumption) (by with_reducible assumption) (by with_reducible assumption) (by with_reducible assumption) (by with_reducible assumption) (by with_reducible assumption) (by with_reducible assumption) (by with_reducible assumption) (by with_reducible assumption) (by with_reducible assumption) (by with_reducible assumption) (by with_reducible assumption) (by with_reducible assumption) (by with_reducible assumption) (by with_reducible assumption) (by with_reducible assumption) (by with_reducible assumption) (by with_reducible assumption) (by with_reducible assumption) (by with_reducible assumption) ?_) | (refine load68_at rfl rfl rfl (by with_reducible assumption) (by with_reducible assumption) (by with_reducible assumption) (by with_reducible assumption) (by with_reducible assumption) (by with_reducible assumption) (by with_reducible assumption) (by with_reducible assumption) (by with_reducible assumption) (by with_reducible assumption) (by with_reducible assumption) (by with_reducible assumption) (by with_reducible assumption) (by with_reducible assumption) (by with_reducible assumption) (by with_reducible assumption) (by with_reducible assumption) (by with_reducible assumption) (by with_reducible assumption) (by with_reducible assumption) (by with_reducible assumption) (by with_reducible assumption) (by with_reducible assumption) (by with_reducible assumption) (by with_reducible assumption) (by with_reducible assumption) (by with_reducible assumption) (by with_reducible assumption) (by with_reducible assumption) (by with_reducible assumption) (by with_reducible assumption) (by with_reducible assumption) ?_)) | ((with_reducible refine gate_dst (N := 7) rfl ?_); refine box_event ?hg (N := 7) ?hd (cs := #[.int .i64 0, .string (⟨#[]⟩ : ByteArray), .int .i64 0, .int .i64 0, .slice none 0 0, .int .i64 0, .int .i64 0, .bool false, .bool false, .bool false, .int .i64 0, .string (⟨#[]⟩ : ByteArray), .string (⟨#[]⟩ : ByteArray), .string (⟨#[]⟩ : ByteArray), .int .i64 0, .bool false, .bool false, .int .i64 0, .int .i64 0, .string (⟨#[]⟩ : ByteArray), .int .i64 0, .int .i64 0, .int .i64 0, .int .i64 0, .int .i64 0, .bool false, .int .u64 0, .slice none 0 0, .int .i64 0, .string (⟨#[]⟩ : ByteArray), .int .i64 0, .int .i64 0]) (t := 68) ?hr ?_; (case hd => rfl); (case hg => rfl); (case hr => first | (go_simp; done) | (go_simp; rfl)); intro gb296 hg w33 hbox hb; have n0_ := Aside0.mk (blk_below (g := gb293) (o := .cells #[.slice A0_0 l0_0.length c0_0, .slice (some ad295) l0_1.length c0_1, .slice A0_2 l0_2.length c0_2, .slice A0_3 l0_3.length c0_3] 59 (0, 0)) (by (with_reducible repeat (first | refine blk_drewN ?_ _ | refine blk_drew ?_ | refine blk_alloc ?_ _)); exact BK293.out) hb); have n1_ := Aside0.mk (blk_below (g := gb294) (o := .cells #[.int .i64 a1_0, .string a1_1, .int .i64 a1_2, .int .i64 a1_3, .slice A1_4 l1_4.length c1_4, .int .i64 a1_5, .int .i64 a1_6, .bool a1_7, .bool a1_8, .bool a1_9, .int .i64 a1_10, .string a1_11, .string a1_12, .string a1_13, .int .i64 a1_14, .bool a1_15, .bool a1_16, .int .i64 a1_17, .int .i64 a1_18, .string a1_19, .int .i64 a1_20, .int .i64 a1_21, .int .i64 a1_22, .int .i64 a1_23, .int .i64 a1_24, .bool a1_25, .int .u64 a1_26, .slice A1_27 l1_27.length c1_27, .int .i64 a1_28, .string a1_29, .int .i64 a1_30, .int .i64 a1_31] 68 (0, 0)) (by (with_reducible repeat (first | refine blk_drewN ?_ _ | refine blk_drew ?_ | refine blk_alloc ?_ _)); exact BK294.out) hb); have n2_ := Aside0.mk (below_step (by repeat (first | (with_reducible first | exact HB.out | apply below_alloc | apply pw_below_drewN | apply below_drew1 | refine below_set ?_ GE293.out | refine below_set ?_ GE294.out) | exact HB.out)) hb); have n3_ := Aside0.mk (hbox); have n4_ := Aside0.mk ((by rw [hg]; exact (below_size (by repeat (first | (with_reducible first | exact HB.out | apply below_alloc | apply pw_below_drewN | apply below_drew1 | refine below_set ?_ GE293.out | refine below_set ?_ GE294.out) | exact HB.out))) : w.heap.size ≤ gb296)); have n5_ := Aside0.mk ((by rw [hg]; exact (below_size (by repeat (first | (with_reducible first | exact HB.out | apply below_alloc | apply pw_below_drewN | apply below_drew1 | refine below_set ?_ GE293.out | refine below_set ?_ GE294.out) | exact HB.out))) : w.heap.size ≤ gb296)); have n6_ := Aside0.mk ((by rw [hg]; exact Nat.ne_of_lt (blk_lt (g := gb293) (o := .cells #[.slice A0_0 l0_0.length c0_0, .slice (some ad295) l0_1.length c0_1, .slice A0_2 l0_2.length c0_2, .slice A0_3 l0_3.length c0_3] 59 (0, 0)) (by (with_reducible repeat (first | refine blk_drewN ?_ _ | refine blk_drew ?_ | refine blk_alloc ?_ _)); exact BK293.out)) : gb293 ≠ gb296)); have n7_ := Aside0.mk ((by rw [hg]; exact Nat.ne_of_gt (blk_lt (g := gb293) (o := .cells #[.slice A0_0 l0_0.length c0_0, .slice (some ad295) l0_1.length c0_1, .slice A0_2 l0_2.length c0_2, .slice A0_3 l0_3.length c0_3] 59 (0, 0)) (by (with_reducible repeat (first | refine blk_drewN ?_ _ | refine blk_drew ?_ | refine blk_alloc ?_ _)); exact BK293.out)) : gb296 ≠ gb293)); have n8_ := Aside0.mk ((by rw [hg]; exact Nat.ne_of_lt (blk_lt (g := gb294) (o := .cells #[.int .i64 a1_0, .string a1_1, .int .i64 a1_2, .int .i64 a1_3, .slice A1_4 l1_4.length c1_4, .int .i64 a1_5, .int .i64 a1_6, .bool a1_7, .bool a1_8, .bool a1_9, .int .i64 a1_10, .string a1_11, .string a1_12, .string a1_13, .int .i64 a1_14, .bool a1_15, .bool a1_16, .int .i64 a1_17, .int .i64 a1_18, .string a1_19, .int .i64 a1_20, .int .i64 a1_21, .int .i64 a1_22, .int .i64 a1_23, .int .i64 a1_24, .bool a1_25, .int .u64 a1_26, .slice A1_27 l1_27.length c1_27, .int .i64 a1_28, .string a1_29, .int .i64 a1_30, .int .i64 a1_31] 68 (0, 0)) (by (with_reducible repeat (first | refine blk_drewN ?_ _ | refine blk_drew ?_ | refine blk_alloc ?_ _)); exact BK294.out)) : gb294 ≠ gb296)); have n9_ := Aside0.mk ((by rw [hg]; exact Nat.ne_of_gt (blk_lt (g := gb294) (o := .cells #[.int .i64 a1_0, .string a1_1, .int .i64 a1_2, .int .i64 a1_3, .slice A1_4 l1_4.length c1_4, .int .i64 a1_5, .int .i64 a1_6, .bool a1_7, .bool a1_8, .bool a1_9, .int .i64 a1_10, .string a1_11, .string a1_12, .string a1_13, .int .i64 a1_14, .bool a1_15, .bool a1_16, .int .i64 a1_17, .int .i64 a1_18, .string a1_19, .int .i64 a1_20, .int .i64 a1_21, .int .i64 a1_22, .int .i64 a1_23, .int .i64 a1_24, .bool a1_25, .int .u64 a1_26, .slice A1_27 l1_27.length c1_27, .int .i64 a1_28, .string a1_29, .int .i64 a1_30, .int .i64 a1_31] 68 (0, 0)) (by (with_reducible repeat (first | refine blk_drewN ?_ _ | refine blk_drew ?_ | refine blk_alloc ?_ _)); exact BK294.out)) : gb296 ≠ gb294)); clear BK293; clear BK294; clear HB; have BK293 := n0_; have BK294 := n1_; have HB := n2_; have BK296 := n3_; have GW296 := n4_; have GE296 := n5_; have NB293_296 := n6_; have NB296_293 := n7_; have NB294_296 := n8_; have NB296_294 := n9_; clear n0_ n1_ n2_ n3_ n4_ n5_ n6_ n7_ n8_ n9_; clear hb hbox hg; have hnb34 := NB296_293.out; have hnc34 := NB293_296.out; have hnb35 := NB296_294.out; have hnc35 := NB294_296.out; have hcz36_0 : w33.cell? ⟨gb296, 0, none⟩ = some (.int .i64 0) := (blk_cell BK296.out 0).trans rfl; have hcz36_1 : w33.cell? ⟨gb296, 1, none⟩ = some (.string (⟨#[]⟩ : ByteArray)) := (blk_cell BK296.out 1).trans rfl; have hcz36_2 : w33.cell? ⟨gb296, 2, none⟩ = some (.int .i64 0) := (blk_cell BK296.out 2).trans rfl; have hcz36_3 : w33.cell? ⟨gb296, 3, none⟩ = some (.int .i64 0) := (blk_cell BK296.out 3).trans rfl; have hcz36_4 : w33.cell? ⟨gb296, 4, none⟩ = some (.slice none 0 0) := (blk_cell BK296.out 4).trans rfl; have hcz36_5 : w33.cell? ⟨gb296, 5, none⟩ = some (.int .i64 0) := (blk_cell BK296.out 5).trans rfl; have hcz36_6 : w33.cell? ⟨gb296, 6, none⟩ = some (.int .i64 0) := (blk_cell BK296.out 6).trans rfl; have hcz36_7 : w33.cell? ⟨gb296, 7, none⟩ = some (.bool false) := (blk_cell BK296.out 7).trans rfl; have hcz36_8 : w33.cell? ⟨gb296, 8, none⟩ = some (.bool false) := (blk_cell BK296.out 8).trans rfl; have hcz36_9 : w33.cell? ⟨gb296, 9, none⟩ = some (.bool false) := (blk_cell BK296.out 9).trans rfl; have hcz36_10 : w33.cell? ⟨gb296, 10, none⟩ = some (.int .i64 0) := (blk_cell BK296.out 10).trans rfl; have hcz36_11 : w33.cell? ⟨gb296, 11, none⟩ = some (.string (⟨#[]⟩ : ByteArray)) := (blk_cell BK296.out 11).trans rfl; have hcz36_12 : w33.cell? ⟨gb296, 12, none⟩ = some (.string (⟨#[]⟩ : ByteArray)) := (blk_cell BK296.out 12).trans rfl; have hcz36_13 : w33.cell? ⟨gb296, 13, none⟩ = some (.string (⟨#[]⟩ : ByteArray)) := (blk_cell BK296.out 13).trans rfl; have hcz36_14 : w33.cell? ⟨gb296, 14, none⟩ = some (.int .i64 0) := (blk_cell BK296.out 14).trans rfl; have hcz36_15 : w33.cell? ⟨gb296, 15, none⟩ = some (.bool false) := (blk_cell BK296.out 15).trans rfl; have hcz36_16 : w33.cell? ⟨gb296, 16, none⟩ = some (.bool false) := (blk_cell BK296.out 16).trans rfl; have hcz36_17 : w33.cell? ⟨gb296, 17, none⟩ = some (.int .i64 0) := (blk_cell BK296.out 17).trans rfl; have hcz36_18 : w33.cell? ⟨gb296, 18, none⟩ = some (.int .i64 0) := (blk_cell BK296.out 18).trans rfl; have hcz36_19 : w33.cell? ⟨gb296, 19, none⟩ = some (.string (⟨#[]⟩ : ByteArray)) := (blk_cell BK296.out 19).trans rfl; have hcz36_20 : w33.cell? ⟨gb296, 20, none⟩ = some (.int .i64 0) := (blk_cell BK296.out 20).trans rfl; have hcz36_21 : w33.cell? ⟨gb296, 21, none⟩ = some (.int .i64 0) := (blk_cell BK296.out 21).trans rfl; have hcz36_22 : w33.cell? ⟨gb296, 22, none⟩ = some (.int .i64 0) := (blk_cell BK296.out 22).trans rfl; have hcz36_23 : w33.cell? ⟨gb296, 23, none⟩ = some (.int .i64 0) := (blk_cell BK296.out 23).trans rfl; have hcz36_24 : w33.cell? ⟨gb296, 24, none⟩ = some (.int .i64 0) := (blk_cell BK296.out 24).trans rfl; have hcz36_25 : w33.cell? ⟨gb296, 25, none⟩ = some (.bool false) := (blk_cell BK296.out 25).trans rfl; have hcz36_26 : w33.cell? ⟨gb296, 26, none⟩ = some (.int .u64 0) := (blk_cell BK296.out 26).trans rfl; have hcz36_27 : w33.cell? ⟨gb296, 27, none⟩ = some (.slice none 0 0) := (blk_cell BK296.out 27).trans rfl; have hcz36_28 : w33.cell? ⟨gb296, 28, none⟩ = some (.int .i64 0) := (blk_cell BK296.out 28).trans rfl; have hcz36_29 : w33.cell? ⟨gb296, 29, none⟩ = some (.string (⟨#[]⟩ : ByteArray)) := (blk_cell BK296.out 29).trans rfl; have hcz36_30 : w33.cell? ⟨gb296, 30, none⟩ = some (.int .i64 0) := (blk_cell BK296.out 30).trans rfl; have hcz36_31 : w33.cell? ⟨gb296, 31, none⟩ = some (.int .i64 0) := (blk_cell BK296.out 31).trans rfl; have hfz36_0 := blk_frozen BK296.out 0; have hfz36_1 := blk_frozen BK296.out 1; have hfz36_2 := blk_frozen BK296.out 2; have hfz36_3 := blk_frozen BK296.out 3; have hfz36_4 := blk_frozen BK296.out 4; have hfz36_5 := blk_frozen BK296.out 5; have hfz36_6 := blk_frozen BK296.out 6; have hfz36_7 := blk_frozen BK296.out 7; have hfz36_8 := blk_frozen BK296.out 8; have hfz36_9 := blk_frozen BK296.out 9; have hfz36_10 := blk_frozen BK296.out 10; have hfz36_11 := blk_frozen BK296.out 11; have hfz36_12 := blk_frozen BK296.out 12; have hfz36_13 := blk_frozen BK296.out 13; have hfz36_14 := blk_frozen BK296.out 14; have hfz36_15 := blk_frozen BK296.out 15; have hfz36_16 := blk_frozen BK296.out 16; have hfz36_17 := blk_frozen BK296.out 17; have hfz36_18 := blk_frozen BK296.out 18; have hfz36_19 := blk_frozen BK296.out 19; have hfz36_20 := blk_frozen BK296.out 20; have hfz36_21 := blk_frozen BK296.out 21; have hfz36_22 := blk_frozen BK296.out 22; have hfz36_23 := blk_frozen BK296.out 23; have hfz36_24 := blk_frozen BK296.out 24; have hfz36_25 := blk_frozen BK296.out 25; have hfz36_26 := blk_frozen BK296.out 26; have hfz36_27 := blk_frozen BK296.out 27; have hfz36_28 := blk_frozen BK296.out 28; have hfz36_29 := blk_frozen BK296.out 29; have hfz36_30 := blk_frozen BK296.out 30; have hfz36_31 := blk_frozen BK296.out 31) | ((with_reducible refine gate_store (t := 68) (p := 7) rfl ?_); refine box_store_event (t := 68) (ty := 68) (p := 7) (x := ?vo_w37) (g := gb296) (cs := #[.int .i64 0, .string (⟨#[]⟩ : ByteArray), .int .i64 0, .int .i64 0, .slice none 0 0, .int .i64 0, .int .i64 0, .bool false, .bool false, .bool false, .int .i64 0, .string (⟨#[]⟩ : ByteArray), .string (⟨#[]⟩ : ByteArray), .string (⟨#[]⟩ : ByteArray), .int .i64 0, .bool false, .bool false, .int .i64 0, .int .i64 0, .string (⟨#[]⟩ : ByteArray), .int .i64 0, .int .i64 0, .int .i64 0, .int .i64 0, .int .i64 0, .bool false, .int .u64 0, .slice none 0 0, .int .i64 0, .string (⟨#[]⟩ : ByteArray), .int .i64 0, .int .i64 0]) (cs' := #[.int .i64 ((rd_T68 l0_1 x6_1).f0), .string ((rd_T68 l0_1 x6_1).f1), .int .i64 ((rd_T68 l0_1 x6_1).f2), .int .i64 ((rd_T68 l0_1 x6_1).f3), .slice A295_4 ((rd_T68 l0_1 x6_1).f4).length c295_4, .int .i64 ((rd_T68 l0_1 x6_1).f5.f0), .int .i64 ((rd_T68 l0_1 x6_1).f5.f1), .bool ((rd_T68 l0_1 x6_1).f6), .bool ((rd_T68 l0_1 x6_1).f7), .bool ((rd_T68 l0_1 x6_1).f8), .int .i64 ((rd_T68 l0_1 x6_1).f9), .string ((rd_T68 l0_1 x6_1).f10), .string ((rd_T68 l0_1 x6_1).f11), .string ((rd_T68 l0_1 x6_1).f12), .int .i64 ((rd_T68 l0_1 x6_1).f13), .bool true, .bool false, .int .i64 ((rd_T68 l0_1 x6_1).f16.f0), .int .i64 ((rd_T68 l0_1 x6_1).f16.f1), .string ((rd_T68 l0_1 x6_1).f17), .int .i64 ((rd_T68 l0_1 x6_1).f18), .int .i64 ((rd_T68 l0_1 x6_1).f19), .int .i64 ((rd_T68 l0_1 x6_1).f20), .int .i64 ((rd_T68 l0_1 x6_1).f21), .int .i64 ((rd_T68 l0_1 x6_1).f22), .bool ((rd_T68 l0_1 x6_1).f23), .int .u64 ((rd_T68 l0_1 x6_1).f24), .slice A295_27 ((rd_T68 l0_1 x6_1).f25).length c295_27, .int .i64 ((rd_T68 l0_1 x6_1).f26), .string ((rd_T68 l0_1 x6_1).f27), .int .i64 ((rd_T68 l0_1 x6_1).f28), .int .i64 ((rd_T68 l0_1 x6_1).f29)]) ?hgd ?ho ?hN ?he ?hv ?hi ?hb ?hs ?h1 ?_; (case ho => rfl); (case hgd => rfl); (case hN => rfl); (case he => rfl); (case hv => first | rfl | (simp; done)); (case hi => exact size68); (case hb => (with_reducible repeat (first | refine blk_drewN ?_ _ | refine blk_drew ?_ | refine blk_alloc ?_ _)); exact BK296.out); (case hs => rfl); (case h1 => rfl); intro w37 hbox hg; have n0_ := Aside0.mk (blk_grown (by (with_reducible repeat (first | refine blk_drewN ?_ _ | refine blk_drew ?_ | refine blk_alloc ?_ _)); exact BK293.out) hg (fun e_ => NB293_296.out (Option.some.inj e_))); have n1_ := Aside0.mk (blk_grown (by (with_reducible repeat (first | refine blk_drewN ?_ _ | refine blk_drew ?_ | refine blk_alloc ?_ _)); exact BK294.out) hg (fun e_ => NB294_296.out (Option.some.inj e_))); have n2_ := Aside0.mk (hbox); have n3_ := Aside0.mk (Below.grown (by repeat (first | (with_reducible first | exact HB.out | apply below_alloc | apply pw_below_drewN | apply below_drew1 | refine below_set ?_ GE293.out | refine below_set ?_ GE294.out | refine below_set ?_ GE296.out) | exact HB.out)) hg (below_size (by repeat (first | (with_reducible first | exact HB.out | apply below_alloc | apply pw_below_drewN | apply below_drew1 | refine below_set ?_ GE293.out | refine below_set ?_ GE294.out | refine below_set ?_ GE296.out) | exact HB.out))) (fun k_ e_ => by injection e_ with e_; subst e_; exact GE296.out)); clear BK293; clear BK294; clear BK296; clear HB; have BK293 := n0_; have BK294 := n1_; have BK296 := n2_; have HB := n3_; clear n0_ n1_ n2_ n3_; clear hbox hg; have hcz38_0 : w37.cell? ⟨gb296, 0, none⟩ = some (.int .i64 ((rd_T68 l0_1 x6_1).f0)) := (blk_cell BK296.out 0).trans rfl; have hcz38_1 : w37.cell? ⟨gb296, 1, none⟩ = some (.string ((rd_T68 l0_1 x6_1).f1)) := (blk_cell BK296.out 1).trans rfl; have hcz38_2 : w37.cell? ⟨gb296, 2, none⟩ = some (.int .i64 ((rd_T68 l0_1 x6_1).f2)) := (blk_cell BK296.out 2).trans rfl; have hcz38_3 : w37.cell? ⟨gb296, 3, none⟩ = some (.int .i64 ((rd_T68 l0_1 x6_1).f3)) := (blk_cell BK296.out 3).trans rfl; have hcz38_4 : w37.cell? ⟨gb296, 4, none⟩ = some (.slice A295_4 ((rd_T68 l0_1 x6_1).f4).length c295_4) := (blk_cell BK296.out 4).trans rfl; have hcz38_5 : w37.cell? ⟨gb296, 5, none⟩ = some (.int .i64 ((rd_T68 l0_1 x6_1).f5.f0)) := (blk_cell BK296.out 5).trans rfl; have hcz38_6 : w37.cell? ⟨gb296, 6, none⟩ = some (.int .i64 ((rd_T68 l0_1 x6_1).f5.f1)) := (blk_cell BK296.out 6).trans rfl; have hcz38_7 : w37.cell? ⟨gb296, 7, none⟩ = some (.bool ((rd_T68 l0_1 x6_1).f6)) := (blk_cell BK296.out 7).trans rfl; have hcz38_8 : w37.cell? ⟨gb296, 8, none⟩ = some (.bool ((rd_T68 l0_1 x6_1).f7)) := (blk_cell BK296.out 8).trans rfl; have hcz38_9 : w37.cell? ⟨gb296, 9, none⟩ = some (.bool ((rd_T68 l0_1 x6_1).f8)) := (blk_cell BK296.out 9).trans rfl; have hcz38_10 : w37.cell? ⟨gb296, 10, none⟩ = some (.int .i64 ((rd_T68 l0_1 x6_1).f9)) := (blk_cell BK296.out 10).trans rfl; have hcz38_11 : w37.cell? ⟨gb296, 11, none⟩ = some (.string ((rd_T68 l0_1 x6_1).f10)) := (blk_cell BK296.out 11).trans rfl; have hcz38_12 : w37.cell? ⟨gb296, 12, none⟩ = some (.string ((rd_T68 l0_1 x6_1).f11)) := (blk_cell BK296.out 12).trans rfl; have hcz38_13 : w37.cell? ⟨gb296, 13, none⟩ = some (.string ((rd_T68 l0_1 x6_1).f12)) := (blk_cell BK296.out 13).trans rfl; have hcz38_14 : w37.cell? ⟨gb296, 14, none⟩ = some (.int .i64 ((rd_T68 l0_1 x6_1).f13)) := (blk_cell BK296.out 14).trans rfl; have hcz38_15 : w37.cell? ⟨gb296, 15, none⟩ = some (.bool true) := (blk_cell BK296.out 15).trans rfl; have hcz38_16 : w37.cell? ⟨gb296, 16, none⟩ = some (.bool false) := (blk_cell BK296.out 16).trans rfl; have hcz38_17 : w37.cell? ⟨gb296, 17, none⟩ = some (.int .i64 ((rd_T68 l0_1 x6_1).f16.f0)) := (blk_cell BK296.out 17).trans rfl; have hcz38_18 : w37.cell? ⟨gb296, 18, none⟩ = some (.int .i64 ((rd_T68 l0_1 x6_1).f16.f1)) := (blk_cell BK296.out 18).trans rfl; have hcz38_19 : w37.cell? ⟨gb296, 19, none⟩ = some (.string ((rd_T68 l0_1 x6_1).f17)) := (blk_cell BK296.out 19).trans rfl; have hcz38_20 : w37.cell? ⟨gb296, 20, none⟩ = some (.int .i64 ((rd_T68 l0_1 x6_1).f18)) := (blk_cell BK296.out 20).trans rfl; have hcz38_21 : w37.cell? ⟨gb296, 21, none⟩ = some (.int .i64 ((rd_T68 l0_1 x6_1).f19)) := (blk_cell BK296.out 21).trans rfl; have hcz38_22 : w37.cell? ⟨gb296, 22, none⟩ = some (.int .i64 ((rd_T68 l0_1 x6_1).f20)) := (blk_cell BK296.out 22).trans rfl; have hcz38_23 : w37.cell? ⟨gb296, 23, none⟩ = some (.int .i64 ((rd_T68 l0_1 x6_1).f21)) := (blk_cell BK296.out 23).trans rfl; have hcz38_24 : w37.cell? ⟨gb296, 24, none⟩ = some (.int .i64 ((rd_T68 l0_1 x6_1).f22)) := (blk_cell BK296.out 24).trans rfl; have hcz38_25 : w37.cell? ⟨gb296, 25, none⟩ = some (.bool ((rd_T68 l0_1 x6_1).f23)) := (blk_cell BK296.out 25).trans rfl; have hcz38_26 : w37.cell? ⟨gb296, 26, none⟩ = some (.int .u64 ((rd_T68 l0_1 x6_1).f24)) := (blk_cell BK296.out 26).trans rfl; have hcz38_27 : w37.cell? ⟨gb296, 27, none⟩ = some (.slice A295_27 ((rd_T68 l0_1 x6_1).f25).length c295_27) := (blk_cell BK296.out 27).trans rfl; have hcz38_28 : w37.cell? ⟨gb296, 28, none⟩ = some (.int .i64 ((rd_T68 l0_1 x6_1).f26)) := (blk_cell BK296.out 28).trans rfl; have hcz38_29 : w37.cell? ⟨gb296, 29, none⟩ = some (.string ((rd_T68 l0_1 x6_1).f27)) := (blk_cell BK296.out 29).trans rfl; have hcz38_30 : w37.cell? ⟨gb296, 30, none⟩ = some (.int .i64 ((rd_T68 l0_1 x6_1).f28)) := (blk_cell BK296.out 30).trans rfl; have hcz38_31 : w37.cell? ⟨gb296, 31, none⟩ = some (.int .i64 ((rd_T68 l0_1 x6_1).f29)) := (blk_cell BK296.out 31).trans rfl; have hfz38_0 := blk_frozen BK296.out 0; have hfz38_1 := blk_frozen BK296.out 1; have hfz38_2 := blk_frozen BK296.out 2; have hfz38_3 := blk_frozen BK296.out 3; have hfz38_4 := blk_frozen BK296.out 4; have hfz38_5 := blk_frozen BK296.out 5; have hfz38_6 := blk_frozen BK296.out 6; have hfz38_7 := blk_frozen BK296.out 7; have hfz38_8 := blk_frozen BK296.out 8; have hfz38_9 := blk_frozen BK296.out 9; have hfz38_10 := blk_frozen BK296.out 10; have hfz38_11 := blk_frozen BK296.out 11; have hfz38_12 := blk_frozen BK296.out 12; have hfz38_13 := blk_frozen BK296.out 13; have hfz38_14 := blk_frozen BK296.out 14; have hfz38_15 := blk_frozen BK296.out 15; have hfz38_16 := blk_frozen BK296.out 16; have hfz38_17 := blk_frozen BK296.out 17; have hfz38_18 := blk_frozen BK296.out 18; have hfz38_19 := blk_frozen BK296.out 19; have hfz38_20 := blk_frozen BK296.out 20; have hfz38_21 := blk_frozen BK296.out 21; have hfz38_22 := blk_frozen BK296.out 22; have hfz38_23 := blk_frozen BK296.out 23; have hfz38_24 := blk_frozen BK296.out 24; have hfz38_25 := blk_frozen BK296.out 25; have hfz38_26 := blk_frozen BK296.out 26; have hfz38_27 := blk_frozen BK296.out 27; have hfz38_28 := blk_frozen BK296.out 28; have hfz38_29 := blk_frozen BK296.out 29; have hfz38_30 := blk_frozen BK296.out 30; have hfz38_31 := blk_frozen BK296.out 31; have hcz39_0 : w37.cell? ⟨gb294, 0, none⟩ = some (.int .i64 a1_0) := (blk_cell BK294.out 0).trans rfl; have hcz39_1 : w37.cell? ⟨gb294, 1, none⟩ = some (.string a1_1) := (blk_cell BK294.out 1).trans rfl; have hcz39_2 : w37.cell? ⟨gb294, 2, none⟩ = some (.int .i64 a1_2) := (blk_cell BK294.out 2).trans rfl; have hcz39_3 : w37.cell? ⟨gb294, 3, none⟩ = some (.int .i64 a1_3) := (blk_cell BK294.out 3).trans rfl; have hcz39_4 : w37.cell? ⟨gb294, 4, none⟩ = some (.slice A1_4 l1_4.length c1_4) := (blk_cell BK294.out 4).trans rfl; have hcz39_5 : w37.cell? ⟨gb294, 5, none⟩ = some (.int .i64 a1_5) := (blk_cell BK294.out 5).trans rfl; have hcz39_6 : w37.cell? ⟨gb294, 6, none⟩ = some (.int .i64 a1_6) := (blk_cell BK294.out 6).trans rfl; have hcz39_7 : w37.cell? ⟨gb294, 7, none⟩ = some (.bool a1_7) := (blk_cell BK294.out 7).trans rfl; have hcz39_8 : w37.cell? ⟨gb294, 8, none⟩ = some (.bool a1_8) := (blk_cell BK294.out 8).trans rfl; have hcz39_9 : w37.cell? ⟨gb294, 9, none⟩ = some (.bool a1_9) := (blk_cell BK294.out 9).trans rfl; have hcz39_10 : w37.cell? ⟨gb294, 10, none⟩ = some (.int .i64 a1_10) := (blk_cell BK294.out 10).trans rfl; have hcz39_11 : w37.cell? ⟨gb294, 11, none⟩ = some (.string a1_11) := (blk_cell BK294.out 11).trans rfl; have hcz39_12 : w37.cell? ⟨gb294, 12, none⟩ = some (.string a1_12) := (blk_cell BK294.out 12).trans rfl; have hcz39_13 : w37.cell? ⟨gb294, 13, none⟩ = some (.string a1_13) := (blk_cell BK294.out 13).trans rfl; have hcz39_14 : w37.cell? ⟨gb294, 14, none⟩ = some (.int .i64 a1_14) := (blk_cell BK294.out 14).trans rfl; have hcz39_15 : w37.cell? ⟨gb294, 15, none⟩ = some (.bool a1_15) := (blk_cell BK294.out 15).trans rfl; have hcz39_16 : w37.cell? ⟨gb294, 16, none⟩ = some (.bool a1_16) := (blk_cell BK294.out 16).trans rfl; have hcz39_17 : w37.cell? ⟨gb294, 17, none⟩ = some (.int .i64 a1_17) := (blk_cell BK294.out 17).trans rfl; have hcz39_18 : w37.cell? ⟨gb294, 18, none⟩ = some (.int .i64 a1_18) := (blk_cell BK294.out 18).trans rfl; have hcz39_19 : w37.cell? ⟨gb294, 19, none⟩ = some (.string a1_19) := (blk_cell BK294.out 19).trans rfl; have hcz39_20 : w37.cell? ⟨gb294, 20, none⟩ = some (.int .i64 a1_20) := (blk_cell BK294.out 20).trans rfl; have hcz39_21 : w37.cell? ⟨gb294, 21, none⟩ = some (.int .i64 a1_21) := (blk_cell BK294.out 21).trans rfl; have hcz39_22 : w37.cell? ⟨gb294, 22, none⟩ = some (.int .i64 a1_22) := (blk_cell BK294.out 22).trans rfl; have hcz39_23 : w37.cell? ⟨gb294, 23, none⟩ = some (.int .i64 a1_23) := (blk_cell BK294.out 23).trans rfl; have hcz39_24 : w37.cell? ⟨gb294, 24, none⟩ = some (.int .i64 a1_24) := (blk_cell BK294.out 24).trans rfl; have hcz39_25 : w37.cell? ⟨gb294, 25, none⟩ = some (.bool a1_25) := (blk_cell BK294.out 25).trans rfl; have hcz39_26 : w37.cell? ⟨gb294, 26, none⟩ = some (.int .u64 a1_26) := (blk_cell BK294.out 26).trans rfl; have hcz39_27 : w37.cell? ⟨gb294, 27, none⟩ = some (.slice A1_27 l1_27.length c1_27) := (blk_cell BK294.out 27).trans rfl; have hcz39_28 : w37.cell? ⟨gb294, 28, none⟩ = some (.int .i64 a1_28) := (blk_cell BK294.out 28).trans rfl; have hcz39_29 : w37.cell? ⟨gb294, 29, none⟩ = some (.string a1_29) := (blk_cell BK294.out 29).trans rfl; have hcz39_30 : w37.cell? ⟨gb294, 30, none⟩ = some (.int .i64 a1_30) := (blk_cell BK294.out 30).trans rfl; have hcz39_31 : w37.cell? ⟨gb294, 31, none⟩ = some (.int .i64 a1_31) := (blk_cell BK294.out 31).trans rfl; have hfz39_0 := blk_frozen BK294.out 0; have hfz39_1 := blk_frozen BK294.out 1; have hfz39_2 := blk_frozen BK294.out 2; have hfz39_3 := blk_frozen BK294.out 3; have hfz39_4 := blk_frozen BK294.out 4; have hfz39_5 := blk_frozen BK294.out 5; have hfz39_6 := blk_frozen BK294.out 6; have hfz39_7 := blk_frozen BK294.out 7; have hfz39_8 := blk_frozen BK294.out 8; have hfz39_9 := blk_frozen BK294.out 9; have hfz39_10 := blk_frozen BK294.out 10; have hfz39_11 := blk_frozen BK294.out 11; have hfz39_12 := blk_frozen BK294.out 12; have hfz39_13 := blk_frozen BK294.out 13; have hfz39_14 := blk_frozen BK294.out 14; have hfz39_15 := blk_frozen BK294.out 15; have hfz39_16 := blk_frozen BK294.out 16; have hfz39_17 := blk_frozen BK294.out 17; have hfz39_18 := blk_frozen BK294.out 18; have hfz39_19 := blk_frozen BK294.out 19; have hfz39_20 := blk_frozen BK294.out 20; have hfz39_21 := blk_frozen BK294.out 21; have hfz39_22 := blk_frozen BK294.out 22; have hfz39_23 := blk_frozen BK294.out 23; have hfz39_24 := blk_frozen BK294.out 24; have hfz39_25 := blk_frozen BK294.out 25; have hfz39_26 := blk_frozen BK294.out 26; have hfz39_27 := blk_frozen BK294.out 27; have hfz39_28 := blk_frozen BK294.out 28; have hfz39_29 := blk_frozen BK294.out 29; have hfz39_30 := blk_frozen BK294.out 30; have hfz39_31 := blk_frozen BK294.out 31) | (go_at_call 16; (with_reducible refine (flotillaref02_Matches.calls k1 _ _ l1_27 _ _ ((rd_T68 l0_1 x6_1).f4) false _ ?side1 ?side2 ?side3 ?side4 A19.out).mono ?_); (case side1 => repeat (first | exact (Kd.C_below HR1_27.out HB.out) | (with_reducible refine Kd.C_alloc ?_ _) | (with_reducible refine Kd.C_drewN ?_ _) | (with_reducible refine Kd.C_drew ?_))); (case side2 => exact HC1_27.out); (case side3 => repeat (first | exact (Kd.C_below HR295_4.out HB.out) | (with_reducible refine Kd.C_alloc ?_ _) | (with_reducible refine Kd.C_drewN ?_ _) | (with_reducible refine Kd.C_drew ?_))); (case side4 => exact HC295_4.out); rintro e w40 ⟨rfl, hb⟩; have n0_ := Aside0.mk (blk_below (g := gb293) (o := .cells #[.slice A0_0 l0_0.length c0_0, .slice (some ad295) l0_1.length c0_1, .slice A0_2 l0_2.length c0_2, .slice A0_3 l0_3.length c0_3] 59 (0, 0)) (by (with_reducible repeat (first | refine blk_drewN ?_ _ | refine blk_drew ?_ | refine blk_alloc ?_ _)); exact BK293.out) hb); have n1_ := Aside0.mk (blk_below (g := gb294) (o := .cells #[.int .i64 a1_0, .string a1_1, .int .i64 a1_2, .int .i64 a1_3, .slice A1_4 l1_4.length c1_4, .int .i64 a1_5, .int .i64 a1_6, .bool a1_7, .bool a1_8, .bool a1_9, .int .i64 a1_10, .string a1_11, .string a1_12, .string a1_13, .int .i64 a1_14, .bool a1_15, .bool a1_16, .int .i64 a1_17, .int .i64 a1_18, .string a1_19, .int .i64 a1_20, .int .i64 a1_21, .int .i64 a1_22, .int .i64 a1_23, .int .i64 a1_24, .bool a1_25, .int .u64 a1_26, .slice A1_27 l1_27.length c1_27, .int .i64 a1_28, .string a1_29, .int .i64 a1_30, .int .i64 a1_31] 68 (0, 0)) (by (with_reducible repeat (first | refine blk_drewN ?_ _ | refine blk_drew ?_ | refine blk_alloc ?_ _)); exact BK294.out) hb); have n2_ := Aside0.mk (blk_below (g := gb296) (o := .cells #[.int .i64 ((rd_T68 l0_1 x6_1).f0), .string ((rd_T68 l0_1 x6_1).f1), .int .i64 ((rd_T68 l0_1 x6_1).f2), .int .i64 ((rd_T68 l0_1 x6_1).f3), .slice A295_4 ((rd_T68 l0_1 x6_1).f4).length c295_4, .int .i64 ((rd_T68 l0_1 x6_1).f5.f0), .int .i64 ((rd_T68 l0_1 x6_1).f5.f1), .bool ((rd_T68 l0_1 x6_1).f6), .bool ((rd_T68 l0_1 x6_1).f7), .bool ((rd_T68 l0_1 x6_1).f8), .int .i64 ((rd_T68 l0_1 x6_1).f9), .string ((rd_T68 l0_1 x6_1).f10), .string ((rd_T68 l0_1 x6_1).f11), .string ((rd_T68 l0_1 x6_1).f12), .int .i64 ((rd_T68 l0_1 x6_1).f13), .bool true, .bool false, .int .i64 ((rd_T68 l0_1 x6_1).f16.f0), .int .i64 ((rd_T68 l0_1 x6_1).f16.f1), .string ((rd_T68 l0_1 x6_1).f17), .int .i64 ((rd_T68 l0_1 x6_1).f18), .int .i64 ((rd_T68 l0_1 x6_1).f19), .int .i64 ((rd_T68 l0_1 x6_1).f20), .int .i64 ((rd_T68 l0_1 x6_1).f21), .int .i64 ((rd_T68 l0_1 x6_1).f22), .bool ((rd_T68 l0_1 x6_1).f23), .int .u64 ((rd_T68 l0_1 x6_1).f24), .slice A295_27 ((rd_T68 l0_1 x6_1).f25).length c295_27, .int .i64 ((rd_T68 l0_1 x6_1).f26), .string ((rd_T68 l0_1 x6_1).f27), .int .i64 ((rd_T68 l0_1 x6_1).f28), .int .i64 ((rd_T68 l0_1 x6_1).f29)] 68 (0, 0)) (by (with_reducible repeat (first | refine blk_drewN ?_ _ | refine blk_drew ?_ | refine blk_alloc ?_ _)); exact BK296.out) hb); have n3_ := Aside0.mk (below_step (by repeat (first | (with_reducible first | exact HB.out | apply below_alloc | apply pw_below_drewN | apply below_drew1 | refine below_set ?_ GE293.out | refine below_set ?_ GE294.out | refine below_set ?_ GE296.out) | exact HB.out)) hb); clear BK293; clear BK294; clear BK296; clear HB; have BK293 := n0_; have BK294 := n1_; have BK296 := n2_; have HB := n3_; clear n0_ n1_ n2_ n3_; (try clear hb); (try clear hb2); (try clear hk); (try clear hi)))
                go_roundg k1
                case measure => have := HK1.out; omega
                case rel => exact ⟨(x5_1), (wrap64 (x6_1 + 1)), (by first | rfl | (simp; done) | (simp [*]; done)), (by first | rfl | (simp; done) | (simp [*]; done)), H', ⟨by have := HK1.out; omega⟩, ⟨by (with_reducible repeat (first | refine blk_drewN ?_ _ | refine blk_drew ?_ | refine blk_alloc ?_ _)); exact BK293.out⟩, ⟨by (with_reducible repeat (first | refine blk_drewN ?_ _ | refine blk_drew ?_ | refine blk_alloc ?_ _)); exact BK294.out⟩, ⟨by repeat (first | (with_reducible first | exact HB.out | apply below_alloc | apply pw_below_drewN | apply below_drew1 | refine below_set ?_ GE293.out | refine below_set ?_ GE294.out | refine below_set ?_ GE296.out) | exact HB.out)⟩⟩
          · replace c8 := Bool.eq_false_iff.mpr c8
            subst c8
            have H1 : (flotillaref16_Guarded.l0 k1 x5_1 (wrap64 (x6_1 + 1)) l0_0 l0_1 l0_2 l0_3 a1_0 a1_1 a1_2 a1_3 l1_4 a1_5 a1_6 a1_7 a1_8 a1_9 a1_10 a1_11 a1_12 a1_13 a1_14 a1_15 a1_16 a1_17 a1_18 a1_19 a1_20 a1_21 a1_22 a1_23 a1_24 a1_25 a1_26 l1_27 a1_28 a1_29 a1_30 a1_31) = some r := by rw [if_neg (show ¬ (false = true) by decide)] at H; exact H
            clear H
            have H := H1
            clear H1
            have H' := Aside0.mk H
            clear H
            have hnb41 := NB293_294.out
            have hnc41 := NB294_293.out
            have hcz42_0 : wr.cell? ⟨gb293, 0, none⟩ = some (.slice A0_0 l0_0.length c0_0) := (blk_cell BK293.out 0).trans rfl
            have hcz42_1 : wr.cell? ⟨gb293, 1, none⟩ = some (.slice A0_1 l0_1.length c0_1) := (blk_cell BK293.out 1).trans rfl
            have hcz42_2 : wr.cell? ⟨gb293, 2, none⟩ = some (.slice A0_2 l0_2.length c0_2) := (blk_cell BK293.out 2).trans rfl
            have hcz42_3 : wr.cell? ⟨gb293, 3, none⟩ = some (.slice A0_3 l0_3.length c0_3) := (blk_cell BK293.out 3).trans rfl
            have hfz42_0 := blk_frozen BK293.out 0
            have hfz42_1 := blk_frozen BK293.out 1
            have hfz42_2 := blk_frozen BK293.out 2
            have hfz42_3 := blk_frozen BK293.out 3
            have p295 : 0 ≤ (x6_1 : Int) := of_decide_eq_true (by first | (with_reducible assumption) | assumption)
            have q295 : x6_1 < (l0_1.length : Int) := of_decide_eq_true (by first | (with_reducible assumption) | assumption)
            obtain ⟨ad295, A295_4, c295_4, A295_27, c295_27, e295, hx295_0, hx295_1, hx295_2, hx295_3, hx295_4, hx295_5, hx295_6, hx295_7, hx295_8, hx295_9, hx295_10, hx295_11, hx295_12, hx295_13, hx295_14, hx295_15, hx295_16, hx295_17, hx295_18, hx295_19, hx295_20, hx295_21, hx295_22, hx295_23, hx295_24, hx295_25, hx295_26, hx295_27, hx295_28, hx295_29, hx295_30, hx295_31, hl295_4, hi295_4, hl295_27, hi295_27⟩ := at_T68 HR0_1.out x6_1 p295 q295
            (try rw [← Nbq7.out] at hx295_7)
            (try rw [← Nbq7.out] at hx295_8)
            (try rw [← Nbq7.out] at hx295_9)
            (try rw [← Nbq7.out] at hx295_15)
            (try rw [← Nbq7.out] at hx295_16)
            (try rw [← Nbq7.out] at hx295_25)
            cases e295
            replace hx295_0 := (HB.out.cell (World.block_lt_of_cell? w _ hx295_0)).trans hx295_0
            replace hx295_1 := (HB.out.cell (World.block_lt_of_cell? w _ hx295_1)).trans hx295_1
            replace hx295_2 := (HB.out.cell (World.block_lt_of_cell? w _ hx295_2)).trans hx295_2
            replace hx295_3 := (HB.out.cell (World.block_lt_of_cell? w _ hx295_3)).trans hx295_3
            replace hx295_4 := (HB.out.cell (World.block_lt_of_cell? w _ hx295_4)).trans hx295_4
            replace hx295_5 := (HB.out.cell (World.block_lt_of_cell? w _ hx295_5)).trans hx295_5
            replace hx295_6 := (HB.out.cell (World.block_lt_of_cell? w _ hx295_6)).trans hx295_6
            replace hx295_7 := (HB.out.cell (World.block_lt_of_cell? w _ hx295_7)).trans hx295_7
            replace hx295_8 := (HB.out.cell (World.block_lt_of_cell? w _ hx295_8)).trans hx295_8
            replace hx295_9 := (HB.out.cell (World.block_lt_of_cell? w _ hx295_9)).trans hx295_9
            replace hx295_10 := (HB.out.cell (World.block_lt_of_cell? w _ hx295_10)).trans hx295_10
            replace hx295_11 := (HB.out.cell (World.block_lt_of_cell? w _ hx295_11)).trans hx295_11
            replace hx295_12 := (HB.out.cell (World.block_lt_of_cell? w _ hx295_12)).trans hx295_12
            replace hx295_13 := (HB.out.cell (World.block_lt_of_cell? w _ hx295_13)).trans hx295_13
            replace hx295_14 := (HB.out.cell (World.block_lt_of_cell? w _ hx295_14)).trans hx295_14
            replace hx295_15 := (HB.out.cell (World.block_lt_of_cell? w _ hx295_15)).trans hx295_15
            replace hx295_16 := (HB.out.cell (World.block_lt_of_cell? w _ hx295_16)).trans hx295_16
            replace hx295_17 := (HB.out.cell (World.block_lt_of_cell? w _ hx295_17)).trans hx295_17
            replace hx295_18 := (HB.out.cell (World.block_lt_of_cell? w _ hx295_18)).trans hx295_18
            replace hx295_19 := (HB.out.cell (World.block_lt_of_cell? w _ hx295_19)).trans hx295_19
            replace hx295_20 := (HB.out.cell (World.block_lt_of_cell? w _ hx295_20)).trans hx295_20
            replace hx295_21 := (HB.out.cell (World.block_lt_of_cell? w _ hx295_21)).trans hx295_21
            replace hx295_22 := (HB.out.cell (World.block_lt_of_cell? w _ hx295_22)).trans hx295_22
            replace hx295_23 := (HB.out.cell (World.block_lt_of_cell? w _ hx295_23)).trans hx295_23
            replace hx295_24 := (HB.out.cell (World.block_lt_of_cell? w _ hx295_24)).trans hx295_24
            replace hx295_25 := (HB.out.cell (World.block_lt_of_cell? w _ hx295_25)).trans hx295_25
            replace hx295_26 := (HB.out.cell (World.block_lt_of_cell? w _ hx295_26)).trans hx295_26
            replace hx295_27 := (HB.out.cell (World.block_lt_of_cell? w _ hx295_27)).trans hx295_27
            replace hx295_28 := (HB.out.cell (World.block_lt_of_cell? w _ hx295_28)).trans hx295_28
            replace hx295_29 := (HB.out.cell (World.block_lt_of_cell? w _ hx295_29)).trans hx295_29
            replace hx295_30 := (HB.out.cell (World.block_lt_of_cell? w _ hx295_30)).trans hx295_30
            replace hx295_31 := (HB.out.cell (World.block_lt_of_cell? w _ hx295_31)).trans hx295_31
            have HR295_4 := Aside0.mk hi295_4
            have HC295_4 := Aside0.mk hl295_4
            clear hi295_4 hl295_4
            have HR295_27 := Aside0.mk hi295_27
            have HC295_27 := Aside0.mk hl295_27
            clear hi295_27 hl295_27
            replace p295 := eq_true p295
            replace q295 := eq_true q295
            go_wp2_with (first | ((with_reducible refine gate_load (t := 68) rfl ?_); first | (refine load68_box rfl rfl rfl (by with_reducible assumption) (by with_reducible assumption) (by with_reducible assumption) (by with_reducible assumption) (by with_reducible assumption) (by with_reducible assumption) (by with_reducible assumption) (by with_reducible assumption) (by with_reducible assumption) (by with_reducible assumption) (by with_reducible assumption) (by with_reducible assumption) (by with_reducible assumption) (by with_reducible assumption) (by with_reducible assumption) (by with_reducible assumption) (by with_reducible assumption) (by with_reducible assumption) (by with_reducible assumption) (by with_reducible assumption) (by with_reducible assumption) (by with_reducible assumption) (by with_reducible assumption) (by with_reducible assumption) (by with_reducible assumption) (by with_reducible assumption) (by with_reducible assumption) (by with_reducible assumption) (by with_reducible assumption) (by with_reducible assumption) (by with_reducible assumption) (by with_reducible assumption) ?_) | (refine load68_at rfl rfl rfl (by with_reducible assumption) (by with_reducible assumption) (by with_reducible assumption) (by with_reducible assumption) (by with_reducible assumption) (by with_reducible assumption) (by with_reducible assumption) (by with_reducible assumption) (by with_reducible assumption) (by with_reducible assumption) (by with_reducible assumption) (by with_reducible assumption) (by with_reducible assumption) (by with_reducible assumption) (by with_reducible assumption) (by with_reducible assumption) (by with_reducible assumption) (by with_reducible assumption) (by with_reducible assumption) (by with_reducible assumption) (by with_reducible assumption) (by with_reducible assumption) (by with_reducible assumption) (by with_reducible assumption) (by with_reducible assumption) (by with_reducible assumption) (by with_reducible assumption) (by with_reducible assumption) (by with_reducible assumption) (by with_reducible assumption) (by with_reducible assumption) (by with_reducible assumption) ?_)) | ((with_reducible refine gate_dst (N := 7) rfl ?_); refine box_event ?hg (N := 7) ?hd (cs := #[.int .i64 0, .string (⟨#[]⟩ : ByteArray), .int .i64 0, .int .i64 0, .slice none 0 0, .int .i64 0, .int .i64 0, .bool false, .bool false, .bool false, .int .i64 0, .string (⟨#[]⟩ : ByteArray), .string (⟨#[]⟩ : ByteArray), .string (⟨#[]⟩ : ByteArray), .int .i64 0, .bool false, .bool false, .int .i64 0, .int .i64 0, .string (⟨#[]⟩ : ByteArray), .int .i64 0, .int .i64 0, .int .i64 0, .int .i64 0, .int .i64 0, .bool false, .int .u64 0, .slice none 0 0, .int .i64 0, .string (⟨#[]⟩ : ByteArray), .int .i64 0, .int .i64 0]) (t := 68) ?hr ?_; (case hd => rfl); (case hg => rfl); (case hr => first | (go_simp; done) | (go_simp; rfl)); intro gb296 hg w43 hbox hb; have n0_ := Aside0.mk (blk_below (g := gb293) (o := .cells #[.slice A0_0 l0_0.length c0_0, .slice (some ad295) l0_1.length c0_1, .slice A0_2 l0_2.length c0_2, .slice A0_3 l0_3.length c0_3] 59 (0, 0)) (by (with_reducible repeat (first | refine blk_drewN ?_ _ | refine blk_drew ?_ | refine blk_alloc ?_ _)); exact BK293.out) hb); have n1_ := Aside0.mk (blk_below (g := gb294) (o := .cells #[.int .i64 a1_0, .string a1_1, .int .i64 a1_2, .int .i64 a1_3, .slice A1_4 l1_4.length c1_4, .int .i64 a1_5, .int .i64 a1_6, .bool a1_7, .bool a1_8, .bool a1_9, .int .i64 a1_10, .string a1_11, .string a1_12, .string a1_13, .int .i64 a1_14, .bool a1_15, .bool a1_16, .int .i64 a1_17, .int .i64 a1_18, .string a1_19, .int .i64 a1_20, .int .i64 a1_21, .int .i64 a1_22, .int .i64 a1_23, .int .i64 a1_24, .bool a1_25, .int .u64 a1_26, .slice A1_27 l1_27.length c1_27, .int .i64 a1_28, .string a1_29, .int .i64 a1_30, .int .i64 a1_31] 68 (0, 0)) (by (with_reducible repeat (first | refine blk_drewN ?_ _ | refine blk_drew ?_ | refine blk_alloc ?_ _)); exact BK294.out) hb); have n2_ := Aside0.mk (below_step (by repeat (first | (with_reducible first | exact HB.out | apply below_alloc | apply pw_below_drewN | apply below_drew1 | refine below_set ?_ GE293.out | refine below_set ?_ GE294.out) | exact HB.out)) hb); have n3_ := Aside0.mk (hbox); have n4_ := Aside0.mk ((by rw [hg]; exact (below_size (by repeat (first | (with_reducible first | exact HB.out | apply below_alloc | apply pw_below_drewN | apply below_drew1 | refine below_set ?_ GE293.out | refine below_set ?_ GE294.out) | exact HB.out))) : w.heap.size ≤ gb296)); have n5_ := Aside0.mk ((by rw [hg]; exact (below_size (by repeat (first | (with_reducible first | exact HB.out | apply below_alloc | apply pw_below_drewN | apply below_drew1 | refine below_set ?_ GE293.out | refine below_set ?_ GE294.out) | exact HB.out))) : w.heap.size ≤ gb296)); have n6_ := Aside0.mk ((by rw [hg]; exact Nat.ne_of_lt (blk_lt (g := gb293) (o := .cells #[.slice A0_0 l0_0.length c0_0, .slice (some ad295) l0_1.length c0_1, .slice A0_2 l0_2.length c0_2, .slice A0_3 l0_3.length c0_3] 59 (0, 0)) (by (with_reducible repeat (first | refine blk_drewN ?_ _ | refine blk_drew ?_ | refine blk_alloc ?_ _)); exact BK293.out)) : gb293 ≠ gb296)); have n7_ := Aside0.mk ((by rw [hg]; exact Nat.ne_of_gt (blk_lt (g := gb293) (o := .cells #[.slice A0_0 l0_0.length c0_0, .slice (some ad295) l0_1.length c0_1, .slice A0_2 l0_2.length c0_2, .slice A0_3 l0_3.length c0_3] 59 (0, 0)) (by (with_reducible repeat (first | refine blk_drewN ?_ _ | refine blk_drew ?_ | refine blk_alloc ?_ _)); exact BK293.out)) : gb296 ≠ gb293)); have n8_ := Aside0.mk ((by rw [hg]; exact Nat.ne_of_lt (blk_lt (g := gb294) (o := .cells #[.int .i64 a1_0, .string a1_1, .int .i64 a1_2, .int .i64 a1_3, .slice A1_4 l1_4.length c1_4, .int .i64 a1_5, .int .i64 a1_6, .bool a1_7, .bool a1_8, .bool a1_9, .int .i64 a1_10, .string a1_11, .string a1_12, .string a1_13, .int .i64 a1_14, .bool a1_15, .bool a1_16, .int .i64 a1_17, .int .i64 a1_18, .string a1_19, .int .i64 a1_20, .int .i64 a1_21, .int .i64 a1_22, .int .i64 a1_23, .int .i64 a1_24, .bool a1_25, .int .u64 a1_26, .slice A1_27 l1_27.length c1_27, .int .i64 a1_28, .string a1_29, .int .i64 a1_30, .int .i64 a1_31] 68 (0, 0)) (by (with_reducible repeat (first | refine blk_drewN ?_ _ | refine blk_drew ?_ | refine blk_alloc ?_ _)); exact BK294.out)) : gb294 ≠ gb296)); have n9_ := Aside0.mk ((by rw [hg]; exact Nat.ne_of_gt (blk_lt (g := gb294) (o := .cells #[.int .i64 a1_0, .string a1_1, .int .i64 a1_2, .int .i64 a1_3, .slice A1_4 l1_4.length c1_4, .int .i64 a1_5, .int .i64 a1_6, .bool a1_7, .bool a1_8, .bool a1_9, .int .i64 a1_10, .string a1_11, .string a1_12, .string a1_13, .int .i64 a1_14, .bool a1_15, .bool a1_16, .int .i64 a1_17, .int .i64 a1_18, .string a1_19, .int .i64 a1_20, .int .i64 a1_21, .int .i64 a1_22, .int .i64 a1_23, .int .i64 a1_24, .bool a1_25, .int .u64 a1_26, .slice A1_27 l1_27.length c1_27, .int .i64 a1_28, .string a1_29, .int .i64 a1_30, .int .i64 a1_31] 68 (0, 0)) (by (with_reducible repeat (first | refine blk_drewN ?_ _ | refine blk_drew ?_ | refine blk_alloc ?_ _)); exact BK294.out)) : gb296 ≠ gb294)); clear BK293; clear BK294; clear HB; have BK293 := n0_; have BK294 := n1_; have HB := n2_; have BK296 := n3_; have GW296 := n4_; have GE296 := n5_; have NB293_296 := n6_; have NB296_293 := n7_; have NB294_296 := n8_; have NB296_294 := n9_; clear n0_ n1_ n2_ n3_ n4_ n5_ n6_ n7_ n8_ n9_; clear hb hbox hg; have hnb44 := NB296_293.out; have hnc44 := NB293_296.out; have hnb45 := NB296_294.out; have hnc45 := NB294_296.out; have hcz46_0 : w43.cell? ⟨gb296, 0, none⟩ = some (.int .i64 0) := (blk_cell BK296.out 0).trans rfl; have hcz46_1 : w43.cell? ⟨gb296, 1, none⟩ = some (.string (⟨#[]⟩ : ByteArray)) := (blk_cell BK296.out 1).trans rfl; have hcz46_2 : w43.cell? ⟨gb296, 2, none⟩ = some (.int .i64 0) := (blk_cell BK296.out 2).trans rfl; have hcz46_3 : w43.cell? ⟨gb296, 3, none⟩ = some (.int .i64 0) := (blk_cell BK296.out 3).trans rfl; have hcz46_4 : w43.cell? ⟨gb296, 4, none⟩ = some (.slice none 0 0) := (blk_cell BK296.out 4).trans rfl; have hcz46_5 : w43.cell? ⟨gb296, 5, none⟩ = some (.int .i64 0) := (blk_cell BK296.out 5).trans rfl; have hcz46_6 : w43.cell? ⟨gb296, 6, none⟩ = some (.int .i64 0) := (blk_cell BK296.out 6).trans rfl; have hcz46_7 : w43.cell? ⟨gb296, 7, none⟩ = some (.bool false) := (blk_cell BK296.out 7).trans rfl; have hcz46_8 : w43.cell? ⟨gb296, 8, none⟩ = some (.bool false) := (blk_cell BK296.out 8).trans rfl; have hcz46_9 : w43.cell? ⟨gb296, 9, none⟩ = some (.bool false) := (blk_cell BK296.out 9).trans rfl; have hcz46_10 : w43.cell? ⟨gb296, 10, none⟩ = some (.int .i64 0) := (blk_cell BK296.out 10).trans rfl; have hcz46_11 : w43.cell? ⟨gb296, 11, none⟩ = some (.string (⟨#[]⟩ : ByteArray)) := (blk_cell BK296.out 11).trans rfl; have hcz46_12 : w43.cell? ⟨gb296, 12, none⟩ = some (.string (⟨#[]⟩ : ByteArray)) := (blk_cell BK296.out 12).trans rfl; have hcz46_13 : w43.cell? ⟨gb296, 13, none⟩ = some (.string (⟨#[]⟩ : ByteArray)) := (blk_cell BK296.out 13).trans rfl; have hcz46_14 : w43.cell? ⟨gb296, 14, none⟩ = some (.int .i64 0) := (blk_cell BK296.out 14).trans rfl; have hcz46_15 : w43.cell? ⟨gb296, 15, none⟩ = some (.bool false) := (blk_cell BK296.out 15).trans rfl; have hcz46_16 : w43.cell? ⟨gb296, 16, none⟩ = some (.bool false) := (blk_cell BK296.out 16).trans rfl; have hcz46_17 : w43.cell? ⟨gb296, 17, none⟩ = some (.int .i64 0) := (blk_cell BK296.out 17).trans rfl; have hcz46_18 : w43.cell? ⟨gb296, 18, none⟩ = some (.int .i64 0) := (blk_cell BK296.out 18).trans rfl; have hcz46_19 : w43.cell? ⟨gb296, 19, none⟩ = some (.string (⟨#[]⟩ : ByteArray)) := (blk_cell BK296.out 19).trans rfl; have hcz46_20 : w43.cell? ⟨gb296, 20, none⟩ = some (.int .i64 0) := (blk_cell BK296.out 20).trans rfl; have hcz46_21 : w43.cell? ⟨gb296, 21, none⟩ = some (.int .i64 0) := (blk_cell BK296.out 21).trans rfl; have hcz46_22 : w43.cell? ⟨gb296, 22, none⟩ = some (.int .i64 0) := (blk_cell BK296.out 22).trans rfl; have hcz46_23 : w43.cell? ⟨gb296, 23, none⟩ = some (.int .i64 0) := (blk_cell BK296.out 23).trans rfl; have hcz46_24 : w43.cell? ⟨gb296, 24, none⟩ = some (.int .i64 0) := (blk_cell BK296.out 24).trans rfl; have hcz46_25 : w43.cell? ⟨gb296, 25, none⟩ = some (.bool false) := (blk_cell BK296.out 25).trans rfl; have hcz46_26 : w43.cell? ⟨gb296, 26, none⟩ = some (.int .u64 0) := (blk_cell BK296.out 26).trans rfl; have hcz46_27 : w43.cell? ⟨gb296, 27, none⟩ = some (.slice none 0 0) := (blk_cell BK296.out 27).trans rfl; have hcz46_28 : w43.cell? ⟨gb296, 28, none⟩ = some (.int .i64 0) := (blk_cell BK296.out 28).trans rfl; have hcz46_29 : w43.cell? ⟨gb296, 29, none⟩ = some (.string (⟨#[]⟩ : ByteArray)) := (blk_cell BK296.out 29).trans rfl; have hcz46_30 : w43.cell? ⟨gb296, 30, none⟩ = some (.int .i64 0) := (blk_cell BK296.out 30).trans rfl; have hcz46_31 : w43.cell? ⟨gb296, 31, none⟩ = some (.int .i64 0) := (blk_cell BK296.out 31).trans rfl; have hfz46_0 := blk_frozen BK296.out 0; have hfz46_1 := blk_frozen BK296.out 1; have hfz46_2 := blk_frozen BK296.out 2; have hfz46_3 := blk_frozen BK296.out 3; have hfz46_4 := blk_frozen BK296.out 4; have hfz46_5 := blk_frozen BK296.out 5; have hfz46_6 := blk_frozen BK296.out 6; have hfz46_7 := blk_frozen BK296.out 7; have hfz46_8 := blk_frozen BK296.out 8; have hfz46_9 := blk_frozen BK296.out 9; have hfz46_10 := blk_frozen BK296.out 10; have hfz46_11 := blk_frozen BK296.out 11; have hfz46_12 := blk_frozen BK296.out 12; have hfz46_13 := blk_frozen BK296.out 13; have hfz46_14 := blk_frozen BK296.out 14; have hfz46_15 := blk_frozen BK296.out 15; have hfz46_16 := blk_frozen BK296.out 16; have hfz46_17 := blk_frozen BK296.out 17; have hfz46_18 := blk_frozen BK296.out 18; have hfz46_19 := blk_frozen BK296.out 19; have hfz46_20 := blk_frozen BK296.out 20; have hfz46_21 := blk_frozen BK296.out 21; have hfz46_22 := blk_frozen BK296.out 22; have hfz46_23 := blk_frozen BK296.out 23; have hfz46_24 := blk_frozen BK296.out 24; have hfz46_25 := blk_frozen BK296.out 25; have hfz46_26 := blk_frozen BK296.out 26; have hfz46_27 := blk_frozen BK296.out 27; have hfz46_28 := blk_frozen BK296.out 28; have hfz46_29 := blk_frozen BK296.out 29; have hfz46_30 := blk_frozen BK296.out 30; have hfz46_31 := blk_frozen BK296.out 31) | ((with_reducible refine gate_store (t := 68) (p := 7) rfl ?_); refine box_store_event (t := 68) (ty := 68) (p := 7) (x := ?vo_w47) (g := gb296) (cs := #[.int .i64 0, .string (⟨#[]⟩ : ByteArray), .int .i64 0, .int .i64 0, .slice none 0 0, .int .i64 0, .int .i64 0, .bool false, .bool false, .bool false, .int .i64 0, .string (⟨#[]⟩ : ByteArray), .string (⟨#[]⟩ : ByteArray), .string (⟨#[]⟩ : ByteArray), .int .i64 0, .bool false, .bool false, .int .i64 0, .int .i64 0, .string (⟨#[]⟩ : ByteArray), .int .i64 0, .int .i64 0, .int .i64 0, .int .i64 0, .int .i64 0, .bool false, .int .u64 0, .slice none 0 0, .int .i64 0, .string (⟨#[]⟩ : ByteArray), .int .i64 0, .int .i64 0]) (cs' := #[.int .i64 ((rd_T68 l0_1 x6_1).f0), .string ((rd_T68 l0_1 x6_1).f1), .int .i64 ((rd_T68 l0_1 x6_1).f2), .int .i64 ((rd_T68 l0_1 x6_1).f3), .slice A295_4 ((rd_T68 l0_1 x6_1).f4).length c295_4, .int .i64 ((rd_T68 l0_1 x6_1).f5.f0), .int .i64 ((rd_T68 l0_1 x6_1).f5.f1), .bool ((rd_T68 l0_1 x6_1).f6), .bool ((rd_T68 l0_1 x6_1).f7), .bool ((rd_T68 l0_1 x6_1).f8), .int .i64 ((rd_T68 l0_1 x6_1).f9), .string ((rd_T68 l0_1 x6_1).f10), .string ((rd_T68 l0_1 x6_1).f11), .string ((rd_T68 l0_1 x6_1).f12), .int .i64 ((rd_T68 l0_1 x6_1).f13), .bool false, .bool ((rd_T68 l0_1 x6_1).f15), .int .i64 ((rd_T68 l0_1 x6_1).f16.f0), .int .i64 ((rd_T68 l0_1 x6_1).f16.f1), .string ((rd_T68 l0_1 x6_1).f17), .int .i64 ((rd_T68 l0_1 x6_1).f18), .int .i64 ((rd_T68 l0_1 x6_1).f19), .int .i64 ((rd_T68 l0_1 x6_1).f20), .int .i64 ((rd_T68 l0_1 x6_1).f21), .int .i64 ((rd_T68 l0_1 x6_1).f22), .bool ((rd_T68 l0_1 x6_1).f23), .int .u64 ((rd_T68 l0_1 x6_1).f24), .slice A295_27 ((rd_T68 l0_1 x6_1).f25).length c295_27, .int .i64 ((rd_T68 l0_1 x6_1).f26), .string ((rd_T68 l0_1 x6_1).f27), .int .i64 ((rd_T68 l0_1 x6_1).f28), .int .i64 ((rd_T68 l0_1 x6_1).f29)]) ?hgd ?ho ?hN ?he ?hv ?hi ?hb ?hs ?h1 ?_; (case ho => rfl); (case hgd => rfl); (case hN => rfl); (case he => rfl); (case hv => first | rfl | (simp; done)); (case hi => exact size68); (case hb => (with_reducible repeat (first | refine blk_drewN ?_ _ | refine blk_drew ?_ | refine blk_alloc ?_ _)); exact BK296.out); (case hs => rfl); (case h1 => rfl); intro w47 hbox hg; have n0_ := Aside0.mk (blk_grown (by (with_reducible repeat (first | refine blk_drewN ?_ _ | refine blk_drew ?_ | refine blk_alloc ?_ _)); exact BK293.out) hg (fun e_ => NB293_296.out (Option.some.inj e_))); have n1_ := Aside0.mk (blk_grown (by (with_reducible repeat (first | refine blk_drewN ?_ _ | refine blk_drew ?_ | refine blk_alloc ?_ _)); exact BK294.out) hg (fun e_ => NB294_296.out (Option.some.inj e_))); have n2_ := Aside0.mk (hbox); have n3_ := Aside0.mk (Below.grown (by repeat (first | (with_reducible first | exact HB.out | apply below_alloc | apply pw_below_drewN | apply below_drew1 | refine below_set ?_ GE293.out | refine below_set ?_ GE294.out | refine below_set ?_ GE296.out) | exact HB.out)) hg (below_size (by repeat (first | (with_reducible first | exact HB.out | apply below_alloc | apply pw_below_drewN | apply below_drew1 | refine below_set ?_ GE293.out | refine below_set ?_ GE294.out | refine below_set ?_ GE296.out) | exact HB.out))) (fun k_ e_ => by injection e_ with e_; subst e_; exact GE296.out)); clear BK293; clear BK294; clear BK296; clear HB; have BK293 := n0_; have BK294 := n1_; have BK296 := n2_; have HB := n3_; clear n0_ n1_ n2_ n3_; clear hbox hg; have hcz48_0 : w47.cell? ⟨gb296, 0, none⟩ = some (.int .i64 ((rd_T68 l0_1 x6_1).f0)) := (blk_cell BK296.out 0).trans rfl; have hcz48_1 : w47.cell? ⟨gb296, 1, none⟩ = some (.string ((rd_T68 l0_1 x6_1).f1)) := (blk_cell BK296.out 1).trans rfl; have hcz48_2 : w47.cell? ⟨gb296, 2, none⟩ = some (.int .i64 ((rd_T68 l0_1 x6_1).f2)) := (blk_cell BK296.out 2).trans rfl; have hcz48_3 : w47.cell? ⟨gb296, 3, none⟩ = some (.int .i64 ((rd_T68 l0_1 x6_1).f3)) := (blk_cell BK296.out 3).trans rfl; have hcz48_4 : w47.cell? ⟨gb296, 4, none⟩ = some (.slice A295_4 ((rd_T68 l0_1 x6_1).f4).length c295_4) := (blk_cell BK296.out 4).trans rfl; have hcz48_5 : w47.cell? ⟨gb296, 5, none⟩ = some (.int .i64 ((rd_T68 l0_1 x6_1).f5.f0)) := (blk_cell BK296.out 5).trans rfl; have hcz48_6 : w47.cell? ⟨gb296, 6, none⟩ = some (.int .i64 ((rd_T68 l0_1 x6_1).f5.f1)) := (blk_cell BK296.out 6).trans rfl; have hcz48_7 : w47.cell? ⟨gb296, 7, none⟩ = some (.bool ((rd_T68 l0_1 x6_1).f6)) := (blk_cell BK296.out 7).trans rfl; have hcz48_8 : w47.cell? ⟨gb296, 8, none⟩ = some (.bool ((rd_T68 l0_1 x6_1).f7)) := (blk_cell BK296.out 8).trans rfl; have hcz48_9 : w47.cell? ⟨gb296, 9, none⟩ = some (.bool ((rd_T68 l0_1 x6_1).f8)) := (blk_cell BK296.out 9).trans rfl; have hcz48_10 : w47.cell? ⟨gb296, 10, none⟩ = some (.int .i64 ((rd_T68 l0_1 x6_1).f9)) := (blk_cell BK296.out 10).trans rfl; have hcz48_11 : w47.cell? ⟨gb296, 11, none⟩ = some (.string ((rd_T68 l0_1 x6_1).f10)) := (blk_cell BK296.out 11).trans rfl; have hcz48_12 : w47.cell? ⟨gb296, 12, none⟩ = some (.string ((rd_T68 l0_1 x6_1).f11)) := (blk_cell BK296.out 12).trans rfl; have hcz48_13 : w47.cell? ⟨gb296, 13, none⟩ = some (.string ((rd_T68 l0_1 x6_1).f12)) := (blk_cell BK296.out 13).trans rfl; have hcz48_14 : w47.cell? ⟨gb296, 14, none⟩ = some (.int .i64 ((rd_T68 l0_1 x6_1).f13)) := (blk_cell BK296.out 14).trans rfl; have hcz48_15 : w47.cell? ⟨gb296, 15, none⟩ = some (.bool false) := (blk_cell BK296.out 15).trans rfl; have hcz48_16 : w47.cell? ⟨gb296, 16, none⟩ = some (.bool ((rd_T68 l0_1 x6_1).f15)) := (blk_cell BK296.out 16).trans rfl; have hcz48_17 : w47.cell? ⟨gb296, 17, none⟩ = some (.int .i64 ((rd_T68 l0_1 x6_1).f16.f0)) := (blk_cell BK296.out 17).trans rfl; have hcz48_18 : w47.cell? ⟨gb296, 18, none⟩ = some (.int .i64 ((rd_T68 l0_1 x6_1).f16.f1)) := (blk_cell BK296.out 18).trans rfl; have hcz48_19 : w47.cell? ⟨gb296, 19, none⟩ = some (.string ((rd_T68 l0_1 x6_1).f17)) := (blk_cell BK296.out 19).trans rfl; have hcz48_20 : w47.cell? ⟨gb296, 20, none⟩ = some (.int .i64 ((rd_T68 l0_1 x6_1).f18)) := (blk_cell BK296.out 20).trans rfl; have hcz48_21 : w47.cell? ⟨gb296, 21, none⟩ = some (.int .i64 ((rd_T68 l0_1 x6_1).f19)) := (blk_cell BK296.out 21).trans rfl; have hcz48_22 : w47.cell? ⟨gb296, 22, none⟩ = some (.int .i64 ((rd_T68 l0_1 x6_1).f20)) := (blk_cell BK296.out 22).trans rfl; have hcz48_23 : w47.cell? ⟨gb296, 23, none⟩ = some (.int .i64 ((rd_T68 l0_1 x6_1).f21)) := (blk_cell BK296.out 23).trans rfl; have hcz48_24 : w47.cell? ⟨gb296, 24, none⟩ = some (.int .i64 ((rd_T68 l0_1 x6_1).f22)) := (blk_cell BK296.out 24).trans rfl; have hcz48_25 : w47.cell? ⟨gb296, 25, none⟩ = some (.bool ((rd_T68 l0_1 x6_1).f23)) := (blk_cell BK296.out 25).trans rfl; have hcz48_26 : w47.cell? ⟨gb296, 26, none⟩ = some (.int .u64 ((rd_T68 l0_1 x6_1).f24)) := (blk_cell BK296.out 26).trans rfl; have hcz48_27 : w47.cell? ⟨gb296, 27, none⟩ = some (.slice A295_27 ((rd_T68 l0_1 x6_1).f25).length c295_27) := (blk_cell BK296.out 27).trans rfl; have hcz48_28 : w47.cell? ⟨gb296, 28, none⟩ = some (.int .i64 ((rd_T68 l0_1 x6_1).f26)) := (blk_cell BK296.out 28).trans rfl; have hcz48_29 : w47.cell? ⟨gb296, 29, none⟩ = some (.string ((rd_T68 l0_1 x6_1).f27)) := (blk_cell BK296.out 29).trans rfl; have hcz48_30 : w47.cell? ⟨gb296, 30, none⟩ = some (.int .i64 ((rd_T68 l0_1 x6_1).f28)) := (blk_cell BK296.out 30).trans rfl; have hcz48_31 : w47.cell? ⟨gb296, 31, none⟩ = some (.int .i64 ((rd_T68 l0_1 x6_1).f29)) := (blk_cell BK296.out 31).trans rfl; have hfz48_0 := blk_frozen BK296.out 0; have hfz48_1 := blk_frozen BK296.out 1; have hfz48_2 := blk_frozen BK296.out 2; have hfz48_3 := blk_frozen BK296.out 3; have hfz48_4 := blk_frozen BK296.out 4; have hfz48_5 := blk_frozen BK296.out 5; have hfz48_6 := blk_frozen BK296.out 6; have hfz48_7 := blk_frozen BK296.out 7; have hfz48_8 := blk_frozen BK296.out 8; have hfz48_9 := blk_frozen BK296.out 9; have hfz48_10 := blk_frozen BK296.out 10; have hfz48_11 := blk_frozen BK296.out 11; have hfz48_12 := blk_frozen BK296.out 12; have hfz48_13 := blk_frozen BK296.out 13; have hfz48_14 := blk_frozen BK296.out 14; have hfz48_15 := blk_frozen BK296.out 15; have hfz48_16 := blk_frozen BK296.out 16; have hfz48_17 := blk_frozen BK296.out 17; have hfz48_18 := blk_frozen BK296.out 18; have hfz48_19 := blk_frozen BK296.out 19; have hfz48_20 := blk_frozen BK296.out 20; have hfz48_21 := blk_frozen BK296.out 21; have hfz48_22 := blk_frozen BK296.out 22; have hfz48_23 := blk_frozen BK296.out 23; have hfz48_24 := blk_frozen BK296.out 24; have hfz48_25 := blk_frozen BK296.out 25; have hfz48_26 := blk_frozen BK296.out 26; have hfz48_27 := blk_frozen BK296.out 27; have hfz48_28 := blk_frozen BK296.out 28; have hfz48_29 := blk_frozen BK296.out 29; have hfz48_30 := blk_frozen BK296.out 30; have hfz48_31 := blk_frozen BK296.out 31))
            go_roundg k1
            case measure => have := HK1.out; omega
            case rel => exact ⟨(x5_1), (wrap64 (x6_1 + 1)), (by first | rfl | (simp; done) | (simp [*]; done)), (by first | rfl | (simp; done) | (simp [*]; done)), H', ⟨by have := HK1.out; omega⟩, ⟨by (with_reducible repeat (first | refine blk_drewN ?_ _ | refine blk_drew ?_ | refine blk_alloc ?_ _)); exact BK293.out⟩, ⟨by (with_reducible repeat (first | refine blk_drewN ?_ _ | refine blk_drew ?_ | refine blk_alloc ?_ _)); exact BK294.out⟩, ⟨by repeat (first | (with_reducible first | exact HB.out | apply below_alloc | apply pw_below_drewN | apply below_drew1 | refine below_set ?_ GE293.out | refine below_set ?_ GE294.out | refine below_set ?_ GE296.out) | exact HB.out)⟩⟩
        · rw [if_neg c6] at H
          exact absurd H (by simp)
      · rw [if_neg c5] at H
        have c5b0 : decide (x6_1 < (l0_1.length : Int)) = false := decide_eq_false c5
        clear c5
        obtain rfl := Option.some.inj H
        have hnb49 := NB293_294.out
        have hnc49 := NB294_293.out
        have hcz50_0 : wr.cell? ⟨gb293, 0, none⟩ = some (.slice A0_0 l0_0.length c0_0) := (blk_cell BK293.out 0).trans rfl
        have hcz50_1 : wr.cell? ⟨gb293, 1, none⟩ = some (.slice A0_1 l0_1.length c0_1) := (blk_cell BK293.out 1).trans rfl
        have hcz50_2 : wr.cell? ⟨gb293, 2, none⟩ = some (.slice A0_2 l0_2.length c0_2) := (blk_cell BK293.out 2).trans rfl
        have hcz50_3 : wr.cell? ⟨gb293, 3, none⟩ = some (.slice A0_3 l0_3.length c0_3) := (blk_cell BK293.out 3).trans rfl
        have hfz50_0 := blk_frozen BK293.out 0
        have hfz50_1 := blk_frozen BK293.out 1
        have hfz50_2 := blk_frozen BK293.out 2
        have hfz50_3 := blk_frozen BK293.out 3
        go_wp2_with (first | ((with_reducible refine gate_load (t := 68) rfl ?_); first | (refine load68_box rfl rfl rfl (by with_reducible assumption) (by with_reducible assumption) (by with_reducible assumption) (by with_reducible assumption) (by with_reducible assumption) (by with_reducible assumption) (by with_reducible assumption) (by with_reducible assumption) (by with_reducible assumption) (by with_reducible assumption) (by with_reducible assumption) (by with_reducible assumption) (by with_reducible assumption) (by with_reducible assumption) (by with_reducible assumption) (by with_reducible assumption) (by with_reducible assumption) (by with_reducible assumption) (by with_reducible assumption) (by with_reducible assumption) (by with_reducible assumption) (by with_reducible assumption) (by with_reducible assumption) (by with_reducible assumption) (by with_reducible assumption) (by with_reducible assumption) (by with_reducible assumption) (by with_reducible assumption) (by with_reducible assumption) (by with_reducible assumption) (by with_reducible assumption) (by with_reducible assumption) ?_) | (refine load68_at rfl rfl rfl (by with_reducible assumption) (by with_reducible assumption) (by with_reducible assumption) (by with_reducible assumption) (by with_reducible assumption) (by with_reducible assumption) (by with_reducible assumption) (by with_reducible assumption) (by with_reducible assumption) (by with_reducible assumption) (by with_reducible assumption) (by with_reducible assumption) (by with_reducible assumption) (by with_reducible assumption) (by with_reducible assumption) (by with_reducible assumption) (by with_reducible assumption) (by with_reducible assumption) (by with_reducible assumption) (by with_reducible assumption) (by with_reducible assumption) (by with_reducible assumption) (by with_reducible assumption) (by with_reducible assumption) (by with_reducible assumption) (by with_reducible assumption) (by with_reducible assumption) (by with_reducible assumption) (by with_reducible assumption) (by with_reducible assumption) (by with_reducible assumption) (by with_reducible assumption) ?_)))
        go_ret
        exact ⟨by first | rfl | (simp [errW_none, errW_some] <;> rfl) | (simp [*, errW_none, errW_some] <;> rfl), by repeat (first | (with_reducible first | exact HB.out | apply below_alloc | apply pw_below_drewN | apply below_drew1 | refine below_set ?_ GE293.out | refine below_set ?_ GE294.out) | exact HB.out)⟩
end Go.Proofs.Ytamjjeakkkdfhaa.PB
end
section
namespace Go.Proofs.Ytamjjeakkkdfhaa.G
open Go.RowKit Go.Proofs.YtamjjeakkkdfhaaW.PrintWords Go.Proofs.YtamjjeakkkdfhaaW.PrintLast Go.Proofs.YtamjjeakkkdfhaaW.PrintMore
open Go.Proofs.Ytamjjeakkkdfhaa.K Go.Proofs.YtamjjeakkkdfhaaE Go.Proofs.Ytamjjeakkkdfhaa.PB
set_option linter.unusedVariables false
theorem cnt_one (p : S68 → Bool) (l : List S68) {i : Nat} (h : i < l.length) : countL p (l.take (i + 1)) = countL p (l.take i) + if p l[i] = true then 1 else 0 := by
  have := count_succ (p := p) h; rw [rd_get h] at this; exact this
theorem owned_from (a : ByteArray) (l0 l l2 l3 : List S68) (hl : l.length ≤ 4398046511000) : ∀ (d k i : Nat), i ≤ l.length → l.length - i = d → d < k → flotillaref16_Owned.l0 k a (countL (isOwned a) (l.take i) : Nat) (i : Int) l0 l l2 l3 = some ((countL (isOwned a) l : Nat) : Int) := by
  intro d
  induction d with
  | zero =>
    intro k i hi hd hk
    obtain ⟨k, rfl⟩ : ∃ m, k = m + 1 := ⟨k - 1, by omega⟩
    simp only [flotillaref16_Owned.l0]
    rw [if_neg (by omega), List.take_of_length_le (by omega)]
  | succ d ih =>
    intro k i hi hd hk
    obtain ⟨k, rfl⟩ : ∃ m, k = m + 1 := ⟨k - 1, by omega⟩
    have hlt : i < l.length := by omega
    have hw : wrap64 ((i : Int) + 1) = ((i + 1 : Nat) : Int) := by unfold wrap64; omega
    have hc := count_le (isOwned a) l i
    have hw2 : wrap64 (((countL (isOwned a) (l.take i) : Nat) : Int) + 1) = ((countL (isOwned a) (l.take i) + 1 : Nat) : Int) := by unfold wrap64; omega
    have hn := ih k (i + 1) (by omega) (by omega) (by omega)
    rw [cnt_one _ _ hlt] at hn
    simp only [flotillaref16_Owned.l0]
    rw [if_pos (by omega), if_pos (by omega), hw, hw2, rd_get hlt]
    by_cases h1 : l[i].f10.toList = a.toList
    · rw [if_pos h1]
      by_cases h2 : l[i].f15 = true
      · rw [if_pos h2]; rw [if_neg (by simp [isOwned, h2])] at hn; exact hn
      · rw [if_neg h2]; rw [if_pos (by simp [isOwned, h1, h2])] at hn; exact hn
    · rw [if_neg h1]; rw [if_neg (by simp [isOwned, h1])] at hn; exact hn
theorem owned_ref (l0 l1 l2 l3 : List S68) (a : ByteArray) (hl : l1.length ≤ 4398046511000) : flotillaref16_Owned.f (l1.length + 1) l0 l1 l2 l3 a = some ((countL (isOwned a) l1 : Nat) : Int) :=
  owned_from a l0 l1 l2 l3 hl l1.length (l1.length + 1) 0 (by omega) (by omega) (by omega)
theorem ready_from (a : ByteArray) (l0 l l2 l3 : List S68) (hl : l.length ≤ 4398046511000) : ∀ (d k i : Nat), i ≤ l.length → l.length - i = d → d < k → flotillaref16_Ready.l0 k a (countL (isReady a) (l.take i) : Nat) (i : Int) l0 l l2 l3 = some ((countL (isReady a) l : Nat) : Int) := by
  intro d
  induction d with
  | zero =>
    intro k i hi hd hk
    obtain ⟨k, rfl⟩ : ∃ m, k = m + 1 := ⟨k - 1, by omega⟩
    simp only [flotillaref16_Ready.l0]
    rw [if_neg (by omega), List.take_of_length_le (by omega)]
  | succ d ih =>
    intro k i hi hd hk
    obtain ⟨k, rfl⟩ : ∃ m, k = m + 1 := ⟨k - 1, by omega⟩
    have hlt : i < l.length := by omega
    have hw : wrap64 ((i : Int) + 1) = ((i + 1 : Nat) : Int) := by unfold wrap64; omega
    have hc := count_le (isReady a) l i
    have hw2 : wrap64 (((countL (isReady a) (l.take i) : Nat) : Int) + 1) = ((countL (isReady a) (l.take i) + 1 : Nat) : Int) := by unfold wrap64; omega
    have hn := ih k (i + 1) (by omega) (by omega) (by omega)
    rw [cnt_one _ _ hlt] at hn
    simp only [flotillaref16_Ready.l0]
    rw [if_pos (by omega), if_pos (by omega), hw, hw2, rd_get hlt]
    by_cases h1 : l[i].f10.toList = a.toList
    · rw [if_pos h1]
      by_cases h2 : l[i].f15 = true
      · rw [if_pos h2]; rw [if_neg (by simp [isReady, h2])] at hn; exact hn
      · rw [if_neg h2]
        by_cases h3 : l[i].f14 = true
        · rw [if_pos h3]; rw [if_pos (by simp [isReady, h1, h2, h3])] at hn; exact hn
        · rw [if_neg h3]; rw [if_neg (by simp [isReady, h3])] at hn; exact hn
    · rw [if_neg h1]; rw [if_neg (by simp [isReady, h1])] at hn; exact hn
theorem ready_ref (l0 l1 l2 l3 : List S68) (a : ByteArray) (hl : l1.length ≤ 4398046511000) : flotillaref16_Ready.f (l1.length + 1) l0 l1 l2 l3 a = some ((countL (isReady a) l1 : Nat) : Int) :=
  ready_from a l0 l1 l2 l3 hl l1.length (l1.length + 1) 0 (by omega) (by omega) (by omega)
theorem mn_mx_held (n : Int) : mn (mx n 0) 1125899906842624 = mx (heldI n) 0 := by
  unfold heldI mn mx; repeat' split
  all_goals omega
theorem both_ref {a b c d : Int} (h : small (a, b)) : flotillaref16_both.f a b c d = some (bothI (a, b) c d) := by
  obtain ⟨⟨h1, h2⟩, h3, h4⟩ := h
  have hc := mx_held c
  have hd := mx_held d
  have e1 : wrap64 (a + mx (heldI c) 0) = a + mx (heldI c) 0 := by unfold wrap64; simp only at h1 h2; omega
  have e2 : wrap64 (b + mx (heldI d) 0) = b + mx (heldI d) 0 := by unfold wrap64; simp only at h3 h4; omega
  unfold flotillaref16_both.f
  rw [mn_mx_held, mn_mx_held, e1, e2]; rfl
theorem used_ref_from (a : ByteArray) (l0 l l2 l3 : List S68) (hl : l.length ≤ 9223372036854775807) : ∀ (d k : Nat) (acc : Int × Int) (i : Nat), i ≤ l.length → l.length - i = d → d < k → small acc → flotillaref16_Used.l0 k a (i : Int) l0 l l2 l3 acc.1 acc.2 = some ((l.drop i).foldl (usedOne a) acc) := by
  intro d
  induction d with
  | zero =>
    intro k acc i hi hd hk ha
    obtain ⟨k, rfl⟩ : ∃ m, k = m + 1 := ⟨k - 1, by omega⟩
    simp only [flotillaref16_Used.l0]
    rw [if_neg (by omega), List.drop_of_length_le (by omega)]; rfl
  | succ d ih =>
    intro k acc i hi hd hk ha
    obtain ⟨k, rfl⟩ : ∃ m, k = m + 1 := ⟨k - 1, by omega⟩
    have hlt : i < l.length := by omega
    have hw : wrap64 ((i : Int) + 1) = ((i + 1 : Nat) : Int) := by unfold wrap64; omega
    simp only [flotillaref16_Used.l0]
    rw [if_pos (by omega), hw, List.drop_eq_getElem_cons hlt, List.foldl_cons]
    have hs := usedOne_small (a := a) (x := l[i]) ha
    unfold usedOne at hs ⊢
    rw [rd_get hlt]
    by_cases h1 : a.toList = ([] : List UInt8)
    · rw [if_pos h1] at hs ⊢
      rw [if_pos h1]
      exact ih k acc (i + 1) (by omega) (by omega) (by omega) ha
    · rw [if_neg h1] at hs ⊢
      rw [if_neg h1, if_pos (by omega)]
      by_cases h2 : l[i].f12.toList = a.toList
      · rw [if_pos h2] at hs ⊢
        rw [if_pos h2, both_ref (show small (acc.1, acc.2) from ha)]
        exact ih k _ (i + 1) (by omega) (by omega) (by omega) hs
      · rw [if_neg h2] at hs ⊢
        rw [if_neg h2]
        exact ih k acc (i + 1) (by omega) (by omega) (by omega) ha
theorem used_ref (l0 l1 l2 l3 : List S68) (a : ByteArray) (hl : l1.length ≤ 9223372036854775807) : flotillaref16_Used.f (l1.length + 1) l0 l1 l2 l3 a = some (usedL l1 a) :=
  used_ref_from a l0 l1 l2 l3 hl l1.length (l1.length + 1) (0, 0) 0 (by omega) (by omega) (by omega) small_zero
theorem eqL_symm (x y : S31) : eqL x y = eqL y x := by
  unfold eqL
  rw [Bool.beq_comm (a := x.f0.toList), Bool.beq_comm (a := x.f1.toList)]
theorem rd_lab {l : List S31} {k : Nat} (h : k < l.length) : rd_T31 l (k : Int) = l[k] := by simp [rd_T31, List.getD_eq_getElem?_getD, h]
theorem has_from (l : List S31) (y : S31) (hl : l.length ≤ 4398046511000) : ∀ (d k i : Nat), i ≤ l.length → l.length - i = d → d < k → flotillaref02_has.l0 k l (i : Int) y.f0 y.f1 = some ((l.drop i).any (eqL y)) := by
  intro d
  induction d with
  | zero =>
    intro k i hi hd hk
    obtain ⟨k, rfl⟩ : ∃ m, k = m + 1 := ⟨k - 1, by omega⟩
    simp only [flotillaref02_has.l0]
    rw [if_neg (by omega), List.drop_of_length_le (by omega)]; rfl
  | succ d ih =>
    intro k i hi hd hk
    obtain ⟨k, rfl⟩ : ∃ m, k = m + 1 := ⟨k - 1, by omega⟩
    have hlt : i < l.length := by omega
    have hw : wrap64 ((i : Int) + 1) = ((i + 1 : Nat) : Int) := by unfold wrap64; omega
    simp only [flotillaref02_has.l0]
    rw [if_pos (by omega), if_pos (by omega), hw, rd_lab hlt, List.drop_eq_getElem_cons hlt, List.any_cons, eqL_symm y l[i]]
    show (if eqL l[i] y = true then some true else _) = _
    cases he : eqL l[i] y with
    | true => rfl
    | false => rw [if_neg (by decide), Bool.false_or]; exact ih k (i + 1) (by omega) (by omega) (by omega)
theorem matchL_all (sel l : List S31) : matchL sel l = sel.all fun y => l.any (eqL y) := by
  unfold matchL comm
  rw [Bool.eq_iff_iff, decide_eq_true_iff, List.all_eq_true, List.length_filter_eq_length_iff]
theorem matches_from (sel l : List S31) (hs : sel.length ≤ 4398046511000) (hl : l.length ≤ 4398046511000) : ∀ (d k i : Nat), i ≤ sel.length → sel.length - i = d → d + l.length + 1 < k → flotillaref02_Matches.l0 k sel l (i : Int) = some ((sel.drop i).all fun y => l.any (eqL y)) := by
  intro d
  induction d with
  | zero =>
    intro k i hi hd hk
    obtain ⟨k, rfl⟩ : ∃ m, k = m + 1 := ⟨k - 1, by omega⟩
    simp only [flotillaref02_Matches.l0]
    rw [if_neg (by omega), List.drop_of_length_le (by omega)]; rfl
  | succ d ih =>
    intro k i hi hd hk
    obtain ⟨k, rfl⟩ : ∃ m, k = m + 1 := ⟨k - 1, by omega⟩
    have hlt : i < sel.length := by omega
    have hw : wrap64 ((i : Int) + 1) = ((i + 1 : Nat) : Int) := by unfold wrap64; omega
    have hh : flotillaref02_has.f k l sel[i].f0 sel[i].f1 = some (l.any (eqL sel[i])) := has_from l sel[i] hl l.length k 0 (by omega) (by omega) (by omega)
    simp only [flotillaref02_Matches.l0]
    rw [if_pos (by omega), if_pos (by omega), hw, rd_lab hlt, hh, List.drop_eq_getElem_cons hlt, List.all_cons]
    simp only [Option.bind_some]
    cases he : l.any (eqL sel[i]) with
    | false => rfl
    | true => rw [if_pos rfl, Bool.true_and]; exact ih k (i + 1) (by omega) (by omega) (by omega)
theorem matches_ref (sel l : List S31) (hs : sel.length ≤ 4398046511000) (hl : l.length ≤ 4398046511000) (k : Nat) (hk : sel.length + l.length + 1 < k) : flotillaref02_Matches.f k sel l = some (matchL sel l) := by
  rw [matchL_all]; exact matches_from sel l hs hl sel.length k 0 (by omega) (by omega) hk
theorem guarded_from (l0 l l2 l3 : List S68) (b : S68) (hb : b.f25.length ≤ 4398046511000) (hx : ∀ x ∈ l, x.f4.length ≤ 4398046511000) (hl : l.length ≤ 4398046511000) : ∀ (d k i : Nat), i ≤ l.length → l.length - i = d → d + 8796093022002 < k → flotillaref16_Guarded.l0 k (countL (isGuard b.f25) (l.take i) : Nat) (i : Int) l0 l l2 l3 b.f0 b.f1 b.f2 b.f3 b.f4 b.f5.f0 b.f5.f1 b.f6 b.f7 b.f8 b.f9 b.f10 b.f11 b.f12 b.f13 b.f14 b.f15 b.f16.f0 b.f16.f1 b.f17 b.f18 b.f19 b.f20 b.f21 b.f22 b.f23 b.f24 b.f25 b.f26 b.f27 b.f28 b.f29 = some ((countL (isGuard b.f25) l : Nat) : Int) := by
  intro d
  induction d with
  | zero =>
    intro k i hi hd hk
    obtain ⟨k, rfl⟩ : ∃ m, k = m + 1 := ⟨k - 1, by omega⟩
    simp only [flotillaref16_Guarded.l0]
    rw [if_neg (by omega), List.take_of_length_le (by omega)]
  | succ d ih =>
    intro k i hi hd hk
    obtain ⟨k, rfl⟩ : ∃ m, k = m + 1 := ⟨k - 1, by omega⟩
    have hlt : i < l.length := by omega
    have hw : wrap64 ((i : Int) + 1) = ((i + 1 : Nat) : Int) := by unfold wrap64; omega
    have hc := count_le (isGuard b.f25) l i
    have hw2 : wrap64 (((countL (isGuard b.f25) (l.take i) : Nat) : Int) + 1) = ((countL (isGuard b.f25) (l.take i) + 1 : Nat) : Int) := by unfold wrap64; omega
    have hn := ih k (i + 1) (by omega) (by omega) (by omega)
    rw [cnt_one _ _ hlt] at hn
    have hxi := hx l[i] (List.getElem_mem hlt)
    have hm := matches_ref b.f25 l[i].f4 hb hxi k (by omega)
    simp only [flotillaref16_Guarded.l0]
    rw [if_pos (by omega), if_pos (by omega), hw, hw2, rd_get hlt, hm]
    simp only [Option.bind_some]
    by_cases h1 : l[i].f14 = true
    · rw [if_pos h1]
      by_cases h2 : l[i].f15 = true
      · rw [if_pos h2]; rw [if_neg (by simp [isGuard, h2])] at hn; exact hn
      · rw [if_neg h2]
        by_cases h3 : matchL b.f25 l[i].f4 = true
        · rw [if_pos h3]; rw [if_pos (by simp [isGuard, h1, h2, h3])] at hn; exact hn
        · rw [if_neg h3]; rw [if_neg (by simp [isGuard, h3])] at hn; exact hn
    · rw [if_neg h1]; rw [if_neg (by simp [isGuard, h1])] at hn; exact hn
theorem guarded_ref (l0 l1 l2 l3 : List S68) (b : S68) (hb : b.f25.length ≤ 4398046511000) (hx : ∀ x ∈ l1, x.f4.length ≤ 4398046511000) (hl : l1.length ≤ 4398046511000) : ∃ k, flotillaref16_Guarded.f k l0 l1 l2 l3 b.f0 b.f1 b.f2 b.f3 b.f4 b.f5.f0 b.f5.f1 b.f6 b.f7 b.f8 b.f9 b.f10 b.f11 b.f12 b.f13 b.f14 b.f15 b.f16.f0 b.f16.f1 b.f17 b.f18 b.f19 b.f20 b.f21 b.f22 b.f23 b.f24 b.f25 b.f26 b.f27 b.f28 b.f29 = some ((countL (isGuard b.f25) l1 : Nat) : Int) := by
  obtain ⟨k, hk⟩ : ∃ k, l1.length + 8796093022002 < k := ⟨_, Nat.lt_succ_self _⟩
  exact ⟨k, guarded_from l0 l1 l2 l3 b hb hx hl l1.length k 0 (by omega) (by omega) hk⟩
end Go.Proofs.Ytamjjeakkkdfhaa.G
end
section
namespace Go.Proofs.Ytamjjeakkkdfhaa.PB
open Go.RowKit Go.Proofs.YtamjjeakkkdfhaaW.PrintWords Go.Proofs.YtamjjeakkkdfhaaW.PrintLast Go.Proofs.YtamjjeakkkdfhaaW.PrintMore
open Go.Proofs.Ytamjjeakkkdfhaa.K Go.Proofs.Ytamjjeakkkdfhaa.G Go.Proofs.YtamjjeakkkdfhaaE
attribute [local go_sem] max2_int min2_int max_two min_two max_three min_three max_four min_four
set_option linter.unusedVariables false
set_option linter.unusedSimpArgs false
attribute [local go_sem high] eqA31
def flotillaref0_SameLabels.l0 : Nat → List (S31) → List (S31) → Int → Option (Bool)
  | 0, _, _, _ => none
  | k + 1, x0, x1, x5 => if x5 < (x0.length : Int) then (if 0 ≤ x5 then (if x5 < (x1.length : Int) then (if (!((((rd_T31 x0 x5).f0).toList) == (((rd_T31 x1 x5).f0).toList)) || (!((((rd_T31 x0 x5).f1).toList) == (((rd_T31 x1 x5).f1).toList)))) = true then (some false) else (flotillaref0_SameLabels.l0 k x0 x1 (wrap64 (x5 + 1)))) else (none)) else (none)) else (some true)
def flotillaref0_SameLabels.f (k : Nat) (l0 : List (S31)) (l1 : List (S31)) : Option (Bool) := if (l0.length : Int) = (l1.length : Int) then (flotillaref0_SameLabels.l0 k l0 l1 0) else (some false)
set_option maxHeartbeats 8000000 in
set_option maxRecDepth 100000 in
theorem flotillaref0_SameLabels.calls (k : Nat) (A0 : Option Addr) (c0 : Nat) (l0 : List (S31)) (A1 : Option Addr) (c1 : Nat) (l1 : List (S31)) (r : Bool) (w : World) (hr0 : Kd.C k31 w A0 l0.length l0) (hc0 : l0.length ≤ c0) (hr1 : Kd.C k31 w A1 l1.length l1) (hc1 : l1.length ≤ c1) (h : flotillaref0_SameLabels.f k l0 l1 = some r) :
    Calls Try.prog 22 #[.slice A0 l0.length c0, .slice A1 l1.length c1] w fun e w' => e = .returned (.bool r) ∧ Drawn0 w w' := by
  have hu31 := Try.underlying31
  have HR0 := Aside0.mk hr0
  have HC0 := Aside0.mk hc0
  clear hr0 hc0
  have HR1 := Aside0.mk hr1
  have HC1 := Aside0.mk hc1
  clear hr1 hc1
  have H : (if (l0.length : Int) = (l1.length : Int) then (flotillaref0_SameLabels.l0 k l0 l1 0) else (some false)) = some r := h
  clear h
  by_cases c3 : (l0.length : Int) = (l1.length : Int)
  · rw [if_pos c3] at H
    have c3b0 : ((l0.length : Int) == (l1.length : Int)) = true := beq_iff_eq.mpr c3
    have c3b1 : ((l0.length : Int) != (l1.length : Int)) = false := bne_eq_false_iff_eq.mpr c3
    have c3b2 : (l0.length == l1.length) = true := by first | simpa using c3 | (simp at c3 ⊢; omega)
    clear c3
    have H' := Aside0.mk H
    clear H
    go_enter Try.func22, Try.ntmps22
    go_wp2
    repeat (go_quiet (fail); try go_wp2)
    go_loopg [5] k (fun kq v5 w' => ∃ (x5_1 : Int), v5 = .int .i64 x5_1 ∧ Aside0 (flotillaref0_SameLabels.l0 kq l0 l1 x5_1 = some r) ∧ Aside0 (kq ≤ k) ∧ Drawn0 w w')
    case atStart => exact ⟨(0), (by first | rfl | (simp; done) | (simp [*]; done)), H', ⟨Nat.le_refl _⟩, by repeat (first | exact Drawn0.refl _ | apply Drawn0.step)⟩
    case round =>
      clear H'
      try clear c1
      try clear c2
      try clear p2
      try clear c3
      try clear c3b0
      try clear c3b1
      try clear c3b2
      obtain ⟨x5_1, rfl, HA, HK1, ⟨m1, rfl⟩⟩ := hrel
      cases gk with
      | zero => exact absurd HA.out (by simp [flotillaref0_SameLabels.l0])
      | succ k1 =>
        have H := HA.out
        clear HA
        simp only [flotillaref0_SameLabels.l0] at H
        by_cases c4 : x5_1 < (l0.length : Int)
        · rw [if_pos c4] at H
          have c4b0 : decide (x5_1 < (l0.length : Int)) = true := decide_eq_true c4
          clear c4
          by_cases c5 : 0 ≤ x5_1
          · rw [if_pos c5] at H
            have c5b0 : decide (0 ≤ x5_1) = true := decide_eq_true c5
            clear c5
            by_cases c6 : x5_1 < (l1.length : Int)
            · rw [if_pos c6] at H
              have c6b0 : decide (x5_1 < (l1.length : Int)) = true := decide_eq_true c6
              clear c6
              by_cases c7 : (!((((rd_T31 l0 x5_1).f0).toList) == (((rd_T31 l1 x5_1).f0).toList)) || (!((((rd_T31 l0 x5_1).f1).toList) == (((rd_T31 l1 x5_1).f1).toList)))) = true
              · rw [if_pos c7] at H
                have c7b0 : (!((((rd_T31 l0 x5_1).f0).toList) == (((rd_T31 l1 x5_1).f0).toList)) || (!((((rd_T31 l0 x5_1).f1).toList) == (((rd_T31 l1 x5_1).f1).toList)))) = true := c7
                clear c7
                obtain rfl := Option.some.inj H
                have p139 : 0 ≤ (x5_1 : Int) := of_decide_eq_true (by first | (with_reducible assumption) | assumption)
                have q139 : x5_1 < (l0.length : Int) := of_decide_eq_true (by first | (with_reducible assumption) | assumption)
                obtain ⟨ad139, e139, hx139_0, hx139_1⟩ := at_T31 HR0.out x5_1 p139 q139
                cases e139
                replace p139 := eq_true p139
                replace q139 := eq_true q139
                have p140 : 0 ≤ (x5_1 : Int) := of_decide_eq_true (by first | (with_reducible assumption) | assumption)
                have q140 : x5_1 < (l1.length : Int) := of_decide_eq_true (by first | (with_reducible assumption) | assumption)
                obtain ⟨ad140, e140, hx140_0, hx140_1⟩ := at_T31 HR1.out x5_1 p140 q140
                cases e140
                replace p140 := eq_true p140
                replace q140 := eq_true q140
                go_wp2
                repeat (go_quiet (fail); try go_wp2)
                go_ret
                exact ⟨by first | rfl | (simp; done) | (simp [*]; done), by repeat (first | exact Drawn0.refl _ | apply Drawn0.step)⟩
              · rw [if_neg c7] at H
                have c7b0 : (!((((rd_T31 l0 x5_1).f0).toList) == (((rd_T31 l1 x5_1).f0).toList)) || (!((((rd_T31 l0 x5_1).f1).toList) == (((rd_T31 l1 x5_1).f1).toList)))) = false := by simpa using c7
                clear c7
                have H' := Aside0.mk H
                clear H
                have p139 : 0 ≤ (x5_1 : Int) := of_decide_eq_true (by first | (with_reducible assumption) | assumption)
                have q139 : x5_1 < (l0.length : Int) := of_decide_eq_true (by first | (with_reducible assumption) | assumption)
                obtain ⟨ad139, e139, hx139_0, hx139_1⟩ := at_T31 HR0.out x5_1 p139 q139
                cases e139
                replace p139 := eq_true p139
                replace q139 := eq_true q139
                have p140 : 0 ≤ (x5_1 : Int) := of_decide_eq_true (by first | (with_reducible assumption) | assumption)
                have q140 : x5_1 < (l1.length : Int) := of_decide_eq_true (by first | (with_reducible assumption) | assumption)
                obtain ⟨ad140, e140, hx140_0, hx140_1⟩ := at_T31 HR1.out x5_1 p140 q140
                cases e140
                replace p140 := eq_true p140
                replace q140 := eq_true q140
                go_wp2
                repeat (go_quiet (fail); try go_wp2)
                go_roundg k1
                case measure => have := HK1.out; omega
                case rel => exact ⟨(wrap64 (x5_1 + 1)), (by first | rfl | (simp; done) | (simp [*]; done)), H', ⟨by have := HK1.out; omega⟩, by repeat (first | exact Drawn0.refl _ | apply Drawn0.step)⟩
            · rw [if_neg c6] at H
              exact absurd H (by simp)
          · rw [if_neg c5] at H
            exact absurd H (by simp)
        · rw [if_neg c4] at H
          have c4b0 : decide (x5_1 < (l0.length : Int)) = false := decide_eq_false c4
          clear c4
          obtain rfl := Option.some.inj H
          go_wp2
          repeat (go_quiet (fail); try go_wp2)
          go_ret
          exact ⟨by first | rfl | (simp; done) | (simp [*]; done), by repeat (first | exact Drawn0.refl _ | apply Drawn0.step)⟩
  · rw [if_neg c3] at H
    have c3b0 : ((l0.length : Int) == (l1.length : Int)) = false := beq_eq_false_iff_ne.mpr c3
    have c3b1 : ((l0.length : Int) != (l1.length : Int)) = true := bne_iff_ne.mpr c3
    have c3b2 : (l0.length == l1.length) = false := by first | simpa using c3 | (simp at c3 ⊢; omega)
    obtain rfl := Option.some.inj H
    go_enter Try.func22, Try.ntmps22
    go_wp2
    repeat (go_quiet (fail); try go_wp2)
    go_ret
    exact ⟨by first | rfl | (simp; done) | (simp [*]; done), by repeat (first | exact Drawn0.refl _ | apply Drawn0.step)⟩
end Go.Proofs.Ytamjjeakkkdfhaa.PB
end
section
namespace Go.Proofs.Ytamjjeakkkdfhaa.G
open Go.RowKit Go.Proofs.YtamjjeakkkdfhaaW.PrintWords Go.Proofs.YtamjjeakkkdfhaaW.PrintLast Go.Proofs.YtamjjeakkkdfhaaW.PrintMore
open Go.Proofs.Ytamjjeakkkdfhaa.K Go.Proofs.YtamjjeakkkdfhaaE Go.Proofs.Ytamjjeakkkdfhaa.PB
set_option linter.unusedVariables false
set_option linter.unusedSimpArgs false
theorem sameL_from (l : List S31) (hl : l.length ≤ 9223372036854775807) : ∀ (d k i : Nat), i ≤ l.length → l.length - i = d → d < k → flotillaref0_SameLabels.l0 k l l (i : Int) = some true := by
  intro d
  induction d with
  | zero =>
    intro k i hi hd hk
    obtain ⟨k, rfl⟩ : ∃ m, k = m + 1 := ⟨k - 1, by omega⟩
    simp only [flotillaref0_SameLabels.l0]; rw [if_neg (by omega)]
  | succ d ih =>
    intro k i hi hd hk
    obtain ⟨k, rfl⟩ : ∃ m, k = m + 1 := ⟨k - 1, by omega⟩
    have hw : wrap64 ((i : Int) + 1) = ((i + 1 : Nat) : Int) := by unfold wrap64; omega
    simp only [flotillaref0_SameLabels.l0]
    rw [if_pos (by omega), if_pos (by omega), if_pos (by omega), if_neg (by simp), hw]
    exact ih k (i + 1) (by omega) (by omega) (by omega)
theorem sameL_is (l : List S31) (hl : l.length ≤ 9223372036854775807) : flotillaref0_SameLabels.f (l.length + 1) l l = some true := by
  unfold flotillaref0_SameLabels.f
  first | rw [if_pos rfl] | rw [if_neg (by simp)]
  exact sameL_from l hl l.length (l.length + 1) 0 (by omega) (by omega) (by omega)
section
attribute [local go_sem high] eqA64
set_option maxRecDepth 100000 in
set_option maxHeartbeats 8000000 in
theorem bare_same (x : S68) (u4 u27 v4 v27 : Value) (w : World) :
    Calls Try.prog 142 #[.agg (cO x u4 u27), .agg (cO x v4 v27)] w fun e w' => e = .returned (.bool true) ∧ Below w.heap.size w w' := by
  have hu68 := Try.underlying68
  have hu64 := Try.underlying64
  go_enter Try.func142, Try.ntmps142
  go_wp2_with ((with_reducible refine gate_dst (N := 2) rfl ?_); refine hold ?_)
  refine Hold.intro ?_
  refine box_event (N := 2) (cs := cO x u4 u27) (t := 68) rfl rfl ?hsga ?_
  case hsga => unfold cO; first | (go_simp; done) | (go_simp; rfl)
  intro ga hg wa hbox hb
  have HXga := Aside0.mk hbox
  have HBA := Aside0.mk hb
  clear hbox hb hg
  go_wp2_with ((with_reducible refine gate_dst (N := 3) rfl ?_); refine hold ?_)
  refine Hold.intro ?_
  refine box_event (N := 3) (cs := cO x v4 v27) (t := 68) rfl rfl ?hsgb ?_
  case hsgb => unfold cO; first | (go_simp; done) | (go_simp; rfl)
  intro gb hg wb hbox hb
  have HXgb := Aside0.mk hbox
  replace HXga := Aside0.mk (blk_below HXga.out hb)
  have HB := Aside0.mk (below_step HBA.out hb)
  clear hbox hb hg HBA
  have ha0 : wb.cell? ⟨ga, 0, none⟩ = some (.int .i64 x.f0) := (blk_cell HXga.out 0).trans rfl
  have hb0 : wb.cell? ⟨gb, 0, none⟩ = some (.int .i64 x.f0) := (blk_cell HXgb.out 0).trans rfl
  have ha1 : wb.cell? ⟨ga, 1, none⟩ = some (.string x.f1) := (blk_cell HXga.out 1).trans rfl
  have hb1 : wb.cell? ⟨gb, 1, none⟩ = some (.string x.f1) := (blk_cell HXgb.out 1).trans rfl
  have ha2 : wb.cell? ⟨ga, 2, none⟩ = some (.int .i64 x.f2) := (blk_cell HXga.out 2).trans rfl
  have hb2 : wb.cell? ⟨gb, 2, none⟩ = some (.int .i64 x.f2) := (blk_cell HXgb.out 2).trans rfl
  have ha3 : wb.cell? ⟨ga, 3, none⟩ = some (.int .i64 x.f3) := (blk_cell HXga.out 3).trans rfl
  have hb3 : wb.cell? ⟨gb, 3, none⟩ = some (.int .i64 x.f3) := (blk_cell HXgb.out 3).trans rfl
  have ha5 : wb.cell? ⟨ga, 5, none⟩ = some (.int .i64 x.f5.f0) := (blk_cell HXga.out 5).trans rfl
  have hb5 : wb.cell? ⟨gb, 5, none⟩ = some (.int .i64 x.f5.f0) := (blk_cell HXgb.out 5).trans rfl
  have ha6 : wb.cell? ⟨ga, 6, none⟩ = some (.int .i64 x.f5.f1) := (blk_cell HXga.out 6).trans rfl
  have hb6 : wb.cell? ⟨gb, 6, none⟩ = some (.int .i64 x.f5.f1) := (blk_cell HXgb.out 6).trans rfl
  have ha7 : wb.cell? ⟨ga, 7, none⟩ = some (.bool x.f6) := (blk_cell HXga.out 7).trans rfl
  have hb7 : wb.cell? ⟨gb, 7, none⟩ = some (.bool x.f6) := (blk_cell HXgb.out 7).trans rfl
  have ha8 : wb.cell? ⟨ga, 8, none⟩ = some (.bool x.f7) := (blk_cell HXga.out 8).trans rfl
  have hb8 : wb.cell? ⟨gb, 8, none⟩ = some (.bool x.f7) := (blk_cell HXgb.out 8).trans rfl
  have ha9 : wb.cell? ⟨ga, 9, none⟩ = some (.bool x.f8) := (blk_cell HXga.out 9).trans rfl
  have hb9 : wb.cell? ⟨gb, 9, none⟩ = some (.bool x.f8) := (blk_cell HXgb.out 9).trans rfl
  have ha10 : wb.cell? ⟨ga, 10, none⟩ = some (.int .i64 x.f9) := (blk_cell HXga.out 10).trans rfl
  have hb10 : wb.cell? ⟨gb, 10, none⟩ = some (.int .i64 x.f9) := (blk_cell HXgb.out 10).trans rfl
  have ha11 : wb.cell? ⟨ga, 11, none⟩ = some (.string x.f10) := (blk_cell HXga.out 11).trans rfl
  have hb11 : wb.cell? ⟨gb, 11, none⟩ = some (.string x.f10) := (blk_cell HXgb.out 11).trans rfl
  have ha12 : wb.cell? ⟨ga, 12, none⟩ = some (.string x.f11) := (blk_cell HXga.out 12).trans rfl
  have hb12 : wb.cell? ⟨gb, 12, none⟩ = some (.string x.f11) := (blk_cell HXgb.out 12).trans rfl
  have ha13 : wb.cell? ⟨ga, 13, none⟩ = some (.string x.f12) := (blk_cell HXga.out 13).trans rfl
  have hb13 : wb.cell? ⟨gb, 13, none⟩ = some (.string x.f12) := (blk_cell HXgb.out 13).trans rfl
  have ha14 : wb.cell? ⟨ga, 14, none⟩ = some (.int .i64 x.f13) := (blk_cell HXga.out 14).trans rfl
  have hb14 : wb.cell? ⟨gb, 14, none⟩ = some (.int .i64 x.f13) := (blk_cell HXgb.out 14).trans rfl
  have ha15 : wb.cell? ⟨ga, 15, none⟩ = some (.bool x.f14) := (blk_cell HXga.out 15).trans rfl
  have hb15 : wb.cell? ⟨gb, 15, none⟩ = some (.bool x.f14) := (blk_cell HXgb.out 15).trans rfl
  have ha16 : wb.cell? ⟨ga, 16, none⟩ = some (.bool x.f15) := (blk_cell HXga.out 16).trans rfl
  have hb16 : wb.cell? ⟨gb, 16, none⟩ = some (.bool x.f15) := (blk_cell HXgb.out 16).trans rfl
  have ha17 : wb.cell? ⟨ga, 17, none⟩ = some (.int .i64 x.f16.f0) := (blk_cell HXga.out 17).trans rfl
  have hb17 : wb.cell? ⟨gb, 17, none⟩ = some (.int .i64 x.f16.f0) := (blk_cell HXgb.out 17).trans rfl
  have ha18 : wb.cell? ⟨ga, 18, none⟩ = some (.int .i64 x.f16.f1) := (blk_cell HXga.out 18).trans rfl
  have hb18 : wb.cell? ⟨gb, 18, none⟩ = some (.int .i64 x.f16.f1) := (blk_cell HXgb.out 18).trans rfl
  have ha19 : wb.cell? ⟨ga, 19, none⟩ = some (.string x.f17) := (blk_cell HXga.out 19).trans rfl
  have hb19 : wb.cell? ⟨gb, 19, none⟩ = some (.string x.f17) := (blk_cell HXgb.out 19).trans rfl
  have ha20 : wb.cell? ⟨ga, 20, none⟩ = some (.int .i64 x.f18) := (blk_cell HXga.out 20).trans rfl
  have hb20 : wb.cell? ⟨gb, 20, none⟩ = some (.int .i64 x.f18) := (blk_cell HXgb.out 20).trans rfl
  have ha21 : wb.cell? ⟨ga, 21, none⟩ = some (.int .i64 x.f19) := (blk_cell HXga.out 21).trans rfl
  have hb21 : wb.cell? ⟨gb, 21, none⟩ = some (.int .i64 x.f19) := (blk_cell HXgb.out 21).trans rfl
  have ha22 : wb.cell? ⟨ga, 22, none⟩ = some (.int .i64 x.f20) := (blk_cell HXga.out 22).trans rfl
  have hb22 : wb.cell? ⟨gb, 22, none⟩ = some (.int .i64 x.f20) := (blk_cell HXgb.out 22).trans rfl
  have ha23 : wb.cell? ⟨ga, 23, none⟩ = some (.int .i64 x.f21) := (blk_cell HXga.out 23).trans rfl
  have hb23 : wb.cell? ⟨gb, 23, none⟩ = some (.int .i64 x.f21) := (blk_cell HXgb.out 23).trans rfl
  have ha24 : wb.cell? ⟨ga, 24, none⟩ = some (.int .i64 x.f22) := (blk_cell HXga.out 24).trans rfl
  have hb24 : wb.cell? ⟨gb, 24, none⟩ = some (.int .i64 x.f22) := (blk_cell HXgb.out 24).trans rfl
  have ha25 : wb.cell? ⟨ga, 25, none⟩ = some (.bool x.f23) := (blk_cell HXga.out 25).trans rfl
  have hb25 : wb.cell? ⟨gb, 25, none⟩ = some (.bool x.f23) := (blk_cell HXgb.out 25).trans rfl
  have ha26 : wb.cell? ⟨ga, 26, none⟩ = some (.int .u64 x.f24) := (blk_cell HXga.out 26).trans rfl
  have hb26 : wb.cell? ⟨gb, 26, none⟩ = some (.int .u64 x.f24) := (blk_cell HXgb.out 26).trans rfl
  have ha28 : wb.cell? ⟨ga, 28, none⟩ = some (.int .i64 x.f26) := (blk_cell HXga.out 28).trans rfl
  have hb28 : wb.cell? ⟨gb, 28, none⟩ = some (.int .i64 x.f26) := (blk_cell HXgb.out 28).trans rfl
  have ha29 : wb.cell? ⟨ga, 29, none⟩ = some (.string x.f27) := (blk_cell HXga.out 29).trans rfl
  have hb29 : wb.cell? ⟨gb, 29, none⟩ = some (.string x.f27) := (blk_cell HXgb.out 29).trans rfl
  have ha30 : wb.cell? ⟨ga, 30, none⟩ = some (.int .i64 x.f28) := (blk_cell HXga.out 30).trans rfl
  have hb30 : wb.cell? ⟨gb, 30, none⟩ = some (.int .i64 x.f28) := (blk_cell HXgb.out 30).trans rfl
  have ha31 : wb.cell? ⟨ga, 31, none⟩ = some (.int .i64 x.f29) := (blk_cell HXga.out 31).trans rfl
  have hb31 : wb.cell? ⟨gb, 31, none⟩ = some (.int .i64 x.f29) := (blk_cell HXgb.out 31).trans rfl
  go_wp2
  go_ret
  exact ⟨rfl, HB.out⟩
set_option maxRecDepth 100000 in
set_option maxHeartbeats 8000000 in
theorem same_object (x : S68) (u4 u27 v4 v27 : Value) (w : World) (hx : kO w x u4 u27) (hy : kO w x v4 v27) :
    Calls Try.prog 131 #[.agg (cO x u4 u27), .agg (cO x v4 v27)] w fun e w' => e = .returned (.bool true) ∧ Below w.heap.size w w' := by
  obtain ⟨A4, c4, A27, c27, rfl, rfl, l4, g4, l27, g27⟩ := hx
  obtain ⟨B4, d4, B27, d27, rfl, rfl, m4, h4, m27, h27⟩ := hy
  have HG4 := Aside0.mk g4
  have HG27 := Aside0.mk g27
  have HH4 := Aside0.mk h4
  have HH27 := Aside0.mk h27
  have HL := Aside0.mk (show x.f4.length ≤ c4 ∧ x.f25.length ≤ c27 ∧ x.f4.length ≤ d4 ∧ x.f25.length ≤ d27 from ⟨l4, l27, m4, m27⟩)
  clear g4 g27 h4 h27 l4 l27 m4 m27
  have hu68 := Try.underlying68
  go_enter Try.func131, Try.ntmps131
  go_wp2_with ((with_reducible refine gate_dst (N := 2) rfl ?_); refine hold ?_)
  refine Hold.intro ?_
  refine box_event (N := 2) (cs := cO x (.slice A4 x.f4.length c4) (.slice A27 x.f25.length c27)) (t := 68) rfl rfl ?hsga ?_
  case hsga => unfold cO; first | (go_simp; done) | (go_simp; rfl)
  intro ga hg wa hbox hb
  have HXga := Aside0.mk hbox
  have HBA := Aside0.mk hb
  clear hbox hb hg
  go_wp2_with ((with_reducible refine gate_dst (N := 3) rfl ?_); refine hold ?_)
  refine Hold.intro ?_
  refine box_event (N := 3) (cs := cO x (.slice B4 x.f4.length d4) (.slice B27 x.f25.length d27)) (t := 68) rfl rfl ?hsgb ?_
  case hsgb => unfold cO; first | (go_simp; done) | (go_simp; rfl)
  intro gb hg wb hbox hb
  have HXgb := Aside0.mk hbox
  replace HXga := Aside0.mk (blk_below HXga.out hb)
  have HB0 := Aside0.mk (below_step HBA.out hb)
  clear hbox hb hg HBA
  go_wp2_with (first | ((with_reducible refine gate_load (t := 68) rfl ?_); refine load_obj rfl rfl rfl HXga.out rfl ?_) | ((with_reducible refine gate_load (t := 68) rfl ?_); refine load_obj rfl rfl rfl HXgb.out rfl ?_) | (go_at_call 142; refine hold ?_))
  refine Hold.intro ((bare_same x _ _ _ _ _).mono ?_)
  rintro e w1_ ⟨rfl, hb⟩
  replace HXga := Aside0.mk (blk_below HXga.out hb)
  replace HXgb := Aside0.mk (blk_below HXgb.out hb)
  have HB1 := Aside0.mk (below_step HB0.out hb)
  clear hb HB0
  have hp : w1_.cell? ⟨ga, 4, none⟩ = some (.slice A4 x.f4.length c4) := (blk_cell HXga.out 4).trans rfl
  have hq : w1_.cell? ⟨gb, 4, none⟩ = some (.slice B4 x.f4.length d4) := (blk_cell HXgb.out 4).trans rfl
  go_wp2_with (first | (go_at_call 22; refine hold ?_))
  refine Hold.intro ((flotillaref0_SameLabels.calls _ _ _ x.f4 _ _ x.f4 true _ (Kd.C_below HG4.out HB1.out) HL.out.1 (Kd.C_below HH4.out HB1.out) HL.out.2.2.1 (sameL_is x.f4 (HG4.out).2.1)).mono ?_)
  rintro e w2_ ⟨rfl, hb⟩
  replace hb := hb.below
  replace HXga := Aside0.mk (blk_below HXga.out hb)
  replace HXgb := Aside0.mk (blk_below HXgb.out hb)
  have HB2 := Aside0.mk (below_step HB1.out hb)
  clear hb HB1 hp hq
  have hp : w2_.cell? ⟨ga, 27, none⟩ = some (.slice A27 x.f25.length c27) := (blk_cell HXga.out 27).trans rfl
  have hq : w2_.cell? ⟨gb, 27, none⟩ = some (.slice B27 x.f25.length d27) := (blk_cell HXgb.out 27).trans rfl
  go_wp2_with (first | (go_at_call 22; refine hold ?_))
  refine Hold.intro ((flotillaref0_SameLabels.calls _ _ _ x.f25 _ _ x.f25 true _ (Kd.C_below HG27.out HB2.out) HL.out.2.1 (Kd.C_below HH27.out HB2.out) HL.out.2.2.2 (sameL_is x.f25 (HG27.out).2.1)).mono ?_)
  rintro e w3_ ⟨rfl, hb⟩
  replace hb := hb.below
  replace HXga := Aside0.mk (blk_below HXga.out hb)
  replace HXgb := Aside0.mk (blk_below HXgb.out hb)
  have HB3 := Aside0.mk (below_step HB2.out hb)
  clear hb HB2 hp hq
  go_wp2
  go_ret
  exact ⟨rfl, HB3.out⟩
end
end Go.Proofs.Ytamjjeakkkdfhaa.G
end
section
namespace Go.Proofs.Ytamjjeakkkdfhaa.PB
open Go.RowKit Go.Proofs.YtamjjeakkkdfhaaW.PrintWords Go.Proofs.YtamjjeakkkdfhaaW.PrintLast Go.Proofs.YtamjjeakkkdfhaaW.PrintMore
open Go.Proofs.Ytamjjeakkkdfhaa.K Go.Proofs.Ytamjjeakkkdfhaa.G Go.Proofs.YtamjjeakkkdfhaaE
attribute [local go_sem] max2_int min2_int max_two min_two max_three min_three max_four min_four
set_option linter.unusedVariables false
set_option linter.unusedSimpArgs false
def flotillakit_MarkText.f (a0 : Int) (a1 : Int) : Option (ByteArray) := some (strOfNums (([35, (a0) % 256, (a0 / 256) % 256, (a1) % 256, (a1 / 256) % 256] : List Int)))
set_option maxHeartbeats 8000000 in
set_option maxRecDepth 100000 in
theorem flotillakit_MarkText.calls (a0 : Int) (a1 : Int) (r : ByteArray) (w : World) (h : flotillakit_MarkText.f a0 a1 = some r) :
    Calls Try.prog 137 #[.int .i64 a0, .int .i64 a1] w fun e w' => e = .returned (.string r) ∧ Below w.heap.size w w' := by
  have HB := Aside0.mk (Below.refl w.heap.size w)
  have H : (some (strOfNums (([35, (a0) % 256, (a0 / 256) % 256, (a1) % 256, (a1 / 256) % 256] : List Int)))) = some r := h
  clear h
  obtain ⟨y101, hy101⟩ : ∃ y_ : List Int, y_ = (([35, (a0) % 256, (a0 / 256) % 256, (a1) % 256, (a1 / 256) % 256] : List Int)) := ⟨_, rfl⟩
  replace H : (some (strOfNums y101)) = some r := by first | (rw [hy101]; with_reducible exact H) | (have H2_ := (Option.bind_some _ _).symm.trans H; rw [hy101]; with_reducible exact H2_) | (have H2_ := (Option.bind_some _ _).symm.trans H; with_reducible exact H2_) | with_reducible exact H | (rw [hy101]; exact H) | exact H
  have Ny101 := Aside0.mk hy101
  clear hy101
  obtain rfl := Option.some.inj H
  go_enter Try.func137, Try.ntmps137
  go_wp2_with (first | ((with_reducible refine gate_dst (N := 15) rfl ?_); refine Kd.R_lit (Kd.int .u8) _ 5 ?hg (N := 15) ?hd (xs := ([35, (a0) % 256, (a0 / 256) % 256, (a1) % 256, (a1 / 256) % 256] : List Int)) (inner := [.int .u8 35, .int .u8 ((a0) % 256), .int .u8 ((a0 / 256) % 256), .int .u8 ((a1) % 256), .int .u8 ((a1 / 256) % 256)]) (ok := fun _ => True) (okp := fun _ => True) ?hr ?hp (fun _ hk => hk) trivial (Below.refl _ _) (Nat.le_refl _) (by simp) ?_; (case hd => rfl); (case hg => rfl); (case hr => first | (go_simp; done) | (go_simp; rfl)); (case hp => exact (Reps.one (show Kd.M (Kd.int .u8) _ _ _ 35 [.int .u8 35] from rfl) (Reps.one (show Kd.M (Kd.int .u8) _ _ _ ((a0) % 256) [.int .u8 ((a0) % 256)] from rfl) (Reps.one (show Kd.M (Kd.int .u8) _ _ _ ((a0 / 256) % 256) [.int .u8 ((a0 / 256) % 256)] from rfl) (Reps.one (show Kd.M (Kd.int .u8) _ _ _ ((a1) % 256) [.int .u8 ((a1) % 256)] from rfl) (Reps.one (show Kd.M (Kd.int .u8) _ _ _ ((a1 / 256) % 256) [.int .u8 ((a1 / 256) % 256)] from rfl) (Reps.none _ _))))))); intro v102 w3 ho4 hb hg_ hnew_; clear hg_ hnew_; (first | rw [← Ny101.out] at ho4 | (simp only [Int.reduceToNat] at ho4; rw [← Ny101.out] at ho4)); have n0_ := Aside0.mk (Kd.R_lower ho4 (below_size (by repeat (first | (with_reducible first | exact HB.out | apply below_alloc | apply pw_below_drewN | apply below_drew1) | exact HB.out)))); have n1_ := Aside0.mk (below_step (by repeat (first | (with_reducible first | exact HB.out | apply below_alloc | apply pw_below_drewN | apply below_drew1) | exact HB.out)) hb); clear HB; have HO103 := n0_; have HB := n1_; clear n0_ n1_; clear hb ho4; have hcv5 := own_string (P := Try.prog) Try.underlying122 Try.underlying5 Try.underlying9 (Kd.own_of_R HO103.out)))
  go_ret
  exact ⟨by first | rfl | (simp [errW_none, errW_some] <;> rfl) | (simp [*, errW_none, errW_some] <;> rfl), by repeat (first | (with_reducible first | exact HB.out | apply below_alloc | apply pw_below_drewN | apply below_drew1) | exact HB.out)⟩
end Go.Proofs.Ytamjjeakkkdfhaa.PB
end
section
namespace Go.Proofs.Ytamjjeakkkdfhaa.PB
open Go.RowKit Go.Proofs.YtamjjeakkkdfhaaW.PrintWords Go.Proofs.YtamjjeakkkdfhaaW.PrintLast Go.Proofs.YtamjjeakkkdfhaaW.PrintMore
open Go.Proofs.Ytamjjeakkkdfhaa.K Go.Proofs.Ytamjjeakkkdfhaa.G Go.Proofs.YtamjjeakkkdfhaaE
attribute [local go_sem] max2_int min2_int max_two min_two max_three min_three max_four min_four
set_option linter.unusedVariables false
set_option linter.unusedSimpArgs false
def flotillakit_markLabels.f (a0 : Int) (a1 : Int) : Option (ByteArray × ByteArray) := (flotillakit_MarkText.f a0 a1).bind fun t105 => (some (t105, (⟨#[]⟩ : ByteArray)))
set_option maxHeartbeats 8000000 in
set_option maxRecDepth 100000 in
theorem flotillakit_markLabels.calls (a0 : Int) (a1 : Int) (r1 : ByteArray) (r2 : ByteArray) (w : World) (h : flotillakit_markLabels.f a0 a1 = some (r1, r2)) :
    Calls Try.prog 113 #[.int .i64 a0, .int .i64 a1] w fun e w' => e = .returned (.agg #[.string r1, .string r2]) ∧ Below w.heap.size w w' := by
  have hu31 := Try.underlying31
  have HB := Aside0.mk (Below.refl w.heap.size w)
  have H : ((flotillakit_MarkText.f a0 a1).bind fun t105 => (some (t105, (⟨#[]⟩ : ByteArray)))) = some (r1, r2) := h
  clear h
  replace H := Option.bind_eq_some_iff.mp H
  obtain ⟨t105, A30, H⟩ := H
  replace H : (some (t105, (⟨#[]⟩ : ByteArray))) = some (r1, r2) := H
  have A3 := Aside0.mk A30
  clear A30
  simp only [Option.some.injEq, Prod.mk.injEq] at H
  obtain ⟨rfl, rfl⟩ := H
  go_enter Try.func113, Try.ntmps113
  go_wp2_with (first | ((with_reducible refine gate_dst (N := 4) rfl ?_); refine box_event ?hg (N := 4) ?hd (cs := #[.string (⟨#[]⟩ : ByteArray), .string (⟨#[]⟩ : ByteArray)]) (t := 31) ?hr ?_; (case hd => rfl); (case hg => rfl); (case hr => first | (go_simp; done) | (go_simp; rfl)); intro gb104 hg w4 hbox hb; have n0_ := Aside0.mk (below_step (by repeat (first | (with_reducible first | exact HB.out | apply below_alloc | apply pw_below_drewN | apply below_drew1) | exact HB.out)) hb); have n1_ := Aside0.mk (hbox); have n2_ := Aside0.mk ((by rw [hg]; exact (below_size (by repeat (first | (with_reducible first | exact HB.out | apply below_alloc | apply pw_below_drewN | apply below_drew1) | exact HB.out))) : w.heap.size ≤ gb104)); have n3_ := Aside0.mk ((by rw [hg]; exact (below_size (by repeat (first | (with_reducible first | exact HB.out | apply below_alloc | apply pw_below_drewN | apply below_drew1) | exact HB.out))) : w.heap.size ≤ gb104)); clear HB; have HB := n0_; have BK104 := n1_; have GW104 := n2_; have GE104 := n3_; clear n0_ n1_ n2_ n3_; clear hb hbox hg) | ((with_reducible refine gate_callee (f := 137) rfl ?_); refine goesL_ (some 7) rfl rfl Try.func137 (by kernel_rfl) rfl #[.int .i64 a0, .int .i64 a1] rfl (by (try simp only [List.map_toArray, List.map_cons, List.map_nil]); first | done | rfl | (simp only [List.length_drop, List.length_take]; rfl)) ?_; (with_reducible refine (flotillakit_MarkText.calls a0 a1 t105 _ A3.out).mono ?_); rintro e w5 ⟨rfl, hb⟩; refine ⟨_, rfl, ?_⟩; have n0_ := Aside0.mk (blk_below (g := gb104) (o := .cells #[.string (⟨#[]⟩ : ByteArray), .string (⟨#[]⟩ : ByteArray)] 31 (0, 0)) (by (with_reducible repeat (first | refine blk_drewN ?_ _ | refine blk_drew ?_ | refine blk_alloc ?_ _)); exact BK104.out) hb); have n1_ := Aside0.mk (below_step (by repeat (first | (with_reducible first | exact HB.out | apply below_alloc | apply pw_below_drewN | apply below_drew1 | refine below_set ?_ GE104.out) | exact HB.out)) hb); clear BK104; clear HB; have BK104 := n0_; have HB := n1_; clear n0_ n1_; (try clear hb); (try clear hb2); (try clear hk); (try clear hi); have hcz6_0 : w5.cell? ⟨gb104, 0, none⟩ = some (.string (⟨#[]⟩ : ByteArray)) := (blk_cell BK104.out 0).trans rfl; have hcz6_1 : w5.cell? ⟨gb104, 1, none⟩ = some (.string (⟨#[]⟩ : ByteArray)) := (blk_cell BK104.out 1).trans rfl; have hfz6_0 := blk_frozen BK104.out 0; have hfz6_1 := blk_frozen BK104.out 1))
  refine bodyPost_ret (results_cell_row rfl _ _ gb104 31 #[.string t105, .string (⟨#[]⟩ : ByteArray)] (0, 0) _ rfl (by (with_reducible repeat (first | refine blk_drewN ?_ _ | refine blk_drew ?_ | refine blk_alloc ?_ _)); refine blk_put (cs := #[.string t105, .string (⟨#[]⟩ : ByteArray)]) ?_ 1 _ rfl; (with_reducible repeat (first | refine blk_drewN ?_ _ | refine blk_drew ?_ | refine blk_alloc ?_ _)); refine blk_put (cs := #[.string (⟨#[]⟩ : ByteArray), .string (⟨#[]⟩ : ByteArray)]) ?_ 0 _ rfl; (with_reducible repeat (first | refine blk_drewN ?_ _ | refine blk_drew ?_ | refine blk_alloc ?_ _)); exact BK104.out) Try.underlying31 rfl (by kernel_rfl)) rfl ?_
  exact ⟨by first | rfl | (simp [errW_none, errW_some] <;> rfl) | (simp [*, errW_none, errW_some] <;> rfl), by repeat (first | (with_reducible first | exact HB.out | apply below_alloc | apply pw_below_drewN | apply below_drew1 | refine below_set ?_ GE104.out) | exact HB.out)⟩
end Go.Proofs.Ytamjjeakkkdfhaa.PB
end
section
namespace Go.Proofs.Ytamjjeakkkdfhaa.PB
open Go.RowKit Go.Proofs.YtamjjeakkkdfhaaW.PrintWords Go.Proofs.YtamjjeakkkdfhaaW.PrintLast Go.Proofs.YtamjjeakkkdfhaaW.PrintMore
open Go.Proofs.Ytamjjeakkkdfhaa.K Go.Proofs.Ytamjjeakkkdfhaa.G Go.Proofs.YtamjjeakkkdfhaaE
attribute [local go_sem] max2_int min2_int max_two min_two max_three min_three max_four min_four
set_option linter.unusedVariables false
set_option linter.unusedSimpArgs false
mutual
def flotillakit_FullLabels.l0 : Nat → List (S31) → List (S31) → Int → Option ((List (S31)))
  | 0, _, _, _ => none
  | k + 1, x0, x3, x4 => if x4 < (x0.length : Int) then (if 0 ≤ x4 then (if x3.length < 4398046511104 then (flotillakit_FullLabels.l0 k x0 (x3 ++ [(⟨(rd_T31 x0 x4).f0, (rd_T31 x0 x4).f1⟩ : S31)]) (wrap64 (x4 + 1))) else (none)) else (none)) else (flotillakit_FullLabels.l1 k x3 0)
def flotillakit_FullLabels.l1 : Nat → List (S31) → Int → Option ((List (S31)))
  | 0, _, _ => none
  | k + 1, x3, x5 => if x5 < 16 then ((flotillakit_markLabels.f 90 x5).bind fun bt110 => (if x3.length < 4398046511104 then (flotillakit_FullLabels.l1 k (x3 ++ [(⟨bt110.1, bt110.2⟩ : S31)]) (wrap64 (x5 + 1))) else (none))) else (some x3)
end
def flotillakit_FullLabels.f (k : Nat) (l0 : List (S31)) : Option ((List (S31))) := flotillakit_FullLabels.l0 k l0 ([] : List (S31)) 0
set_option maxHeartbeats 8000000 in
set_option maxRecDepth 100000 in
theorem flotillakit_FullLabels.calls (k : Nat) (A0 : Option Addr) (c0 : Nat) (l0 : List (S31)) (r : List (S31)) (w : World) (hr0 : Kd.C k31 w A0 l0.length l0) (hc0 : l0.length ≤ c0) (h : flotillakit_FullLabels.f k l0 = some r) :
    Calls Try.prog 72 #[.slice A0 l0.length c0] w fun e w' => ∃ v0_ : Value, e = .returned (v0_) ∧ Kd.R k31 31 w' w.heap.size (fun _ => True) v0_ r ∧ Below w.heap.size w w' := by
  have hu31 := Try.underlying31
  have HR0 := Aside0.mk hr0
  have HC0 := Aside0.mk hc0
  clear hr0 hc0
  have HB := Aside0.mk (Below.refl w.heap.size w)
  have H : (flotillakit_FullLabels.l0 k l0 ([] : List (S31)) 0) = some r := h
  clear h
  have H' := Aside0.mk H
  clear H
  go_enter Try.func72, Try.ntmps72
  go_wp2
  go_loopg [3, 4] k (fun kq v3 v4 w' => ∃ (x3_1 : List (S31)) (x4_1 : Int), v4 = .int .i64 x4_1 ∧ Aside0 (flotillakit_FullLabels.l0 kq l0 x3_1 x4_1 = some r) ∧ Aside0 (kq ≤ k) ∧ Aside0 (Kd.R k31 31 w' w.heap.size (fun _ => True) v3 x3_1) ∧ Aside0 (Below w.heap.size w w'))
  case atStart => exact ⟨(([] : List (S31))), (0), (by first | rfl | (simp; done) | (simp [*]; done)), H', ⟨Nat.le_refl _⟩, ⟨by first | exact Kd.R_nil _ _ _ _ _ | exact Kd.N_nil _ _ _ _ _ | exact Kd.V_nil _ _ _ _ _ | exact Kd.Q_nil _ _ _ _ _ | exact Kd.S_nil _ _ _ _ _⟩, ⟨by repeat (first | (with_reducible first | exact HB.out | apply below_alloc | apply pw_below_drewN | apply below_drew1) | exact HB.out)⟩⟩
  case round =>
    clear H'
    obtain ⟨x3_1, x4_1, rfl, HA, HK1, HO_3, HB⟩ := hrel
    cases gk with
    | zero => exact absurd HA.out (by simp [flotillakit_FullLabels.l0])
    | succ k1 =>
      have H := HA.out
      clear HA
      simp only [flotillakit_FullLabels.l0] at H
      by_cases c2 : x4_1 < (l0.length : Int)
      · rw [if_pos c2] at H
        have c2b0 : decide (x4_1 < (l0.length : Int)) = true := decide_eq_true c2
        clear c2
        by_cases c3 : 0 ≤ x4_1
        · rw [if_pos c3] at H
          have c3b0 : decide (0 ≤ x4_1) = true := decide_eq_true c3
          clear c3
          by_cases c4 : x3_1.length < 4398046511104
          · rw [if_pos c4] at H
            have LMc4 := Aside0.mk c4
            clear c4
            obtain ⟨y107, hy107⟩ : ∃ y_ : List (S31), y_ = (x3_1 ++ [(⟨(rd_T31 l0 x4_1).f0, (rd_T31 l0 x4_1).f1⟩ : S31)]) := ⟨_, rfl⟩
            replace H : (flotillakit_FullLabels.l0 k1 l0 y107 (wrap64 (x4_1 + 1))) = some r := by first | (rw [hy107]; with_reducible exact H) | (have H2_ := (Option.bind_some _ _).symm.trans H; rw [hy107]; with_reducible exact H2_) | (have H2_ := (Option.bind_some _ _).symm.trans H; with_reducible exact H2_) | with_reducible exact H | (rw [hy107]; exact H) | exact H
            have Ny107 := Aside0.mk hy107
            clear hy107
            have H' := Aside0.mk H
            clear H
            have p106 : 0 ≤ (x4_1 : Int) := of_decide_eq_true (by first | (with_reducible assumption) | assumption)
            have q106 : x4_1 < (l0.length : Int) := of_decide_eq_true (by first | (with_reducible assumption) | assumption)
            obtain ⟨ad106, e106, hx106_0, hx106_1⟩ := at_T31 HR0.out x4_1 p106 q106
            cases e106
            replace hx106_0 := (HB.out.cell (World.block_lt_of_cell? w _ hx106_0)).trans hx106_0
            replace hx106_1 := (HB.out.cell (World.block_lt_of_cell? w _ hx106_1)).trans hx106_1
            replace p106 := eq_true p106
            replace q106 := eq_true q106
            go_wp2_with (first | ((with_reducible refine gate_builtin (b := .append) (xs := #[.tmp 12, .tmp 17]) rfl ?_); at_builtin; refine Kd.R_append k31 (w0 := w) w.heap.size rfl (.tmp 12) (.tmp 17) 22 31 (.agg #[(.string ⟨#[]⟩), (.string ⟨#[]⟩)]) 32 rfl Try.underlying22 info31 rfl (by decide) (by omega) u3 x3_1 (⟨(rd_T31 l0 x4_1).f0, (rd_T31 l0 x4_1).f1⟩ : S31) [.string ((rd_T31 l0 x4_1).f0), .string ((rd_T31 l0 x4_1).f1)] (fun _ => True) (fun _ => False) rfl rfl ?aP (fun _ hk => hk.elim) ?aF ?aO ?aB ?aS ?aL ?_; (case aP => exact k31_mkM _ _ _ (⟨(rd_T31 l0 x4_1).f0, (rd_T31 l0 x4_1).f1⟩ : S31)); (case aB => exact (by repeat (first | (with_reducible first | exact HB.out | apply below_alloc | apply pw_below_drewN | apply below_drew1) | exact HB.out))); (case aF => exact (fun _ _ => trivial)); (case aO => exact (by (with_reducible repeat (first | apply Kd.R_alloc | apply Kd.R_drewN | apply Kd.R_drew)); exact HO_3.out)); (case aS => exact (below_size (by repeat (first | (with_reducible first | exact HB.out | apply below_alloc | apply pw_below_drewN | apply below_drew1) | exact HB.out)))); (case aL => have := LMc4.out; omega); intro v108 w5 ho hb hg hat; rw [← Ny107.out] at ho; have n0_ := Aside0.mk (hb); have n1_ := Aside0.mk (ho); clear HB; clear HO_3; have HB := n0_; have HO109 := n1_; clear n0_ n1_; clear ho hb hg hat))
            go_roundg k1
            case measure => have := HK1.out; omega
            case rel => exact ⟨(y107), (wrap64 (x4_1 + 1)), (by first | rfl | (simp; done) | (simp [*]; done)), H', ⟨by have := HK1.out; omega⟩, ⟨by (with_reducible repeat (first | apply Kd.R_alloc | apply Kd.R_drewN | apply Kd.R_drew)); exact HO109.out⟩, ⟨by repeat (first | (with_reducible first | exact HB.out | apply below_alloc | apply pw_below_drewN | apply below_drew1) | exact HB.out)⟩⟩
          · rw [if_neg c4] at H
            exact absurd H (by simp)
        · rw [if_neg c3] at H
          exact absurd H (by simp)
      · rw [if_neg c2] at H
        have c2b0 : decide (x4_1 < (l0.length : Int)) = false := decide_eq_false c2
        clear c2
        have H' := Aside0.mk H
        clear H
        go_wp2
        go_loopg [3, 5] k1 (fun kq v3 v5 w' => ∃ (x3_2 : List (S31)) (x5_2 : Int), v5 = .int .i64 x5_2 ∧ Aside0 (flotillakit_FullLabels.l1 kq x3_2 x5_2 = some r) ∧ Aside0 (kq ≤ k1) ∧ Aside0 (Kd.R k31 31 w' w.heap.size (fun _ => True) v3 x3_2) ∧ Aside0 (Below w.heap.size w w'))
        case atStart => exact ⟨(x3_1), (0), (by first | rfl | (simp; done) | (simp [*]; done)), H', ⟨Nat.le_refl _⟩, ⟨by (with_reducible repeat (first | apply Kd.R_alloc | apply Kd.R_drewN | apply Kd.R_drew)); exact HO_3.out⟩, ⟨by repeat (first | (with_reducible first | exact HB.out | apply below_alloc | apply pw_below_drewN | apply below_drew1) | exact HB.out)⟩⟩
        case round =>
          clear H'
          try clear p1
          try clear q1
          try clear hx1
          try clear c2
          try clear c2b0
          try clear p2
          try clear c3
          try clear c3b0
          try clear c4
          try clear hx106_0
          try clear hx106_1
          try clear p106
          try clear q106
          obtain ⟨x3_2, x5_2, rfl, HA, HK2, HO_3, HB⟩ := hrel
          cases gk with
          | zero => exact absurd HA.out (by simp [flotillakit_FullLabels.l1])
          | succ k2 =>
            have H := HA.out
            clear HA
            simp only [flotillakit_FullLabels.l1] at H
            by_cases c6 : x5_2 < 16
            · rw [if_pos c6] at H
              have c6b0 : decide (x5_2 < 16) = true := decide_eq_true c6
              clear c6
              replace H := Option.bind_eq_some_iff.mp H
              obtain ⟨⟨t110, t111⟩, A70, H⟩ := H
              replace H : (if x3_2.length < 4398046511104 then (flotillakit_FullLabels.l1 k2 (x3_2 ++ [(⟨t110, t111⟩ : S31)]) (wrap64 (x5_2 + 1))) else (none)) = some r := H
              have A7 := Aside0.mk A70
              clear A70
              by_cases c8 : x3_2.length < 4398046511104
              · rw [if_pos c8] at H
                have LMc8 := Aside0.mk c8
                clear c8
                obtain ⟨y112, hy112⟩ : ∃ y_ : List (S31), y_ = (x3_2 ++ [(⟨t110, t111⟩ : S31)]) := ⟨_, rfl⟩
                replace H : (flotillakit_FullLabels.l1 k2 y112 (wrap64 (x5_2 + 1))) = some r := by first | (rw [hy112]; with_reducible exact H) | (have H2_ := (Option.bind_some _ _).symm.trans H; rw [hy112]; with_reducible exact H2_) | (have H2_ := (Option.bind_some _ _).symm.trans H; with_reducible exact H2_) | with_reducible exact H | (rw [hy112]; exact H) | exact H
                have Ny112 := Aside0.mk hy112
                clear hy112
                have H' := Aside0.mk H
                clear H
                go_wp2_with (first | ((with_reducible refine gate_callee (f := 113) rfl ?_); refine goesL_ (some 25) rfl rfl Try.func113 (by kernel_rfl) rfl #[.int .i64 90, .int .i64 x5_2] rfl (by (try simp only [List.map_toArray, List.map_cons, List.map_nil]); first | done | rfl | (simp only [List.length_drop, List.length_take]; rfl)) ?_; (with_reducible refine (flotillakit_markLabels.calls 90 x5_2 t110 t111 _ A7.out).mono ?_); rintro e w9 ⟨rfl, hb⟩; refine ⟨_, rfl, ?_⟩; have n0_ := Aside0.mk (Kd.R_below (by (with_reducible repeat (first | apply Kd.R_alloc | apply Kd.R_drewN | apply Kd.R_drew)); exact HO_3.out) hb); have n1_ := Aside0.mk (below_step (by repeat (first | (with_reducible first | exact HB.out | apply below_alloc | apply pw_below_drewN | apply below_drew1) | exact HB.out)) hb); clear HO_3; clear HB; have HO_3 := n0_; have HB := n1_; clear n0_ n1_; (try clear hb); (try clear hb2); (try clear hk); (try clear hi)) | ((with_reducible refine gate_builtin (b := .append) (xs := #[.tmp 23, .tmp 26]) rfl ?_); at_builtin; refine Kd.R_append k31 (w0 := w) w.heap.size rfl (.tmp 23) (.tmp 26) 22 31 (.agg #[(.string ⟨#[]⟩), (.string ⟨#[]⟩)]) 32 rfl Try.underlying22 info31 rfl (by decide) (by omega) u3 x3_2 (⟨t110, t111⟩ : S31) [.string t110, .string t111] (fun _ => True) (fun _ => False) rfl rfl ?aP (fun _ hk => hk.elim) ?aF ?aO ?aB ?aS ?aL ?_; (case aP => exact k31_mkM _ _ _ (⟨t110, t111⟩ : S31)); (case aB => exact (by repeat (first | (with_reducible first | exact HB.out | apply below_alloc | apply pw_below_drewN | apply below_drew1) | exact HB.out))); (case aF => exact (fun _ _ => trivial)); (case aO => exact (by (with_reducible repeat (first | apply Kd.R_alloc | apply Kd.R_drewN | apply Kd.R_drew)); exact HO_3.out)); (case aS => exact (below_size (by repeat (first | (with_reducible first | exact HB.out | apply below_alloc | apply pw_below_drewN | apply below_drew1) | exact HB.out)))); (case aL => have := LMc8.out; omega); intro v113 w10 ho hb hg hat; rw [← Ny112.out] at ho; have n0_ := Aside0.mk (hb); have n1_ := Aside0.mk (ho); clear HB; clear HO_3; have HB := n0_; have HO114 := n1_; clear n0_ n1_; clear ho hb hg hat))
                go_roundg k2
                case measure => have := HK1.out; have := HK2.out; omega
                case rel => exact ⟨(y112), (wrap64 (x5_2 + 1)), (by first | rfl | (simp; done) | (simp [*]; done)), H', ⟨by have := HK1.out; have := HK2.out; omega⟩, ⟨by (with_reducible repeat (first | apply Kd.R_alloc | apply Kd.R_drewN | apply Kd.R_drew)); exact HO114.out⟩, ⟨by repeat (first | (with_reducible first | exact HB.out | apply below_alloc | apply pw_below_drewN | apply below_drew1) | exact HB.out)⟩⟩
              · rw [if_neg c8] at H
                exact absurd H (by simp)
            · rw [if_neg c6] at H
              have c6b0 : decide (x5_2 < 16) = false := decide_eq_false c6
              clear c6
              obtain rfl := Option.some.inj H
              go_wp2
              go_ret
              exact ⟨_, by first | rfl | (simp [errW_none, errW_some] <;> rfl) | (simp [*, errW_none, errW_some] <;> rfl), by (with_reducible repeat (first | apply Kd.R_alloc | apply Kd.R_drewN | apply Kd.R_drew)); exact HO_3.out, by repeat (first | (with_reducible first | exact HB.out | apply below_alloc | apply pw_below_drewN | apply below_drew1) | exact HB.out)⟩
end Go.Proofs.Ytamjjeakkkdfhaa.PB
end
section
namespace Go.Proofs.Ytamjjeakkkdfhaa.G
open Go.RowKit Go.Proofs.YtamjjeakkkdfhaaW.PrintWords Go.Proofs.YtamjjeakkkdfhaaW.PrintLast Go.Proofs.YtamjjeakkkdfhaaW.PrintMore
open Go.Proofs.Ytamjjeakkkdfhaa.K Go.Proofs.YtamjjeakkkdfhaaE Go.Proofs.Ytamjjeakkkdfhaa.PB
set_option linter.unusedVariables false
set_option linter.unusedSimpArgs false
def markL (i : Int) : S31 := ⟨strOfNums [35, (90 : Int) % 256, (90 : Int) / 256 % 256, i % 256, i / 256 % 256], ⟨#[]⟩⟩
theorem mark_is (i : Int) : flotillakit_markLabels.f 90 i = some ((markL i).f0, (markL i).f1) := rfl
def marks : List S31 := (List.range 16).map fun (i : Nat) => markL (i : Int)
theorem marks_len : marks.length = 16 := by simp [marks]
def lentL (l : List S31) : List S31 := l ++ marks
theorem lentL_len (l : List S31) : (lentL l).length = l.length + 16 := by simp [lentL, marks_len]
theorem lentL_lo {l : List S31} {k : Nat} (h : k < l.length) : (lentL l)[k]'(by rw [lentL_len]; omega) = l[k] := by
  unfold lentL; rw [List.getElem_append_left h]
theorem lentL_hi {l : List S31} {k : Nat} (h : l.length ≤ k) (hk : k < l.length + 16) : (lentL l)[k]'(by rw [lentL_len]; omega) = markL ((k : Int) - l.length) := by
  unfold lentL
  rw [List.getElem_append_right h]
  simp only [marks, List.getElem_map, List.getElem_range]
  rw [show (((k - l.length : Nat)) : Int) = (k : Int) - l.length by omega]
theorem full_l1 (acc : List S31) (ha : acc.length ≤ 4398046511000) : ∀ (d k i : Nat), i ≤ 16 → 16 - i = d → d < k → flotillakit_FullLabels.l1 k (acc ++ marks.take i) (i : Int) = some (acc ++ marks) := by
  intro d
  induction d with
  | zero =>
    intro k i hi hd hk
    obtain ⟨k, rfl⟩ : ∃ m, k = m + 1 := ⟨k - 1, by omega⟩
    simp only [flotillakit_FullLabels.l1]
    rw [if_neg (by omega), List.take_of_length_le (by rw [marks_len]; omega)]
  | succ d ih =>
    intro k i hi hd hk
    obtain ⟨k, rfl⟩ : ∃ m, k = m + 1 := ⟨k - 1, by omega⟩
    have hw : wrap64 ((i : Int) + 1) = ((i + 1 : Nat) : Int) := by unfold wrap64; omega
    have hm : marks[i]'(by rw [marks_len]; omega) = markL (i : Int) := by simp [marks]
    have ht : acc ++ marks.take (i + 1) = acc ++ marks.take i ++ [markL (i : Int)] := by
      rw [List.take_succ_eq_append_getElem (by rw [marks_len]; omega), hm, List.append_assoc]
    simp only [flotillakit_FullLabels.l1]
    rw [if_pos (by omega), mark_is]
    simp only [Option.bind_some]
    rw [if_pos (by have := List.length_take_le i marks; have := marks_len; simp only [List.length_append]; omega), hw]
    have := ih k (i + 1) (by omega) (by omega) (by omega)
    rw [ht] at this; exact this
theorem full_l0 (l : List S31) (hl : l.length ≤ 4398046511000) : ∀ (d k i : Nat), i ≤ l.length → l.length - i = d → d + 18 < k → flotillakit_FullLabels.l0 k l (l.take i) (i : Int) = some (lentL l) := by
  intro d
  induction d with
  | zero =>
    intro k i hi hd hk
    obtain ⟨k, rfl⟩ : ∃ m, k = m + 1 := ⟨k - 1, by omega⟩
    simp only [flotillakit_FullLabels.l0]
    rw [if_neg (by omega), List.take_of_length_le (by omega)]
    have := full_l1 l hl 16 k 0 (by omega) (by omega) (by omega)
    simpa [lentL] using this
  | succ d ih =>
    intro k i hi hd hk
    obtain ⟨k, rfl⟩ : ∃ m, k = m + 1 := ⟨k - 1, by omega⟩
    have hlt : i < l.length := by omega
    have hw : wrap64 ((i : Int) + 1) = ((i + 1 : Nat) : Int) := by unfold wrap64; omega
    have hrd : rd_T31 l (i : Int) = l[i] := by simp [rd_T31, List.getD_eq_getElem?_getD, hlt]
    simp only [flotillakit_FullLabels.l0]
    rw [if_pos (by omega), if_pos (by omega), if_pos (by have := List.length_take_le i l; omega), hw, hrd]
    have := ih k (i + 1) (by omega) (by omega) (by omega)
    rw [List.take_succ_eq_append_getElem hlt] at this
    exact this
theorem full_is (l : List S31) (hl : l.length ≤ 4398046511000) : flotillakit_FullLabels.f (l.length + 19) l = some (lentL l) := full_l0 l hl l.length _ 0 (by omega) (by omega) (by omega)
def kLent : Kd (List S31) where
  sz := 1
  E := 31 :: k31.E
  K := fun w xs cs => ∃ A c, cs = [.slice A xs.length c] ∧ xs.length + 16 ≤ c ∧ k31.C w A (xs.length + 16) (lentL xs)
  M := fun w base ok xs cs => ∃ A c, cs = [.slice A xs.length c] ∧ k31.R 31 w base ok (.slice A (xs.length + 16) c) (lentL xs)
  K_len := by
    rintro w x cs ⟨A, c, rfl, _⟩
    rfl
  K_one := by
    rintro w x cs ⟨A, c, rfl, _⟩ u hu
    rw [List.mem_singleton.1 hu]
    rfl
  K_below := by
    rintro w w1 x cs hb ⟨A, c, rfl, hl, hr⟩
    exact ⟨A, c, rfl, hl, Kd.C_below hr hb⟩
  K_of_M := by
    rintro w base ok x cs ⟨A, c, rfl, h⟩
    obtain ⟨h1, h2, h3⟩ := Kd.R_reads' h
    rw [lentL_len] at h3
    exact ⟨A, c, rfl, h2, h3⟩
  M_mono := by
    rintro w base ok ok' x cs hok ⟨A, c, rfl, h⟩
    exact ⟨A, c, rfl, Kd.R_mono h hok⟩
  M_bound := by
    rintro w base ok x cs ⟨A, c, rfl, h⟩
    exact ⟨A, c, rfl, Kd.R_bound h⟩
  M_move := by
    rintro w w1 base ok x cs hm ⟨A, c, rfl, h⟩
    exact ⟨A, c, rfl, Kd.R_move h hm⟩
  M_lower := by
    rintro w base base' ok x cs hb ⟨A, c, rfl, h⟩
    exact ⟨A, c, rfl, Kd.R_lower h hb⟩
theorem C_front {w : World} {A : Option Addr} {l : List S31} (h : k31.C w A (l.length + 16) (lentL l)) : k31.C w A l.length l := by
  refine ⟨rfl, by have := h.2.1; omega, fun hn => ?_⟩
  obtain ⟨ad, e, hc⟩ := h.2.2 (by omega)
  refine ⟨ad, e, fun j p hj => hc j p ?_⟩
  unfold lentL
  rw [List.getElem?_append_left (List.getElem?_eq_some_iff.1 hj).1]; exact hj
set_option maxRecDepth 100000 in
set_option maxHeartbeats 2000000 in
theorem lent_labels (A0 : Option Addr) (c0 : Nat) (l : List S31) (w : World) (hr0 : k31.C w A0 l.length l) (hc0 : l.length ≤ c0) (hl : l.length ≤ 4398046511000) :
    Calls Try.prog 13 #[.slice A0 l.length c0] w fun e w' => ∃ v, e = .returned v ∧ kLent.M w' w.heap.size (fun _ => True) l [v] ∧ Below w.heap.size w w' := by
  have HR := Aside0.mk hr0
  have HC := Aside0.mk hc0
  clear hr0 hc0
  go_enter Try.func13, Try.ntmps13
  go_wp2_with (go_at_call 72; refine hold ?_)
  refine Hold.intro ((flotillakit_FullLabels.calls _ A0 c0 l (lentL l) w HR.out HC.out (full_is l hl)).mono ?_)
  rintro e w1 ⟨v, rfl, hR, hb⟩
  obtain ⟨A, c, rfl, hle, -⟩ := Kd.R_reads hR
  rw [lentL_len] at hR hle
  have HV := Aside0.mk hR
  have HB := Aside0.mk hb
  have h16 : l.length + 16 ≤ c := hle
  rw [lentL_len]
  clear hR hb hle
  go_wp2
  go_ret
  exact ⟨_, rfl, ⟨A, c, rfl, HV.out⟩, HB.out⟩
end Go.Proofs.Ytamjjeakkkdfhaa.G
end
section
namespace Go.Proofs.Ytamjjeakkkdfhaa.G
open Go.RowKit Go.Proofs.YtamjjeakkkdfhaaW.PrintWords Go.Proofs.YtamjjeakkkdfhaaW.PrintLast Go.Proofs.YtamjjeakkkdfhaaW.PrintMore
open Go.Proofs.Ytamjjeakkkdfhaa.K Go.Proofs.YtamjjeakkkdfhaaE Go.Proofs.Ytamjjeakkkdfhaa.PB
set_option linter.unusedVariables false
set_option linter.unusedSimpArgs false
section
attribute [local go_sem high] eqA31
def kfl.T9 : Bool × List (List Nat × List Nat) := (true, [([], []), ([], []), ([0, 1], [0, 1]), ([2], [2]), ([], []), ([3, 4], [3, 4])])
def kfl.B9 : List Nat := [0, 0, 3, 7, 0, 31]
theorem kfl.tab9 : rtab .any (opsOf Try.f75 9) = kfl.T9 := by kernel_rfl
theorem kfl.bits9 : waitsOk kfl.T9.2 kfl.B9 = true := by kernel_rfl
theorem rd_lent {l : List S31} {k : Nat} (h : k < l.length + 16) : rd_T31 (lentL l) (k : Int) = (lentL l)[k]'(by rw [lentL_len]; omega) := by
  have : k < (lentL l).length := by rw [lentL_len]; omega
  simp [rd_T31, List.getD_eq_getElem?_getD, this]
set_option maxRecDepth 100000 in
set_option maxHeartbeats 4000000 in
theorem kept_full (A0 : Option Addr) (c0 : Nat) (A1 : Option Addr) (c1 : Nat) (l : List S31) (w : World) (h0 : k31.C w A0 (l.length + 16) (lentL l)) (h1 : k31.C w A1 l.length l) (hl : l.length ≤ 4398046511000) :
    Calls Try.prog 75 #[.slice A0 (l.length + 16) c0, .slice A1 l.length c1] w fun e w' => e = .returned (.bool true) ∧ Below w.heap.size w w' := by
  have HR0 := Aside0.mk h0
  have HR1 := Aside0.mk h1
  have hu_label := Try.underlying31
  clear h0 h1
  go_enter Try.func75, Try.ntmps75
  go_wp2
  go_loopw [5] (fun i wr => ∃ k : Nat, k ≤ l.length + 16 ∧ i = .int .i64 k ∧ Aside0 (Below w.heap.size w wr)) (fun i _ => l.length + 16 - (intOf i).toNat)
  case atStart => exact ⟨0, Nat.zero_le _, rfl, ⟨Below.refl _ _⟩⟩
  case round =>
    obtain ⟨k, hk, rfl, HB⟩ := hrel
    by_cases hlt : k < l.length + 16
    · have HLT := Aside0.mk hlt
      obtain ⟨y, hy⟩ : ∃ y, y = (lentL l)[k]'(by rw [lentL_len]; omega) := ⟨_, rfl⟩
      obtain ⟨ad, e, hx0, hx1⟩ := at_T31 HR0.out (k : Int) (by omega) (by omega)
      cases e
      simp only [Int.toNat_natCast] at hx0 hx1
      rw [rd_lent hlt, ← hy] at hx0 hx1
      have HX0 := Aside0.mk hx0
      have HX1 := Aside0.mk hx1
      have HY := Aside0.mk hy
      clear hx0 hx1 hy
      go_wp2_with (go_at_call 113; refine hold ?_)
      refine Hold.intro ((flotillakit_markLabels.calls 90 ((k : Int) - l.length) (markL ((k : Int) - l.length)).f0 (markL ((k : Int) - l.length)).f1 wr (mark_is _)).mono ?_)
      rintro e w2 ⟨rfl, hb⟩
      have HB2 := Aside0.mk (below_step HB.out hb)
      clear hb HB
      obtain ⟨m, hm⟩ : ∃ m, m = markL ((k : Int) - l.length) := ⟨_, rfl⟩
      rw [← hm]
      have HM := Aside0.mk hm
      clear hm
      go_wp2_with ((with_reducible refine gate_dst (N := 6) rfl ?_); refine hold ?_)
      refine Hold.intro ?_
      refine box_event (N := 6) (cs := #[.string (⟨#[]⟩ : ByteArray), .string (⟨#[]⟩ : ByteArray)]) (t := 31) rfl rfl ?hr6 ?_
      case hr6 => first | (go_simp; done) | (go_simp; rfl)
      intro gw hg w3 hbox hb
      have HGW := Aside0.mk (show w.heap.size ≤ gw by rw [hg]; exact HB2.out.size)
      have HXW := Aside0.mk hbox
      have HB3 := Aside0.mk (below_step HB2.out hb)
      clear hbox hb hg HB2
      go_wp2_with ((with_reducible refine gate_store (t := 31) (p := 6) rfl ?_); refine hold ?_)
      refine Hold.intro (two_store_event (t := 31) (ty := 31) (p := 6) (g := gw) (j := 0) (cs := #[.string (⟨#[]⟩ : ByteArray), .string (⟨#[]⟩ : ByteArray)]) (u := .string m.f0) (v := .string m.f1) rfl rfl rfl rfl rfl (by kernel_rfl) HXW.out (by show 0 + 1 < 2; decide) rfl rfl ?_)
      intro w4 hbox hg
      replace HXW := Aside0.mk (show w4.heap[gw]? = some (.cells #[.string m.f0, .string m.f1] 31 (0, 0)) from hbox)
      have HB4 := Aside0.mk (Below.grown HB3.out hg HB3.out.size (fun k e => by injection e with e; rw [← e]; exact HGW.out))
      clear hbox hg HB3
      by_cases hlo : k < l.length
      · obtain ⟨ae, e, hz0, hz1⟩ := at_T31 HR1.out (k : Int) (by omega) (by omega)
        cases e
        simp only [Int.toNat_natCast] at hz0 hz1
        have hrd : rd_T31 l (k : Int) = y := by rw [HY.out, lentL_lo hlo]; simp [rd_T31, List.getD_eq_getElem?_getD, hlo]
        rw [hrd] at hz0 hz1
        replace hz0 := (HB4.out.cell (World.block_lt_of_cell? w _ hz0)).trans hz0
        replace hz1 := (HB4.out.cell (World.block_lt_of_cell? w _ hz1)).trans hz1
        clear hrd
        go_wp2_with ((with_reducible refine gate_store (t := 31) (p := 6) rfl ?_); refine hold ?_)
        refine Hold.intro (two_store_event (t := 31) (ty := 31) (p := 6) (g := gw) (j := 0) (cs := #[.string m.f0, .string m.f1]) (u := .string y.f0) (v := .string y.f1) rfl rfl rfl rfl rfl (by kernel_rfl) HXW.out (by show 0 + 1 < 2; decide) rfl rfl ?_)
        intro w5 hbox hg
        replace HXW := Aside0.mk (show w5.heap[gw]? = some (.cells #[.string y.f0, .string y.f1] 31 (0, 0)) from hbox)
        have HB5 := Aside0.mk (Below.grown HB4.out hg HB4.out.size (fun k e => by injection e with e; rw [← e]; exact HGW.out))
        clear hbox hg HB4 hz0 hz1 hlo
        go_wp2
        have hy0 := (HB5.out.cell (World.block_lt_of_cell? w _ HX0.out)).trans HX0.out
        have hy1 := (HB5.out.cell (World.block_lt_of_cell? w _ HX1.out)).trans HX1.out
        replace HB5 := Aside0.mk (below_drew1 HB5.out)
        replace HXW := Aside0.mk (blk_drew HXW.out)
        replace hy0 : w5.drew.cell? (ad.add (k * 2)) = some (.string y.f0) := hy0
        replace hy1 : w5.drew.cell? ⟨(ad.add (k * 2)).block, (ad.add (k * 2)).off + 1, none⟩ = some (.string y.f1) := hy1
        refine start_ (n := 6) (S := fun w' => w'.cell? (ad.add (k * 2)) = some (.string y.f0) ∧ w'.cell? ⟨(ad.add (k * 2)).block, (ad.add (k * 2)).off + 1, none⟩ = some (.string y.f1) ∧ w'.cell? ⟨gw, 0, none⟩ = some (.string y.f0) ∧ w'.cell? ⟨gw, 1, none⟩ = some (.string y.f1)) (ds := []) #[false, false, false, false, false, false] (by kernel_rfl) rfl rfl ⟨hy0, hy1, (blk_cell HXW.out 0).trans rfl, (blk_cell HXW.out 1).trans rfl⟩ (fun hHeld => ?_); refine with_tabW kfl.tab9 kfl.bits9 (fun HT_ HW_ => ?_)
        generalize w5.drew = wd at HB5 HXW hy0 hy1 hHeld ⊢
        have hkt : k < l.length + 16 := HLT.out
        refine pure_ (i := 0) (N := some 32) (v := ?_) (a' := ?_) #[true, false, false, false, false, false] rfl rfl (any_of HT_.out (by kernel_rfl)) (fun _ _ _ h => h) (Or.inl ⟨by rfl, ?_⟩) ?_ ?_
        rotate_left
        · intro w'
          go_simp
          with_reducible rfl
        rotate_left
        · simp only [Act.put, List.setIfInBounds_toArray, List.set_cons_zero, List.set_cons_succ, i64_w, i32_w]
          rfl
        refine pure_ (i := 1) (N := some 33) (v := ?_) (a' := ?_) #[true, true, false, false, false, false] rfl rfl (any_of HT_.out (by kernel_rfl)) (fun _ _ _ h => h) (Or.inl ⟨by rfl, ?_⟩) ?_ ?_
        rotate_left
        · intro w'
          go_simp
          with_reducible rfl
        rotate_left
        · simp only [Act.put, List.setIfInBounds_toArray, List.set_cons_zero, List.set_cons_succ, i64_w, i32_w]
          rfl
        refine pure_ (i := 2) (N := some 34) (v := ?_) (a' := ?_) #[true, true, true, false, false, false] rfl rfl (any_of HT_.out (by kernel_rfl)) (fun _ _ _ h => h) (Or.inl ⟨by rfl, ?_⟩) ?_ ?_
        rotate_left
        · intro w'
          go_simp
          with_reducible rfl
        rotate_left
        · simp only [Act.put, List.setIfInBounds_toArray, List.set_cons_zero, List.set_cons_succ, i64_w, i32_w]
          rfl
        refine take_ (i := 3) (N := some 35) (v := ?_) (a' := ?_) #[true, true, true, true, false, false] rfl rfl (take_ofW HT_.out HW_.out (by kernel_rfl)) (fun _ _ _ h => h) (Or.inl ⟨by rfl, ?_⟩) hHeld ?_ ?_
        rotate_left
        · rintro w' ⟨s0, s1, s2, s3⟩
          go_simp
          with_reducible rfl
        rotate_left
        · simp only [Act.put, List.setIfInBounds_toArray, List.set_cons_zero, List.set_cons_succ, i64_w, i32_w]
          rfl
        refine take_ (i := 4) (N := some 36) (v := ?_) (a' := ?_) #[true, true, true, true, true, false] rfl rfl (take_ofW HT_.out HW_.out (by kernel_rfl)) (fun _ _ _ h => h) (Or.inl ⟨by rfl, ?_⟩) hHeld ?_ ?_
        rotate_left
        · rintro w' ⟨s0, s1, s2, s3⟩
          go_simp
          with_reducible rfl
        rotate_left
        · simp only [Act.put, List.setIfInBounds_toArray, List.set_cons_zero, List.set_cons_succ, i64_w, i32_w]
          rfl
        refine pure_ (i := 5) (N := some 37) (v := ?_) (a' := ?_) #[true, true, true, true, true, true] rfl rfl (any_of HT_.out (by kernel_rfl)) (fun _ _ _ h => h) (Or.inl ⟨by rfl, ?_⟩) ?_ ?_
        rotate_left
        · intro w'
          go_simp
          with_reducible rfl
        rotate_left
        · simp only [Act.put, List.setIfInBounds_toArray, List.set_cons_zero, List.set_cons_succ, i64_w, i32_w]
          rfl
        refine done_ (done_of HT_.out (by kernel_rfl)) ?_
        go_wp2
        go_roundw
        case rel => exact ⟨k + 1, by have := HLT.out; omega, by simp, HB5⟩
        case measure => have := HLT.out; simp [intOf]; omega
      · have HMY := Aside0.mk (show m = y by rw [HM.out, HY.out, lentL_hi (by omega) hlt])
        obtain ⟨w5, hw5⟩ : ∃ w5, w5 = w4 := ⟨_, rfl⟩
        rw [← hw5, HMY.out] at HXW
        rw [← hw5] at HB4 ⊢
        have HB5 := HB4
        clear hw5 HB4
        go_wp2
        have hy0 := (HB5.out.cell (World.block_lt_of_cell? w _ HX0.out)).trans HX0.out
        have hy1 := (HB5.out.cell (World.block_lt_of_cell? w _ HX1.out)).trans HX1.out
        replace HB5 := Aside0.mk (below_drew1 HB5.out)
        replace HXW := Aside0.mk (blk_drew HXW.out)
        replace hy0 : w5.drew.cell? (ad.add (k * 2)) = some (.string y.f0) := hy0
        replace hy1 : w5.drew.cell? ⟨(ad.add (k * 2)).block, (ad.add (k * 2)).off + 1, none⟩ = some (.string y.f1) := hy1
        refine start_ (n := 6) (S := fun w' => w'.cell? (ad.add (k * 2)) = some (.string y.f0) ∧ w'.cell? ⟨(ad.add (k * 2)).block, (ad.add (k * 2)).off + 1, none⟩ = some (.string y.f1) ∧ w'.cell? ⟨gw, 0, none⟩ = some (.string y.f0) ∧ w'.cell? ⟨gw, 1, none⟩ = some (.string y.f1)) (ds := []) #[false, false, false, false, false, false] (by kernel_rfl) rfl rfl ⟨hy0, hy1, (blk_cell HXW.out 0).trans rfl, (blk_cell HXW.out 1).trans rfl⟩ (fun hHeld => ?_); refine with_tabW kfl.tab9 kfl.bits9 (fun HT_ HW_ => ?_)
        generalize w5.drew = wd at HB5 HXW hy0 hy1 hHeld ⊢
        have hkt : k < l.length + 16 := HLT.out
        refine pure_ (i := 0) (N := some 32) (v := ?_) (a' := ?_) #[true, false, false, false, false, false] rfl rfl (any_of HT_.out (by kernel_rfl)) (fun _ _ _ h => h) (Or.inl ⟨by rfl, ?_⟩) ?_ ?_
        rotate_left
        · intro w'
          go_simp
          with_reducible rfl
        rotate_left
        · simp only [Act.put, List.setIfInBounds_toArray, List.set_cons_zero, List.set_cons_succ, i64_w, i32_w]
          rfl
        refine pure_ (i := 1) (N := some 33) (v := ?_) (a' := ?_) #[true, true, false, false, false, false] rfl rfl (any_of HT_.out (by kernel_rfl)) (fun _ _ _ h => h) (Or.inl ⟨by rfl, ?_⟩) ?_ ?_
        rotate_left
        · intro w'
          go_simp
          with_reducible rfl
        rotate_left
        · simp only [Act.put, List.setIfInBounds_toArray, List.set_cons_zero, List.set_cons_succ, i64_w, i32_w]
          rfl
        refine pure_ (i := 2) (N := some 34) (v := ?_) (a' := ?_) #[true, true, true, false, false, false] rfl rfl (any_of HT_.out (by kernel_rfl)) (fun _ _ _ h => h) (Or.inl ⟨by rfl, ?_⟩) ?_ ?_
        rotate_left
        · intro w'
          go_simp
          with_reducible rfl
        rotate_left
        · simp only [Act.put, List.setIfInBounds_toArray, List.set_cons_zero, List.set_cons_succ, i64_w, i32_w]
          rfl
        refine take_ (i := 3) (N := some 35) (v := ?_) (a' := ?_) #[true, true, true, true, false, false] rfl rfl (take_ofW HT_.out HW_.out (by kernel_rfl)) (fun _ _ _ h => h) (Or.inl ⟨by rfl, ?_⟩) hHeld ?_ ?_
        rotate_left
        · rintro w' ⟨s0, s1, s2, s3⟩
          go_simp
          with_reducible rfl
        rotate_left
        · simp only [Act.put, List.setIfInBounds_toArray, List.set_cons_zero, List.set_cons_succ, i64_w, i32_w]
          rfl
        refine take_ (i := 4) (N := some 36) (v := ?_) (a' := ?_) #[true, true, true, true, true, false] rfl rfl (take_ofW HT_.out HW_.out (by kernel_rfl)) (fun _ _ _ h => h) (Or.inl ⟨by rfl, ?_⟩) hHeld ?_ ?_
        rotate_left
        · rintro w' ⟨s0, s1, s2, s3⟩
          go_simp
          with_reducible rfl
        rotate_left
        · simp only [Act.put, List.setIfInBounds_toArray, List.set_cons_zero, List.set_cons_succ, i64_w, i32_w]
          rfl
        refine pure_ (i := 5) (N := some 37) (v := ?_) (a' := ?_) #[true, true, true, true, true, true] rfl rfl (any_of HT_.out (by kernel_rfl)) (fun _ _ _ h => h) (Or.inl ⟨by rfl, ?_⟩) ?_ ?_
        rotate_left
        · intro w'
          go_simp
          with_reducible rfl
        rotate_left
        · simp only [Act.put, List.setIfInBounds_toArray, List.set_cons_zero, List.set_cons_succ, i64_w, i32_w]
          rfl
        refine done_ (done_of HT_.out (by kernel_rfl)) ?_
        go_wp2
        go_roundw
        case rel => exact ⟨k + 1, by have := HLT.out; omega, by simp, HB5⟩
        case measure => have := HLT.out; simp [intOf]; omega
    · obtain rfl : k = l.length + 16 := by omega
      go_wp2
      go_ret
      exact ⟨rfl, HB.out⟩
set_option maxRecDepth 100000 in
theorem kept_labels (l : List S31) (v : Value) (A1 : Option Addr) (c1 : Nat) (w : World) (h0 : kLent.K w l [v]) (h1 : k31.C w A1 l.length l) (hl : l.length ≤ 4398046511000) :
    Calls Try.prog 17 #[v, .slice A1 l.length c1] w fun e w' => e = .returned (.bool true) ∧ Below w.heap.size w w' := by
  obtain ⟨A, c, e, hc, hC⟩ := h0
  obtain rfl : v = .slice A l.length c := by simpa using e
  have HC := Aside0.mk hC
  have HR := Aside0.mk h1
  clear hC h1 e
  go_enter Try.func17, Try.ntmps17
  go_wp2_with (go_at_call 75; refine hold ?_)
  refine Hold.intro ((kept_full A c A1 c1 l w HC.out HR.out hl).mono ?_)
  rintro e w1 ⟨rfl, hb⟩
  have HB := Aside0.mk hb
  clear hb
  go_wp2
  go_ret
  exact ⟨rfl, HB.out⟩
end
end Go.Proofs.Ytamjjeakkkdfhaa.G
end
