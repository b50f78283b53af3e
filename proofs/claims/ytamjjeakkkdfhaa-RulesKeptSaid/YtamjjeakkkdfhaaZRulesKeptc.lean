/- Parts of the proof of RulesKept: lemmas, put together by a program of this session (pack.py) out of the kit's words, printed contracts and texts of its own. -/
import Derived.Test.YtamjjeakkkdfhaaProg
import Derived.Below
import Derived.Deep.Draws
import Derived.Deep.AppendLies
import Derived.Maps.AppendAt
import Derived.OwnWalk
import Derived.Laws.BytesArg
import Derived.Laws.MakeOwn
import Derived.Laws.OwnMore
import Derived.Deep.OwnRows
import Derived.Tactics
import Derived.Lib.ConvBytes
import Derived.Laws.Slices
import Derived.WalkKit
import Derived.KernelRfl
import Derived.RowKit3
import Derived.Deep.LoopGhost
import Derived.Deep.QuietTactic
import Derived.BigQuiet
import Derived.WideLaws
import Derived.Deep.DeepCutAuto
import Derived.Deep.CutBlock
import Derived.Deep.RegionHeld3
import Derived.Laws.Rows
import Derived.Lib.AppendStr
import Derived.ArgAppend
import Derived.Laws.IdiomCopy
import Derived.OrdersHeld
import Derived.Laws.BitsLemmas
import Derived.RowKit
import Derived.Laws.StructEq
import Derived.RangeFuncNested
import Derived.RangeFuncBound
import Derived.RangeFuncCalls
import Derived.RangeFuncLeaves
import Derived.Shelf.Abstract
import Derived.Shelf.RegionOpen
import Derived.OwnWalkIn
import Derived.TacticsInMore
import Derived.LoopNIn
import Derived.LoopIn
import Derived.Maps.Own
import Derived.Maps.OwnOps
import Derived.Maps.Views
import Derived.StringKeys
import Derived.Test.YtamjjeakkkdfhaaZRulesKepta
import Derived.Test.YtamjjeakkkdfhaaZRulesKeptb
namespace Foot
end Foot
namespace Go.Proofs.Ytamjjeakkkdfhaa
end Go.Proofs.Ytamjjeakkkdfhaa
namespace Go.Proofs.Ytamjjeakkkdfhaa.G
end Go.Proofs.Ytamjjeakkkdfhaa.G
namespace Go.Proofs.Ytamjjeakkkdfhaa.K
end Go.Proofs.Ytamjjeakkkdfhaa.K
namespace Go.Proofs.Ytamjjeakkkdfhaa.OP
end Go.Proofs.Ytamjjeakkkdfhaa.OP
namespace Go.Proofs.Ytamjjeakkkdfhaa.PB
end Go.Proofs.Ytamjjeakkkdfhaa.PB
namespace Go.Proofs.Ytamjjeakkkdfhaa.PC
end Go.Proofs.Ytamjjeakkkdfhaa.PC
namespace Go.Proofs.Ytamjjeakkkdfhaa.PD
end Go.Proofs.Ytamjjeakkkdfhaa.PD
namespace Go.Proofs.Ytamjjeakkkdfhaa.rulesKept
end Go.Proofs.Ytamjjeakkkdfhaa.rulesKept
namespace Go.Proofs.YtamjjeakkkdfhaaE
end Go.Proofs.YtamjjeakkkdfhaaE
namespace Go.Proofs.YtamjjeakkkdfhaaRF
end Go.Proofs.YtamjjeakkkdfhaaRF
namespace Go.Proofs.YtamjjeakkkdfhaaW.PrintLast
end Go.Proofs.YtamjjeakkkdfhaaW.PrintLast
namespace Go.Proofs.YtamjjeakkkdfhaaW.PrintMore
end Go.Proofs.YtamjjeakkkdfhaaW.PrintMore
namespace Go.Proofs.YtamjjeakkkdfhaaW.PrintWords
end Go.Proofs.YtamjjeakkkdfhaaW.PrintWords
namespace Kd
end Kd
section
namespace Go.Proofs.Ytamjjeakkkdfhaa.PB
end Go.Proofs.Ytamjjeakkkdfhaa.PB
namespace Go.Proofs.Ytamjjeakkkdfhaa.PC
open Go.RowKit Go.Proofs.YtamjjeakkkdfhaaW.PrintWords Go.Proofs.YtamjjeakkkdfhaaW.PrintLast Go.Proofs.YtamjjeakkkdfhaaW.PrintMore
open Go.Proofs.Ytamjjeakkkdfhaa.K Go.Proofs.Ytamjjeakkkdfhaa.G Go.Proofs.YtamjjeakkkdfhaaE Go.Proofs.Ytamjjeakkkdfhaa.PB
attribute [local go_sem] max2_int min2_int max_two min_two max_three min_three max_four min_four
set_option linter.unusedVariables false
set_option linter.unusedSimpArgs false
def rules_wrong.j0 : Nat → Bool → List (S68) → List (S68) → List (S68) → List (S68) → Int → ByteArray → Int → Int → List (S31) → Int → Int → Bool → Bool → Bool → Int → ByteArray → ByteArray → ByteArray → Int → Bool → Bool → Int → Int → ByteArray → Int → Int → Int → Int → Int → Bool → Int → List (S31) → Int → ByteArray → Int → Int → Option (Int)
  | 0, _, _, _, _, _, _, _, _, _, _, _, _, _, _, _, _, _, _, _, _, _, _, _, _, _, _, _, _, _, _, _, _, _, _, _, _, _ => none
  | k + 1, x27, x188000, x188001, x188002, x188003, x189000, x189001, x189002, x189003, x189004, x189005, x189006, x189007, x189008, x189009, x189010, x189011, x189012, x189013, x189014, x189015, x189016, x189017, x189018, x189019, x189020, x189021, x189022, x189023, x189024, x189025, x189026, x189027, x189028, x189029, x189030, x189031 => if x27 = true then (some 14) else (if x189013.toList = ([] : List UInt8) then (some 0) else ((rules_find.f x188000 x189013).bind fun bt189 => (if bt189.2.2.2.2.2.2.2.2.2.2.2.2.2.2.2.2.2.2.2.2.2.2.2.2.2.2.2.2.2.2 = true then (if x189015 = true then (if bt189.2.2.2.2.2.2.2.2.1 = true then (some 25) else (some 0)) else (some 0)) else (some 28))))
def rules_wrong.f (k : Nat) (l0_0 : List (S68)) (l0_1 : List (S68)) (l0_2 : List (S68)) (l0_3 : List (S68)) (a1_0 : Int) (a1_1 : ByteArray) (a1_2 : Int) (a1_3 : Int) (l1_4 : List (S31)) (a1_5 : Int) (a1_6 : Int) (a1_7 : Bool) (a1_8 : Bool) (a1_9 : Bool) (a1_10 : Int) (a1_11 : ByteArray) (a1_12 : ByteArray) (a1_13 : ByteArray) (a1_14 : Int) (a1_15 : Bool) (a1_16 : Bool) (a1_17 : Int) (a1_18 : Int) (a1_19 : ByteArray) (a1_20 : Int) (a1_21 : Int) (a1_22 : Int) (a1_23 : Int) (a1_24 : Int) (a1_25 : Bool) (a1_26 : Int) (l1_27 : List (S31)) (a1_28 : Int) (a1_29 : ByteArray) (a1_30 : Int) (a1_31 : Int) : Option (Int) := if a1_15 = true then (if a1_16 = true then (rules_wrong.j0 k true l0_0 l0_1 l0_2 l0_3 a1_0 a1_1 a1_2 a1_3 l1_4 a1_5 a1_6 a1_7 a1_8 a1_9 a1_10 a1_11 a1_12 a1_13 a1_14 a1_15 a1_16 a1_17 a1_18 a1_19 a1_20 a1_21 a1_22 a1_23 a1_24 a1_25 a1_26 l1_27 a1_28 a1_29 a1_30 a1_31) else (if a1_14 = 1 then (rules_wrong.j0 k (a1_13.toList == ([] : List UInt8)) l0_0 l0_1 l0_2 l0_3 a1_0 a1_1 a1_2 a1_3 l1_4 a1_5 a1_6 a1_7 a1_8 a1_9 a1_10 a1_11 a1_12 a1_13 a1_14 a1_15 a1_16 a1_17 a1_18 a1_19 a1_20 a1_21 a1_22 a1_23 a1_24 a1_25 a1_26 l1_27 a1_28 a1_29 a1_30 a1_31) else (rules_wrong.j0 k true l0_0 l0_1 l0_2 l0_3 a1_0 a1_1 a1_2 a1_3 l1_4 a1_5 a1_6 a1_7 a1_8 a1_9 a1_10 a1_11 a1_12 a1_13 a1_14 a1_15 a1_16 a1_17 a1_18 a1_19 a1_20 a1_21 a1_22 a1_23 a1_24 a1_25 a1_26 l1_27 a1_28 a1_29 a1_30 a1_31))) else (if a1_14 = 1 then (rules_wrong.j0 k (a1_13.toList == ([] : List UInt8)) l0_0 l0_1 l0_2 l0_3 a1_0 a1_1 a1_2 a1_3 l1_4 a1_5 a1_6 a1_7 a1_8 a1_9 a1_10 a1_11 a1_12 a1_13 a1_14 a1_15 a1_16 a1_17 a1_18 a1_19 a1_20 a1_21 a1_22 a1_23 a1_24 a1_25 a1_26 l1_27 a1_28 a1_29 a1_30 a1_31) else (rules_wrong.j0 k false l0_0 l0_1 l0_2 l0_3 a1_0 a1_1 a1_2 a1_3 l1_4 a1_5 a1_6 a1_7 a1_8 a1_9 a1_10 a1_11 a1_12 a1_13 a1_14 a1_15 a1_16 a1_17 a1_18 a1_19 a1_20 a1_21 a1_22 a1_23 a1_24 a1_25 a1_26 l1_27 a1_28 a1_29 a1_30 a1_31))
set_option maxHeartbeats 8000000 in
set_option maxRecDepth 100000 in
theorem rules_wrong.calls (k : Nat) (A0_0 : Option Addr) (c0_0 : Nat) (l0_0 : List (S68)) (A0_1 : Option Addr) (c0_1 : Nat) (l0_1 : List (S68)) (A0_2 : Option Addr) (c0_2 : Nat) (l0_2 : List (S68)) (A0_3 : Option Addr) (c0_3 : Nat) (l0_3 : List (S68)) (a1_0 : Int) (a1_1 : ByteArray) (a1_2 : Int) (a1_3 : Int) (A1_4 : Option Addr) (c1_4 : Nat) (l1_4 : List (S31)) (a1_5 : Int) (a1_6 : Int) (a1_7 : Bool) (a1_8 : Bool) (a1_9 : Bool) (a1_10 : Int) (a1_11 : ByteArray) (a1_12 : ByteArray) (a1_13 : ByteArray) (a1_14 : Int) (a1_15 : Bool) (a1_16 : Bool) (a1_17 : Int) (a1_18 : Int) (a1_19 : ByteArray) (a1_20 : Int) (a1_21 : Int) (a1_22 : Int) (a1_23 : Int) (a1_24 : Int) (a1_25 : Bool) (a1_26 : Int) (A1_27 : Option Addr) (c1_27 : Nat) (l1_27 : List (S31)) (a1_28 : Int) (a1_29 : ByteArray) (a1_30 : Int) (a1_31 : Int) (r : Int) (w : World) (hr0_0 : Kd.C k68 w A0_0 l0_0.length l0_0) (hc0_0 : l0_0.length ≤ c0_0) (hr0_1 : Kd.C k68 w A0_1 l0_1.length l0_1) (hc0_1 : l0_1.length ≤ c0_1) (hr0_2 : Kd.C k68 w A0_2 l0_2.length l0_2) (hc0_2 : l0_2.length ≤ c0_2) (hr0_3 : Kd.C k68 w A0_3 l0_3.length l0_3) (hc0_3 : l0_3.length ≤ c0_3) (hr1_4 : Kd.C k31 w A1_4 l1_4.length l1_4) (hc1_4 : l1_4.length ≤ c1_4) (hr1_27 : Kd.C k31 w A1_27 l1_27.length l1_27) (hc1_27 : l1_27.length ≤ c1_27) (h : rules_wrong.f k l0_0 l0_1 l0_2 l0_3 a1_0 a1_1 a1_2 a1_3 l1_4 a1_5 a1_6 a1_7 a1_8 a1_9 a1_10 a1_11 a1_12 a1_13 a1_14 a1_15 a1_16 a1_17 a1_18 a1_19 a1_20 a1_21 a1_22 a1_23 a1_24 a1_25 a1_26 l1_27 a1_28 a1_29 a1_30 a1_31 = some r) :
    Calls Try.prog 101 #[.agg #[.slice A0_0 l0_0.length c0_0, .slice A0_1 l0_1.length c0_1, .slice A0_2 l0_2.length c0_2, .slice A0_3 l0_3.length c0_3], .agg #[.int .i64 a1_0, .string a1_1, .int .i64 a1_2, .int .i64 a1_3, .slice A1_4 l1_4.length c1_4, .int .i64 a1_5, .int .i64 a1_6, .bool a1_7, .bool a1_8, .bool a1_9, .int .i64 a1_10, .string a1_11, .string a1_12, .string a1_13, .int .i64 a1_14, .bool a1_15, .bool a1_16, .int .i64 a1_17, .int .i64 a1_18, .string a1_19, .int .i64 a1_20, .int .i64 a1_21, .int .i64 a1_22, .int .i64 a1_23, .int .i64 a1_24, .bool a1_25, .int .u64 a1_26, .slice A1_27 l1_27.length c1_27, .int .i64 a1_28, .string a1_29, .int .i64 a1_30, .int .i64 a1_31]] w fun e w' => e = .returned (.int .i64 r) ∧ Below w.heap.size w w' := by
  have hu59 := Try.underlying59
  have hu68 := Try.underlying68
  have HR0_0 := Aside0.mk hr0_0
  have HC0_0 := Aside0.mk hc0_0
  clear hr0_0 hc0_0
  have HR0_1 := Aside0.mk hr0_1
  have HC0_1 := Aside0.mk hc0_1
  clear hr0_1 hc0_1
  have HR0_2 := Aside0.mk hr0_2
  have HC0_2 := Aside0.mk hc0_2
  clear hr0_2 hc0_2
  have HR0_3 := Aside0.mk hr0_3
  have HC0_3 := Aside0.mk hc0_3
  clear hr0_3 hc0_3
  have HR1_4 := Aside0.mk hr1_4
  have HC1_4 := Aside0.mk hc1_4
  clear hr1_4 hc1_4
  have HR1_27 := Aside0.mk hr1_27
  have HC1_27 := Aside0.mk hc1_27
  clear hr1_27 hc1_27
  have HB := Aside0.mk (Below.refl w.heap.size w)
  have H : (if a1_15 = true then (if a1_16 = true then (rules_wrong.j0 k true l0_0 l0_1 l0_2 l0_3 a1_0 a1_1 a1_2 a1_3 l1_4 a1_5 a1_6 a1_7 a1_8 a1_9 a1_10 a1_11 a1_12 a1_13 a1_14 a1_15 a1_16 a1_17 a1_18 a1_19 a1_20 a1_21 a1_22 a1_23 a1_24 a1_25 a1_26 l1_27 a1_28 a1_29 a1_30 a1_31) else (if a1_14 = 1 then (rules_wrong.j0 k (a1_13.toList == ([] : List UInt8)) l0_0 l0_1 l0_2 l0_3 a1_0 a1_1 a1_2 a1_3 l1_4 a1_5 a1_6 a1_7 a1_8 a1_9 a1_10 a1_11 a1_12 a1_13 a1_14 a1_15 a1_16 a1_17 a1_18 a1_19 a1_20 a1_21 a1_22 a1_23 a1_24 a1_25 a1_26 l1_27 a1_28 a1_29 a1_30 a1_31) else (rules_wrong.j0 k true l0_0 l0_1 l0_2 l0_3 a1_0 a1_1 a1_2 a1_3 l1_4 a1_5 a1_6 a1_7 a1_8 a1_9 a1_10 a1_11 a1_12 a1_13 a1_14 a1_15 a1_16 a1_17 a1_18 a1_19 a1_20 a1_21 a1_22 a1_23 a1_24 a1_25 a1_26 l1_27 a1_28 a1_29 a1_30 a1_31))) else (if a1_14 = 1 then (rules_wrong.j0 k (a1_13.toList == ([] : List UInt8)) l0_0 l0_1 l0_2 l0_3 a1_0 a1_1 a1_2 a1_3 l1_4 a1_5 a1_6 a1_7 a1_8 a1_9 a1_10 a1_11 a1_12 a1_13 a1_14 a1_15 a1_16 a1_17 a1_18 a1_19 a1_20 a1_21 a1_22 a1_23 a1_24 a1_25 a1_26 l1_27 a1_28 a1_29 a1_30 a1_31) else (rules_wrong.j0 k false l0_0 l0_1 l0_2 l0_3 a1_0 a1_1 a1_2 a1_3 l1_4 a1_5 a1_6 a1_7 a1_8 a1_9 a1_10 a1_11 a1_12 a1_13 a1_14 a1_15 a1_16 a1_17 a1_18 a1_19 a1_20 a1_21 a1_22 a1_23 a1_24 a1_25 a1_26 l1_27 a1_28 a1_29 a1_30 a1_31))) = some r := h
  clear h
  have HC3 := Aside0.mk H
  clear H
  go_enter Try.func101, Try.ntmps101
  go_upto_region 1 with (first | ((with_reducible refine gate_dst (N := 2) rfl ?_); refine box_event ?hg (N := 2) ?hd (cs := #[.slice A0_0 l0_0.length c0_0, .slice A0_1 l0_1.length c0_1, .slice A0_2 l0_2.length c0_2, .slice A0_3 l0_3.length c0_3]) (t := 59) ?hr ?_; (case hd => rfl); (case hg => rfl); (case hr => first | (go_simp; done) | (go_simp; rfl)); intro gb187 hg w4 hbox hb; have n0_ := Aside0.mk (below_step (by repeat (first | (with_reducible first | exact HB.out | apply below_alloc | apply pw_below_drewN | apply below_drew1) | exact HB.out)) hb); have n1_ := Aside0.mk (hbox); have n2_ := Aside0.mk ((by rw [hg]; exact (below_size (by repeat (first | (with_reducible first | exact HB.out | apply below_alloc | apply pw_below_drewN | apply below_drew1) | exact HB.out))) : w.heap.size ≤ gb187)); have n3_ := Aside0.mk ((by rw [hg]; exact (below_size (by repeat (first | (with_reducible first | exact HB.out | apply below_alloc | apply pw_below_drewN | apply below_drew1) | exact HB.out))) : w.heap.size ≤ gb187)); clear HB; have HB := n0_; have BK187 := n1_; have GW187 := n2_; have GE187 := n3_; clear n0_ n1_ n2_ n3_; clear hb hbox hg) | ((with_reducible refine gate_dst (N := 3) rfl ?_); refine box_event ?hg (N := 3) ?hd (cs := #[.int .i64 a1_0, .string a1_1, .int .i64 a1_2, .int .i64 a1_3, .slice A1_4 l1_4.length c1_4, .int .i64 a1_5, .int .i64 a1_6, .bool a1_7, .bool a1_8, .bool a1_9, .int .i64 a1_10, .string a1_11, .string a1_12, .string a1_13, .int .i64 a1_14, .bool a1_15, .bool a1_16, .int .i64 a1_17, .int .i64 a1_18, .string a1_19, .int .i64 a1_20, .int .i64 a1_21, .int .i64 a1_22, .int .i64 a1_23, .int .i64 a1_24, .bool a1_25, .int .u64 a1_26, .slice A1_27 l1_27.length c1_27, .int .i64 a1_28, .string a1_29, .int .i64 a1_30, .int .i64 a1_31]) (t := 68) ?hr ?_; (case hd => rfl); (case hg => rfl); (case hr => first | (go_simp; done) | (go_simp; rfl)); intro gb188 hg w5 hbox hb; have n0_ := Aside0.mk (blk_below (g := gb187) (o := .cells #[.slice A0_0 l0_0.length c0_0, .slice A0_1 l0_1.length c0_1, .slice A0_2 l0_2.length c0_2, .slice A0_3 l0_3.length c0_3] 59 (0, 0)) (by (with_reducible repeat (first | refine blk_drewN ?_ _ | refine blk_drew ?_ | refine blk_alloc ?_ _)); exact BK187.out) hb); have n1_ := Aside0.mk (below_step (by repeat (first | (with_reducible first | exact HB.out | apply below_alloc | apply pw_below_drewN | apply below_drew1 | refine below_set ?_ GE187.out) | exact HB.out)) hb); have n2_ := Aside0.mk (hbox); have n3_ := Aside0.mk ((by rw [hg]; exact (below_size (by repeat (first | (with_reducible first | exact HB.out | apply below_alloc | apply pw_below_drewN | apply below_drew1 | refine below_set ?_ GE187.out) | exact HB.out))) : w.heap.size ≤ gb188)); have n4_ := Aside0.mk ((by rw [hg]; exact (below_size (by repeat (first | (with_reducible first | exact HB.out | apply below_alloc | apply pw_below_drewN | apply below_drew1 | refine below_set ?_ GE187.out) | exact HB.out))) : w.heap.size ≤ gb188)); have n5_ := Aside0.mk ((by rw [hg]; exact Nat.ne_of_lt (blk_lt (g := gb187) (o := .cells #[.slice A0_0 l0_0.length c0_0, .slice A0_1 l0_1.length c0_1, .slice A0_2 l0_2.length c0_2, .slice A0_3 l0_3.length c0_3] 59 (0, 0)) (by (with_reducible repeat (first | refine blk_drewN ?_ _ | refine blk_drew ?_ | refine blk_alloc ?_ _)); exact BK187.out)) : gb187 ≠ gb188)); have n6_ := Aside0.mk ((by rw [hg]; exact Nat.ne_of_gt (blk_lt (g := gb187) (o := .cells #[.slice A0_0 l0_0.length c0_0, .slice A0_1 l0_1.length c0_1, .slice A0_2 l0_2.length c0_2, .slice A0_3 l0_3.length c0_3] 59 (0, 0)) (by (with_reducible repeat (first | refine blk_drewN ?_ _ | refine blk_drew ?_ | refine blk_alloc ?_ _)); exact BK187.out)) : gb188 ≠ gb187)); clear BK187; clear HB; have BK187 := n0_; have HB := n1_; have BK188 := n2_; have GW188 := n3_; have GE188 := n4_; have NB187_188 := n5_; have NB188_187 := n6_; clear n0_ n1_ n2_ n3_ n4_ n5_ n6_; clear hb hbox hg))
  (try simp only [Act.put, List.setIfInBounds_toArray, List.set_cons_zero, List.set_cons_succ])
  go_cut [27] (fun v27 wc => ∃ (kq : Nat) (x27_2 : Bool), v27 = .bool x27_2 ∧ Aside0 (rules_wrong.j0 kq x27_2 l0_0 l0_1 l0_2 l0_3 a1_0 a1_1 a1_2 a1_3 l1_4 a1_5 a1_6 a1_7 a1_8 a1_9 a1_10 a1_11 a1_12 a1_13 a1_14 a1_15 a1_16 a1_17 a1_18 a1_19 a1_20 a1_21 a1_22 a1_23 a1_24 a1_25 a1_26 l1_27 a1_28 a1_29 a1_30 a1_31 = some r) ∧ Aside0 (kq ≤ k) ∧ Aside0 (wc.heap[gb187]? = some (.cells #[(.slice A0_0 l0_0.length c0_0), (.slice A0_1 l0_1.length c0_1), (.slice A0_2 l0_2.length c0_2), (.slice A0_3 l0_3.length c0_3)] 59 (0, 0))) ∧ Aside0 (wc.heap[gb188]? = some (.cells #[.int .i64 a1_0, .string a1_1, .int .i64 a1_2, .int .i64 a1_3, (.slice A1_4 l1_4.length c1_4), .int .i64 a1_5, .int .i64 a1_6, .bool a1_7, .bool a1_8, .bool a1_9, .int .i64 a1_10, .string a1_11, .string a1_12, .string a1_13, .int .i64 a1_14, .bool a1_15, .bool a1_16, .int .i64 a1_17, .int .i64 a1_18, .string a1_19, .int .i64 a1_20, .int .i64 a1_21, .int .i64 a1_22, .int .i64 a1_23, .int .i64 a1_24, .bool a1_25, .int .u64 a1_26, (.slice A1_27 l1_27.length c1_27), .int .i64 a1_28, .string a1_29, .int .i64 a1_30, .int .i64 a1_31] 68 (0, 0))) ∧ Aside0 (Below w.heap.size w wc))
  case first =>
    have H := HC3.out
    clear HC3
    by_cases c6 : a1_15 = true
    · subst c6
      have H1 : (if a1_16 = true then (rules_wrong.j0 k true l0_0 l0_1 l0_2 l0_3 a1_0 a1_1 a1_2 a1_3 l1_4 a1_5 a1_6 a1_7 a1_8 a1_9 a1_10 a1_11 a1_12 a1_13 a1_14 true a1_16 a1_17 a1_18 a1_19 a1_20 a1_21 a1_22 a1_23 a1_24 a1_25 a1_26 l1_27 a1_28 a1_29 a1_30 a1_31) else (if a1_14 = 1 then (rules_wrong.j0 k (a1_13.toList == ([] : List UInt8)) l0_0 l0_1 l0_2 l0_3 a1_0 a1_1 a1_2 a1_3 l1_4 a1_5 a1_6 a1_7 a1_8 a1_9 a1_10 a1_11 a1_12 a1_13 a1_14 true a1_16 a1_17 a1_18 a1_19 a1_20 a1_21 a1_22 a1_23 a1_24 a1_25 a1_26 l1_27 a1_28 a1_29 a1_30 a1_31) else (rules_wrong.j0 k true l0_0 l0_1 l0_2 l0_3 a1_0 a1_1 a1_2 a1_3 l1_4 a1_5 a1_6 a1_7 a1_8 a1_9 a1_10 a1_11 a1_12 a1_13 a1_14 true a1_16 a1_17 a1_18 a1_19 a1_20 a1_21 a1_22 a1_23 a1_24 a1_25 a1_26 l1_27 a1_28 a1_29 a1_30 a1_31))) = some r := by rw [if_pos rfl] at H; exact H
      clear H
      have H := H1
      clear H1
      by_cases c7 : a1_16 = true
      · subst c7
        have H1 : (rules_wrong.j0 k true l0_0 l0_1 l0_2 l0_3 a1_0 a1_1 a1_2 a1_3 l1_4 a1_5 a1_6 a1_7 a1_8 a1_9 a1_10 a1_11 a1_12 a1_13 a1_14 true true a1_17 a1_18 a1_19 a1_20 a1_21 a1_22 a1_23 a1_24 a1_25 a1_26 l1_27 a1_28 a1_29 a1_30 a1_31) = some r := by rw [if_pos rfl] at H; exact H
        clear H
        have H := H1
        clear H1
        have H' := Aside0.mk H
        clear H
        have hnb8 := NB188_187.out
        have hnc8 := NB187_188.out
        have hcz9_0 : w5.cell? ⟨gb188, 0, none⟩ = some (.int .i64 a1_0) := (blk_cell BK188.out 0).trans rfl
        have hcz9_1 : w5.cell? ⟨gb188, 1, none⟩ = some (.string a1_1) := (blk_cell BK188.out 1).trans rfl
        have hcz9_2 : w5.cell? ⟨gb188, 2, none⟩ = some (.int .i64 a1_2) := (blk_cell BK188.out 2).trans rfl
        have hcz9_3 : w5.cell? ⟨gb188, 3, none⟩ = some (.int .i64 a1_3) := (blk_cell BK188.out 3).trans rfl
        have hcz9_4 : w5.cell? ⟨gb188, 4, none⟩ = some (.slice A1_4 l1_4.length c1_4) := (blk_cell BK188.out 4).trans rfl
        have hcz9_5 : w5.cell? ⟨gb188, 5, none⟩ = some (.int .i64 a1_5) := (blk_cell BK188.out 5).trans rfl
        have hcz9_6 : w5.cell? ⟨gb188, 6, none⟩ = some (.int .i64 a1_6) := (blk_cell BK188.out 6).trans rfl
        have hcz9_7 : w5.cell? ⟨gb188, 7, none⟩ = some (.bool a1_7) := (blk_cell BK188.out 7).trans rfl
        have hcz9_8 : w5.cell? ⟨gb188, 8, none⟩ = some (.bool a1_8) := (blk_cell BK188.out 8).trans rfl
        have hcz9_9 : w5.cell? ⟨gb188, 9, none⟩ = some (.bool a1_9) := (blk_cell BK188.out 9).trans rfl
        have hcz9_10 : w5.cell? ⟨gb188, 10, none⟩ = some (.int .i64 a1_10) := (blk_cell BK188.out 10).trans rfl
        have hcz9_11 : w5.cell? ⟨gb188, 11, none⟩ = some (.string a1_11) := (blk_cell BK188.out 11).trans rfl
        have hcz9_12 : w5.cell? ⟨gb188, 12, none⟩ = some (.string a1_12) := (blk_cell BK188.out 12).trans rfl
        have hcz9_13 : w5.cell? ⟨gb188, 13, none⟩ = some (.string a1_13) := (blk_cell BK188.out 13).trans rfl
        have hcz9_14 : w5.cell? ⟨gb188, 14, none⟩ = some (.int .i64 a1_14) := (blk_cell BK188.out 14).trans rfl
        have hcz9_15 : w5.cell? ⟨gb188, 15, none⟩ = some (.bool true) := (blk_cell BK188.out 15).trans rfl
        have hcz9_16 : w5.cell? ⟨gb188, 16, none⟩ = some (.bool true) := (blk_cell BK188.out 16).trans rfl
        have hcz9_17 : w5.cell? ⟨gb188, 17, none⟩ = some (.int .i64 a1_17) := (blk_cell BK188.out 17).trans rfl
        have hcz9_18 : w5.cell? ⟨gb188, 18, none⟩ = some (.int .i64 a1_18) := (blk_cell BK188.out 18).trans rfl
        have hcz9_19 : w5.cell? ⟨gb188, 19, none⟩ = some (.string a1_19) := (blk_cell BK188.out 19).trans rfl
        have hcz9_20 : w5.cell? ⟨gb188, 20, none⟩ = some (.int .i64 a1_20) := (blk_cell BK188.out 20).trans rfl
        have hcz9_21 : w5.cell? ⟨gb188, 21, none⟩ = some (.int .i64 a1_21) := (blk_cell BK188.out 21).trans rfl
        have hcz9_22 : w5.cell? ⟨gb188, 22, none⟩ = some (.int .i64 a1_22) := (blk_cell BK188.out 22).trans rfl
        have hcz9_23 : w5.cell? ⟨gb188, 23, none⟩ = some (.int .i64 a1_23) := (blk_cell BK188.out 23).trans rfl
        have hcz9_24 : w5.cell? ⟨gb188, 24, none⟩ = some (.int .i64 a1_24) := (blk_cell BK188.out 24).trans rfl
        have hcz9_25 : w5.cell? ⟨gb188, 25, none⟩ = some (.bool a1_25) := (blk_cell BK188.out 25).trans rfl
        have hcz9_26 : w5.cell? ⟨gb188, 26, none⟩ = some (.int .u64 a1_26) := (blk_cell BK188.out 26).trans rfl
        have hcz9_27 : w5.cell? ⟨gb188, 27, none⟩ = some (.slice A1_27 l1_27.length c1_27) := (blk_cell BK188.out 27).trans rfl
        have hcz9_28 : w5.cell? ⟨gb188, 28, none⟩ = some (.int .i64 a1_28) := (blk_cell BK188.out 28).trans rfl
        have hcz9_29 : w5.cell? ⟨gb188, 29, none⟩ = some (.string a1_29) := (blk_cell BK188.out 29).trans rfl
        have hcz9_30 : w5.cell? ⟨gb188, 30, none⟩ = some (.int .i64 a1_30) := (blk_cell BK188.out 30).trans rfl
        have hcz9_31 : w5.cell? ⟨gb188, 31, none⟩ = some (.int .i64 a1_31) := (blk_cell BK188.out 31).trans rfl
        have hfz9_0 := blk_frozen BK188.out 0
        have hfz9_1 := blk_frozen BK188.out 1
        have hfz9_2 := blk_frozen BK188.out 2
        have hfz9_3 := blk_frozen BK188.out 3
        have hfz9_4 := blk_frozen BK188.out 4
        have hfz9_5 := blk_frozen BK188.out 5
        have hfz9_6 := blk_frozen BK188.out 6
        have hfz9_7 := blk_frozen BK188.out 7
        have hfz9_8 := blk_frozen BK188.out 8
        have hfz9_9 := blk_frozen BK188.out 9
        have hfz9_10 := blk_frozen BK188.out 10
        have hfz9_11 := blk_frozen BK188.out 11
        have hfz9_12 := blk_frozen BK188.out 12
        have hfz9_13 := blk_frozen BK188.out 13
        have hfz9_14 := blk_frozen BK188.out 14
        have hfz9_15 := blk_frozen BK188.out 15
        have hfz9_16 := blk_frozen BK188.out 16
        have hfz9_17 := blk_frozen BK188.out 17
        have hfz9_18 := blk_frozen BK188.out 18
        have hfz9_19 := blk_frozen BK188.out 19
        have hfz9_20 := blk_frozen BK188.out 20
        have hfz9_21 := blk_frozen BK188.out 21
        have hfz9_22 := blk_frozen BK188.out 22
        have hfz9_23 := blk_frozen BK188.out 23
        have hfz9_24 := blk_frozen BK188.out 24
        have hfz9_25 := blk_frozen BK188.out 25
        have hfz9_26 := blk_frozen BK188.out 26
        have hfz9_27 := blk_frozen BK188.out 27
        have hfz9_28 := blk_frozen BK188.out 28
        have hfz9_29 := blk_frozen BK188.out 29
        have hfz9_30 := blk_frozen BK188.out 30
        have hfz9_31 := blk_frozen BK188.out 31
        go_wp2
        go_meet
        case rel => exact ⟨_, (true), (by first | rfl | (simp; done) | (simp [*]; done)), H', ⟨by first | omega | exact Nat.le_refl _⟩, ⟨by (with_reducible repeat (first | refine blk_drewN ?_ _ | refine blk_drew ?_ | refine blk_alloc ?_ _)); exact BK187.out⟩, ⟨by (with_reducible repeat (first | refine blk_drewN ?_ _ | refine blk_drew ?_ | refine blk_alloc ?_ _)); exact BK188.out⟩, ⟨by repeat (first | (with_reducible first | exact HB.out | apply below_alloc | apply pw_below_drewN | apply below_drew1 | refine below_set ?_ GE187.out | refine below_set ?_ GE188.out) | exact HB.out)⟩⟩
      · replace c7 := Bool.eq_false_iff.mpr c7
        subst c7
        have H1 : (if a1_14 = 1 then (rules_wrong.j0 k (a1_13.toList == ([] : List UInt8)) l0_0 l0_1 l0_2 l0_3 a1_0 a1_1 a1_2 a1_3 l1_4 a1_5 a1_6 a1_7 a1_8 a1_9 a1_10 a1_11 a1_12 a1_13 a1_14 true false a1_17 a1_18 a1_19 a1_20 a1_21 a1_22 a1_23 a1_24 a1_25 a1_26 l1_27 a1_28 a1_29 a1_30 a1_31) else (rules_wrong.j0 k true l0_0 l0_1 l0_2 l0_3 a1_0 a1_1 a1_2 a1_3 l1_4 a1_5 a1_6 a1_7 a1_8 a1_9 a1_10 a1_11 a1_12 a1_13 a1_14 true false a1_17 a1_18 a1_19 a1_20 a1_21 a1_22 a1_23 a1_24 a1_25 a1_26 l1_27 a1_28 a1_29 a1_30 a1_31)) = some r := by rw [if_neg (show ¬ (false = true) by decide)] at H; exact H
        clear H
        have H := H1
        clear H1
        by_cases c10 : a1_14 = 1
        · rw [if_pos c10] at H
          have c10b0 : (a1_14 == 1) = true := beq_iff_eq.mpr c10
          have c10b1 : (a1_14 != 1) = false := bne_eq_false_iff_eq.mpr c10
          clear c10
          (first | rw [c10b0] | (simp only [i64_w, i32_w]; rw [c10b0]) | skip)
          have H' := Aside0.mk H
          clear H
          have hnb11 := NB188_187.out
          have hnc11 := NB187_188.out
          have hcz12_0 : w5.cell? ⟨gb188, 0, none⟩ = some (.int .i64 a1_0) := (blk_cell BK188.out 0).trans rfl
          have hcz12_1 : w5.cell? ⟨gb188, 1, none⟩ = some (.string a1_1) := (blk_cell BK188.out 1).trans rfl
          have hcz12_2 : w5.cell? ⟨gb188, 2, none⟩ = some (.int .i64 a1_2) := (blk_cell BK188.out 2).trans rfl
          have hcz12_3 : w5.cell? ⟨gb188, 3, none⟩ = some (.int .i64 a1_3) := (blk_cell BK188.out 3).trans rfl
          have hcz12_4 : w5.cell? ⟨gb188, 4, none⟩ = some (.slice A1_4 l1_4.length c1_4) := (blk_cell BK188.out 4).trans rfl
          have hcz12_5 : w5.cell? ⟨gb188, 5, none⟩ = some (.int .i64 a1_5) := (blk_cell BK188.out 5).trans rfl
          have hcz12_6 : w5.cell? ⟨gb188, 6, none⟩ = some (.int .i64 a1_6) := (blk_cell BK188.out 6).trans rfl
          have hcz12_7 : w5.cell? ⟨gb188, 7, none⟩ = some (.bool a1_7) := (blk_cell BK188.out 7).trans rfl
          have hcz12_8 : w5.cell? ⟨gb188, 8, none⟩ = some (.bool a1_8) := (blk_cell BK188.out 8).trans rfl
          have hcz12_9 : w5.cell? ⟨gb188, 9, none⟩ = some (.bool a1_9) := (blk_cell BK188.out 9).trans rfl
          have hcz12_10 : w5.cell? ⟨gb188, 10, none⟩ = some (.int .i64 a1_10) := (blk_cell BK188.out 10).trans rfl
          have hcz12_11 : w5.cell? ⟨gb188, 11, none⟩ = some (.string a1_11) := (blk_cell BK188.out 11).trans rfl
          have hcz12_12 : w5.cell? ⟨gb188, 12, none⟩ = some (.string a1_12) := (blk_cell BK188.out 12).trans rfl
          have hcz12_13 : w5.cell? ⟨gb188, 13, none⟩ = some (.string a1_13) := (blk_cell BK188.out 13).trans rfl
          have hcz12_14 : w5.cell? ⟨gb188, 14, none⟩ = some (.int .i64 a1_14) := (blk_cell BK188.out 14).trans rfl
          have hcz12_15 : w5.cell? ⟨gb188, 15, none⟩ = some (.bool true) := (blk_cell BK188.out 15).trans rfl
          have hcz12_16 : w5.cell? ⟨gb188, 16, none⟩ = some (.bool false) := (blk_cell BK188.out 16).trans rfl
          have hcz12_17 : w5.cell? ⟨gb188, 17, none⟩ = some (.int .i64 a1_17) := (blk_cell BK188.out 17).trans rfl
          have hcz12_18 : w5.cell? ⟨gb188, 18, none⟩ = some (.int .i64 a1_18) := (blk_cell BK188.out 18).trans rfl
          have hcz12_19 : w5.cell? ⟨gb188, 19, none⟩ = some (.string a1_19) := (blk_cell BK188.out 19).trans rfl
          have hcz12_20 : w5.cell? ⟨gb188, 20, none⟩ = some (.int .i64 a1_20) := (blk_cell BK188.out 20).trans rfl
          have hcz12_21 : w5.cell? ⟨gb188, 21, none⟩ = some (.int .i64 a1_21) := (blk_cell BK188.out 21).trans rfl
          have hcz12_22 : w5.cell? ⟨gb188, 22, none⟩ = some (.int .i64 a1_22) := (blk_cell BK188.out 22).trans rfl
          have hcz12_23 : w5.cell? ⟨gb188, 23, none⟩ = some (.int .i64 a1_23) := (blk_cell BK188.out 23).trans rfl
          have hcz12_24 : w5.cell? ⟨gb188, 24, none⟩ = some (.int .i64 a1_24) := (blk_cell BK188.out 24).trans rfl
          have hcz12_25 : w5.cell? ⟨gb188, 25, none⟩ = some (.bool a1_25) := (blk_cell BK188.out 25).trans rfl
          have hcz12_26 : w5.cell? ⟨gb188, 26, none⟩ = some (.int .u64 a1_26) := (blk_cell BK188.out 26).trans rfl
          have hcz12_27 : w5.cell? ⟨gb188, 27, none⟩ = some (.slice A1_27 l1_27.length c1_27) := (blk_cell BK188.out 27).trans rfl
          have hcz12_28 : w5.cell? ⟨gb188, 28, none⟩ = some (.int .i64 a1_28) := (blk_cell BK188.out 28).trans rfl
          have hcz12_29 : w5.cell? ⟨gb188, 29, none⟩ = some (.string a1_29) := (blk_cell BK188.out 29).trans rfl
          have hcz12_30 : w5.cell? ⟨gb188, 30, none⟩ = some (.int .i64 a1_30) := (blk_cell BK188.out 30).trans rfl
          have hcz12_31 : w5.cell? ⟨gb188, 31, none⟩ = some (.int .i64 a1_31) := (blk_cell BK188.out 31).trans rfl
          have hfz12_0 := blk_frozen BK188.out 0
          have hfz12_1 := blk_frozen BK188.out 1
          have hfz12_2 := blk_frozen BK188.out 2
          have hfz12_3 := blk_frozen BK188.out 3
          have hfz12_4 := blk_frozen BK188.out 4
          have hfz12_5 := blk_frozen BK188.out 5
          have hfz12_6 := blk_frozen BK188.out 6
          have hfz12_7 := blk_frozen BK188.out 7
          have hfz12_8 := blk_frozen BK188.out 8
          have hfz12_9 := blk_frozen BK188.out 9
          have hfz12_10 := blk_frozen BK188.out 10
          have hfz12_11 := blk_frozen BK188.out 11
          have hfz12_12 := blk_frozen BK188.out 12
          have hfz12_13 := blk_frozen BK188.out 13
          have hfz12_14 := blk_frozen BK188.out 14
          have hfz12_15 := blk_frozen BK188.out 15
          have hfz12_16 := blk_frozen BK188.out 16
          have hfz12_17 := blk_frozen BK188.out 17
          have hfz12_18 := blk_frozen BK188.out 18
          have hfz12_19 := blk_frozen BK188.out 19
          have hfz12_20 := blk_frozen BK188.out 20
          have hfz12_21 := blk_frozen BK188.out 21
          have hfz12_22 := blk_frozen BK188.out 22
          have hfz12_23 := blk_frozen BK188.out 23
          have hfz12_24 := blk_frozen BK188.out 24
          have hfz12_25 := blk_frozen BK188.out 25
          have hfz12_26 := blk_frozen BK188.out 26
          have hfz12_27 := blk_frozen BK188.out 27
          have hfz12_28 := blk_frozen BK188.out 28
          have hfz12_29 := blk_frozen BK188.out 29
          have hfz12_30 := blk_frozen BK188.out 30
          have hfz12_31 := blk_frozen BK188.out 31
          go_wp2
          go_meet
          case rel => exact ⟨_, ((a1_13.toList == ([] : List UInt8))), (by first | rfl | (simp; done) | (simp [*]; done)), H', ⟨by first | omega | exact Nat.le_refl _⟩, ⟨by (with_reducible repeat (first | refine blk_drewN ?_ _ | refine blk_drew ?_ | refine blk_alloc ?_ _)); exact BK187.out⟩, ⟨by (with_reducible repeat (first | refine blk_drewN ?_ _ | refine blk_drew ?_ | refine blk_alloc ?_ _)); exact BK188.out⟩, ⟨by repeat (first | (with_reducible first | exact HB.out | apply below_alloc | apply pw_below_drewN | apply below_drew1 | refine below_set ?_ GE187.out | refine below_set ?_ GE188.out) | exact HB.out)⟩⟩
        · rw [if_neg c10] at H
          have c10b0 : (a1_14 == 1) = false := beq_eq_false_iff_ne.mpr c10
          have c10b1 : (a1_14 != 1) = true := bne_iff_ne.mpr c10
          (first | rw [c10b0] | (simp only [i64_w, i32_w]; rw [c10b0]) | skip)
          have H' := Aside0.mk H
          clear H
          have hnb13 := NB188_187.out
          have hnc13 := NB187_188.out
          have hcz14_0 : w5.cell? ⟨gb188, 0, none⟩ = some (.int .i64 a1_0) := (blk_cell BK188.out 0).trans rfl
          have hcz14_1 : w5.cell? ⟨gb188, 1, none⟩ = some (.string a1_1) := (blk_cell BK188.out 1).trans rfl
          have hcz14_2 : w5.cell? ⟨gb188, 2, none⟩ = some (.int .i64 a1_2) := (blk_cell BK188.out 2).trans rfl
          have hcz14_3 : w5.cell? ⟨gb188, 3, none⟩ = some (.int .i64 a1_3) := (blk_cell BK188.out 3).trans rfl
          have hcz14_4 : w5.cell? ⟨gb188, 4, none⟩ = some (.slice A1_4 l1_4.length c1_4) := (blk_cell BK188.out 4).trans rfl
          have hcz14_5 : w5.cell? ⟨gb188, 5, none⟩ = some (.int .i64 a1_5) := (blk_cell BK188.out 5).trans rfl
          have hcz14_6 : w5.cell? ⟨gb188, 6, none⟩ = some (.int .i64 a1_6) := (blk_cell BK188.out 6).trans rfl
          have hcz14_7 : w5.cell? ⟨gb188, 7, none⟩ = some (.bool a1_7) := (blk_cell BK188.out 7).trans rfl
          have hcz14_8 : w5.cell? ⟨gb188, 8, none⟩ = some (.bool a1_8) := (blk_cell BK188.out 8).trans rfl
          have hcz14_9 : w5.cell? ⟨gb188, 9, none⟩ = some (.bool a1_9) := (blk_cell BK188.out 9).trans rfl
          have hcz14_10 : w5.cell? ⟨gb188, 10, none⟩ = some (.int .i64 a1_10) := (blk_cell BK188.out 10).trans rfl
          have hcz14_11 : w5.cell? ⟨gb188, 11, none⟩ = some (.string a1_11) := (blk_cell BK188.out 11).trans rfl
          have hcz14_12 : w5.cell? ⟨gb188, 12, none⟩ = some (.string a1_12) := (blk_cell BK188.out 12).trans rfl
          have hcz14_13 : w5.cell? ⟨gb188, 13, none⟩ = some (.string a1_13) := (blk_cell BK188.out 13).trans rfl
          have hcz14_14 : w5.cell? ⟨gb188, 14, none⟩ = some (.int .i64 a1_14) := (blk_cell BK188.out 14).trans rfl
          have hcz14_15 : w5.cell? ⟨gb188, 15, none⟩ = some (.bool true) := (blk_cell BK188.out 15).trans rfl
          have hcz14_16 : w5.cell? ⟨gb188, 16, none⟩ = some (.bool false) := (blk_cell BK188.out 16).trans rfl
          have hcz14_17 : w5.cell? ⟨gb188, 17, none⟩ = some (.int .i64 a1_17) := (blk_cell BK188.out 17).trans rfl
          have hcz14_18 : w5.cell? ⟨gb188, 18, none⟩ = some (.int .i64 a1_18) := (blk_cell BK188.out 18).trans rfl
          have hcz14_19 : w5.cell? ⟨gb188, 19, none⟩ = some (.string a1_19) := (blk_cell BK188.out 19).trans rfl
          have hcz14_20 : w5.cell? ⟨gb188, 20, none⟩ = some (.int .i64 a1_20) := (blk_cell BK188.out 20).trans rfl
          have hcz14_21 : w5.cell? ⟨gb188, 21, none⟩ = some (.int .i64 a1_21) := (blk_cell BK188.out 21).trans rfl
          have hcz14_22 : w5.cell? ⟨gb188, 22, none⟩ = some (.int .i64 a1_22) := (blk_cell BK188.out 22).trans rfl
          have hcz14_23 : w5.cell? ⟨gb188, 23, none⟩ = some (.int .i64 a1_23) := (blk_cell BK188.out 23).trans rfl
          have hcz14_24 : w5.cell? ⟨gb188, 24, none⟩ = some (.int .i64 a1_24) := (blk_cell BK188.out 24).trans rfl
          have hcz14_25 : w5.cell? ⟨gb188, 25, none⟩ = some (.bool a1_25) := (blk_cell BK188.out 25).trans rfl
          have hcz14_26 : w5.cell? ⟨gb188, 26, none⟩ = some (.int .u64 a1_26) := (blk_cell BK188.out 26).trans rfl
          have hcz14_27 : w5.cell? ⟨gb188, 27, none⟩ = some (.slice A1_27 l1_27.length c1_27) := (blk_cell BK188.out 27).trans rfl
          have hcz14_28 : w5.cell? ⟨gb188, 28, none⟩ = some (.int .i64 a1_28) := (blk_cell BK188.out 28).trans rfl
          have hcz14_29 : w5.cell? ⟨gb188, 29, none⟩ = some (.string a1_29) := (blk_cell BK188.out 29).trans rfl
          have hcz14_30 : w5.cell? ⟨gb188, 30, none⟩ = some (.int .i64 a1_30) := (blk_cell BK188.out 30).trans rfl
          have hcz14_31 : w5.cell? ⟨gb188, 31, none⟩ = some (.int .i64 a1_31) := (blk_cell BK188.out 31).trans rfl
          have hfz14_0 := blk_frozen BK188.out 0
          have hfz14_1 := blk_frozen BK188.out 1
          have hfz14_2 := blk_frozen BK188.out 2
          have hfz14_3 := blk_frozen BK188.out 3
          have hfz14_4 := blk_frozen BK188.out 4
          have hfz14_5 := blk_frozen BK188.out 5
          have hfz14_6 := blk_frozen BK188.out 6
          have hfz14_7 := blk_frozen BK188.out 7
          have hfz14_8 := blk_frozen BK188.out 8
          have hfz14_9 := blk_frozen BK188.out 9
          have hfz14_10 := blk_frozen BK188.out 10
          have hfz14_11 := blk_frozen BK188.out 11
          have hfz14_12 := blk_frozen BK188.out 12
          have hfz14_13 := blk_frozen BK188.out 13
          have hfz14_14 := blk_frozen BK188.out 14
          have hfz14_15 := blk_frozen BK188.out 15
          have hfz14_16 := blk_frozen BK188.out 16
          have hfz14_17 := blk_frozen BK188.out 17
          have hfz14_18 := blk_frozen BK188.out 18
          have hfz14_19 := blk_frozen BK188.out 19
          have hfz14_20 := blk_frozen BK188.out 20
          have hfz14_21 := blk_frozen BK188.out 21
          have hfz14_22 := blk_frozen BK188.out 22
          have hfz14_23 := blk_frozen BK188.out 23
          have hfz14_24 := blk_frozen BK188.out 24
          have hfz14_25 := blk_frozen BK188.out 25
          have hfz14_26 := blk_frozen BK188.out 26
          have hfz14_27 := blk_frozen BK188.out 27
          have hfz14_28 := blk_frozen BK188.out 28
          have hfz14_29 := blk_frozen BK188.out 29
          have hfz14_30 := blk_frozen BK188.out 30
          have hfz14_31 := blk_frozen BK188.out 31
          go_wp2
          go_meet
          case rel => exact ⟨_, (true), (by first | rfl | (simp; done) | (simp [*]; done)), H', ⟨by first | omega | exact Nat.le_refl _⟩, ⟨by (with_reducible repeat (first | refine blk_drewN ?_ _ | refine blk_drew ?_ | refine blk_alloc ?_ _)); exact BK187.out⟩, ⟨by (with_reducible repeat (first | refine blk_drewN ?_ _ | refine blk_drew ?_ | refine blk_alloc ?_ _)); exact BK188.out⟩, ⟨by repeat (first | (with_reducible first | exact HB.out | apply below_alloc | apply pw_below_drewN | apply below_drew1 | refine below_set ?_ GE187.out | refine below_set ?_ GE188.out) | exact HB.out)⟩⟩
    · replace c6 := Bool.eq_false_iff.mpr c6
      subst c6
      have H1 : (if a1_14 = 1 then (rules_wrong.j0 k (a1_13.toList == ([] : List UInt8)) l0_0 l0_1 l0_2 l0_3 a1_0 a1_1 a1_2 a1_3 l1_4 a1_5 a1_6 a1_7 a1_8 a1_9 a1_10 a1_11 a1_12 a1_13 a1_14 false a1_16 a1_17 a1_18 a1_19 a1_20 a1_21 a1_22 a1_23 a1_24 a1_25 a1_26 l1_27 a1_28 a1_29 a1_30 a1_31) else (rules_wrong.j0 k false l0_0 l0_1 l0_2 l0_3 a1_0 a1_1 a1_2 a1_3 l1_4 a1_5 a1_6 a1_7 a1_8 a1_9 a1_10 a1_11 a1_12 a1_13 a1_14 false a1_16 a1_17 a1_18 a1_19 a1_20 a1_21 a1_22 a1_23 a1_24 a1_25 a1_26 l1_27 a1_28 a1_29 a1_30 a1_31)) = some r := by rw [if_neg (show ¬ (false = true) by decide)] at H; exact H
      clear H
      have H := H1
      clear H1
      by_cases c15 : a1_14 = 1
      · rw [if_pos c15] at H
        have c15b0 : (a1_14 == 1) = true := beq_iff_eq.mpr c15
        have c15b1 : (a1_14 != 1) = false := bne_eq_false_iff_eq.mpr c15
        clear c15
        have H' := Aside0.mk H
        clear H
        have hnb16 := NB188_187.out
        have hnc16 := NB187_188.out
        have hcz17_0 : w5.cell? ⟨gb188, 0, none⟩ = some (.int .i64 a1_0) := (blk_cell BK188.out 0).trans rfl
        have hcz17_1 : w5.cell? ⟨gb188, 1, none⟩ = some (.string a1_1) := (blk_cell BK188.out 1).trans rfl
        have hcz17_2 : w5.cell? ⟨gb188, 2, none⟩ = some (.int .i64 a1_2) := (blk_cell BK188.out 2).trans rfl
        have hcz17_3 : w5.cell? ⟨gb188, 3, none⟩ = some (.int .i64 a1_3) := (blk_cell BK188.out 3).trans rfl
        have hcz17_4 : w5.cell? ⟨gb188, 4, none⟩ = some (.slice A1_4 l1_4.length c1_4) := (blk_cell BK188.out 4).trans rfl
        have hcz17_5 : w5.cell? ⟨gb188, 5, none⟩ = some (.int .i64 a1_5) := (blk_cell BK188.out 5).trans rfl
        have hcz17_6 : w5.cell? ⟨gb188, 6, none⟩ = some (.int .i64 a1_6) := (blk_cell BK188.out 6).trans rfl
        have hcz17_7 : w5.cell? ⟨gb188, 7, none⟩ = some (.bool a1_7) := (blk_cell BK188.out 7).trans rfl
        have hcz17_8 : w5.cell? ⟨gb188, 8, none⟩ = some (.bool a1_8) := (blk_cell BK188.out 8).trans rfl
        have hcz17_9 : w5.cell? ⟨gb188, 9, none⟩ = some (.bool a1_9) := (blk_cell BK188.out 9).trans rfl
        have hcz17_10 : w5.cell? ⟨gb188, 10, none⟩ = some (.int .i64 a1_10) := (blk_cell BK188.out 10).trans rfl
        have hcz17_11 : w5.cell? ⟨gb188, 11, none⟩ = some (.string a1_11) := (blk_cell BK188.out 11).trans rfl
        have hcz17_12 : w5.cell? ⟨gb188, 12, none⟩ = some (.string a1_12) := (blk_cell BK188.out 12).trans rfl
        have hcz17_13 : w5.cell? ⟨gb188, 13, none⟩ = some (.string a1_13) := (blk_cell BK188.out 13).trans rfl
        have hcz17_14 : w5.cell? ⟨gb188, 14, none⟩ = some (.int .i64 a1_14) := (blk_cell BK188.out 14).trans rfl
        have hcz17_15 : w5.cell? ⟨gb188, 15, none⟩ = some (.bool false) := (blk_cell BK188.out 15).trans rfl
        have hcz17_16 : w5.cell? ⟨gb188, 16, none⟩ = some (.bool a1_16) := (blk_cell BK188.out 16).trans rfl
        have hcz17_17 : w5.cell? ⟨gb188, 17, none⟩ = some (.int .i64 a1_17) := (blk_cell BK188.out 17).trans rfl
        have hcz17_18 : w5.cell? ⟨gb188, 18, none⟩ = some (.int .i64 a1_18) := (blk_cell BK188.out 18).trans rfl
        have hcz17_19 : w5.cell? ⟨gb188, 19, none⟩ = some (.string a1_19) := (blk_cell BK188.out 19).trans rfl
        have hcz17_20 : w5.cell? ⟨gb188, 20, none⟩ = some (.int .i64 a1_20) := (blk_cell BK188.out 20).trans rfl
        have hcz17_21 : w5.cell? ⟨gb188, 21, none⟩ = some (.int .i64 a1_21) := (blk_cell BK188.out 21).trans rfl
        have hcz17_22 : w5.cell? ⟨gb188, 22, none⟩ = some (.int .i64 a1_22) := (blk_cell BK188.out 22).trans rfl
        have hcz17_23 : w5.cell? ⟨gb188, 23, none⟩ = some (.int .i64 a1_23) := (blk_cell BK188.out 23).trans rfl
        have hcz17_24 : w5.cell? ⟨gb188, 24, none⟩ = some (.int .i64 a1_24) := (blk_cell BK188.out 24).trans rfl
        have hcz17_25 : w5.cell? ⟨gb188, 25, none⟩ = some (.bool a1_25) := (blk_cell BK188.out 25).trans rfl
        have hcz17_26 : w5.cell? ⟨gb188, 26, none⟩ = some (.int .u64 a1_26) := (blk_cell BK188.out 26).trans rfl
        have hcz17_27 : w5.cell? ⟨gb188, 27, none⟩ = some (.slice A1_27 l1_27.length c1_27) := (blk_cell BK188.out 27).trans rfl
        have hcz17_28 : w5.cell? ⟨gb188, 28, none⟩ = some (.int .i64 a1_28) := (blk_cell BK188.out 28).trans rfl
        have hcz17_29 : w5.cell? ⟨gb188, 29, none⟩ = some (.string a1_29) := (blk_cell BK188.out 29).trans rfl
        have hcz17_30 : w5.cell? ⟨gb188, 30, none⟩ = some (.int .i64 a1_30) := (blk_cell BK188.out 30).trans rfl
        have hcz17_31 : w5.cell? ⟨gb188, 31, none⟩ = some (.int .i64 a1_31) := (blk_cell BK188.out 31).trans rfl
        have hfz17_0 := blk_frozen BK188.out 0
        have hfz17_1 := blk_frozen BK188.out 1
        have hfz17_2 := blk_frozen BK188.out 2
        have hfz17_3 := blk_frozen BK188.out 3
        have hfz17_4 := blk_frozen BK188.out 4
        have hfz17_5 := blk_frozen BK188.out 5
        have hfz17_6 := blk_frozen BK188.out 6
        have hfz17_7 := blk_frozen BK188.out 7
        have hfz17_8 := blk_frozen BK188.out 8
        have hfz17_9 := blk_frozen BK188.out 9
        have hfz17_10 := blk_frozen BK188.out 10
        have hfz17_11 := blk_frozen BK188.out 11
        have hfz17_12 := blk_frozen BK188.out 12
        have hfz17_13 := blk_frozen BK188.out 13
        have hfz17_14 := blk_frozen BK188.out 14
        have hfz17_15 := blk_frozen BK188.out 15
        have hfz17_16 := blk_frozen BK188.out 16
        have hfz17_17 := blk_frozen BK188.out 17
        have hfz17_18 := blk_frozen BK188.out 18
        have hfz17_19 := blk_frozen BK188.out 19
        have hfz17_20 := blk_frozen BK188.out 20
        have hfz17_21 := blk_frozen BK188.out 21
        have hfz17_22 := blk_frozen BK188.out 22
        have hfz17_23 := blk_frozen BK188.out 23
        have hfz17_24 := blk_frozen BK188.out 24
        have hfz17_25 := blk_frozen BK188.out 25
        have hfz17_26 := blk_frozen BK188.out 26
        have hfz17_27 := blk_frozen BK188.out 27
        have hfz17_28 := blk_frozen BK188.out 28
        have hfz17_29 := blk_frozen BK188.out 29
        have hfz17_30 := blk_frozen BK188.out 30
        have hfz17_31 := blk_frozen BK188.out 31
        go_wp2
        go_meet
        case rel => exact ⟨_, ((a1_13.toList == ([] : List UInt8))), (by first | rfl | (simp; done) | (simp [*]; done)), H', ⟨by first | omega | exact Nat.le_refl _⟩, ⟨by (with_reducible repeat (first | refine blk_drewN ?_ _ | refine blk_drew ?_ | refine blk_alloc ?_ _)); exact BK187.out⟩, ⟨by (with_reducible repeat (first | refine blk_drewN ?_ _ | refine blk_drew ?_ | refine blk_alloc ?_ _)); exact BK188.out⟩, ⟨by repeat (first | (with_reducible first | exact HB.out | apply below_alloc | apply pw_below_drewN | apply below_drew1 | refine below_set ?_ GE187.out | refine below_set ?_ GE188.out) | exact HB.out)⟩⟩
      · rw [if_neg c15] at H
        have c15b0 : (a1_14 == 1) = false := beq_eq_false_iff_ne.mpr c15
        have c15b1 : (a1_14 != 1) = true := bne_iff_ne.mpr c15
        have H' := Aside0.mk H
        clear H
        have hnb18 := NB188_187.out
        have hnc18 := NB187_188.out
        have hcz19_0 : w5.cell? ⟨gb188, 0, none⟩ = some (.int .i64 a1_0) := (blk_cell BK188.out 0).trans rfl
        have hcz19_1 : w5.cell? ⟨gb188, 1, none⟩ = some (.string a1_1) := (blk_cell BK188.out 1).trans rfl
        have hcz19_2 : w5.cell? ⟨gb188, 2, none⟩ = some (.int .i64 a1_2) := (blk_cell BK188.out 2).trans rfl
        have hcz19_3 : w5.cell? ⟨gb188, 3, none⟩ = some (.int .i64 a1_3) := (blk_cell BK188.out 3).trans rfl
        have hcz19_4 : w5.cell? ⟨gb188, 4, none⟩ = some (.slice A1_4 l1_4.length c1_4) := (blk_cell BK188.out 4).trans rfl
        have hcz19_5 : w5.cell? ⟨gb188, 5, none⟩ = some (.int .i64 a1_5) := (blk_cell BK188.out 5).trans rfl
        have hcz19_6 : w5.cell? ⟨gb188, 6, none⟩ = some (.int .i64 a1_6) := (blk_cell BK188.out 6).trans rfl
        have hcz19_7 : w5.cell? ⟨gb188, 7, none⟩ = some (.bool a1_7) := (blk_cell BK188.out 7).trans rfl
        have hcz19_8 : w5.cell? ⟨gb188, 8, none⟩ = some (.bool a1_8) := (blk_cell BK188.out 8).trans rfl
        have hcz19_9 : w5.cell? ⟨gb188, 9, none⟩ = some (.bool a1_9) := (blk_cell BK188.out 9).trans rfl
        have hcz19_10 : w5.cell? ⟨gb188, 10, none⟩ = some (.int .i64 a1_10) := (blk_cell BK188.out 10).trans rfl
        have hcz19_11 : w5.cell? ⟨gb188, 11, none⟩ = some (.string a1_11) := (blk_cell BK188.out 11).trans rfl
        have hcz19_12 : w5.cell? ⟨gb188, 12, none⟩ = some (.string a1_12) := (blk_cell BK188.out 12).trans rfl
        have hcz19_13 : w5.cell? ⟨gb188, 13, none⟩ = some (.string a1_13) := (blk_cell BK188.out 13).trans rfl
        have hcz19_14 : w5.cell? ⟨gb188, 14, none⟩ = some (.int .i64 a1_14) := (blk_cell BK188.out 14).trans rfl
        have hcz19_15 : w5.cell? ⟨gb188, 15, none⟩ = some (.bool false) := (blk_cell BK188.out 15).trans rfl
        have hcz19_16 : w5.cell? ⟨gb188, 16, none⟩ = some (.bool a1_16) := (blk_cell BK188.out 16).trans rfl
        have hcz19_17 : w5.cell? ⟨gb188, 17, none⟩ = some (.int .i64 a1_17) := (blk_cell BK188.out 17).trans rfl
        have hcz19_18 : w5.cell? ⟨gb188, 18, none⟩ = some (.int .i64 a1_18) := (blk_cell BK188.out 18).trans rfl
        have hcz19_19 : w5.cell? ⟨gb188, 19, none⟩ = some (.string a1_19) := (blk_cell BK188.out 19).trans rfl
        have hcz19_20 : w5.cell? ⟨gb188, 20, none⟩ = some (.int .i64 a1_20) := (blk_cell BK188.out 20).trans rfl
        have hcz19_21 : w5.cell? ⟨gb188, 21, none⟩ = some (.int .i64 a1_21) := (blk_cell BK188.out 21).trans rfl
        have hcz19_22 : w5.cell? ⟨gb188, 22, none⟩ = some (.int .i64 a1_22) := (blk_cell BK188.out 22).trans rfl
        have hcz19_23 : w5.cell? ⟨gb188, 23, none⟩ = some (.int .i64 a1_23) := (blk_cell BK188.out 23).trans rfl
        have hcz19_24 : w5.cell? ⟨gb188, 24, none⟩ = some (.int .i64 a1_24) := (blk_cell BK188.out 24).trans rfl
        have hcz19_25 : w5.cell? ⟨gb188, 25, none⟩ = some (.bool a1_25) := (blk_cell BK188.out 25).trans rfl
        have hcz19_26 : w5.cell? ⟨gb188, 26, none⟩ = some (.int .u64 a1_26) := (blk_cell BK188.out 26).trans rfl
        have hcz19_27 : w5.cell? ⟨gb188, 27, none⟩ = some (.slice A1_27 l1_27.length c1_27) := (blk_cell BK188.out 27).trans rfl
        have hcz19_28 : w5.cell? ⟨gb188, 28, none⟩ = some (.int .i64 a1_28) := (blk_cell BK188.out 28).trans rfl
        have hcz19_29 : w5.cell? ⟨gb188, 29, none⟩ = some (.string a1_29) := (blk_cell BK188.out 29).trans rfl
        have hcz19_30 : w5.cell? ⟨gb188, 30, none⟩ = some (.int .i64 a1_30) := (blk_cell BK188.out 30).trans rfl
        have hcz19_31 : w5.cell? ⟨gb188, 31, none⟩ = some (.int .i64 a1_31) := (blk_cell BK188.out 31).trans rfl
        have hfz19_0 := blk_frozen BK188.out 0
        have hfz19_1 := blk_frozen BK188.out 1
        have hfz19_2 := blk_frozen BK188.out 2
        have hfz19_3 := blk_frozen BK188.out 3
        have hfz19_4 := blk_frozen BK188.out 4
        have hfz19_5 := blk_frozen BK188.out 5
        have hfz19_6 := blk_frozen BK188.out 6
        have hfz19_7 := blk_frozen BK188.out 7
        have hfz19_8 := blk_frozen BK188.out 8
        have hfz19_9 := blk_frozen BK188.out 9
        have hfz19_10 := blk_frozen BK188.out 10
        have hfz19_11 := blk_frozen BK188.out 11
        have hfz19_12 := blk_frozen BK188.out 12
        have hfz19_13 := blk_frozen BK188.out 13
        have hfz19_14 := blk_frozen BK188.out 14
        have hfz19_15 := blk_frozen BK188.out 15
        have hfz19_16 := blk_frozen BK188.out 16
        have hfz19_17 := blk_frozen BK188.out 17
        have hfz19_18 := blk_frozen BK188.out 18
        have hfz19_19 := blk_frozen BK188.out 19
        have hfz19_20 := blk_frozen BK188.out 20
        have hfz19_21 := blk_frozen BK188.out 21
        have hfz19_22 := blk_frozen BK188.out 22
        have hfz19_23 := blk_frozen BK188.out 23
        have hfz19_24 := blk_frozen BK188.out 24
        have hfz19_25 := blk_frozen BK188.out 25
        have hfz19_26 := blk_frozen BK188.out 26
        have hfz19_27 := blk_frozen BK188.out 27
        have hfz19_28 := blk_frozen BK188.out 28
        have hfz19_29 := blk_frozen BK188.out 29
        have hfz19_30 := blk_frozen BK188.out 30
        have hfz19_31 := blk_frozen BK188.out 31
        go_wp2
        go_meet
        case rel => exact ⟨_, (false), (by first | rfl | (simp; done) | (simp [*]; done)), H', ⟨by first | omega | exact Nat.le_refl _⟩, ⟨by (with_reducible repeat (first | refine blk_drewN ?_ _ | refine blk_drew ?_ | refine blk_alloc ?_ _)); exact BK187.out⟩, ⟨by (with_reducible repeat (first | refine blk_drewN ?_ _ | refine blk_drew ?_ | refine blk_alloc ?_ _)); exact BK188.out⟩, ⟨by repeat (first | (with_reducible first | exact HB.out | apply below_alloc | apply pw_below_drewN | apply below_drew1 | refine below_set ?_ GE187.out | refine below_set ?_ GE188.out) | exact HB.out)⟩⟩
  case rest =>
    clear HC3
    try clear c1
    try clear p2
    try clear c6
    try clear c7
    try clear c8
    try clear c10
    try clear c10b0
    try clear c10b1
    try clear c11
    try clear c13
    try clear c15
    try clear c15b0
    try clear c15b1
    try clear c16
    try clear c18
    try clear hcz12_0
    try clear hcz12_1
    try clear hcz12_10
    try clear hcz12_11
    try clear hcz12_12
    try clear hcz12_13
    try clear hcz12_14
    try clear hcz12_15
    try clear hcz12_16
    try clear hcz12_17
    try clear hcz12_18
    try clear hcz12_19
    try clear hcz12_2
    try clear hcz12_20
    try clear hcz12_21
    try clear hcz12_22
    try clear hcz12_23
    try clear hcz12_24
    try clear hcz12_25
    try clear hcz12_26
    try clear hcz12_27
    try clear hcz12_28
    try clear hcz12_29
    try clear hcz12_3
    try clear hcz12_30
    try clear hcz12_31
    try clear hcz12_4
    try clear hcz12_5
    try clear hcz12_6
    try clear hcz12_7
    try clear hcz12_8
    try clear hcz12_9
    try clear hcz14_0
    try clear hcz14_1
    try clear hcz14_10
    try clear hcz14_11
    try clear hcz14_12
    try clear hcz14_13
    try clear hcz14_14
    try clear hcz14_15
    try clear hcz14_16
    try clear hcz14_17
    try clear hcz14_18
    try clear hcz14_19
    try clear hcz14_2
    try clear hcz14_20
    try clear hcz14_21
    try clear hcz14_22
    try clear hcz14_23
    try clear hcz14_24
    try clear hcz14_25
    try clear hcz14_26
    try clear hcz14_27
    try clear hcz14_28
    try clear hcz14_29
    try clear hcz14_3
    try clear hcz14_30
    try clear hcz14_31
    try clear hcz14_4
    try clear hcz14_5
    try clear hcz14_6
    try clear hcz14_7
    try clear hcz14_8
    try clear hcz14_9
    try clear hcz17_0
    try clear hcz17_1
    try clear hcz17_10
    try clear hcz17_11
    try clear hcz17_12
    try clear hcz17_13
    try clear hcz17_14
    try clear hcz17_15
    try clear hcz17_16
    try clear hcz17_17
    try clear hcz17_18
    try clear hcz17_19
    try clear hcz17_2
    try clear hcz17_20
    try clear hcz17_21
    try clear hcz17_22
    try clear hcz17_23
    try clear hcz17_24
    try clear hcz17_25
    try clear hcz17_26
    try clear hcz17_27
    try clear hcz17_28
    try clear hcz17_29
    try clear hcz17_3
    try clear hcz17_30
    try clear hcz17_31
    try clear hcz17_4
    try clear hcz17_5
    try clear hcz17_6
    try clear hcz17_7
    try clear hcz17_8
    try clear hcz17_9
    try clear hcz19_0
    try clear hcz19_1
    try clear hcz19_10
    try clear hcz19_11
    try clear hcz19_12
    try clear hcz19_13
    try clear hcz19_14
    try clear hcz19_15
    try clear hcz19_16
    try clear hcz19_17
    try clear hcz19_18
    try clear hcz19_19
    try clear hcz19_2
    try clear hcz19_20
    try clear hcz19_21
    try clear hcz19_22
    try clear hcz19_23
    try clear hcz19_24
    try clear hcz19_25
    try clear hcz19_26
    try clear hcz19_27
    try clear hcz19_28
    try clear hcz19_29
    try clear hcz19_3
    try clear hcz19_30
    try clear hcz19_31
    try clear hcz19_4
    try clear hcz19_5
    try clear hcz19_6
    try clear hcz19_7
    try clear hcz19_8
    try clear hcz19_9
    try clear hcz9_0
    try clear hcz9_1
    try clear hcz9_10
    try clear hcz9_11
    try clear hcz9_12
    try clear hcz9_13
    try clear hcz9_14
    try clear hcz9_15
    try clear hcz9_16
    try clear hcz9_17
    try clear hcz9_18
    try clear hcz9_19
    try clear hcz9_2
    try clear hcz9_20
    try clear hcz9_21
    try clear hcz9_22
    try clear hcz9_23
    try clear hcz9_24
    try clear hcz9_25
    try clear hcz9_26
    try clear hcz9_27
    try clear hcz9_28
    try clear hcz9_29
    try clear hcz9_3
    try clear hcz9_30
    try clear hcz9_31
    try clear hcz9_4
    try clear hcz9_5
    try clear hcz9_6
    try clear hcz9_7
    try clear hcz9_8
    try clear hcz9_9
    try clear hfz12_0
    try clear hfz12_1
    try clear hfz12_10
    try clear hfz12_11
    try clear hfz12_12
    try clear hfz12_13
    try clear hfz12_14
    try clear hfz12_15
    try clear hfz12_16
    try clear hfz12_17
    try clear hfz12_18
    try clear hfz12_19
    try clear hfz12_2
    try clear hfz12_20
    try clear hfz12_21
    try clear hfz12_22
    try clear hfz12_23
    try clear hfz12_24
    try clear hfz12_25
    try clear hfz12_26
    try clear hfz12_27
    try clear hfz12_28
    try clear hfz12_29
    try clear hfz12_3
    try clear hfz12_30
    try clear hfz12_31
    try clear hfz12_4
    try clear hfz12_5
    try clear hfz12_6
    try clear hfz12_7
    try clear hfz12_8
    try clear hfz12_9
    try clear hfz14_0
    try clear hfz14_1
    try clear hfz14_10
    try clear hfz14_11
    try clear hfz14_12
    try clear hfz14_13
    try clear hfz14_14
    try clear hfz14_15
    try clear hfz14_16
    try clear hfz14_17
    try clear hfz14_18
    try clear hfz14_19
    try clear hfz14_2
    try clear hfz14_20
    try clear hfz14_21
    try clear hfz14_22
    try clear hfz14_23
    try clear hfz14_24
    try clear hfz14_25
    try clear hfz14_26
    try clear hfz14_27
    try clear hfz14_28
    try clear hfz14_29
    try clear hfz14_3
    try clear hfz14_30
    try clear hfz14_31
    try clear hfz14_4
    try clear hfz14_5
    try clear hfz14_6
    try clear hfz14_7
    try clear hfz14_8
    try clear hfz14_9
    try clear hfz17_0
    try clear hfz17_1
    try clear hfz17_10
    try clear hfz17_11
    try clear hfz17_12
    try clear hfz17_13
    try clear hfz17_14
    try clear hfz17_15
    try clear hfz17_16
    try clear hfz17_17
    try clear hfz17_18
    try clear hfz17_19
    try clear hfz17_2
    try clear hfz17_20
    try clear hfz17_21
    try clear hfz17_22
    try clear hfz17_23
    try clear hfz17_24
    try clear hfz17_25
    try clear hfz17_26
    try clear hfz17_27
    try clear hfz17_28
    try clear hfz17_29
    try clear hfz17_3
    try clear hfz17_30
    try clear hfz17_31
    try clear hfz17_4
    try clear hfz17_5
    try clear hfz17_6
    try clear hfz17_7
    try clear hfz17_8
    try clear hfz17_9
    try clear hfz19_0
    try clear hfz19_1
    try clear hfz19_10
    try clear hfz19_11
    try clear hfz19_12
    try clear hfz19_13
    try clear hfz19_14
    try clear hfz19_15
    try clear hfz19_16
    try clear hfz19_17
    try clear hfz19_18
    try clear hfz19_19
    try clear hfz19_2
    try clear hfz19_20
    try clear hfz19_21
    try clear hfz19_22
    try clear hfz19_23
    try clear hfz19_24
    try clear hfz19_25
    try clear hfz19_26
    try clear hfz19_27
    try clear hfz19_28
    try clear hfz19_29
    try clear hfz19_3
    try clear hfz19_30
    try clear hfz19_31
    try clear hfz19_4
    try clear hfz19_5
    try clear hfz19_6
    try clear hfz19_7
    try clear hfz19_8
    try clear hfz19_9
    try clear hfz9_0
    try clear hfz9_1
    try clear hfz9_10
    try clear hfz9_11
    try clear hfz9_12
    try clear hfz9_13
    try clear hfz9_14
    try clear hfz9_15
    try clear hfz9_16
    try clear hfz9_17
    try clear hfz9_18
    try clear hfz9_19
    try clear hfz9_2
    try clear hfz9_20
    try clear hfz9_21
    try clear hfz9_22
    try clear hfz9_23
    try clear hfz9_24
    try clear hfz9_25
    try clear hfz9_26
    try clear hfz9_27
    try clear hfz9_28
    try clear hfz9_29
    try clear hfz9_3
    try clear hfz9_30
    try clear hfz9_31
    try clear hfz9_4
    try clear hfz9_5
    try clear hfz9_6
    try clear hfz9_7
    try clear hfz9_8
    try clear hfz9_9
    obtain ⟨kq, x27_2, rfl, HA, HJ2, BK187, BK188, HB⟩ := hcut
    cases kq with
    | zero => exact absurd HA.out (by simp [rules_wrong.j0])
    | succ kj2 =>
      have H := HA.out
      clear HA
      simp only [rules_wrong.j0] at H
      by_cases c20 : x27_2 = true
      · subst c20
        have H1 : (some 14) = some r := by rw [if_pos rfl] at H; exact H
        clear H
        have H := H1
        clear H1
        obtain rfl := Option.some.inj H
        go_wp2
        go_ret
        exact ⟨by first | rfl | (simp [errW_none, errW_some] <;> rfl) | (simp [*, errW_none, errW_some] <;> rfl), by repeat (first | (with_reducible first | exact HB.out | apply below_alloc | apply pw_below_drewN | apply below_drew1 | refine below_set ?_ GE187.out | refine below_set ?_ GE188.out) | exact HB.out)⟩
      · replace c20 := Bool.eq_false_iff.mpr c20
        subst c20
        have H1 : (if a1_13.toList = ([] : List UInt8) then (some 0) else ((rules_find.f l0_0 a1_13).bind fun bt189 => (if bt189.2.2.2.2.2.2.2.2.2.2.2.2.2.2.2.2.2.2.2.2.2.2.2.2.2.2.2.2.2.2 = true then (if a1_15 = true then (if bt189.2.2.2.2.2.2.2.2.1 = true then (some 25) else (some 0)) else (some 0)) else (some 28)))) = some r := by rw [if_neg (show ¬ (false = true) by decide)] at H; exact H
        clear H
        have H := H1
        clear H1
        by_cases c21 : a1_13.toList = ([] : List UInt8)
        · rw [if_pos c21] at H
          have c21b0 : (a1_13.toList == ([] : List UInt8)) = true := beq_iff_eq.mpr c21
          have c21b1 : (a1_13.toList != ([] : List UInt8)) = false := bne_eq_false_iff_eq.mpr c21
          clear c21
          obtain rfl := Option.some.inj H
          have hnb22 := NB188_187.out
          have hnc22 := NB187_188.out
          have hcz23_0 : wc.cell? ⟨gb188, 0, none⟩ = some (.int .i64 a1_0) := (blk_cell BK188.out 0).trans rfl
          have hcz23_1 : wc.cell? ⟨gb188, 1, none⟩ = some (.string a1_1) := (blk_cell BK188.out 1).trans rfl
          have hcz23_2 : wc.cell? ⟨gb188, 2, none⟩ = some (.int .i64 a1_2) := (blk_cell BK188.out 2).trans rfl
          have hcz23_3 : wc.cell? ⟨gb188, 3, none⟩ = some (.int .i64 a1_3) := (blk_cell BK188.out 3).trans rfl
          have hcz23_4 : wc.cell? ⟨gb188, 4, none⟩ = some (.slice A1_4 l1_4.length c1_4) := (blk_cell BK188.out 4).trans rfl
          have hcz23_5 : wc.cell? ⟨gb188, 5, none⟩ = some (.int .i64 a1_5) := (blk_cell BK188.out 5).trans rfl
          have hcz23_6 : wc.cell? ⟨gb188, 6, none⟩ = some (.int .i64 a1_6) := (blk_cell BK188.out 6).trans rfl
          have hcz23_7 : wc.cell? ⟨gb188, 7, none⟩ = some (.bool a1_7) := (blk_cell BK188.out 7).trans rfl
          have hcz23_8 : wc.cell? ⟨gb188, 8, none⟩ = some (.bool a1_8) := (blk_cell BK188.out 8).trans rfl
          have hcz23_9 : wc.cell? ⟨gb188, 9, none⟩ = some (.bool a1_9) := (blk_cell BK188.out 9).trans rfl
          have hcz23_10 : wc.cell? ⟨gb188, 10, none⟩ = some (.int .i64 a1_10) := (blk_cell BK188.out 10).trans rfl
          have hcz23_11 : wc.cell? ⟨gb188, 11, none⟩ = some (.string a1_11) := (blk_cell BK188.out 11).trans rfl
          have hcz23_12 : wc.cell? ⟨gb188, 12, none⟩ = some (.string a1_12) := (blk_cell BK188.out 12).trans rfl
          have hcz23_13 : wc.cell? ⟨gb188, 13, none⟩ = some (.string a1_13) := (blk_cell BK188.out 13).trans rfl
          have hcz23_14 : wc.cell? ⟨gb188, 14, none⟩ = some (.int .i64 a1_14) := (blk_cell BK188.out 14).trans rfl
          have hcz23_15 : wc.cell? ⟨gb188, 15, none⟩ = some (.bool a1_15) := (blk_cell BK188.out 15).trans rfl
          have hcz23_16 : wc.cell? ⟨gb188, 16, none⟩ = some (.bool a1_16) := (blk_cell BK188.out 16).trans rfl
          have hcz23_17 : wc.cell? ⟨gb188, 17, none⟩ = some (.int .i64 a1_17) := (blk_cell BK188.out 17).trans rfl
          have hcz23_18 : wc.cell? ⟨gb188, 18, none⟩ = some (.int .i64 a1_18) := (blk_cell BK188.out 18).trans rfl
          have hcz23_19 : wc.cell? ⟨gb188, 19, none⟩ = some (.string a1_19) := (blk_cell BK188.out 19).trans rfl
          have hcz23_20 : wc.cell? ⟨gb188, 20, none⟩ = some (.int .i64 a1_20) := (blk_cell BK188.out 20).trans rfl
          have hcz23_21 : wc.cell? ⟨gb188, 21, none⟩ = some (.int .i64 a1_21) := (blk_cell BK188.out 21).trans rfl
          have hcz23_22 : wc.cell? ⟨gb188, 22, none⟩ = some (.int .i64 a1_22) := (blk_cell BK188.out 22).trans rfl
          have hcz23_23 : wc.cell? ⟨gb188, 23, none⟩ = some (.int .i64 a1_23) := (blk_cell BK188.out 23).trans rfl
          have hcz23_24 : wc.cell? ⟨gb188, 24, none⟩ = some (.int .i64 a1_24) := (blk_cell BK188.out 24).trans rfl
          have hcz23_25 : wc.cell? ⟨gb188, 25, none⟩ = some (.bool a1_25) := (blk_cell BK188.out 25).trans rfl
          have hcz23_26 : wc.cell? ⟨gb188, 26, none⟩ = some (.int .u64 a1_26) := (blk_cell BK188.out 26).trans rfl
          have hcz23_27 : wc.cell? ⟨gb188, 27, none⟩ = some (.slice A1_27 l1_27.length c1_27) := (blk_cell BK188.out 27).trans rfl
          have hcz23_28 : wc.cell? ⟨gb188, 28, none⟩ = some (.int .i64 a1_28) := (blk_cell BK188.out 28).trans rfl
          have hcz23_29 : wc.cell? ⟨gb188, 29, none⟩ = some (.string a1_29) := (blk_cell BK188.out 29).trans rfl
          have hcz23_30 : wc.cell? ⟨gb188, 30, none⟩ = some (.int .i64 a1_30) := (blk_cell BK188.out 30).trans rfl
          have hcz23_31 : wc.cell? ⟨gb188, 31, none⟩ = some (.int .i64 a1_31) := (blk_cell BK188.out 31).trans rfl
          have hfz23_0 := blk_frozen BK188.out 0
          have hfz23_1 := blk_frozen BK188.out 1
          have hfz23_2 := blk_frozen BK188.out 2
          have hfz23_3 := blk_frozen BK188.out 3
          have hfz23_4 := blk_frozen BK188.out 4
          have hfz23_5 := blk_frozen BK188.out 5
          have hfz23_6 := blk_frozen BK188.out 6
          have hfz23_7 := blk_frozen BK188.out 7
          have hfz23_8 := blk_frozen BK188.out 8
          have hfz23_9 := blk_frozen BK188.out 9
          have hfz23_10 := blk_frozen BK188.out 10
          have hfz23_11 := blk_frozen BK188.out 11
          have hfz23_12 := blk_frozen BK188.out 12
          have hfz23_13 := blk_frozen BK188.out 13
          have hfz23_14 := blk_frozen BK188.out 14
          have hfz23_15 := blk_frozen BK188.out 15
          have hfz23_16 := blk_frozen BK188.out 16
          have hfz23_17 := blk_frozen BK188.out 17
          have hfz23_18 := blk_frozen BK188.out 18
          have hfz23_19 := blk_frozen BK188.out 19
          have hfz23_20 := blk_frozen BK188.out 20
          have hfz23_21 := blk_frozen BK188.out 21
          have hfz23_22 := blk_frozen BK188.out 22
          have hfz23_23 := blk_frozen BK188.out 23
          have hfz23_24 := blk_frozen BK188.out 24
          have hfz23_25 := blk_frozen BK188.out 25
          have hfz23_26 := blk_frozen BK188.out 26
          have hfz23_27 := blk_frozen BK188.out 27
          have hfz23_28 := blk_frozen BK188.out 28
          have hfz23_29 := blk_frozen BK188.out 29
          have hfz23_30 := blk_frozen BK188.out 30
          have hfz23_31 := blk_frozen BK188.out 31
          go_wp2
          go_ret
          exact ⟨by first | rfl | (simp [errW_none, errW_some] <;> rfl) | (simp [*, errW_none, errW_some] <;> rfl), by repeat (first | (with_reducible first | exact HB.out | apply below_alloc | apply pw_below_drewN | apply below_drew1 | refine below_set ?_ GE187.out | refine below_set ?_ GE188.out) | exact HB.out)⟩
        · rw [if_neg c21] at H
          have c21b0 : (a1_13.toList == ([] : List UInt8)) = false := beq_eq_false_iff_ne.mpr c21
          have c21b1 : (a1_13.toList != ([] : List UInt8)) = true := bne_iff_ne.mpr c21
          replace H := Option.bind_eq_some_iff.mp H
          obtain ⟨⟨t189, t190, t191, t192, t196, t197, t198, t199, t200, t201, t202, t203, t204, t205, t206, t207, t208, t209, t210, t211, t212, t213, t214, t215, t216, t217, t221, t222, t223, t224, t227⟩, A240, H⟩ := H
          replace H : (if t227 = true then (if a1_15 = true then (if t200 = true then (some 25) else (some 0)) else (some 0)) else (some 28)) = some r := H
          have A24 := Aside0.mk A240
          clear A240
          by_cases c25 : t227 = true
          · subst c25
            have H1 : (if a1_15 = true then (if t200 = true then (some 25) else (some 0)) else (some 0)) = some r := by rw [if_pos rfl] at H; exact H
            clear H
            have H := H1
            clear H1
            by_cases c26 : a1_15 = true
            · subst c26
              have H1 : (if t200 = true then (some 25) else (some 0)) = some r := by rw [if_pos rfl] at H; exact H
              clear H
              have H := H1
              clear H1
              by_cases c27 : t200 = true
              · subst c27
                have H1 : (some 25) = some r := by rw [if_pos rfl] at H; exact H
                clear H
                have H := H1
                clear H1
                obtain rfl := Option.some.inj H
                have hnb28 := NB188_187.out
                have hnc28 := NB187_188.out
                have hcz29_0 : wc.cell? ⟨gb188, 0, none⟩ = some (.int .i64 a1_0) := (blk_cell BK188.out 0).trans rfl
                have hcz29_1 : wc.cell? ⟨gb188, 1, none⟩ = some (.string a1_1) := (blk_cell BK188.out 1).trans rfl
                have hcz29_2 : wc.cell? ⟨gb188, 2, none⟩ = some (.int .i64 a1_2) := (blk_cell BK188.out 2).trans rfl
                have hcz29_3 : wc.cell? ⟨gb188, 3, none⟩ = some (.int .i64 a1_3) := (blk_cell BK188.out 3).trans rfl
                have hcz29_4 : wc.cell? ⟨gb188, 4, none⟩ = some (.slice A1_4 l1_4.length c1_4) := (blk_cell BK188.out 4).trans rfl
                have hcz29_5 : wc.cell? ⟨gb188, 5, none⟩ = some (.int .i64 a1_5) := (blk_cell BK188.out 5).trans rfl
                have hcz29_6 : wc.cell? ⟨gb188, 6, none⟩ = some (.int .i64 a1_6) := (blk_cell BK188.out 6).trans rfl
                have hcz29_7 : wc.cell? ⟨gb188, 7, none⟩ = some (.bool a1_7) := (blk_cell BK188.out 7).trans rfl
                have hcz29_8 : wc.cell? ⟨gb188, 8, none⟩ = some (.bool a1_8) := (blk_cell BK188.out 8).trans rfl
                have hcz29_9 : wc.cell? ⟨gb188, 9, none⟩ = some (.bool a1_9) := (blk_cell BK188.out 9).trans rfl
                have hcz29_10 : wc.cell? ⟨gb188, 10, none⟩ = some (.int .i64 a1_10) := (blk_cell BK188.out 10).trans rfl
                have hcz29_11 : wc.cell? ⟨gb188, 11, none⟩ = some (.string a1_11) := (blk_cell BK188.out 11).trans rfl
                have hcz29_12 : wc.cell? ⟨gb188, 12, none⟩ = some (.string a1_12) := (blk_cell BK188.out 12).trans rfl
                have hcz29_13 : wc.cell? ⟨gb188, 13, none⟩ = some (.string a1_13) := (blk_cell BK188.out 13).trans rfl
                have hcz29_14 : wc.cell? ⟨gb188, 14, none⟩ = some (.int .i64 a1_14) := (blk_cell BK188.out 14).trans rfl
                have hcz29_15 : wc.cell? ⟨gb188, 15, none⟩ = some (.bool true) := (blk_cell BK188.out 15).trans rfl
                have hcz29_16 : wc.cell? ⟨gb188, 16, none⟩ = some (.bool a1_16) := (blk_cell BK188.out 16).trans rfl
                have hcz29_17 : wc.cell? ⟨gb188, 17, none⟩ = some (.int .i64 a1_17) := (blk_cell BK188.out 17).trans rfl
                have hcz29_18 : wc.cell? ⟨gb188, 18, none⟩ = some (.int .i64 a1_18) := (blk_cell BK188.out 18).trans rfl
                have hcz29_19 : wc.cell? ⟨gb188, 19, none⟩ = some (.string a1_19) := (blk_cell BK188.out 19).trans rfl
                have hcz29_20 : wc.cell? ⟨gb188, 20, none⟩ = some (.int .i64 a1_20) := (blk_cell BK188.out 20).trans rfl
                have hcz29_21 : wc.cell? ⟨gb188, 21, none⟩ = some (.int .i64 a1_21) := (blk_cell BK188.out 21).trans rfl
                have hcz29_22 : wc.cell? ⟨gb188, 22, none⟩ = some (.int .i64 a1_22) := (blk_cell BK188.out 22).trans rfl
                have hcz29_23 : wc.cell? ⟨gb188, 23, none⟩ = some (.int .i64 a1_23) := (blk_cell BK188.out 23).trans rfl
                have hcz29_24 : wc.cell? ⟨gb188, 24, none⟩ = some (.int .i64 a1_24) := (blk_cell BK188.out 24).trans rfl
                have hcz29_25 : wc.cell? ⟨gb188, 25, none⟩ = some (.bool a1_25) := (blk_cell BK188.out 25).trans rfl
                have hcz29_26 : wc.cell? ⟨gb188, 26, none⟩ = some (.int .u64 a1_26) := (blk_cell BK188.out 26).trans rfl
                have hcz29_27 : wc.cell? ⟨gb188, 27, none⟩ = some (.slice A1_27 l1_27.length c1_27) := (blk_cell BK188.out 27).trans rfl
                have hcz29_28 : wc.cell? ⟨gb188, 28, none⟩ = some (.int .i64 a1_28) := (blk_cell BK188.out 28).trans rfl
                have hcz29_29 : wc.cell? ⟨gb188, 29, none⟩ = some (.string a1_29) := (blk_cell BK188.out 29).trans rfl
                have hcz29_30 : wc.cell? ⟨gb188, 30, none⟩ = some (.int .i64 a1_30) := (blk_cell BK188.out 30).trans rfl
                have hcz29_31 : wc.cell? ⟨gb188, 31, none⟩ = some (.int .i64 a1_31) := (blk_cell BK188.out 31).trans rfl
                have hfz29_0 := blk_frozen BK188.out 0
                have hfz29_1 := blk_frozen BK188.out 1
                have hfz29_2 := blk_frozen BK188.out 2
                have hfz29_3 := blk_frozen BK188.out 3
                have hfz29_4 := blk_frozen BK188.out 4
                have hfz29_5 := blk_frozen BK188.out 5
                have hfz29_6 := blk_frozen BK188.out 6
                have hfz29_7 := blk_frozen BK188.out 7
                have hfz29_8 := blk_frozen BK188.out 8
                have hfz29_9 := blk_frozen BK188.out 9
                have hfz29_10 := blk_frozen BK188.out 10
                have hfz29_11 := blk_frozen BK188.out 11
                have hfz29_12 := blk_frozen BK188.out 12
                have hfz29_13 := blk_frozen BK188.out 13
                have hfz29_14 := blk_frozen BK188.out 14
                have hfz29_15 := blk_frozen BK188.out 15
                have hfz29_16 := blk_frozen BK188.out 16
                have hfz29_17 := blk_frozen BK188.out 17
                have hfz29_18 := blk_frozen BK188.out 18
                have hfz29_19 := blk_frozen BK188.out 19
                have hfz29_20 := blk_frozen BK188.out 20
                have hfz29_21 := blk_frozen BK188.out 21
                have hfz29_22 := blk_frozen BK188.out 22
                have hfz29_23 := blk_frozen BK188.out 23
                have hfz29_24 := blk_frozen BK188.out 24
                have hfz29_25 := blk_frozen BK188.out 25
                have hfz29_26 := blk_frozen BK188.out 26
                have hfz29_27 := blk_frozen BK188.out 27
                have hfz29_28 := blk_frozen BK188.out 28
                have hfz29_29 := blk_frozen BK188.out 29
                have hfz29_30 := blk_frozen BK188.out 30
                have hfz29_31 := blk_frozen BK188.out 31
                have hcz30_0 : wc.cell? ⟨gb187, 0, none⟩ = some (.slice A0_0 l0_0.length c0_0) := (blk_cell BK187.out 0).trans rfl
                have hcz30_1 : wc.cell? ⟨gb187, 1, none⟩ = some (.slice A0_1 l0_1.length c0_1) := (blk_cell BK187.out 1).trans rfl
                have hcz30_2 : wc.cell? ⟨gb187, 2, none⟩ = some (.slice A0_2 l0_2.length c0_2) := (blk_cell BK187.out 2).trans rfl
                have hcz30_3 : wc.cell? ⟨gb187, 3, none⟩ = some (.slice A0_3 l0_3.length c0_3) := (blk_cell BK187.out 3).trans rfl
                have hfz30_0 := blk_frozen BK187.out 0
                have hfz30_1 := blk_frozen BK187.out 1
                have hfz30_2 := blk_frozen BK187.out 2
                have hfz30_3 := blk_frozen BK187.out 3
                go_wp2_with (first | ((with_reducible refine gate_callee (f := 103) rfl ?_); refine goesL_ (some 36) rfl rfl Try.func103 (by kernel_rfl) rfl #[.slice A0_0 l0_0.length c0_0, .string a1_13] rfl (by (try simp only [List.map_toArray, List.map_cons, List.map_nil]); first | done | rfl | (simp only [List.length_drop, List.length_take]; rfl)) ?_; (with_reducible refine (rules_find.calls _ _ l0_0 a1_13 t189 t190 t191 t192 t196 t197 t198 t199 true t201 t202 t203 t204 t205 t206 t207 t208 t209 t210 t211 t212 t213 t214 t215 t216 t217 t221 t222 t223 t224 true _ ?side1 ?side2 A24.out).mono ?_); (case side1 => repeat (first | exact (Kd.C_below HR0_0.out HB.out) | (with_reducible refine Kd.C_alloc ?_ _) | (with_reducible refine Kd.C_drewN ?_ _) | (with_reducible refine Kd.C_drew ?_))); (case side2 => exact HC0_0.out); rintro e w31 ⟨Aq225, nq225, cq225, Aq226, nq226, cq226, rfl, hb⟩; refine ⟨_, rfl, ?_⟩; have n0_ := Aside0.mk (blk_below (g := gb187) (o := .cells #[.slice A0_0 l0_0.length c0_0, .slice A0_1 l0_1.length c0_1, .slice A0_2 l0_2.length c0_2, .slice A0_3 l0_3.length c0_3] 59 (0, 0)) (by (with_reducible repeat (first | refine blk_drewN ?_ _ | refine blk_drew ?_ | refine blk_alloc ?_ _)); exact BK187.out) hb); have n1_ := Aside0.mk (blk_below (g := gb188) (o := .cells #[.int .i64 a1_0, .string a1_1, .int .i64 a1_2, .int .i64 a1_3, .slice A1_4 l1_4.length c1_4, .int .i64 a1_5, .int .i64 a1_6, .bool a1_7, .bool a1_8, .bool a1_9, .int .i64 a1_10, .string a1_11, .string a1_12, .string a1_13, .int .i64 a1_14, .bool true, .bool a1_16, .int .i64 a1_17, .int .i64 a1_18, .string a1_19, .int .i64 a1_20, .int .i64 a1_21, .int .i64 a1_22, .int .i64 a1_23, .int .i64 a1_24, .bool a1_25, .int .u64 a1_26, .slice A1_27 l1_27.length c1_27, .int .i64 a1_28, .string a1_29, .int .i64 a1_30, .int .i64 a1_31] 68 (0, 0)) (by (with_reducible repeat (first | refine blk_drewN ?_ _ | refine blk_drew ?_ | refine blk_alloc ?_ _)); exact BK188.out) hb); have n2_ := Aside0.mk (below_step (by repeat (first | (with_reducible first | exact HB.out | apply below_alloc | apply pw_below_drewN | apply below_drew1 | refine below_set ?_ GE187.out | refine below_set ?_ GE188.out) | exact HB.out)) hb); clear BK187; clear BK188; clear HB; have BK187 := n0_; have BK188 := n1_; have HB := n2_; clear n0_ n1_ n2_; (try clear hb); (try clear hb2); (try clear hk); (try clear hi)) | ((with_reducible refine gate_dst (N := 5) rfl ?_); refine box_event ?hg (N := 5) ?hd (cs := #[.int .i64 0, .string (⟨#[]⟩ : ByteArray), .int .i64 0, .int .i64 0, .slice none 0 0, .int .i64 0, .int .i64 0, .bool false, .bool false, .bool false, .int .i64 0, .string (⟨#[]⟩ : ByteArray), .string (⟨#[]⟩ : ByteArray), .string (⟨#[]⟩ : ByteArray), .int .i64 0, .bool false, .bool false, .int .i64 0, .int .i64 0, .string (⟨#[]⟩ : ByteArray), .int .i64 0, .int .i64 0, .int .i64 0, .int .i64 0, .int .i64 0, .bool false, .int .u64 0, .slice none 0 0, .int .i64 0, .string (⟨#[]⟩ : ByteArray), .int .i64 0, .int .i64 0]) (t := 68) ?hr ?_; (case hd => rfl); (case hg => rfl); (case hr => first | (go_simp; done) | (go_simp; rfl)); intro gb228 hg w32 hbox hb; have n0_ := Aside0.mk (blk_below (g := gb187) (o := .cells #[.slice A0_0 l0_0.length c0_0, .slice A0_1 l0_1.length c0_1, .slice A0_2 l0_2.length c0_2, .slice A0_3 l0_3.length c0_3] 59 (0, 0)) (by (with_reducible repeat (first | refine blk_drewN ?_ _ | refine blk_drew ?_ | refine blk_alloc ?_ _)); exact BK187.out) hb); have n1_ := Aside0.mk (blk_below (g := gb188) (o := .cells #[.int .i64 a1_0, .string a1_1, .int .i64 a1_2, .int .i64 a1_3, .slice A1_4 l1_4.length c1_4, .int .i64 a1_5, .int .i64 a1_6, .bool a1_7, .bool a1_8, .bool a1_9, .int .i64 a1_10, .string a1_11, .string a1_12, .string a1_13, .int .i64 a1_14, .bool true, .bool a1_16, .int .i64 a1_17, .int .i64 a1_18, .string a1_19, .int .i64 a1_20, .int .i64 a1_21, .int .i64 a1_22, .int .i64 a1_23, .int .i64 a1_24, .bool a1_25, .int .u64 a1_26, .slice A1_27 l1_27.length c1_27, .int .i64 a1_28, .string a1_29, .int .i64 a1_30, .int .i64 a1_31] 68 (0, 0)) (by (with_reducible repeat (first | refine blk_drewN ?_ _ | refine blk_drew ?_ | refine blk_alloc ?_ _)); exact BK188.out) hb); have n2_ := Aside0.mk (below_step (by repeat (first | (with_reducible first | exact HB.out | apply below_alloc | apply pw_below_drewN | apply below_drew1 | refine below_set ?_ GE187.out | refine below_set ?_ GE188.out) | exact HB.out)) hb); have n3_ := Aside0.mk (hbox); have n4_ := Aside0.mk ((by rw [hg]; exact (below_size (by repeat (first | (with_reducible first | exact HB.out | apply below_alloc | apply pw_below_drewN | apply below_drew1 | refine below_set ?_ GE187.out | refine below_set ?_ GE188.out) | exact HB.out))) : w.heap.size ≤ gb228)); have n5_ := Aside0.mk ((by rw [hg]; exact (below_size (by repeat (first | (with_reducible first | exact HB.out | apply below_alloc | apply pw_below_drewN | apply below_drew1 | refine below_set ?_ GE187.out | refine below_set ?_ GE188.out) | exact HB.out))) : w.heap.size ≤ gb228)); have n6_ := Aside0.mk ((by rw [hg]; exact Nat.ne_of_lt (blk_lt (g := gb187) (o := .cells #[.slice A0_0 l0_0.length c0_0, .slice A0_1 l0_1.length c0_1, .slice A0_2 l0_2.length c0_2, .slice A0_3 l0_3.length c0_3] 59 (0, 0)) (by (with_reducible repeat (first | refine blk_drewN ?_ _ | refine blk_drew ?_ | refine blk_alloc ?_ _)); exact BK187.out)) : gb187 ≠ gb228)); have n7_ := Aside0.mk ((by rw [hg]; exact Nat.ne_of_gt (blk_lt (g := gb187) (o := .cells #[.slice A0_0 l0_0.length c0_0, .slice A0_1 l0_1.length c0_1, .slice A0_2 l0_2.length c0_2, .slice A0_3 l0_3.length c0_3] 59 (0, 0)) (by (with_reducible repeat (first | refine blk_drewN ?_ _ | refine blk_drew ?_ | refine blk_alloc ?_ _)); exact BK187.out)) : gb228 ≠ gb187)); have n8_ := Aside0.mk ((by rw [hg]; exact Nat.ne_of_lt (blk_lt (g := gb188) (o := .cells #[.int .i64 a1_0, .string a1_1, .int .i64 a1_2, .int .i64 a1_3, .slice A1_4 l1_4.length c1_4, .int .i64 a1_5, .int .i64 a1_6, .bool a1_7, .bool a1_8, .bool a1_9, .int .i64 a1_10, .string a1_11, .string a1_12, .string a1_13, .int .i64 a1_14, .bool true, .bool a1_16, .int .i64 a1_17, .int .i64 a1_18, .string a1_19, .int .i64 a1_20, .int .i64 a1_21, .int .i64 a1_22, .int .i64 a1_23, .int .i64 a1_24, .bool a1_25, .int .u64 a1_26, .slice A1_27 l1_27.length c1_27, .int .i64 a1_28, .string a1_29, .int .i64 a1_30, .int .i64 a1_31] 68 (0, 0)) (by (with_reducible repeat (first | refine blk_drewN ?_ _ | refine blk_drew ?_ | refine blk_alloc ?_ _)); exact BK188.out)) : gb188 ≠ gb228)); have n9_ := Aside0.mk ((by rw [hg]; exact Nat.ne_of_gt (blk_lt (g := gb188) (o := .cells #[.int .i64 a1_0, .string a1_1, .int .i64 a1_2, .int .i64 a1_3, .slice A1_4 l1_4.length c1_4, .int .i64 a1_5, .int .i64 a1_6, .bool a1_7, .bool a1_8, .bool a1_9, .int .i64 a1_10, .string a1_11, .string a1_12, .string a1_13, .int .i64 a1_14, .bool true, .bool a1_16, .int .i64 a1_17, .int .i64 a1_18, .string a1_19, .int .i64 a1_20, .int .i64 a1_21, .int .i64 a1_22, .int .i64 a1_23, .int .i64 a1_24, .bool a1_25, .int .u64 a1_26, .slice A1_27 l1_27.length c1_27, .int .i64 a1_28, .string a1_29, .int .i64 a1_30, .int .i64 a1_31] 68 (0, 0)) (by (with_reducible repeat (first | refine blk_drewN ?_ _ | refine blk_drew ?_ | refine blk_alloc ?_ _)); exact BK188.out)) : gb228 ≠ gb188)); clear BK187; clear BK188; clear HB; have BK187 := n0_; have BK188 := n1_; have HB := n2_; have BK228 := n3_; have GW228 := n4_; have GE228 := n5_; have NB187_228 := n6_; have NB228_187 := n7_; have NB188_228 := n8_; have NB228_188 := n9_; clear n0_ n1_ n2_ n3_ n4_ n5_ n6_ n7_ n8_ n9_; clear hb hbox hg; have hnb33 := NB228_187.out; have hnc33 := NB187_228.out; have hnb34 := NB228_188.out; have hnc34 := NB188_228.out; have hcz35_0 : w32.cell? ⟨gb228, 0, none⟩ = some (.int .i64 0) := (blk_cell BK228.out 0).trans rfl; have hcz35_1 : w32.cell? ⟨gb228, 1, none⟩ = some (.string (⟨#[]⟩ : ByteArray)) := (blk_cell BK228.out 1).trans rfl; have hcz35_2 : w32.cell? ⟨gb228, 2, none⟩ = some (.int .i64 0) := (blk_cell BK228.out 2).trans rfl; have hcz35_3 : w32.cell? ⟨gb228, 3, none⟩ = some (.int .i64 0) := (blk_cell BK228.out 3).trans rfl; have hcz35_4 : w32.cell? ⟨gb228, 4, none⟩ = some (.slice none 0 0) := (blk_cell BK228.out 4).trans rfl; have hcz35_5 : w32.cell? ⟨gb228, 5, none⟩ = some (.int .i64 0) := (blk_cell BK228.out 5).trans rfl; have hcz35_6 : w32.cell? ⟨gb228, 6, none⟩ = some (.int .i64 0) := (blk_cell BK228.out 6).trans rfl; have hcz35_7 : w32.cell? ⟨gb228, 7, none⟩ = some (.bool false) := (blk_cell BK228.out 7).trans rfl; have hcz35_8 : w32.cell? ⟨gb228, 8, none⟩ = some (.bool false) := (blk_cell BK228.out 8).trans rfl; have hcz35_9 : w32.cell? ⟨gb228, 9, none⟩ = some (.bool false) := (blk_cell BK228.out 9).trans rfl; have hcz35_10 : w32.cell? ⟨gb228, 10, none⟩ = some (.int .i64 0) := (blk_cell BK228.out 10).trans rfl; have hcz35_11 : w32.cell? ⟨gb228, 11, none⟩ = some (.string (⟨#[]⟩ : ByteArray)) := (blk_cell BK228.out 11).trans rfl; have hcz35_12 : w32.cell? ⟨gb228, 12, none⟩ = some (.string (⟨#[]⟩ : ByteArray)) := (blk_cell BK228.out 12).trans rfl; have hcz35_13 : w32.cell? ⟨gb228, 13, none⟩ = some (.string (⟨#[]⟩ : ByteArray)) := (blk_cell BK228.out 13).trans rfl; have hcz35_14 : w32.cell? ⟨gb228, 14, none⟩ = some (.int .i64 0) := (blk_cell BK228.out 14).trans rfl; have hcz35_15 : w32.cell? ⟨gb228, 15, none⟩ = some (.bool false) := (blk_cell BK228.out 15).trans rfl; have hcz35_16 : w32.cell? ⟨gb228, 16, none⟩ = some (.bool false) := (blk_cell BK228.out 16).trans rfl; have hcz35_17 : w32.cell? ⟨gb228, 17, none⟩ = some (.int .i64 0) := (blk_cell BK228.out 17).trans rfl; have hcz35_18 : w32.cell? ⟨gb228, 18, none⟩ = some (.int .i64 0) := (blk_cell BK228.out 18).trans rfl; have hcz35_19 : w32.cell? ⟨gb228, 19, none⟩ = some (.string (⟨#[]⟩ : ByteArray)) := (blk_cell BK228.out 19).trans rfl; have hcz35_20 : w32.cell? ⟨gb228, 20, none⟩ = some (.int .i64 0) := (blk_cell BK228.out 20).trans rfl; have hcz35_21 : w32.cell? ⟨gb228, 21, none⟩ = some (.int .i64 0) := (blk_cell BK228.out 21).trans rfl; have hcz35_22 : w32.cell? ⟨gb228, 22, none⟩ = some (.int .i64 0) := (blk_cell BK228.out 22).trans rfl; have hcz35_23 : w32.cell? ⟨gb228, 23, none⟩ = some (.int .i64 0) := (blk_cell BK228.out 23).trans rfl; have hcz35_24 : w32.cell? ⟨gb228, 24, none⟩ = some (.int .i64 0) := (blk_cell BK228.out 24).trans rfl; have hcz35_25 : w32.cell? ⟨gb228, 25, none⟩ = some (.bool false) := (blk_cell BK228.out 25).trans rfl; have hcz35_26 : w32.cell? ⟨gb228, 26, none⟩ = some (.int .u64 0) := (blk_cell BK228.out 26).trans rfl; have hcz35_27 : w32.cell? ⟨gb228, 27, none⟩ = some (.slice none 0 0) := (blk_cell BK228.out 27).trans rfl; have hcz35_28 : w32.cell? ⟨gb228, 28, none⟩ = some (.int .i64 0) := (blk_cell BK228.out 28).trans rfl; have hcz35_29 : w32.cell? ⟨gb228, 29, none⟩ = some (.string (⟨#[]⟩ : ByteArray)) := (blk_cell BK228.out 29).trans rfl; have hcz35_30 : w32.cell? ⟨gb228, 30, none⟩ = some (.int .i64 0) := (blk_cell BK228.out 30).trans rfl; have hcz35_31 : w32.cell? ⟨gb228, 31, none⟩ = some (.int .i64 0) := (blk_cell BK228.out 31).trans rfl; have hfz35_0 := blk_frozen BK228.out 0; have hfz35_1 := blk_frozen BK228.out 1; have hfz35_2 := blk_frozen BK228.out 2; have hfz35_3 := blk_frozen BK228.out 3; have hfz35_4 := blk_frozen BK228.out 4; have hfz35_5 := blk_frozen BK228.out 5; have hfz35_6 := blk_frozen BK228.out 6; have hfz35_7 := blk_frozen BK228.out 7; have hfz35_8 := blk_frozen BK228.out 8; have hfz35_9 := blk_frozen BK228.out 9; have hfz35_10 := blk_frozen BK228.out 10; have hfz35_11 := blk_frozen BK228.out 11; have hfz35_12 := blk_frozen BK228.out 12; have hfz35_13 := blk_frozen BK228.out 13; have hfz35_14 := blk_frozen BK228.out 14; have hfz35_15 := blk_frozen BK228.out 15; have hfz35_16 := blk_frozen BK228.out 16; have hfz35_17 := blk_frozen BK228.out 17; have hfz35_18 := blk_frozen BK228.out 18; have hfz35_19 := blk_frozen BK228.out 19; have hfz35_20 := blk_frozen BK228.out 20; have hfz35_21 := blk_frozen BK228.out 21; have hfz35_22 := blk_frozen BK228.out 22; have hfz35_23 := blk_frozen BK228.out 23; have hfz35_24 := blk_frozen BK228.out 24; have hfz35_25 := blk_frozen BK228.out 25; have hfz35_26 := blk_frozen BK228.out 26; have hfz35_27 := blk_frozen BK228.out 27; have hfz35_28 := blk_frozen BK228.out 28; have hfz35_29 := blk_frozen BK228.out 29; have hfz35_30 := blk_frozen BK228.out 30; have hfz35_31 := blk_frozen BK228.out 31) | ((with_reducible refine gate_store (t := 68) (p := 5) rfl ?_); refine box_store_event (t := 68) (ty := 68) (p := 5) (x := ?vo_w36) (g := gb228) (cs := #[.int .i64 0, .string (⟨#[]⟩ : ByteArray), .int .i64 0, .int .i64 0, .slice none 0 0, .int .i64 0, .int .i64 0, .bool false, .bool false, .bool false, .int .i64 0, .string (⟨#[]⟩ : ByteArray), .string (⟨#[]⟩ : ByteArray), .string (⟨#[]⟩ : ByteArray), .int .i64 0, .bool false, .bool false, .int .i64 0, .int .i64 0, .string (⟨#[]⟩ : ByteArray), .int .i64 0, .int .i64 0, .int .i64 0, .int .i64 0, .int .i64 0, .bool false, .int .u64 0, .slice none 0 0, .int .i64 0, .string (⟨#[]⟩ : ByteArray), .int .i64 0, .int .i64 0]) (cs' := #[.int .i64 t189, .string t190, .int .i64 t191, .int .i64 t192, .slice Aq225 nq225 cq225, .int .i64 t196, .int .i64 t197, .bool t198, .bool t199, .bool true, .int .i64 t201, .string t202, .string t203, .string t204, .int .i64 t205, .bool t206, .bool t207, .int .i64 t208, .int .i64 t209, .string t210, .int .i64 t211, .int .i64 t212, .int .i64 t213, .int .i64 t214, .int .i64 t215, .bool t216, .int .u64 t217, .slice Aq226 nq226 cq226, .int .i64 t221, .string t222, .int .i64 t223, .int .i64 t224]) ?hgd ?ho ?hN ?he ?hv ?hi ?hb ?hs ?h1 ?_; (case ho => rfl); (case hgd => rfl); (case hN => rfl); (case he => rfl); (case hv => first | rfl | (simp; done)); (case hi => exact size68); (case hb => (with_reducible repeat (first | refine blk_drewN ?_ _ | refine blk_drew ?_ | refine blk_alloc ?_ _)); exact BK228.out); (case hs => rfl); (case h1 => rfl); intro w36 hbox hg; have n0_ := Aside0.mk (blk_grown (by (with_reducible repeat (first | refine blk_drewN ?_ _ | refine blk_drew ?_ | refine blk_alloc ?_ _)); exact BK187.out) hg (fun e_ => NB187_228.out (Option.some.inj e_))); have n1_ := Aside0.mk (blk_grown (by (with_reducible repeat (first | refine blk_drewN ?_ _ | refine blk_drew ?_ | refine blk_alloc ?_ _)); exact BK188.out) hg (fun e_ => NB188_228.out (Option.some.inj e_))); have n2_ := Aside0.mk (hbox); have n3_ := Aside0.mk (Below.grown (by repeat (first | (with_reducible first | exact HB.out | apply below_alloc | apply pw_below_drewN | apply below_drew1 | refine below_set ?_ GE187.out | refine below_set ?_ GE188.out | refine below_set ?_ GE228.out) | exact HB.out)) hg (below_size (by repeat (first | (with_reducible first | exact HB.out | apply below_alloc | apply pw_below_drewN | apply below_drew1 | refine below_set ?_ GE187.out | refine below_set ?_ GE188.out | refine below_set ?_ GE228.out) | exact HB.out))) (fun k_ e_ => by injection e_ with e_; subst e_; exact GE228.out)); clear BK187; clear BK188; clear BK228; clear HB; have BK187 := n0_; have BK188 := n1_; have BK228 := n2_; have HB := n3_; clear n0_ n1_ n2_ n3_; clear hbox hg; have hcz37_0 : w36.cell? ⟨gb188, 0, none⟩ = some (.int .i64 a1_0) := (blk_cell BK188.out 0).trans rfl; have hcz37_1 : w36.cell? ⟨gb188, 1, none⟩ = some (.string a1_1) := (blk_cell BK188.out 1).trans rfl; have hcz37_2 : w36.cell? ⟨gb188, 2, none⟩ = some (.int .i64 a1_2) := (blk_cell BK188.out 2).trans rfl; have hcz37_3 : w36.cell? ⟨gb188, 3, none⟩ = some (.int .i64 a1_3) := (blk_cell BK188.out 3).trans rfl; have hcz37_4 : w36.cell? ⟨gb188, 4, none⟩ = some (.slice A1_4 l1_4.length c1_4) := (blk_cell BK188.out 4).trans rfl; have hcz37_5 : w36.cell? ⟨gb188, 5, none⟩ = some (.int .i64 a1_5) := (blk_cell BK188.out 5).trans rfl; have hcz37_6 : w36.cell? ⟨gb188, 6, none⟩ = some (.int .i64 a1_6) := (blk_cell BK188.out 6).trans rfl; have hcz37_7 : w36.cell? ⟨gb188, 7, none⟩ = some (.bool a1_7) := (blk_cell BK188.out 7).trans rfl; have hcz37_8 : w36.cell? ⟨gb188, 8, none⟩ = some (.bool a1_8) := (blk_cell BK188.out 8).trans rfl; have hcz37_9 : w36.cell? ⟨gb188, 9, none⟩ = some (.bool a1_9) := (blk_cell BK188.out 9).trans rfl; have hcz37_10 : w36.cell? ⟨gb188, 10, none⟩ = some (.int .i64 a1_10) := (blk_cell BK188.out 10).trans rfl; have hcz37_11 : w36.cell? ⟨gb188, 11, none⟩ = some (.string a1_11) := (blk_cell BK188.out 11).trans rfl; have hcz37_12 : w36.cell? ⟨gb188, 12, none⟩ = some (.string a1_12) := (blk_cell BK188.out 12).trans rfl; have hcz37_13 : w36.cell? ⟨gb188, 13, none⟩ = some (.string a1_13) := (blk_cell BK188.out 13).trans rfl; have hcz37_14 : w36.cell? ⟨gb188, 14, none⟩ = some (.int .i64 a1_14) := (blk_cell BK188.out 14).trans rfl; have hcz37_15 : w36.cell? ⟨gb188, 15, none⟩ = some (.bool true) := (blk_cell BK188.out 15).trans rfl; have hcz37_16 : w36.cell? ⟨gb188, 16, none⟩ = some (.bool a1_16) := (blk_cell BK188.out 16).trans rfl; have hcz37_17 : w36.cell? ⟨gb188, 17, none⟩ = some (.int .i64 a1_17) := (blk_cell BK188.out 17).trans rfl; have hcz37_18 : w36.cell? ⟨gb188, 18, none⟩ = some (.int .i64 a1_18) := (blk_cell BK188.out 18).trans rfl; have hcz37_19 : w36.cell? ⟨gb188, 19, none⟩ = some (.string a1_19) := (blk_cell BK188.out 19).trans rfl; have hcz37_20 : w36.cell? ⟨gb188, 20, none⟩ = some (.int .i64 a1_20) := (blk_cell BK188.out 20).trans rfl; have hcz37_21 : w36.cell? ⟨gb188, 21, none⟩ = some (.int .i64 a1_21) := (blk_cell BK188.out 21).trans rfl; have hcz37_22 : w36.cell? ⟨gb188, 22, none⟩ = some (.int .i64 a1_22) := (blk_cell BK188.out 22).trans rfl; have hcz37_23 : w36.cell? ⟨gb188, 23, none⟩ = some (.int .i64 a1_23) := (blk_cell BK188.out 23).trans rfl; have hcz37_24 : w36.cell? ⟨gb188, 24, none⟩ = some (.int .i64 a1_24) := (blk_cell BK188.out 24).trans rfl; have hcz37_25 : w36.cell? ⟨gb188, 25, none⟩ = some (.bool a1_25) := (blk_cell BK188.out 25).trans rfl; have hcz37_26 : w36.cell? ⟨gb188, 26, none⟩ = some (.int .u64 a1_26) := (blk_cell BK188.out 26).trans rfl; have hcz37_27 : w36.cell? ⟨gb188, 27, none⟩ = some (.slice A1_27 l1_27.length c1_27) := (blk_cell BK188.out 27).trans rfl; have hcz37_28 : w36.cell? ⟨gb188, 28, none⟩ = some (.int .i64 a1_28) := (blk_cell BK188.out 28).trans rfl; have hcz37_29 : w36.cell? ⟨gb188, 29, none⟩ = some (.string a1_29) := (blk_cell BK188.out 29).trans rfl; have hcz37_30 : w36.cell? ⟨gb188, 30, none⟩ = some (.int .i64 a1_30) := (blk_cell BK188.out 30).trans rfl; have hcz37_31 : w36.cell? ⟨gb188, 31, none⟩ = some (.int .i64 a1_31) := (blk_cell BK188.out 31).trans rfl; have hfz37_0 := blk_frozen BK188.out 0; have hfz37_1 := blk_frozen BK188.out 1; have hfz37_2 := blk_frozen BK188.out 2; have hfz37_3 := blk_frozen BK188.out 3; have hfz37_4 := blk_frozen BK188.out 4; have hfz37_5 := blk_frozen BK188.out 5; have hfz37_6 := blk_frozen BK188.out 6; have hfz37_7 := blk_frozen BK188.out 7; have hfz37_8 := blk_frozen BK188.out 8; have hfz37_9 := blk_frozen BK188.out 9; have hfz37_10 := blk_frozen BK188.out 10; have hfz37_11 := blk_frozen BK188.out 11; have hfz37_12 := blk_frozen BK188.out 12; have hfz37_13 := blk_frozen BK188.out 13; have hfz37_14 := blk_frozen BK188.out 14; have hfz37_15 := blk_frozen BK188.out 15; have hfz37_16 := blk_frozen BK188.out 16; have hfz37_17 := blk_frozen BK188.out 17; have hfz37_18 := blk_frozen BK188.out 18; have hfz37_19 := blk_frozen BK188.out 19; have hfz37_20 := blk_frozen BK188.out 20; have hfz37_21 := blk_frozen BK188.out 21; have hfz37_22 := blk_frozen BK188.out 22; have hfz37_23 := blk_frozen BK188.out 23; have hfz37_24 := blk_frozen BK188.out 24; have hfz37_25 := blk_frozen BK188.out 25; have hfz37_26 := blk_frozen BK188.out 26; have hfz37_27 := blk_frozen BK188.out 27; have hfz37_28 := blk_frozen BK188.out 28; have hfz37_29 := blk_frozen BK188.out 29; have hfz37_30 := blk_frozen BK188.out 30; have hfz37_31 := blk_frozen BK188.out 31; have hcz38_0 : w36.cell? ⟨gb228, 0, none⟩ = some (.int .i64 t189) := (blk_cell BK228.out 0).trans rfl; have hcz38_1 : w36.cell? ⟨gb228, 1, none⟩ = some (.string t190) := (blk_cell BK228.out 1).trans rfl; have hcz38_2 : w36.cell? ⟨gb228, 2, none⟩ = some (.int .i64 t191) := (blk_cell BK228.out 2).trans rfl; have hcz38_3 : w36.cell? ⟨gb228, 3, none⟩ = some (.int .i64 t192) := (blk_cell BK228.out 3).trans rfl; have hcz38_4 : w36.cell? ⟨gb228, 4, none⟩ = some (.slice Aq225 nq225 cq225) := (blk_cell BK228.out 4).trans rfl; have hcz38_5 : w36.cell? ⟨gb228, 5, none⟩ = some (.int .i64 t196) := (blk_cell BK228.out 5).trans rfl; have hcz38_6 : w36.cell? ⟨gb228, 6, none⟩ = some (.int .i64 t197) := (blk_cell BK228.out 6).trans rfl; have hcz38_7 : w36.cell? ⟨gb228, 7, none⟩ = some (.bool t198) := (blk_cell BK228.out 7).trans rfl; have hcz38_8 : w36.cell? ⟨gb228, 8, none⟩ = some (.bool t199) := (blk_cell BK228.out 8).trans rfl; have hcz38_9 : w36.cell? ⟨gb228, 9, none⟩ = some (.bool true) := (blk_cell BK228.out 9).trans rfl; have hcz38_10 : w36.cell? ⟨gb228, 10, none⟩ = some (.int .i64 t201) := (blk_cell BK228.out 10).trans rfl; have hcz38_11 : w36.cell? ⟨gb228, 11, none⟩ = some (.string t202) := (blk_cell BK228.out 11).trans rfl; have hcz38_12 : w36.cell? ⟨gb228, 12, none⟩ = some (.string t203) := (blk_cell BK228.out 12).trans rfl; have hcz38_13 : w36.cell? ⟨gb228, 13, none⟩ = some (.string t204) := (blk_cell BK228.out 13).trans rfl; have hcz38_14 : w36.cell? ⟨gb228, 14, none⟩ = some (.int .i64 t205) := (blk_cell BK228.out 14).trans rfl; have hcz38_15 : w36.cell? ⟨gb228, 15, none⟩ = some (.bool t206) := (blk_cell BK228.out 15).trans rfl; have hcz38_16 : w36.cell? ⟨gb228, 16, none⟩ = some (.bool t207) := (blk_cell BK228.out 16).trans rfl; have hcz38_17 : w36.cell? ⟨gb228, 17, none⟩ = some (.int .i64 t208) := (blk_cell BK228.out 17).trans rfl; have hcz38_18 : w36.cell? ⟨gb228, 18, none⟩ = some (.int .i64 t209) := (blk_cell BK228.out 18).trans rfl; have hcz38_19 : w36.cell? ⟨gb228, 19, none⟩ = some (.string t210) := (blk_cell BK228.out 19).trans rfl; have hcz38_20 : w36.cell? ⟨gb228, 20, none⟩ = some (.int .i64 t211) := (blk_cell BK228.out 20).trans rfl; have hcz38_21 : w36.cell? ⟨gb228, 21, none⟩ = some (.int .i64 t212) := (blk_cell BK228.out 21).trans rfl; have hcz38_22 : w36.cell? ⟨gb228, 22, none⟩ = some (.int .i64 t213) := (blk_cell BK228.out 22).trans rfl; have hcz38_23 : w36.cell? ⟨gb228, 23, none⟩ = some (.int .i64 t214) := (blk_cell BK228.out 23).trans rfl; have hcz38_24 : w36.cell? ⟨gb228, 24, none⟩ = some (.int .i64 t215) := (blk_cell BK228.out 24).trans rfl; have hcz38_25 : w36.cell? ⟨gb228, 25, none⟩ = some (.bool t216) := (blk_cell BK228.out 25).trans rfl; have hcz38_26 : w36.cell? ⟨gb228, 26, none⟩ = some (.int .u64 t217) := (blk_cell BK228.out 26).trans rfl; have hcz38_27 : w36.cell? ⟨gb228, 27, none⟩ = some (.slice Aq226 nq226 cq226) := (blk_cell BK228.out 27).trans rfl; have hcz38_28 : w36.cell? ⟨gb228, 28, none⟩ = some (.int .i64 t221) := (blk_cell BK228.out 28).trans rfl; have hcz38_29 : w36.cell? ⟨gb228, 29, none⟩ = some (.string t222) := (blk_cell BK228.out 29).trans rfl; have hcz38_30 : w36.cell? ⟨gb228, 30, none⟩ = some (.int .i64 t223) := (blk_cell BK228.out 30).trans rfl; have hcz38_31 : w36.cell? ⟨gb228, 31, none⟩ = some (.int .i64 t224) := (blk_cell BK228.out 31).trans rfl; have hfz38_0 := blk_frozen BK228.out 0; have hfz38_1 := blk_frozen BK228.out 1; have hfz38_2 := blk_frozen BK228.out 2; have hfz38_3 := blk_frozen BK228.out 3; have hfz38_4 := blk_frozen BK228.out 4; have hfz38_5 := blk_frozen BK228.out 5; have hfz38_6 := blk_frozen BK228.out 6; have hfz38_7 := blk_frozen BK228.out 7; have hfz38_8 := blk_frozen BK228.out 8; have hfz38_9 := blk_frozen BK228.out 9; have hfz38_10 := blk_frozen BK228.out 10; have hfz38_11 := blk_frozen BK228.out 11; have hfz38_12 := blk_frozen BK228.out 12; have hfz38_13 := blk_frozen BK228.out 13; have hfz38_14 := blk_frozen BK228.out 14; have hfz38_15 := blk_frozen BK228.out 15; have hfz38_16 := blk_frozen BK228.out 16; have hfz38_17 := blk_frozen BK228.out 17; have hfz38_18 := blk_frozen BK228.out 18; have hfz38_19 := blk_frozen BK228.out 19; have hfz38_20 := blk_frozen BK228.out 20; have hfz38_21 := blk_frozen BK228.out 21; have hfz38_22 := blk_frozen BK228.out 22; have hfz38_23 := blk_frozen BK228.out 23; have hfz38_24 := blk_frozen BK228.out 24; have hfz38_25 := blk_frozen BK228.out 25; have hfz38_26 := blk_frozen BK228.out 26; have hfz38_27 := blk_frozen BK228.out 27; have hfz38_28 := blk_frozen BK228.out 28; have hfz38_29 := blk_frozen BK228.out 29; have hfz38_30 := blk_frozen BK228.out 30; have hfz38_31 := blk_frozen BK228.out 31))
                go_ret
                exact ⟨by first | rfl | (simp [errW_none, errW_some] <;> rfl) | (simp [*, errW_none, errW_some] <;> rfl), by repeat (first | (with_reducible first | exact HB.out | apply below_alloc | apply pw_below_drewN | apply below_drew1 | refine below_set ?_ GE187.out | refine below_set ?_ GE188.out | refine below_set ?_ GE228.out) | exact HB.out)⟩
              · replace c27 := Bool.eq_false_iff.mpr c27
                subst c27
                have H1 : (some 0) = some r := by rw [if_neg (show ¬ (false = true) by decide)] at H; exact H
                clear H
                have H := H1
                clear H1
                obtain rfl := Option.some.inj H
                have hnb39 := NB188_187.out
                have hnc39 := NB187_188.out
                have hcz40_0 : wc.cell? ⟨gb188, 0, none⟩ = some (.int .i64 a1_0) := (blk_cell BK188.out 0).trans rfl
                have hcz40_1 : wc.cell? ⟨gb188, 1, none⟩ = some (.string a1_1) := (blk_cell BK188.out 1).trans rfl
                have hcz40_2 : wc.cell? ⟨gb188, 2, none⟩ = some (.int .i64 a1_2) := (blk_cell BK188.out 2).trans rfl
                have hcz40_3 : wc.cell? ⟨gb188, 3, none⟩ = some (.int .i64 a1_3) := (blk_cell BK188.out 3).trans rfl
                have hcz40_4 : wc.cell? ⟨gb188, 4, none⟩ = some (.slice A1_4 l1_4.length c1_4) := (blk_cell BK188.out 4).trans rfl
                have hcz40_5 : wc.cell? ⟨gb188, 5, none⟩ = some (.int .i64 a1_5) := (blk_cell BK188.out 5).trans rfl
                have hcz40_6 : wc.cell? ⟨gb188, 6, none⟩ = some (.int .i64 a1_6) := (blk_cell BK188.out 6).trans rfl
                have hcz40_7 : wc.cell? ⟨gb188, 7, none⟩ = some (.bool a1_7) := (blk_cell BK188.out 7).trans rfl
                have hcz40_8 : wc.cell? ⟨gb188, 8, none⟩ = some (.bool a1_8) := (blk_cell BK188.out 8).trans rfl
                have hcz40_9 : wc.cell? ⟨gb188, 9, none⟩ = some (.bool a1_9) := (blk_cell BK188.out 9).trans rfl
                have hcz40_10 : wc.cell? ⟨gb188, 10, none⟩ = some (.int .i64 a1_10) := (blk_cell BK188.out 10).trans rfl
                have hcz40_11 : wc.cell? ⟨gb188, 11, none⟩ = some (.string a1_11) := (blk_cell BK188.out 11).trans rfl
                have hcz40_12 : wc.cell? ⟨gb188, 12, none⟩ = some (.string a1_12) := (blk_cell BK188.out 12).trans rfl
                have hcz40_13 : wc.cell? ⟨gb188, 13, none⟩ = some (.string a1_13) := (blk_cell BK188.out 13).trans rfl
                have hcz40_14 : wc.cell? ⟨gb188, 14, none⟩ = some (.int .i64 a1_14) := (blk_cell BK188.out 14).trans rfl
                have hcz40_15 : wc.cell? ⟨gb188, 15, none⟩ = some (.bool true) := (blk_cell BK188.out 15).trans rfl
                have hcz40_16 : wc.cell? ⟨gb188, 16, none⟩ = some (.bool a1_16) := (blk_cell BK188.out 16).trans rfl
                have hcz40_17 : wc.cell? ⟨gb188, 17, none⟩ = some (.int .i64 a1_17) := (blk_cell BK188.out 17).trans rfl
                have hcz40_18 : wc.cell? ⟨gb188, 18, none⟩ = some (.int .i64 a1_18) := (blk_cell BK188.out 18).trans rfl
                have hcz40_19 : wc.cell? ⟨gb188, 19, none⟩ = some (.string a1_19) := (blk_cell BK188.out 19).trans rfl
                have hcz40_20 : wc.cell? ⟨gb188, 20, none⟩ = some (.int .i64 a1_20) := (blk_cell BK188.out 20).trans rfl
                have hcz40_21 : wc.cell? ⟨gb188, 21, none⟩ = some (.int .i64 a1_21) := (blk_cell BK188.out 21).trans rfl
                have hcz40_22 : wc.cell? ⟨gb188, 22, none⟩ = some (.int .i64 a1_22) := (blk_cell BK188.out 22).trans rfl
                have hcz40_23 : wc.cell? ⟨gb188, 23, none⟩ = some (.int .i64 a1_23) := (blk_cell BK188.out 23).trans rfl
                have hcz40_24 : wc.cell? ⟨gb188, 24, none⟩ = some (.int .i64 a1_24) := (blk_cell BK188.out 24).trans rfl
                have hcz40_25 : wc.cell? ⟨gb188, 25, none⟩ = some (.bool a1_25) := (blk_cell BK188.out 25).trans rfl
                have hcz40_26 : wc.cell? ⟨gb188, 26, none⟩ = some (.int .u64 a1_26) := (blk_cell BK188.out 26).trans rfl
                have hcz40_27 : wc.cell? ⟨gb188, 27, none⟩ = some (.slice A1_27 l1_27.length c1_27) := (blk_cell BK188.out 27).trans rfl
                have hcz40_28 : wc.cell? ⟨gb188, 28, none⟩ = some (.int .i64 a1_28) := (blk_cell BK188.out 28).trans rfl
                have hcz40_29 : wc.cell? ⟨gb188, 29, none⟩ = some (.string a1_29) := (blk_cell BK188.out 29).trans rfl
                have hcz40_30 : wc.cell? ⟨gb188, 30, none⟩ = some (.int .i64 a1_30) := (blk_cell BK188.out 30).trans rfl
                have hcz40_31 : wc.cell? ⟨gb188, 31, none⟩ = some (.int .i64 a1_31) := (blk_cell BK188.out 31).trans rfl
                have hfz40_0 := blk_frozen BK188.out 0
                have hfz40_1 := blk_frozen BK188.out 1
                have hfz40_2 := blk_frozen BK188.out 2
                have hfz40_3 := blk_frozen BK188.out 3
                have hfz40_4 := blk_frozen BK188.out 4
                have hfz40_5 := blk_frozen BK188.out 5
                have hfz40_6 := blk_frozen BK188.out 6
                have hfz40_7 := blk_frozen BK188.out 7
                have hfz40_8 := blk_frozen BK188.out 8
                have hfz40_9 := blk_frozen BK188.out 9
                have hfz40_10 := blk_frozen BK188.out 10
                have hfz40_11 := blk_frozen BK188.out 11
                have hfz40_12 := blk_frozen BK188.out 12
                have hfz40_13 := blk_frozen BK188.out 13
                have hfz40_14 := blk_frozen BK188.out 14
                have hfz40_15 := blk_frozen BK188.out 15
                have hfz40_16 := blk_frozen BK188.out 16
                have hfz40_17 := blk_frozen BK188.out 17
                have hfz40_18 := blk_frozen BK188.out 18
                have hfz40_19 := blk_frozen BK188.out 19
                have hfz40_20 := blk_frozen BK188.out 20
                have hfz40_21 := blk_frozen BK188.out 21
                have hfz40_22 := blk_frozen BK188.out 22
                have hfz40_23 := blk_frozen BK188.out 23
                have hfz40_24 := blk_frozen BK188.out 24
                have hfz40_25 := blk_frozen BK188.out 25
                have hfz40_26 := blk_frozen BK188.out 26
                have hfz40_27 := blk_frozen BK188.out 27
                have hfz40_28 := blk_frozen BK188.out 28
                have hfz40_29 := blk_frozen BK188.out 29
                have hfz40_30 := blk_frozen BK188.out 30
                have hfz40_31 := blk_frozen BK188.out 31
                have hcz41_0 : wc.cell? ⟨gb187, 0, none⟩ = some (.slice A0_0 l0_0.length c0_0) := (blk_cell BK187.out 0).trans rfl
                have hcz41_1 : wc.cell? ⟨gb187, 1, none⟩ = some (.slice A0_1 l0_1.length c0_1) := (blk_cell BK187.out 1).trans rfl
                have hcz41_2 : wc.cell? ⟨gb187, 2, none⟩ = some (.slice A0_2 l0_2.length c0_2) := (blk_cell BK187.out 2).trans rfl
                have hcz41_3 : wc.cell? ⟨gb187, 3, none⟩ = some (.slice A0_3 l0_3.length c0_3) := (blk_cell BK187.out 3).trans rfl
                have hfz41_0 := blk_frozen BK187.out 0
                have hfz41_1 := blk_frozen BK187.out 1
                have hfz41_2 := blk_frozen BK187.out 2
                have hfz41_3 := blk_frozen BK187.out 3
                go_wp2_with (first | ((with_reducible refine gate_callee (f := 103) rfl ?_); refine goesL_ (some 36) rfl rfl Try.func103 (by kernel_rfl) rfl #[.slice A0_0 l0_0.length c0_0, .string a1_13] rfl (by (try simp only [List.map_toArray, List.map_cons, List.map_nil]); first | done | rfl | (simp only [List.length_drop, List.length_take]; rfl)) ?_; (with_reducible refine (rules_find.calls _ _ l0_0 a1_13 t189 t190 t191 t192 t196 t197 t198 t199 false t201 t202 t203 t204 t205 t206 t207 t208 t209 t210 t211 t212 t213 t214 t215 t216 t217 t221 t222 t223 t224 true _ ?side1 ?side2 A24.out).mono ?_); (case side1 => repeat (first | exact (Kd.C_below HR0_0.out HB.out) | (with_reducible refine Kd.C_alloc ?_ _) | (with_reducible refine Kd.C_drewN ?_ _) | (with_reducible refine Kd.C_drew ?_))); (case side2 => exact HC0_0.out); rintro e w42 ⟨Aq225, nq225, cq225, Aq226, nq226, cq226, rfl, hb⟩; refine ⟨_, rfl, ?_⟩; have n0_ := Aside0.mk (blk_below (g := gb187) (o := .cells #[.slice A0_0 l0_0.length c0_0, .slice A0_1 l0_1.length c0_1, .slice A0_2 l0_2.length c0_2, .slice A0_3 l0_3.length c0_3] 59 (0, 0)) (by (with_reducible repeat (first | refine blk_drewN ?_ _ | refine blk_drew ?_ | refine blk_alloc ?_ _)); exact BK187.out) hb); have n1_ := Aside0.mk (blk_below (g := gb188) (o := .cells #[.int .i64 a1_0, .string a1_1, .int .i64 a1_2, .int .i64 a1_3, .slice A1_4 l1_4.length c1_4, .int .i64 a1_5, .int .i64 a1_6, .bool a1_7, .bool a1_8, .bool a1_9, .int .i64 a1_10, .string a1_11, .string a1_12, .string a1_13, .int .i64 a1_14, .bool true, .bool a1_16, .int .i64 a1_17, .int .i64 a1_18, .string a1_19, .int .i64 a1_20, .int .i64 a1_21, .int .i64 a1_22, .int .i64 a1_23, .int .i64 a1_24, .bool a1_25, .int .u64 a1_26, .slice A1_27 l1_27.length c1_27, .int .i64 a1_28, .string a1_29, .int .i64 a1_30, .int .i64 a1_31] 68 (0, 0)) (by (with_reducible repeat (first | refine blk_drewN ?_ _ | refine blk_drew ?_ | refine blk_alloc ?_ _)); exact BK188.out) hb); have n2_ := Aside0.mk (below_step (by repeat (first | (with_reducible first | exact HB.out | apply below_alloc | apply pw_below_drewN | apply below_drew1 | refine below_set ?_ GE187.out | refine below_set ?_ GE188.out) | exact HB.out)) hb); clear BK187; clear BK188; clear HB; have BK187 := n0_; have BK188 := n1_; have HB := n2_; clear n0_ n1_ n2_; (try clear hb); (try clear hb2); (try clear hk); (try clear hi)) | ((with_reducible refine gate_dst (N := 5) rfl ?_); refine box_event ?hg (N := 5) ?hd (cs := #[.int .i64 0, .string (⟨#[]⟩ : ByteArray), .int .i64 0, .int .i64 0, .slice none 0 0, .int .i64 0, .int .i64 0, .bool false, .bool false, .bool false, .int .i64 0, .string (⟨#[]⟩ : ByteArray), .string (⟨#[]⟩ : ByteArray), .string (⟨#[]⟩ : ByteArray), .int .i64 0, .bool false, .bool false, .int .i64 0, .int .i64 0, .string (⟨#[]⟩ : ByteArray), .int .i64 0, .int .i64 0, .int .i64 0, .int .i64 0, .int .i64 0, .bool false, .int .u64 0, .slice none 0 0, .int .i64 0, .string (⟨#[]⟩ : ByteArray), .int .i64 0, .int .i64 0]) (t := 68) ?hr ?_; (case hd => rfl); (case hg => rfl); (case hr => first | (go_simp; done) | (go_simp; rfl)); intro gb228 hg w43 hbox hb; have n0_ := Aside0.mk (blk_below (g := gb187) (o := .cells #[.slice A0_0 l0_0.length c0_0, .slice A0_1 l0_1.length c0_1, .slice A0_2 l0_2.length c0_2, .slice A0_3 l0_3.length c0_3] 59 (0, 0)) (by (with_reducible repeat (first | refine blk_drewN ?_ _ | refine blk_drew ?_ | refine blk_alloc ?_ _)); exact BK187.out) hb); have n1_ := Aside0.mk (blk_below (g := gb188) (o := .cells #[.int .i64 a1_0, .string a1_1, .int .i64 a1_2, .int .i64 a1_3, .slice A1_4 l1_4.length c1_4, .int .i64 a1_5, .int .i64 a1_6, .bool a1_7, .bool a1_8, .bool a1_9, .int .i64 a1_10, .string a1_11, .string a1_12, .string a1_13, .int .i64 a1_14, .bool true, .bool a1_16, .int .i64 a1_17, .int .i64 a1_18, .string a1_19, .int .i64 a1_20, .int .i64 a1_21, .int .i64 a1_22, .int .i64 a1_23, .int .i64 a1_24, .bool a1_25, .int .u64 a1_26, .slice A1_27 l1_27.length c1_27, .int .i64 a1_28, .string a1_29, .int .i64 a1_30, .int .i64 a1_31] 68 (0, 0)) (by (with_reducible repeat (first | refine blk_drewN ?_ _ | refine blk_drew ?_ | refine blk_alloc ?_ _)); exact BK188.out) hb); have n2_ := Aside0.mk (below_step (by repeat (first | (with_reducible first | exact HB.out | apply below_alloc | apply pw_below_drewN | apply below_drew1 | refine below_set ?_ GE187.out | refine below_set ?_ GE188.out) | exact HB.out)) hb); have n3_ := Aside0.mk (hbox); have n4_ := Aside0.mk ((by rw [hg]; exact (below_size (by repeat (first | (with_reducible first | exact HB.out | apply below_alloc | apply pw_below_drewN | apply below_drew1 | refine below_set ?_ GE187.out | refine below_set ?_ GE188.out) | exact HB.out))) : w.heap.size ≤ gb228)); have n5_ := Aside0.mk ((by rw [hg]; exact (below_size (by repeat (first | (with_reducible first | exact HB.out | apply below_alloc | apply pw_below_drewN | apply below_drew1 | refine below_set ?_ GE187.out | refine below_set ?_ GE188.out) | exact HB.out))) : w.heap.size ≤ gb228)); have n6_ := Aside0.mk ((by rw [hg]; exact Nat.ne_of_lt (blk_lt (g := gb187) (o := .cells #[.slice A0_0 l0_0.length c0_0, .slice A0_1 l0_1.length c0_1, .slice A0_2 l0_2.length c0_2, .slice A0_3 l0_3.length c0_3] 59 (0, 0)) (by (with_reducible repeat (first | refine blk_drewN ?_ _ | refine blk_drew ?_ | refine blk_alloc ?_ _)); exact BK187.out)) : gb187 ≠ gb228)); have n7_ := Aside0.mk ((by rw [hg]; exact Nat.ne_of_gt (blk_lt (g := gb187) (o := .cells #[.slice A0_0 l0_0.length c0_0, .slice A0_1 l0_1.length c0_1, .slice A0_2 l0_2.length c0_2, .slice A0_3 l0_3.length c0_3] 59 (0, 0)) (by (with_reducible repeat (first | refine blk_drewN ?_ _ | refine blk_drew ?_ | refine blk_alloc ?_ _)); exact BK187.out)) : gb228 ≠ gb187)); have n8_ := Aside0.mk ((by rw [hg]; exact Nat.ne_of_lt (blk_lt (g := gb188) (o := .cells #[.int .i64 a1_0, .string a1_1, .int .i64 a1_2, .int .i64 a1_3, .slice A1_4 l1_4.length c1_4, .int .i64 a1_5, .int .i64 a1_6, .bool a1_7, .bool a1_8, .bool a1_9, .int .i64 a1_10, .string a1_11, .string a1_12, .string a1_13, .int .i64 a1_14, .bool true, .bool a1_16, .int .i64 a1_17, .int .i64 a1_18, .string a1_19, .int .i64 a1_20, .int .i64 a1_21, .int .i64 a1_22, .int .i64 a1_23, .int .i64 a1_24, .bool a1_25, .int .u64 a1_26, .slice A1_27 l1_27.length c1_27, .int .i64 a1_28, .string a1_29, .int .i64 a1_30, .int .i64 a1_31] 68 (0, 0)) (by (with_reducible repeat (first | refine blk_drewN ?_ _ | refine blk_drew ?_ | refine blk_alloc ?_ _)); exact BK188.out)) : gb188 ≠ gb228)); have n9_ := Aside0.mk ((by rw [hg]; exact Nat.ne_of_gt (blk_lt (g := gb188) (o := .cells #[.int .i64 a1_0, .string a1_1, .int .i64 a1_2, .int .i64 a1_3, .slice A1_4 l1_4.length c1_4, .int .i64 a1_5, .int .i64 a1_6, .bool a1_7, .bool a1_8, .bool a1_9, .int .i64 a1_10, .string a1_11, .string a1_12, .string a1_13, .int .i64 a1_14, .bool true, .bool a1_16, .int .i64 a1_17, .int .i64 a1_18, .string a1_19, .int .i64 a1_20, .int .i64 a1_21, .int .i64 a1_22, .int .i64 a1_23, .int .i64 a1_24, .bool a1_25, .int .u64 a1_26, .slice A1_27 l1_27.length c1_27, .int .i64 a1_28, .string a1_29, .int .i64 a1_30, .int .i64 a1_31] 68 (0, 0)) (by (with_reducible repeat (first | refine blk_drewN ?_ _ | refine blk_drew ?_ | refine blk_alloc ?_ _)); exact BK188.out)) : gb228 ≠ gb188)); clear BK187; clear BK188; clear HB; have BK187 := n0_; have BK188 := n1_; have HB := n2_; have BK228 := n3_; have GW228 := n4_; have GE228 := n5_; have NB187_228 := n6_; have NB228_187 := n7_; have NB188_228 := n8_; have NB228_188 := n9_; clear n0_ n1_ n2_ n3_ n4_ n5_ n6_ n7_ n8_ n9_; clear hb hbox hg; have hnb44 := NB228_187.out; have hnc44 := NB187_228.out; have hnb45 := NB228_188.out; have hnc45 := NB188_228.out; have hcz46_0 : w43.cell? ⟨gb228, 0, none⟩ = some (.int .i64 0) := (blk_cell BK228.out 0).trans rfl; have hcz46_1 : w43.cell? ⟨gb228, 1, none⟩ = some (.string (⟨#[]⟩ : ByteArray)) := (blk_cell BK228.out 1).trans rfl; have hcz46_2 : w43.cell? ⟨gb228, 2, none⟩ = some (.int .i64 0) := (blk_cell BK228.out 2).trans rfl; have hcz46_3 : w43.cell? ⟨gb228, 3, none⟩ = some (.int .i64 0) := (blk_cell BK228.out 3).trans rfl; have hcz46_4 : w43.cell? ⟨gb228, 4, none⟩ = some (.slice none 0 0) := (blk_cell BK228.out 4).trans rfl; have hcz46_5 : w43.cell? ⟨gb228, 5, none⟩ = some (.int .i64 0) := (blk_cell BK228.out 5).trans rfl; have hcz46_6 : w43.cell? ⟨gb228, 6, none⟩ = some (.int .i64 0) := (blk_cell BK228.out 6).trans rfl; have hcz46_7 : w43.cell? ⟨gb228, 7, none⟩ = some (.bool false) := (blk_cell BK228.out 7).trans rfl; have hcz46_8 : w43.cell? ⟨gb228, 8, none⟩ = some (.bool false) := (blk_cell BK228.out 8).trans rfl; have hcz46_9 : w43.cell? ⟨gb228, 9, none⟩ = some (.bool false) := (blk_cell BK228.out 9).trans rfl; have hcz46_10 : w43.cell? ⟨gb228, 10, none⟩ = some (.int .i64 0) := (blk_cell BK228.out 10).trans rfl; have hcz46_11 : w43.cell? ⟨gb228, 11, none⟩ = some (.string (⟨#[]⟩ : ByteArray)) := (blk_cell BK228.out 11).trans rfl; have hcz46_12 : w43.cell? ⟨gb228, 12, none⟩ = some (.string (⟨#[]⟩ : ByteArray)) := (blk_cell BK228.out 12).trans rfl; have hcz46_13 : w43.cell? ⟨gb228, 13, none⟩ = some (.string (⟨#[]⟩ : ByteArray)) := (blk_cell BK228.out 13).trans rfl; have hcz46_14 : w43.cell? ⟨gb228, 14, none⟩ = some (.int .i64 0) := (blk_cell BK228.out 14).trans rfl; have hcz46_15 : w43.cell? ⟨gb228, 15, none⟩ = some (.bool false) := (blk_cell BK228.out 15).trans rfl; have hcz46_16 : w43.cell? ⟨gb228, 16, none⟩ = some (.bool false) := (blk_cell BK228.out 16).trans rfl; have hcz46_17 : w43.cell? ⟨gb228, 17, none⟩ = some (.int .i64 0) := (blk_cell BK228.out 17).trans rfl; have hcz46_18 : w43.cell? ⟨gb228, 18, none⟩ = some (.int .i64 0) := (blk_cell BK228.out 18).trans rfl; have hcz46_19 : w43.cell? ⟨gb228, 19, none⟩ = some (.string (⟨#[]⟩ : ByteArray)) := (blk_cell BK228.out 19).trans rfl; have hcz46_20 : w43.cell? ⟨gb228, 20, none⟩ = some (.int .i64 0) := (blk_cell BK228.out 20).trans rfl; have hcz46_21 : w43.cell? ⟨gb228, 21, none⟩ = some (.int .i64 0) := (blk_cell BK228.out 21).trans rfl; have hcz46_22 : w43.cell? ⟨gb228, 22, none⟩ = some (.int .i64 0) := (blk_cell BK228.out 22).trans rfl; have hcz46_23 : w43.cell? ⟨gb228, 23, none⟩ = some (.int .i64 0) := (blk_cell BK228.out 23).trans rfl; have hcz46_24 : w43.cell? ⟨gb228, 24, none⟩ = some (.int .i64 0) := (blk_cell BK228.out 24).trans rfl; have hcz46_25 : w43.cell? ⟨gb228, 25, none⟩ = some (.bool false) := (blk_cell BK228.out 25).trans rfl; have hcz46_26 : w43.cell? ⟨gb228, 26, none⟩ = some (.int .u64 0) := (blk_cell BK228.out 26).trans rfl; have hcz46_27 : w43.cell? ⟨gb228, 27, none⟩ = some (.slice none 0 0) := (blk_cell BK228.out 27).trans rfl; have hcz46_28 : w43.cell? ⟨gb228, 28, none⟩ = some (.int .i64 0) := (blk_cell BK228.out 28).trans rfl; have hcz46_29 : w43.cell? ⟨gb228, 29, none⟩ = some (.string (⟨#[]⟩ : ByteArray)) := (blk_cell BK228.out 29).trans rfl; have hcz46_30 : w43.cell? ⟨gb228, 30, none⟩ = some (.int .i64 0) := (blk_cell BK228.out 30).trans rfl; have hcz46_31 : w43.cell? ⟨gb228, 31, none⟩ = some (.int .i64 0) := (blk_cell BK228.out 31).trans rfl; have hfz46_0 := blk_frozen BK228.out 0; have hfz46_1 := blk_frozen BK228.out 1; have hfz46_2 := blk_frozen BK228.out 2; have hfz46_3 := blk_frozen BK228.out 3; have hfz46_4 := blk_frozen BK228.out 4; have hfz46_5 := blk_frozen BK228.out 5; have hfz46_6 := blk_frozen BK228.out 6; have hfz46_7 := blk_frozen BK228.out 7; have hfz46_8 := blk_frozen BK228.out 8; have hfz46_9 := blk_frozen BK228.out 9; have hfz46_10 := blk_frozen BK228.out 10; have hfz46_11 := blk_frozen BK228.out 11; have hfz46_12 := blk_frozen BK228.out 12; have hfz46_13 := blk_frozen BK228.out 13; have hfz46_14 := blk_frozen BK228.out 14; have hfz46_15 := blk_frozen BK228.out 15; have hfz46_16 := blk_frozen BK228.out 16; have hfz46_17 := blk_frozen BK228.out 17; have hfz46_18 := blk_frozen BK228.out 18; have hfz46_19 := blk_frozen BK228.out 19; have hfz46_20 := blk_frozen BK228.out 20; have hfz46_21 := blk_frozen BK228.out 21; have hfz46_22 := blk_frozen BK228.out 22; have hfz46_23 := blk_frozen BK228.out 23; have hfz46_24 := blk_frozen BK228.out 24; have hfz46_25 := blk_frozen BK228.out 25; have hfz46_26 := blk_frozen BK228.out 26; have hfz46_27 := blk_frozen BK228.out 27; have hfz46_28 := blk_frozen BK228.out 28; have hfz46_29 := blk_frozen BK228.out 29; have hfz46_30 := blk_frozen BK228.out 30; have hfz46_31 := blk_frozen BK228.out 31) | ((with_reducible refine gate_store (t := 68) (p := 5) rfl ?_); refine box_store_event (t := 68) (ty := 68) (p := 5) (x := ?vo_w47) (g := gb228) (cs := #[.int .i64 0, .string (⟨#[]⟩ : ByteArray), .int .i64 0, .int .i64 0, .slice none 0 0, .int .i64 0, .int .i64 0, .bool false, .bool false, .bool false, .int .i64 0, .string (⟨#[]⟩ : ByteArray), .string (⟨#[]⟩ : ByteArray), .string (⟨#[]⟩ : ByteArray), .int .i64 0, .bool false, .bool false, .int .i64 0, .int .i64 0, .string (⟨#[]⟩ : ByteArray), .int .i64 0, .int .i64 0, .int .i64 0, .int .i64 0, .int .i64 0, .bool false, .int .u64 0, .slice none 0 0, .int .i64 0, .string (⟨#[]⟩ : ByteArray), .int .i64 0, .int .i64 0]) (cs' := #[.int .i64 t189, .string t190, .int .i64 t191, .int .i64 t192, .slice Aq225 nq225 cq225, .int .i64 t196, .int .i64 t197, .bool t198, .bool t199, .bool false, .int .i64 t201, .string t202, .string t203, .string t204, .int .i64 t205, .bool t206, .bool t207, .int .i64 t208, .int .i64 t209, .string t210, .int .i64 t211, .int .i64 t212, .int .i64 t213, .int .i64 t214, .int .i64 t215, .bool t216, .int .u64 t217, .slice Aq226 nq226 cq226, .int .i64 t221, .string t222, .int .i64 t223, .int .i64 t224]) ?hgd ?ho ?hN ?he ?hv ?hi ?hb ?hs ?h1 ?_; (case ho => rfl); (case hgd => rfl); (case hN => rfl); (case he => rfl); (case hv => first | rfl | (simp; done)); (case hi => exact size68); (case hb => (with_reducible repeat (first | refine blk_drewN ?_ _ | refine blk_drew ?_ | refine blk_alloc ?_ _)); exact BK228.out); (case hs => rfl); (case h1 => rfl); intro w47 hbox hg; have n0_ := Aside0.mk (blk_grown (by (with_reducible repeat (first | refine blk_drewN ?_ _ | refine blk_drew ?_ | refine blk_alloc ?_ _)); exact BK187.out) hg (fun e_ => NB187_228.out (Option.some.inj e_))); have n1_ := Aside0.mk (blk_grown (by (with_reducible repeat (first | refine blk_drewN ?_ _ | refine blk_drew ?_ | refine blk_alloc ?_ _)); exact BK188.out) hg (fun e_ => NB188_228.out (Option.some.inj e_))); have n2_ := Aside0.mk (hbox); have n3_ := Aside0.mk (Below.grown (by repeat (first | (with_reducible first | exact HB.out | apply below_alloc | apply pw_below_drewN | apply below_drew1 | refine below_set ?_ GE187.out | refine below_set ?_ GE188.out | refine below_set ?_ GE228.out) | exact HB.out)) hg (below_size (by repeat (first | (with_reducible first | exact HB.out | apply below_alloc | apply pw_below_drewN | apply below_drew1 | refine below_set ?_ GE187.out | refine below_set ?_ GE188.out | refine below_set ?_ GE228.out) | exact HB.out))) (fun k_ e_ => by injection e_ with e_; subst e_; exact GE228.out)); clear BK187; clear BK188; clear BK228; clear HB; have BK187 := n0_; have BK188 := n1_; have BK228 := n2_; have HB := n3_; clear n0_ n1_ n2_ n3_; clear hbox hg; have hcz48_0 : w47.cell? ⟨gb188, 0, none⟩ = some (.int .i64 a1_0) := (blk_cell BK188.out 0).trans rfl; have hcz48_1 : w47.cell? ⟨gb188, 1, none⟩ = some (.string a1_1) := (blk_cell BK188.out 1).trans rfl; have hcz48_2 : w47.cell? ⟨gb188, 2, none⟩ = some (.int .i64 a1_2) := (blk_cell BK188.out 2).trans rfl; have hcz48_3 : w47.cell? ⟨gb188, 3, none⟩ = some (.int .i64 a1_3) := (blk_cell BK188.out 3).trans rfl; have hcz48_4 : w47.cell? ⟨gb188, 4, none⟩ = some (.slice A1_4 l1_4.length c1_4) := (blk_cell BK188.out 4).trans rfl; have hcz48_5 : w47.cell? ⟨gb188, 5, none⟩ = some (.int .i64 a1_5) := (blk_cell BK188.out 5).trans rfl; have hcz48_6 : w47.cell? ⟨gb188, 6, none⟩ = some (.int .i64 a1_6) := (blk_cell BK188.out 6).trans rfl; have hcz48_7 : w47.cell? ⟨gb188, 7, none⟩ = some (.bool a1_7) := (blk_cell BK188.out 7).trans rfl; have hcz48_8 : w47.cell? ⟨gb188, 8, none⟩ = some (.bool a1_8) := (blk_cell BK188.out 8).trans rfl; have hcz48_9 : w47.cell? ⟨gb188, 9, none⟩ = some (.bool a1_9) := (blk_cell BK188.out 9).trans rfl; have hcz48_10 : w47.cell? ⟨gb188, 10, none⟩ = some (.int .i64 a1_10) := (blk_cell BK188.out 10).trans rfl; have hcz48_11 : w47.cell? ⟨gb188, 11, none⟩ = some (.string a1_11) := (blk_cell BK188.out 11).trans rfl; have hcz48_12 : w47.cell? ⟨gb188, 12, none⟩ = some (.string a1_12) := (blk_cell BK188.out 12).trans rfl; have hcz48_13 : w47.cell? ⟨gb188, 13, none⟩ = some (.string a1_13) := (blk_cell BK188.out 13).trans rfl; have hcz48_14 : w47.cell? ⟨gb188, 14, none⟩ = some (.int .i64 a1_14) := (blk_cell BK188.out 14).trans rfl; have hcz48_15 : w47.cell? ⟨gb188, 15, none⟩ = some (.bool true) := (blk_cell BK188.out 15).trans rfl; have hcz48_16 : w47.cell? ⟨gb188, 16, none⟩ = some (.bool a1_16) := (blk_cell BK188.out 16).trans rfl; have hcz48_17 : w47.cell? ⟨gb188, 17, none⟩ = some (.int .i64 a1_17) := (blk_cell BK188.out 17).trans rfl; have hcz48_18 : w47.cell? ⟨gb188, 18, none⟩ = some (.int .i64 a1_18) := (blk_cell BK188.out 18).trans rfl; have hcz48_19 : w47.cell? ⟨gb188, 19, none⟩ = some (.string a1_19) := (blk_cell BK188.out 19).trans rfl; have hcz48_20 : w47.cell? ⟨gb188, 20, none⟩ = some (.int .i64 a1_20) := (blk_cell BK188.out 20).trans rfl; have hcz48_21 : w47.cell? ⟨gb188, 21, none⟩ = some (.int .i64 a1_21) := (blk_cell BK188.out 21).trans rfl; have hcz48_22 : w47.cell? ⟨gb188, 22, none⟩ = some (.int .i64 a1_22) := (blk_cell BK188.out 22).trans rfl; have hcz48_23 : w47.cell? ⟨gb188, 23, none⟩ = some (.int .i64 a1_23) := (blk_cell BK188.out 23).trans rfl; have hcz48_24 : w47.cell? ⟨gb188, 24, none⟩ = some (.int .i64 a1_24) := (blk_cell BK188.out 24).trans rfl; have hcz48_25 : w47.cell? ⟨gb188, 25, none⟩ = some (.bool a1_25) := (blk_cell BK188.out 25).trans rfl; have hcz48_26 : w47.cell? ⟨gb188, 26, none⟩ = some (.int .u64 a1_26) := (blk_cell BK188.out 26).trans rfl; have hcz48_27 : w47.cell? ⟨gb188, 27, none⟩ = some (.slice A1_27 l1_27.length c1_27) := (blk_cell BK188.out 27).trans rfl; have hcz48_28 : w47.cell? ⟨gb188, 28, none⟩ = some (.int .i64 a1_28) := (blk_cell BK188.out 28).trans rfl; have hcz48_29 : w47.cell? ⟨gb188, 29, none⟩ = some (.string a1_29) := (blk_cell BK188.out 29).trans rfl; have hcz48_30 : w47.cell? ⟨gb188, 30, none⟩ = some (.int .i64 a1_30) := (blk_cell BK188.out 30).trans rfl; have hcz48_31 : w47.cell? ⟨gb188, 31, none⟩ = some (.int .i64 a1_31) := (blk_cell BK188.out 31).trans rfl; have hfz48_0 := blk_frozen BK188.out 0; have hfz48_1 := blk_frozen BK188.out 1; have hfz48_2 := blk_frozen BK188.out 2; have hfz48_3 := blk_frozen BK188.out 3; have hfz48_4 := blk_frozen BK188.out 4; have hfz48_5 := blk_frozen BK188.out 5; have hfz48_6 := blk_frozen BK188.out 6; have hfz48_7 := blk_frozen BK188.out 7; have hfz48_8 := blk_frozen BK188.out 8; have hfz48_9 := blk_frozen BK188.out 9; have hfz48_10 := blk_frozen BK188.out 10; have hfz48_11 := blk_frozen BK188.out 11; have hfz48_12 := blk_frozen BK188.out 12; have hfz48_13 := blk_frozen BK188.out 13; have hfz48_14 := blk_frozen BK188.out 14; have hfz48_15 := blk_frozen BK188.out 15; have hfz48_16 := blk_frozen BK188.out 16; have hfz48_17 := blk_frozen BK188.out 17; have hfz48_18 := blk_frozen BK188.out 18; have hfz48_19 := blk_frozen BK188.out 19; have hfz48_20 := blk_frozen BK188.out 20; have hfz48_21 := blk_frozen BK188.out 21; have hfz48_22 := blk_frozen BK188.out 22; have hfz48_23 := blk_frozen BK188.out 23; have hfz48_24 := blk_frozen BK188.out 24; have hfz48_25 := blk_frozen BK188.out 25; have hfz48_26 := blk_frozen BK188.out 26; have hfz48_27 := blk_frozen BK188.out 27; have hfz48_28 := blk_frozen BK188.out 28; have hfz48_29 := blk_frozen BK188.out 29; have hfz48_30 := blk_frozen BK188.out 30; have hfz48_31 := blk_frozen BK188.out 31; have hcz49_0 : w47.cell? ⟨gb228, 0, none⟩ = some (.int .i64 t189) := (blk_cell BK228.out 0).trans rfl; have hcz49_1 : w47.cell? ⟨gb228, 1, none⟩ = some (.string t190) := (blk_cell BK228.out 1).trans rfl; have hcz49_2 : w47.cell? ⟨gb228, 2, none⟩ = some (.int .i64 t191) := (blk_cell BK228.out 2).trans rfl; have hcz49_3 : w47.cell? ⟨gb228, 3, none⟩ = some (.int .i64 t192) := (blk_cell BK228.out 3).trans rfl; have hcz49_4 : w47.cell? ⟨gb228, 4, none⟩ = some (.slice Aq225 nq225 cq225) := (blk_cell BK228.out 4).trans rfl; have hcz49_5 : w47.cell? ⟨gb228, 5, none⟩ = some (.int .i64 t196) := (blk_cell BK228.out 5).trans rfl; have hcz49_6 : w47.cell? ⟨gb228, 6, none⟩ = some (.int .i64 t197) := (blk_cell BK228.out 6).trans rfl; have hcz49_7 : w47.cell? ⟨gb228, 7, none⟩ = some (.bool t198) := (blk_cell BK228.out 7).trans rfl; have hcz49_8 : w47.cell? ⟨gb228, 8, none⟩ = some (.bool t199) := (blk_cell BK228.out 8).trans rfl; have hcz49_9 : w47.cell? ⟨gb228, 9, none⟩ = some (.bool false) := (blk_cell BK228.out 9).trans rfl; have hcz49_10 : w47.cell? ⟨gb228, 10, none⟩ = some (.int .i64 t201) := (blk_cell BK228.out 10).trans rfl; have hcz49_11 : w47.cell? ⟨gb228, 11, none⟩ = some (.string t202) := (blk_cell BK228.out 11).trans rfl; have hcz49_12 : w47.cell? ⟨gb228, 12, none⟩ = some (.string t203) := (blk_cell BK228.out 12).trans rfl; have hcz49_13 : w47.cell? ⟨gb228, 13, none⟩ = some (.string t204) := (blk_cell BK228.out 13).trans rfl; have hcz49_14 : w47.cell? ⟨gb228, 14, none⟩ = some (.int .i64 t205) := (blk_cell BK228.out 14).trans rfl; have hcz49_15 : w47.cell? ⟨gb228, 15, none⟩ = some (.bool t206) := (blk_cell BK228.out 15).trans rfl; have hcz49_16 : w47.cell? ⟨gb228, 16, none⟩ = some (.bool t207) := (blk_cell BK228.out 16).trans rfl; have hcz49_17 : w47.cell? ⟨gb228, 17, none⟩ = some (.int .i64 t208) := (blk_cell BK228.out 17).trans rfl; have hcz49_18 : w47.cell? ⟨gb228, 18, none⟩ = some (.int .i64 t209) := (blk_cell BK228.out 18).trans rfl; have hcz49_19 : w47.cell? ⟨gb228, 19, none⟩ = some (.string t210) := (blk_cell BK228.out 19).trans rfl; have hcz49_20 : w47.cell? ⟨gb228, 20, none⟩ = some (.int .i64 t211) := (blk_cell BK228.out 20).trans rfl; have hcz49_21 : w47.cell? ⟨gb228, 21, none⟩ = some (.int .i64 t212) := (blk_cell BK228.out 21).trans rfl; have hcz49_22 : w47.cell? ⟨gb228, 22, none⟩ = some (.int .i64 t213) := (blk_cell BK228.out 22).trans rfl; have hcz49_23 : w47.cell? ⟨gb228, 23, none⟩ = some (.int .i64 t214) := (blk_cell BK228.out 23).trans rfl; have hcz49_24 : w47.cell? ⟨gb228, 24, none⟩ = some (.int .i64 t215) := (blk_cell BK228.out 24).trans rfl; have hcz49_25 : w47.cell? ⟨gb228, 25, none⟩ = some (.bool t216) := (blk_cell BK228.out 25).trans rfl; have hcz49_26 : w47.cell? ⟨gb228, 26, none⟩ = some (.int .u64 t217) := (blk_cell BK228.out 26).trans rfl; have hcz49_27 : w47.cell? ⟨gb228, 27, none⟩ = some (.slice Aq226 nq226 cq226) := (blk_cell BK228.out 27).trans rfl; have hcz49_28 : w47.cell? ⟨gb228, 28, none⟩ = some (.int .i64 t221) := (blk_cell BK228.out 28).trans rfl; have hcz49_29 : w47.cell? ⟨gb228, 29, none⟩ = some (.string t222) := (blk_cell BK228.out 29).trans rfl; have hcz49_30 : w47.cell? ⟨gb228, 30, none⟩ = some (.int .i64 t223) := (blk_cell BK228.out 30).trans rfl; have hcz49_31 : w47.cell? ⟨gb228, 31, none⟩ = some (.int .i64 t224) := (blk_cell BK228.out 31).trans rfl; have hfz49_0 := blk_frozen BK228.out 0; have hfz49_1 := blk_frozen BK228.out 1; have hfz49_2 := blk_frozen BK228.out 2; have hfz49_3 := blk_frozen BK228.out 3; have hfz49_4 := blk_frozen BK228.out 4; have hfz49_5 := blk_frozen BK228.out 5; have hfz49_6 := blk_frozen BK228.out 6; have hfz49_7 := blk_frozen BK228.out 7; have hfz49_8 := blk_frozen BK228.out 8; have hfz49_9 := blk_frozen BK228.out 9; have hfz49_10 := blk_frozen BK228.out 10; have hfz49_11 := blk_frozen BK228.out 11; have hfz49_12 := blk_frozen BK228.out 12; have hfz49_13 := blk_frozen BK228.out 13; have hfz49_14 := blk_frozen BK228.out 14; have hfz49_15 := blk_frozen BK228.out 15; have hfz49_16 := blk_frozen BK228.out 16; have hfz49_17 := blk_frozen BK228.out 17; have hfz49_18 := blk_frozen BK228.out 18; have hfz49_19 := blk_frozen BK228.out 19; have hfz49_20 := blk_frozen BK228.out 20; have hfz49_21 := blk_frozen BK228.out 21; have hfz49_22 := blk_frozen BK228.out 22; have hfz49_23 := blk_frozen BK228.out 23; have hfz49_24 := blk_frozen BK228.out 24; have hfz49_25 := blk_frozen BK228.out 25; have hfz49_26 := blk_frozen BK228.out 26; have hfz49_27 := blk_frozen BK228.out 27; have hfz49_28 := blk_frozen BK228.out 28; have hfz49_29 := blk_frozen BK228.out 29; have hfz49_30 := blk_frozen BK228.out 30; have hfz49_31 := blk_frozen BK228.out 31))
                go_ret
                exact ⟨by first | rfl | (simp [errW_none, errW_some] <;> rfl) | (simp [*, errW_none, errW_some] <;> rfl), by repeat (first | (with_reducible first | exact HB.out | apply below_alloc | apply pw_below_drewN | apply below_drew1 | refine below_set ?_ GE187.out | refine below_set ?_ GE188.out | refine below_set ?_ GE228.out) | exact HB.out)⟩
            · replace c26 := Bool.eq_false_iff.mpr c26
              subst c26
              have H1 : (some 0) = some r := by rw [if_neg (show ¬ (false = true) by decide)] at H; exact H
              clear H
              have H := H1
              clear H1
              obtain rfl := Option.some.inj H
              have hnb50 := NB188_187.out
              have hnc50 := NB187_188.out
              have hcz51_0 : wc.cell? ⟨gb188, 0, none⟩ = some (.int .i64 a1_0) := (blk_cell BK188.out 0).trans rfl
              have hcz51_1 : wc.cell? ⟨gb188, 1, none⟩ = some (.string a1_1) := (blk_cell BK188.out 1).trans rfl
              have hcz51_2 : wc.cell? ⟨gb188, 2, none⟩ = some (.int .i64 a1_2) := (blk_cell BK188.out 2).trans rfl
              have hcz51_3 : wc.cell? ⟨gb188, 3, none⟩ = some (.int .i64 a1_3) := (blk_cell BK188.out 3).trans rfl
              have hcz51_4 : wc.cell? ⟨gb188, 4, none⟩ = some (.slice A1_4 l1_4.length c1_4) := (blk_cell BK188.out 4).trans rfl
              have hcz51_5 : wc.cell? ⟨gb188, 5, none⟩ = some (.int .i64 a1_5) := (blk_cell BK188.out 5).trans rfl
              have hcz51_6 : wc.cell? ⟨gb188, 6, none⟩ = some (.int .i64 a1_6) := (blk_cell BK188.out 6).trans rfl
              have hcz51_7 : wc.cell? ⟨gb188, 7, none⟩ = some (.bool a1_7) := (blk_cell BK188.out 7).trans rfl
              have hcz51_8 : wc.cell? ⟨gb188, 8, none⟩ = some (.bool a1_8) := (blk_cell BK188.out 8).trans rfl
              have hcz51_9 : wc.cell? ⟨gb188, 9, none⟩ = some (.bool a1_9) := (blk_cell BK188.out 9).trans rfl
              have hcz51_10 : wc.cell? ⟨gb188, 10, none⟩ = some (.int .i64 a1_10) := (blk_cell BK188.out 10).trans rfl
              have hcz51_11 : wc.cell? ⟨gb188, 11, none⟩ = some (.string a1_11) := (blk_cell BK188.out 11).trans rfl
              have hcz51_12 : wc.cell? ⟨gb188, 12, none⟩ = some (.string a1_12) := (blk_cell BK188.out 12).trans rfl
              have hcz51_13 : wc.cell? ⟨gb188, 13, none⟩ = some (.string a1_13) := (blk_cell BK188.out 13).trans rfl
              have hcz51_14 : wc.cell? ⟨gb188, 14, none⟩ = some (.int .i64 a1_14) := (blk_cell BK188.out 14).trans rfl
              have hcz51_15 : wc.cell? ⟨gb188, 15, none⟩ = some (.bool false) := (blk_cell BK188.out 15).trans rfl
              have hcz51_16 : wc.cell? ⟨gb188, 16, none⟩ = some (.bool a1_16) := (blk_cell BK188.out 16).trans rfl
              have hcz51_17 : wc.cell? ⟨gb188, 17, none⟩ = some (.int .i64 a1_17) := (blk_cell BK188.out 17).trans rfl
              have hcz51_18 : wc.cell? ⟨gb188, 18, none⟩ = some (.int .i64 a1_18) := (blk_cell BK188.out 18).trans rfl
              have hcz51_19 : wc.cell? ⟨gb188, 19, none⟩ = some (.string a1_19) := (blk_cell BK188.out 19).trans rfl
              have hcz51_20 : wc.cell? ⟨gb188, 20, none⟩ = some (.int .i64 a1_20) := (blk_cell BK188.out 20).trans rfl
              have hcz51_21 : wc.cell? ⟨gb188, 21, none⟩ = some (.int .i64 a1_21) := (blk_cell BK188.out 21).trans rfl
              have hcz51_22 : wc.cell? ⟨gb188, 22, none⟩ = some (.int .i64 a1_22) := (blk_cell BK188.out 22).trans rfl
              have hcz51_23 : wc.cell? ⟨gb188, 23, none⟩ = some (.int .i64 a1_23) := (blk_cell BK188.out 23).trans rfl
              have hcz51_24 : wc.cell? ⟨gb188, 24, none⟩ = some (.int .i64 a1_24) := (blk_cell BK188.out 24).trans rfl
              have hcz51_25 : wc.cell? ⟨gb188, 25, none⟩ = some (.bool a1_25) := (blk_cell BK188.out 25).trans rfl
              have hcz51_26 : wc.cell? ⟨gb188, 26, none⟩ = some (.int .u64 a1_26) := (blk_cell BK188.out 26).trans rfl
              have hcz51_27 : wc.cell? ⟨gb188, 27, none⟩ = some (.slice A1_27 l1_27.length c1_27) := (blk_cell BK188.out 27).trans rfl
              have hcz51_28 : wc.cell? ⟨gb188, 28, none⟩ = some (.int .i64 a1_28) := (blk_cell BK188.out 28).trans rfl
              have hcz51_29 : wc.cell? ⟨gb188, 29, none⟩ = some (.string a1_29) := (blk_cell BK188.out 29).trans rfl
              have hcz51_30 : wc.cell? ⟨gb188, 30, none⟩ = some (.int .i64 a1_30) := (blk_cell BK188.out 30).trans rfl
              have hcz51_31 : wc.cell? ⟨gb188, 31, none⟩ = some (.int .i64 a1_31) := (blk_cell BK188.out 31).trans rfl
              have hfz51_0 := blk_frozen BK188.out 0
              have hfz51_1 := blk_frozen BK188.out 1
              have hfz51_2 := blk_frozen BK188.out 2
              have hfz51_3 := blk_frozen BK188.out 3
              have hfz51_4 := blk_frozen BK188.out 4
              have hfz51_5 := blk_frozen BK188.out 5
              have hfz51_6 := blk_frozen BK188.out 6
              have hfz51_7 := blk_frozen BK188.out 7
              have hfz51_8 := blk_frozen BK188.out 8
              have hfz51_9 := blk_frozen BK188.out 9
              have hfz51_10 := blk_frozen BK188.out 10
              have hfz51_11 := blk_frozen BK188.out 11
              have hfz51_12 := blk_frozen BK188.out 12
              have hfz51_13 := blk_frozen BK188.out 13
              have hfz51_14 := blk_frozen BK188.out 14
              have hfz51_15 := blk_frozen BK188.out 15
              have hfz51_16 := blk_frozen BK188.out 16
              have hfz51_17 := blk_frozen BK188.out 17
              have hfz51_18 := blk_frozen BK188.out 18
              have hfz51_19 := blk_frozen BK188.out 19
              have hfz51_20 := blk_frozen BK188.out 20
              have hfz51_21 := blk_frozen BK188.out 21
              have hfz51_22 := blk_frozen BK188.out 22
              have hfz51_23 := blk_frozen BK188.out 23
              have hfz51_24 := blk_frozen BK188.out 24
              have hfz51_25 := blk_frozen BK188.out 25
              have hfz51_26 := blk_frozen BK188.out 26
              have hfz51_27 := blk_frozen BK188.out 27
              have hfz51_28 := blk_frozen BK188.out 28
              have hfz51_29 := blk_frozen BK188.out 29
              have hfz51_30 := blk_frozen BK188.out 30
              have hfz51_31 := blk_frozen BK188.out 31
              have hcz52_0 : wc.cell? ⟨gb187, 0, none⟩ = some (.slice A0_0 l0_0.length c0_0) := (blk_cell BK187.out 0).trans rfl
              have hcz52_1 : wc.cell? ⟨gb187, 1, none⟩ = some (.slice A0_1 l0_1.length c0_1) := (blk_cell BK187.out 1).trans rfl
              have hcz52_2 : wc.cell? ⟨gb187, 2, none⟩ = some (.slice A0_2 l0_2.length c0_2) := (blk_cell BK187.out 2).trans rfl
              have hcz52_3 : wc.cell? ⟨gb187, 3, none⟩ = some (.slice A0_3 l0_3.length c0_3) := (blk_cell BK187.out 3).trans rfl
              have hfz52_0 := blk_frozen BK187.out 0
              have hfz52_1 := blk_frozen BK187.out 1
              have hfz52_2 := blk_frozen BK187.out 2
              have hfz52_3 := blk_frozen BK187.out 3
              go_wp2_with (first | ((with_reducible refine gate_callee (f := 103) rfl ?_); refine goesL_ (some 36) rfl rfl Try.func103 (by kernel_rfl) rfl #[.slice A0_0 l0_0.length c0_0, .string a1_13] rfl (by (try simp only [List.map_toArray, List.map_cons, List.map_nil]); first | done | rfl | (simp only [List.length_drop, List.length_take]; rfl)) ?_; (with_reducible refine (rules_find.calls _ _ l0_0 a1_13 t189 t190 t191 t192 t196 t197 t198 t199 t200 t201 t202 t203 t204 t205 t206 t207 t208 t209 t210 t211 t212 t213 t214 t215 t216 t217 t221 t222 t223 t224 true _ ?side1 ?side2 A24.out).mono ?_); (case side1 => repeat (first | exact (Kd.C_below HR0_0.out HB.out) | (with_reducible refine Kd.C_alloc ?_ _) | (with_reducible refine Kd.C_drewN ?_ _) | (with_reducible refine Kd.C_drew ?_))); (case side2 => exact HC0_0.out); rintro e w53 ⟨Aq225, nq225, cq225, Aq226, nq226, cq226, rfl, hb⟩; refine ⟨_, rfl, ?_⟩; have n0_ := Aside0.mk (blk_below (g := gb187) (o := .cells #[.slice A0_0 l0_0.length c0_0, .slice A0_1 l0_1.length c0_1, .slice A0_2 l0_2.length c0_2, .slice A0_3 l0_3.length c0_3] 59 (0, 0)) (by (with_reducible repeat (first | refine blk_drewN ?_ _ | refine blk_drew ?_ | refine blk_alloc ?_ _)); exact BK187.out) hb); have n1_ := Aside0.mk (blk_below (g := gb188) (o := .cells #[.int .i64 a1_0, .string a1_1, .int .i64 a1_2, .int .i64 a1_3, .slice A1_4 l1_4.length c1_4, .int .i64 a1_5, .int .i64 a1_6, .bool a1_7, .bool a1_8, .bool a1_9, .int .i64 a1_10, .string a1_11, .string a1_12, .string a1_13, .int .i64 a1_14, .bool false, .bool a1_16, .int .i64 a1_17, .int .i64 a1_18, .string a1_19, .int .i64 a1_20, .int .i64 a1_21, .int .i64 a1_22, .int .i64 a1_23, .int .i64 a1_24, .bool a1_25, .int .u64 a1_26, .slice A1_27 l1_27.length c1_27, .int .i64 a1_28, .string a1_29, .int .i64 a1_30, .int .i64 a1_31] 68 (0, 0)) (by (with_reducible repeat (first | refine blk_drewN ?_ _ | refine blk_drew ?_ | refine blk_alloc ?_ _)); exact BK188.out) hb); have n2_ := Aside0.mk (below_step (by repeat (first | (with_reducible first | exact HB.out | apply below_alloc | apply pw_below_drewN | apply below_drew1 | refine below_set ?_ GE187.out | refine below_set ?_ GE188.out) | exact HB.out)) hb); clear BK187; clear BK188; clear HB; have BK187 := n0_; have BK188 := n1_; have HB := n2_; clear n0_ n1_ n2_; (try clear hb); (try clear hb2); (try clear hk); (try clear hi)) | ((with_reducible refine gate_dst (N := 5) rfl ?_); refine box_event ?hg (N := 5) ?hd (cs := #[.int .i64 0, .string (⟨#[]⟩ : ByteArray), .int .i64 0, .int .i64 0, .slice none 0 0, .int .i64 0, .int .i64 0, .bool false, .bool false, .bool false, .int .i64 0, .string (⟨#[]⟩ : ByteArray), .string (⟨#[]⟩ : ByteArray), .string (⟨#[]⟩ : ByteArray), .int .i64 0, .bool false, .bool false, .int .i64 0, .int .i64 0, .string (⟨#[]⟩ : ByteArray), .int .i64 0, .int .i64 0, .int .i64 0, .int .i64 0, .int .i64 0, .bool false, .int .u64 0, .slice none 0 0, .int .i64 0, .string (⟨#[]⟩ : ByteArray), .int .i64 0, .int .i64 0]) (t := 68) ?hr ?_; (case hd => rfl); (case hg => rfl); (case hr => first | (go_simp; done) | (go_simp; rfl)); intro gb228 hg w54 hbox hb; have n0_ := Aside0.mk (blk_below (g := gb187) (o := .cells #[.slice A0_0 l0_0.length c0_0, .slice A0_1 l0_1.length c0_1, .slice A0_2 l0_2.length c0_2, .slice A0_3 l0_3.length c0_3] 59 (0, 0)) (by (with_reducible repeat (first | refine blk_drewN ?_ _ | refine blk_drew ?_ | refine blk_alloc ?_ _)); exact BK187.out) hb); have n1_ := Aside0.mk (blk_below (g := gb188) (o := .cells #[.int .i64 a1_0, .string a1_1, .int .i64 a1_2, .int .i64 a1_3, .slice A1_4 l1_4.length c1_4, .int .i64 a1_5, .int .i64 a1_6, .bool a1_7, .bool a1_8, .bool a1_9, .int .i64 a1_10, .string a1_11, .string a1_12, .string a1_13, .int .i64 a1_14, .bool false, .bool a1_16, .int .i64 a1_17, .int .i64 a1_18, .string a1_19, .int .i64 a1_20, .int .i64 a1_21, .int .i64 a1_22, .int .i64 a1_23, .int .i64 a1_24, .bool a1_25, .int .u64 a1_26, .slice A1_27 l1_27.length c1_27, .int .i64 a1_28, .string a1_29, .int .i64 a1_30, .int .i64 a1_31] 68 (0, 0)) (by (with_reducible repeat (first | refine blk_drewN ?_ _ | refine blk_drew ?_ | refine blk_alloc ?_ _)); exact BK188.out) hb); have n2_ := Aside0.mk (below_step (by repeat (first | (with_reducible first | exact HB.out | apply below_alloc | apply pw_below_drewN | apply below_drew1 | refine below_set ?_ GE187.out | refine below_set ?_ GE188.out) | exact HB.out)) hb); have n3_ := Aside0.mk (hbox); have n4_ := Aside0.mk ((by rw [hg]; exact (below_size (by repeat (first | (with_reducible first | exact HB.out | apply below_alloc | apply pw_below_drewN | apply below_drew1 | refine below_set ?_ GE187.out | refine below_set ?_ GE188.out) | exact HB.out))) : w.heap.size ≤ gb228)); have n5_ := Aside0.mk ((by rw [hg]; exact (below_size (by repeat (first | (with_reducible first | exact HB.out | apply below_alloc | apply pw_below_drewN | apply below_drew1 | refine below_set ?_ GE187.out | refine below_set ?_ GE188.out) | exact HB.out))) : w.heap.size ≤ gb228)); have n6_ := Aside0.mk ((by rw [hg]; exact Nat.ne_of_lt (blk_lt (g := gb187) (o := .cells #[.slice A0_0 l0_0.length c0_0, .slice A0_1 l0_1.length c0_1, .slice A0_2 l0_2.length c0_2, .slice A0_3 l0_3.length c0_3] 59 (0, 0)) (by (with_reducible repeat (first | refine blk_drewN ?_ _ | refine blk_drew ?_ | refine blk_alloc ?_ _)); exact BK187.out)) : gb187 ≠ gb228)); have n7_ := Aside0.mk ((by rw [hg]; exact Nat.ne_of_gt (blk_lt (g := gb187) (o := .cells #[.slice A0_0 l0_0.length c0_0, .slice A0_1 l0_1.length c0_1, .slice A0_2 l0_2.length c0_2, .slice A0_3 l0_3.length c0_3] 59 (0, 0)) (by (with_reducible repeat (first | refine blk_drewN ?_ _ | refine blk_drew ?_ | refine blk_alloc ?_ _)); exact BK187.out)) : gb228 ≠ gb187)); have n8_ := Aside0.mk ((by rw [hg]; exact Nat.ne_of_lt (blk_lt (g := gb188) (o := .cells #[.int .i64 a1_0, .string a1_1, .int .i64 a1_2, .int .i64 a1_3, .slice A1_4 l1_4.length c1_4, .int .i64 a1_5, .int .i64 a1_6, .bool a1_7, .bool a1_8, .bool a1_9, .int .i64 a1_10, .string a1_11, .string a1_12, .string a1_13, .int .i64 a1_14, .bool false, .bool a1_16, .int .i64 a1_17, .int .i64 a1_18, .string a1_19, .int .i64 a1_20, .int .i64 a1_21, .int .i64 a1_22, .int .i64 a1_23, .int .i64 a1_24, .bool a1_25, .int .u64 a1_26, .slice A1_27 l1_27.length c1_27, .int .i64 a1_28, .string a1_29, .int .i64 a1_30, .int .i64 a1_31] 68 (0, 0)) (by (with_reducible repeat (first | refine blk_drewN ?_ _ | refine blk_drew ?_ | refine blk_alloc ?_ _)); exact BK188.out)) : gb188 ≠ gb228)); have n9_ := Aside0.mk ((by rw [hg]; exact Nat.ne_of_gt (blk_lt (g := gb188) (o := .cells #[.int .i64 a1_0, .string a1_1, .int .i64 a1_2, .int .i64 a1_3, .slice A1_4 l1_4.length c1_4, .int .i64 a1_5, .int .i64 a1_6, .bool a1_7, .bool a1_8, .bool a1_9, .int .i64 a1_10, .string a1_11, .string a1_12, .string a1_13, .int .i64 a1_14, .bool false, .bool a1_16, .int .i64 a1_17, .int .i64 a1_18, .string a1_19, .int .i64 a1_20, .int .i64 a1_21, .int .i64 a1_22, .int .i64 a1_23, .int .i64 a1_24, .bool a1_25, .int .u64 a1_26, .slice A1_27 l1_27.length c1_27, .int .i64 a1_28, .string a1_29, .int .i64 a1_30, .int .i64 a1_31] 68 (0, 0)) (by (with_reducible repeat (first | refine blk_drewN ?_ _ | refine blk_drew ?_ | refine blk_alloc ?_ _)); exact BK188.out)) : gb228 ≠ gb188)); clear BK187; clear BK188; clear HB; have BK187 := n0_; have BK188 := n1_; have HB := n2_; have BK228 := n3_; have GW228 := n4_; have GE228 := n5_; have NB187_228 := n6_; have NB228_187 := n7_; have NB188_228 := n8_; have NB228_188 := n9_; clear n0_ n1_ n2_ n3_ n4_ n5_ n6_ n7_ n8_ n9_; clear hb hbox hg; have hnb55 := NB228_187.out; have hnc55 := NB187_228.out; have hnb56 := NB228_188.out; have hnc56 := NB188_228.out; have hcz57_0 : w54.cell? ⟨gb228, 0, none⟩ = some (.int .i64 0) := (blk_cell BK228.out 0).trans rfl; have hcz57_1 : w54.cell? ⟨gb228, 1, none⟩ = some (.string (⟨#[]⟩ : ByteArray)) := (blk_cell BK228.out 1).trans rfl; have hcz57_2 : w54.cell? ⟨gb228, 2, none⟩ = some (.int .i64 0) := (blk_cell BK228.out 2).trans rfl; have hcz57_3 : w54.cell? ⟨gb228, 3, none⟩ = some (.int .i64 0) := (blk_cell BK228.out 3).trans rfl; have hcz57_4 : w54.cell? ⟨gb228, 4, none⟩ = some (.slice none 0 0) := (blk_cell BK228.out 4).trans rfl; have hcz57_5 : w54.cell? ⟨gb228, 5, none⟩ = some (.int .i64 0) := (blk_cell BK228.out 5).trans rfl; have hcz57_6 : w54.cell? ⟨gb228, 6, none⟩ = some (.int .i64 0) := (blk_cell BK228.out 6).trans rfl; have hcz57_7 : w54.cell? ⟨gb228, 7, none⟩ = some (.bool false) := (blk_cell BK228.out 7).trans rfl; have hcz57_8 : w54.cell? ⟨gb228, 8, none⟩ = some (.bool false) := (blk_cell BK228.out 8).trans rfl; have hcz57_9 : w54.cell? ⟨gb228, 9, none⟩ = some (.bool false) := (blk_cell BK228.out 9).trans rfl; have hcz57_10 : w54.cell? ⟨gb228, 10, none⟩ = some (.int .i64 0) := (blk_cell BK228.out 10).trans rfl; have hcz57_11 : w54.cell? ⟨gb228, 11, none⟩ = some (.string (⟨#[]⟩ : ByteArray)) := (blk_cell BK228.out 11).trans rfl; have hcz57_12 : w54.cell? ⟨gb228, 12, none⟩ = some (.string (⟨#[]⟩ : ByteArray)) := (blk_cell BK228.out 12).trans rfl; have hcz57_13 : w54.cell? ⟨gb228, 13, none⟩ = some (.string (⟨#[]⟩ : ByteArray)) := (blk_cell BK228.out 13).trans rfl; have hcz57_14 : w54.cell? ⟨gb228, 14, none⟩ = some (.int .i64 0) := (blk_cell BK228.out 14).trans rfl; have hcz57_15 : w54.cell? ⟨gb228, 15, none⟩ = some (.bool false) := (blk_cell BK228.out 15).trans rfl; have hcz57_16 : w54.cell? ⟨gb228, 16, none⟩ = some (.bool false) := (blk_cell BK228.out 16).trans rfl; have hcz57_17 : w54.cell? ⟨gb228, 17, none⟩ = some (.int .i64 0) := (blk_cell BK228.out 17).trans rfl; have hcz57_18 : w54.cell? ⟨gb228, 18, none⟩ = some (.int .i64 0) := (blk_cell BK228.out 18).trans rfl; have hcz57_19 : w54.cell? ⟨gb228, 19, none⟩ = some (.string (⟨#[]⟩ : ByteArray)) := (blk_cell BK228.out 19).trans rfl; have hcz57_20 : w54.cell? ⟨gb228, 20, none⟩ = some (.int .i64 0) := (blk_cell BK228.out 20).trans rfl; have hcz57_21 : w54.cell? ⟨gb228, 21, none⟩ = some (.int .i64 0) := (blk_cell BK228.out 21).trans rfl; have hcz57_22 : w54.cell? ⟨gb228, 22, none⟩ = some (.int .i64 0) := (blk_cell BK228.out 22).trans rfl; have hcz57_23 : w54.cell? ⟨gb228, 23, none⟩ = some (.int .i64 0) := (blk_cell BK228.out 23).trans rfl; have hcz57_24 : w54.cell? ⟨gb228, 24, none⟩ = some (.int .i64 0) := (blk_cell BK228.out 24).trans rfl; have hcz57_25 : w54.cell? ⟨gb228, 25, none⟩ = some (.bool false) := (blk_cell BK228.out 25).trans rfl; have hcz57_26 : w54.cell? ⟨gb228, 26, none⟩ = some (.int .u64 0) := (blk_cell BK228.out 26).trans rfl; have hcz57_27 : w54.cell? ⟨gb228, 27, none⟩ = some (.slice none 0 0) := (blk_cell BK228.out 27).trans rfl; have hcz57_28 : w54.cell? ⟨gb228, 28, none⟩ = some (.int .i64 0) := (blk_cell BK228.out 28).trans rfl; have hcz57_29 : w54.cell? ⟨gb228, 29, none⟩ = some (.string (⟨#[]⟩ : ByteArray)) := (blk_cell BK228.out 29).trans rfl; have hcz57_30 : w54.cell? ⟨gb228, 30, none⟩ = some (.int .i64 0) := (blk_cell BK228.out 30).trans rfl; have hcz57_31 : w54.cell? ⟨gb228, 31, none⟩ = some (.int .i64 0) := (blk_cell BK228.out 31).trans rfl; have hfz57_0 := blk_frozen BK228.out 0; have hfz57_1 := blk_frozen BK228.out 1; have hfz57_2 := blk_frozen BK228.out 2; have hfz57_3 := blk_frozen BK228.out 3; have hfz57_4 := blk_frozen BK228.out 4; have hfz57_5 := blk_frozen BK228.out 5; have hfz57_6 := blk_frozen BK228.out 6; have hfz57_7 := blk_frozen BK228.out 7; have hfz57_8 := blk_frozen BK228.out 8; have hfz57_9 := blk_frozen BK228.out 9; have hfz57_10 := blk_frozen BK228.out 10; have hfz57_11 := blk_frozen BK228.out 11; have hfz57_12 := blk_frozen BK228.out 12; have hfz57_13 := blk_frozen BK228.out 13; have hfz57_14 := blk_frozen BK228.out 14; have hfz57_15 := blk_frozen BK228.out 15; have hfz57_16 := blk_frozen BK228.out 16; have hfz57_17 := blk_frozen BK228.out 17; have hfz57_18 := blk_frozen BK228.out 18; have hfz57_19 := blk_frozen BK228.out 19; have hfz57_20 := blk_frozen BK228.out 20; have hfz57_21 := blk_frozen BK228.out 21; have hfz57_22 := blk_frozen BK228.out 22; have hfz57_23 := blk_frozen BK228.out 23; have hfz57_24 := blk_frozen BK228.out 24; have hfz57_25 := blk_frozen BK228.out 25; have hfz57_26 := blk_frozen BK228.out 26; have hfz57_27 := blk_frozen BK228.out 27; have hfz57_28 := blk_frozen BK228.out 28; have hfz57_29 := blk_frozen BK228.out 29; have hfz57_30 := blk_frozen BK228.out 30; have hfz57_31 := blk_frozen BK228.out 31) | ((with_reducible refine gate_store (t := 68) (p := 5) rfl ?_); refine box_store_event (t := 68) (ty := 68) (p := 5) (x := ?vo_w58) (g := gb228) (cs := #[.int .i64 0, .string (⟨#[]⟩ : ByteArray), .int .i64 0, .int .i64 0, .slice none 0 0, .int .i64 0, .int .i64 0, .bool false, .bool false, .bool false, .int .i64 0, .string (⟨#[]⟩ : ByteArray), .string (⟨#[]⟩ : ByteArray), .string (⟨#[]⟩ : ByteArray), .int .i64 0, .bool false, .bool false, .int .i64 0, .int .i64 0, .string (⟨#[]⟩ : ByteArray), .int .i64 0, .int .i64 0, .int .i64 0, .int .i64 0, .int .i64 0, .bool false, .int .u64 0, .slice none 0 0, .int .i64 0, .string (⟨#[]⟩ : ByteArray), .int .i64 0, .int .i64 0]) (cs' := #[.int .i64 t189, .string t190, .int .i64 t191, .int .i64 t192, .slice Aq225 nq225 cq225, .int .i64 t196, .int .i64 t197, .bool t198, .bool t199, .bool t200, .int .i64 t201, .string t202, .string t203, .string t204, .int .i64 t205, .bool t206, .bool t207, .int .i64 t208, .int .i64 t209, .string t210, .int .i64 t211, .int .i64 t212, .int .i64 t213, .int .i64 t214, .int .i64 t215, .bool t216, .int .u64 t217, .slice Aq226 nq226 cq226, .int .i64 t221, .string t222, .int .i64 t223, .int .i64 t224]) ?hgd ?ho ?hN ?he ?hv ?hi ?hb ?hs ?h1 ?_; (case ho => rfl); (case hgd => rfl); (case hN => rfl); (case he => rfl); (case hv => first | rfl | (simp; done)); (case hi => exact size68); (case hb => (with_reducible repeat (first | refine blk_drewN ?_ _ | refine blk_drew ?_ | refine blk_alloc ?_ _)); exact BK228.out); (case hs => rfl); (case h1 => rfl); intro w58 hbox hg; have n0_ := Aside0.mk (blk_grown (by (with_reducible repeat (first | refine blk_drewN ?_ _ | refine blk_drew ?_ | refine blk_alloc ?_ _)); exact BK187.out) hg (fun e_ => NB187_228.out (Option.some.inj e_))); have n1_ := Aside0.mk (blk_grown (by (with_reducible repeat (first | refine blk_drewN ?_ _ | refine blk_drew ?_ | refine blk_alloc ?_ _)); exact BK188.out) hg (fun e_ => NB188_228.out (Option.some.inj e_))); have n2_ := Aside0.mk (hbox); have n3_ := Aside0.mk (Below.grown (by repeat (first | (with_reducible first | exact HB.out | apply below_alloc | apply pw_below_drewN | apply below_drew1 | refine below_set ?_ GE187.out | refine below_set ?_ GE188.out | refine below_set ?_ GE228.out) | exact HB.out)) hg (below_size (by repeat (first | (with_reducible first | exact HB.out | apply below_alloc | apply pw_below_drewN | apply below_drew1 | refine below_set ?_ GE187.out | refine below_set ?_ GE188.out | refine below_set ?_ GE228.out) | exact HB.out))) (fun k_ e_ => by injection e_ with e_; subst e_; exact GE228.out)); clear BK187; clear BK188; clear BK228; clear HB; have BK187 := n0_; have BK188 := n1_; have BK228 := n2_; have HB := n3_; clear n0_ n1_ n2_ n3_; clear hbox hg; have hcz59_0 : w58.cell? ⟨gb188, 0, none⟩ = some (.int .i64 a1_0) := (blk_cell BK188.out 0).trans rfl; have hcz59_1 : w58.cell? ⟨gb188, 1, none⟩ = some (.string a1_1) := (blk_cell BK188.out 1).trans rfl; have hcz59_2 : w58.cell? ⟨gb188, 2, none⟩ = some (.int .i64 a1_2) := (blk_cell BK188.out 2).trans rfl; have hcz59_3 : w58.cell? ⟨gb188, 3, none⟩ = some (.int .i64 a1_3) := (blk_cell BK188.out 3).trans rfl; have hcz59_4 : w58.cell? ⟨gb188, 4, none⟩ = some (.slice A1_4 l1_4.length c1_4) := (blk_cell BK188.out 4).trans rfl; have hcz59_5 : w58.cell? ⟨gb188, 5, none⟩ = some (.int .i64 a1_5) := (blk_cell BK188.out 5).trans rfl; have hcz59_6 : w58.cell? ⟨gb188, 6, none⟩ = some (.int .i64 a1_6) := (blk_cell BK188.out 6).trans rfl; have hcz59_7 : w58.cell? ⟨gb188, 7, none⟩ = some (.bool a1_7) := (blk_cell BK188.out 7).trans rfl; have hcz59_8 : w58.cell? ⟨gb188, 8, none⟩ = some (.bool a1_8) := (blk_cell BK188.out 8).trans rfl; have hcz59_9 : w58.cell? ⟨gb188, 9, none⟩ = some (.bool a1_9) := (blk_cell BK188.out 9).trans rfl; have hcz59_10 : w58.cell? ⟨gb188, 10, none⟩ = some (.int .i64 a1_10) := (blk_cell BK188.out 10).trans rfl; have hcz59_11 : w58.cell? ⟨gb188, 11, none⟩ = some (.string a1_11) := (blk_cell BK188.out 11).trans rfl; have hcz59_12 : w58.cell? ⟨gb188, 12, none⟩ = some (.string a1_12) := (blk_cell BK188.out 12).trans rfl; have hcz59_13 : w58.cell? ⟨gb188, 13, none⟩ = some (.string a1_13) := (blk_cell BK188.out 13).trans rfl; have hcz59_14 : w58.cell? ⟨gb188, 14, none⟩ = some (.int .i64 a1_14) := (blk_cell BK188.out 14).trans rfl; have hcz59_15 : w58.cell? ⟨gb188, 15, none⟩ = some (.bool false) := (blk_cell BK188.out 15).trans rfl; have hcz59_16 : w58.cell? ⟨gb188, 16, none⟩ = some (.bool a1_16) := (blk_cell BK188.out 16).trans rfl; have hcz59_17 : w58.cell? ⟨gb188, 17, none⟩ = some (.int .i64 a1_17) := (blk_cell BK188.out 17).trans rfl; have hcz59_18 : w58.cell? ⟨gb188, 18, none⟩ = some (.int .i64 a1_18) := (blk_cell BK188.out 18).trans rfl; have hcz59_19 : w58.cell? ⟨gb188, 19, none⟩ = some (.string a1_19) := (blk_cell BK188.out 19).trans rfl; have hcz59_20 : w58.cell? ⟨gb188, 20, none⟩ = some (.int .i64 a1_20) := (blk_cell BK188.out 20).trans rfl; have hcz59_21 : w58.cell? ⟨gb188, 21, none⟩ = some (.int .i64 a1_21) := (blk_cell BK188.out 21).trans rfl; have hcz59_22 : w58.cell? ⟨gb188, 22, none⟩ = some (.int .i64 a1_22) := (blk_cell BK188.out 22).trans rfl; have hcz59_23 : w58.cell? ⟨gb188, 23, none⟩ = some (.int .i64 a1_23) := (blk_cell BK188.out 23).trans rfl; have hcz59_24 : w58.cell? ⟨gb188, 24, none⟩ = some (.int .i64 a1_24) := (blk_cell BK188.out 24).trans rfl; have hcz59_25 : w58.cell? ⟨gb188, 25, none⟩ = some (.bool a1_25) := (blk_cell BK188.out 25).trans rfl; have hcz59_26 : w58.cell? ⟨gb188, 26, none⟩ = some (.int .u64 a1_26) := (blk_cell BK188.out 26).trans rfl; have hcz59_27 : w58.cell? ⟨gb188, 27, none⟩ = some (.slice A1_27 l1_27.length c1_27) := (blk_cell BK188.out 27).trans rfl; have hcz59_28 : w58.cell? ⟨gb188, 28, none⟩ = some (.int .i64 a1_28) := (blk_cell BK188.out 28).trans rfl; have hcz59_29 : w58.cell? ⟨gb188, 29, none⟩ = some (.string a1_29) := (blk_cell BK188.out 29).trans rfl; have hcz59_30 : w58.cell? ⟨gb188, 30, none⟩ = some (.int .i64 a1_30) := (blk_cell BK188.out 30).trans rfl; have hcz59_31 : w58.cell? ⟨gb188, 31, none⟩ = some (.int .i64 a1_31) := (blk_cell BK188.out 31).trans rfl; have hfz59_0 := blk_frozen BK188.out 0; have hfz59_1 := blk_frozen BK188.out 1; have hfz59_2 := blk_frozen BK188.out 2; have hfz59_3 := blk_frozen BK188.out 3; have hfz59_4 := blk_frozen BK188.out 4; have hfz59_5 := blk_frozen BK188.out 5; have hfz59_6 := blk_frozen BK188.out 6; have hfz59_7 := blk_frozen BK188.out 7; have hfz59_8 := blk_frozen BK188.out 8; have hfz59_9 := blk_frozen BK188.out 9; have hfz59_10 := blk_frozen BK188.out 10; have hfz59_11 := blk_frozen BK188.out 11; have hfz59_12 := blk_frozen BK188.out 12; have hfz59_13 := blk_frozen BK188.out 13; have hfz59_14 := blk_frozen BK188.out 14; have hfz59_15 := blk_frozen BK188.out 15; have hfz59_16 := blk_frozen BK188.out 16; have hfz59_17 := blk_frozen BK188.out 17; have hfz59_18 := blk_frozen BK188.out 18; have hfz59_19 := blk_frozen BK188.out 19; have hfz59_20 := blk_frozen BK188.out 20; have hfz59_21 := blk_frozen BK188.out 21; have hfz59_22 := blk_frozen BK188.out 22; have hfz59_23 := blk_frozen BK188.out 23; have hfz59_24 := blk_frozen BK188.out 24; have hfz59_25 := blk_frozen BK188.out 25; have hfz59_26 := blk_frozen BK188.out 26; have hfz59_27 := blk_frozen BK188.out 27; have hfz59_28 := blk_frozen BK188.out 28; have hfz59_29 := blk_frozen BK188.out 29; have hfz59_30 := blk_frozen BK188.out 30; have hfz59_31 := blk_frozen BK188.out 31))
              go_ret
              exact ⟨by first | rfl | (simp [errW_none, errW_some] <;> rfl) | (simp [*, errW_none, errW_some] <;> rfl), by repeat (first | (with_reducible first | exact HB.out | apply below_alloc | apply pw_below_drewN | apply below_drew1 | refine below_set ?_ GE187.out | refine below_set ?_ GE188.out | refine below_set ?_ GE228.out) | exact HB.out)⟩
          · replace c25 := Bool.eq_false_iff.mpr c25
            subst c25
            have H1 : (some 28) = some r := by rw [if_neg (show ¬ (false = true) by decide)] at H; exact H
            clear H
            have H := H1
            clear H1
            obtain rfl := Option.some.inj H
            have hnb60 := NB188_187.out
            have hnc60 := NB187_188.out
            have hcz61_0 : wc.cell? ⟨gb188, 0, none⟩ = some (.int .i64 a1_0) := (blk_cell BK188.out 0).trans rfl
            have hcz61_1 : wc.cell? ⟨gb188, 1, none⟩ = some (.string a1_1) := (blk_cell BK188.out 1).trans rfl
            have hcz61_2 : wc.cell? ⟨gb188, 2, none⟩ = some (.int .i64 a1_2) := (blk_cell BK188.out 2).trans rfl
            have hcz61_3 : wc.cell? ⟨gb188, 3, none⟩ = some (.int .i64 a1_3) := (blk_cell BK188.out 3).trans rfl
            have hcz61_4 : wc.cell? ⟨gb188, 4, none⟩ = some (.slice A1_4 l1_4.length c1_4) := (blk_cell BK188.out 4).trans rfl
            have hcz61_5 : wc.cell? ⟨gb188, 5, none⟩ = some (.int .i64 a1_5) := (blk_cell BK188.out 5).trans rfl
            have hcz61_6 : wc.cell? ⟨gb188, 6, none⟩ = some (.int .i64 a1_6) := (blk_cell BK188.out 6).trans rfl
            have hcz61_7 : wc.cell? ⟨gb188, 7, none⟩ = some (.bool a1_7) := (blk_cell BK188.out 7).trans rfl
            have hcz61_8 : wc.cell? ⟨gb188, 8, none⟩ = some (.bool a1_8) := (blk_cell BK188.out 8).trans rfl
            have hcz61_9 : wc.cell? ⟨gb188, 9, none⟩ = some (.bool a1_9) := (blk_cell BK188.out 9).trans rfl
            have hcz61_10 : wc.cell? ⟨gb188, 10, none⟩ = some (.int .i64 a1_10) := (blk_cell BK188.out 10).trans rfl
            have hcz61_11 : wc.cell? ⟨gb188, 11, none⟩ = some (.string a1_11) := (blk_cell BK188.out 11).trans rfl
            have hcz61_12 : wc.cell? ⟨gb188, 12, none⟩ = some (.string a1_12) := (blk_cell BK188.out 12).trans rfl
            have hcz61_13 : wc.cell? ⟨gb188, 13, none⟩ = some (.string a1_13) := (blk_cell BK188.out 13).trans rfl
            have hcz61_14 : wc.cell? ⟨gb188, 14, none⟩ = some (.int .i64 a1_14) := (blk_cell BK188.out 14).trans rfl
            have hcz61_15 : wc.cell? ⟨gb188, 15, none⟩ = some (.bool a1_15) := (blk_cell BK188.out 15).trans rfl
            have hcz61_16 : wc.cell? ⟨gb188, 16, none⟩ = some (.bool a1_16) := (blk_cell BK188.out 16).trans rfl
            have hcz61_17 : wc.cell? ⟨gb188, 17, none⟩ = some (.int .i64 a1_17) := (blk_cell BK188.out 17).trans rfl
            have hcz61_18 : wc.cell? ⟨gb188, 18, none⟩ = some (.int .i64 a1_18) := (blk_cell BK188.out 18).trans rfl
            have hcz61_19 : wc.cell? ⟨gb188, 19, none⟩ = some (.string a1_19) := (blk_cell BK188.out 19).trans rfl
            have hcz61_20 : wc.cell? ⟨gb188, 20, none⟩ = some (.int .i64 a1_20) := (blk_cell BK188.out 20).trans rfl
            have hcz61_21 : wc.cell? ⟨gb188, 21, none⟩ = some (.int .i64 a1_21) := (blk_cell BK188.out 21).trans rfl
            have hcz61_22 : wc.cell? ⟨gb188, 22, none⟩ = some (.int .i64 a1_22) := (blk_cell BK188.out 22).trans rfl
            have hcz61_23 : wc.cell? ⟨gb188, 23, none⟩ = some (.int .i64 a1_23) := (blk_cell BK188.out 23).trans rfl
            have hcz61_24 : wc.cell? ⟨gb188, 24, none⟩ = some (.int .i64 a1_24) := (blk_cell BK188.out 24).trans rfl
            have hcz61_25 : wc.cell? ⟨gb188, 25, none⟩ = some (.bool a1_25) := (blk_cell BK188.out 25).trans rfl
            have hcz61_26 : wc.cell? ⟨gb188, 26, none⟩ = some (.int .u64 a1_26) := (blk_cell BK188.out 26).trans rfl
            have hcz61_27 : wc.cell? ⟨gb188, 27, none⟩ = some (.slice A1_27 l1_27.length c1_27) := (blk_cell BK188.out 27).trans rfl
            have hcz61_28 : wc.cell? ⟨gb188, 28, none⟩ = some (.int .i64 a1_28) := (blk_cell BK188.out 28).trans rfl
            have hcz61_29 : wc.cell? ⟨gb188, 29, none⟩ = some (.string a1_29) := (blk_cell BK188.out 29).trans rfl
            have hcz61_30 : wc.cell? ⟨gb188, 30, none⟩ = some (.int .i64 a1_30) := (blk_cell BK188.out 30).trans rfl
            have hcz61_31 : wc.cell? ⟨gb188, 31, none⟩ = some (.int .i64 a1_31) := (blk_cell BK188.out 31).trans rfl
            have hfz61_0 := blk_frozen BK188.out 0
            have hfz61_1 := blk_frozen BK188.out 1
            have hfz61_2 := blk_frozen BK188.out 2
            have hfz61_3 := blk_frozen BK188.out 3
            have hfz61_4 := blk_frozen BK188.out 4
            have hfz61_5 := blk_frozen BK188.out 5
            have hfz61_6 := blk_frozen BK188.out 6
            have hfz61_7 := blk_frozen BK188.out 7
            have hfz61_8 := blk_frozen BK188.out 8
            have hfz61_9 := blk_frozen BK188.out 9
            have hfz61_10 := blk_frozen BK188.out 10
            have hfz61_11 := blk_frozen BK188.out 11
            have hfz61_12 := blk_frozen BK188.out 12
            have hfz61_13 := blk_frozen BK188.out 13
            have hfz61_14 := blk_frozen BK188.out 14
            have hfz61_15 := blk_frozen BK188.out 15
            have hfz61_16 := blk_frozen BK188.out 16
            have hfz61_17 := blk_frozen BK188.out 17
            have hfz61_18 := blk_frozen BK188.out 18
            have hfz61_19 := blk_frozen BK188.out 19
            have hfz61_20 := blk_frozen BK188.out 20
            have hfz61_21 := blk_frozen BK188.out 21
            have hfz61_22 := blk_frozen BK188.out 22
            have hfz61_23 := blk_frozen BK188.out 23
            have hfz61_24 := blk_frozen BK188.out 24
            have hfz61_25 := blk_frozen BK188.out 25
            have hfz61_26 := blk_frozen BK188.out 26
            have hfz61_27 := blk_frozen BK188.out 27
            have hfz61_28 := blk_frozen BK188.out 28
            have hfz61_29 := blk_frozen BK188.out 29
            have hfz61_30 := blk_frozen BK188.out 30
            have hfz61_31 := blk_frozen BK188.out 31
            have hcz62_0 : wc.cell? ⟨gb187, 0, none⟩ = some (.slice A0_0 l0_0.length c0_0) := (blk_cell BK187.out 0).trans rfl
            have hcz62_1 : wc.cell? ⟨gb187, 1, none⟩ = some (.slice A0_1 l0_1.length c0_1) := (blk_cell BK187.out 1).trans rfl
            have hcz62_2 : wc.cell? ⟨gb187, 2, none⟩ = some (.slice A0_2 l0_2.length c0_2) := (blk_cell BK187.out 2).trans rfl
            have hcz62_3 : wc.cell? ⟨gb187, 3, none⟩ = some (.slice A0_3 l0_3.length c0_3) := (blk_cell BK187.out 3).trans rfl
            have hfz62_0 := blk_frozen BK187.out 0
            have hfz62_1 := blk_frozen BK187.out 1
            have hfz62_2 := blk_frozen BK187.out 2
            have hfz62_3 := blk_frozen BK187.out 3
            go_wp2_with (first | ((with_reducible refine gate_callee (f := 103) rfl ?_); refine goesL_ (some 36) rfl rfl Try.func103 (by kernel_rfl) rfl #[.slice A0_0 l0_0.length c0_0, .string a1_13] rfl (by (try simp only [List.map_toArray, List.map_cons, List.map_nil]); first | done | rfl | (simp only [List.length_drop, List.length_take]; rfl)) ?_; (with_reducible refine (rules_find.calls _ _ l0_0 a1_13 t189 t190 t191 t192 t196 t197 t198 t199 t200 t201 t202 t203 t204 t205 t206 t207 t208 t209 t210 t211 t212 t213 t214 t215 t216 t217 t221 t222 t223 t224 false _ ?side1 ?side2 A24.out).mono ?_); (case side1 => repeat (first | exact (Kd.C_below HR0_0.out HB.out) | (with_reducible refine Kd.C_alloc ?_ _) | (with_reducible refine Kd.C_drewN ?_ _) | (with_reducible refine Kd.C_drew ?_))); (case side2 => exact HC0_0.out); rintro e w63 ⟨Aq225, nq225, cq225, Aq226, nq226, cq226, rfl, hb⟩; refine ⟨_, rfl, ?_⟩; have n0_ := Aside0.mk (blk_below (g := gb187) (o := .cells #[.slice A0_0 l0_0.length c0_0, .slice A0_1 l0_1.length c0_1, .slice A0_2 l0_2.length c0_2, .slice A0_3 l0_3.length c0_3] 59 (0, 0)) (by (with_reducible repeat (first | refine blk_drewN ?_ _ | refine blk_drew ?_ | refine blk_alloc ?_ _)); exact BK187.out) hb); have n1_ := Aside0.mk (blk_below (g := gb188) (o := .cells #[.int .i64 a1_0, .string a1_1, .int .i64 a1_2, .int .i64 a1_3, .slice A1_4 l1_4.length c1_4, .int .i64 a1_5, .int .i64 a1_6, .bool a1_7, .bool a1_8, .bool a1_9, .int .i64 a1_10, .string a1_11, .string a1_12, .string a1_13, .int .i64 a1_14, .bool a1_15, .bool a1_16, .int .i64 a1_17, .int .i64 a1_18, .string a1_19, .int .i64 a1_20, .int .i64 a1_21, .int .i64 a1_22, .int .i64 a1_23, .int .i64 a1_24, .bool a1_25, .int .u64 a1_26, .slice A1_27 l1_27.length c1_27, .int .i64 a1_28, .string a1_29, .int .i64 a1_30, .int .i64 a1_31] 68 (0, 0)) (by (with_reducible repeat (first | refine blk_drewN ?_ _ | refine blk_drew ?_ | refine blk_alloc ?_ _)); exact BK188.out) hb); have n2_ := Aside0.mk (below_step (by repeat (first | (with_reducible first | exact HB.out | apply below_alloc | apply pw_below_drewN | apply below_drew1 | refine below_set ?_ GE187.out | refine below_set ?_ GE188.out) | exact HB.out)) hb); clear BK187; clear BK188; clear HB; have BK187 := n0_; have BK188 := n1_; have HB := n2_; clear n0_ n1_ n2_; (try clear hb); (try clear hb2); (try clear hk); (try clear hi)) | ((with_reducible refine gate_dst (N := 5) rfl ?_); refine box_event ?hg (N := 5) ?hd (cs := #[.int .i64 0, .string (⟨#[]⟩ : ByteArray), .int .i64 0, .int .i64 0, .slice none 0 0, .int .i64 0, .int .i64 0, .bool false, .bool false, .bool false, .int .i64 0, .string (⟨#[]⟩ : ByteArray), .string (⟨#[]⟩ : ByteArray), .string (⟨#[]⟩ : ByteArray), .int .i64 0, .bool false, .bool false, .int .i64 0, .int .i64 0, .string (⟨#[]⟩ : ByteArray), .int .i64 0, .int .i64 0, .int .i64 0, .int .i64 0, .int .i64 0, .bool false, .int .u64 0, .slice none 0 0, .int .i64 0, .string (⟨#[]⟩ : ByteArray), .int .i64 0, .int .i64 0]) (t := 68) ?hr ?_; (case hd => rfl); (case hg => rfl); (case hr => first | (go_simp; done) | (go_simp; rfl)); intro gb228 hg w64 hbox hb; have n0_ := Aside0.mk (blk_below (g := gb187) (o := .cells #[.slice A0_0 l0_0.length c0_0, .slice A0_1 l0_1.length c0_1, .slice A0_2 l0_2.length c0_2, .slice A0_3 l0_3.length c0_3] 59 (0, 0)) (by (with_reducible repeat (first | refine blk_drewN ?_ _ | refine blk_drew ?_ | refine blk_alloc ?_ _)); exact BK187.out) hb); have n1_ := Aside0.mk (blk_below (g := gb188) (o := .cells #[.int .i64 a1_0, .string a1_1, .int .i64 a1_2, .int .i64 a1_3, .slice A1_4 l1_4.length c1_4, .int .i64 a1_5, .int .i64 a1_6, .bool a1_7, .bool a1_8, .bool a1_9, .int .i64 a1_10, .string a1_11, .string a1_12, .string a1_13, .int .i64 a1_14, .bool a1_15, .bool a1_16, .int .i64 a1_17, .int .i64 a1_18, .string a1_19, .int .i64 a1_20, .int .i64 a1_21, .int .i64 a1_22, .int .i64 a1_23, .int .i64 a1_24, .bool a1_25, .int .u64 a1_26, .slice A1_27 l1_27.length c1_27, .int .i64 a1_28, .string a1_29, .int .i64 a1_30, .int .i64 a1_31] 68 (0, 0)) (by (with_reducible repeat (first | refine blk_drewN ?_ _ | refine blk_drew ?_ | refine blk_alloc ?_ _)); exact BK188.out) hb); have n2_ := Aside0.mk (below_step (by repeat (first | (with_reducible first | exact HB.out | apply below_alloc | apply pw_below_drewN | apply below_drew1 | refine below_set ?_ GE187.out | refine below_set ?_ GE188.out) | exact HB.out)) hb); have n3_ := Aside0.mk (hbox); have n4_ := Aside0.mk ((by rw [hg]; exact (below_size (by repeat (first | (with_reducible first | exact HB.out | apply below_alloc | apply pw_below_drewN | apply below_drew1 | refine below_set ?_ GE187.out | refine below_set ?_ GE188.out) | exact HB.out))) : w.heap.size ≤ gb228)); have n5_ := Aside0.mk ((by rw [hg]; exact (below_size (by repeat (first | (with_reducible first | exact HB.out | apply below_alloc | apply pw_below_drewN | apply below_drew1 | refine below_set ?_ GE187.out | refine below_set ?_ GE188.out) | exact HB.out))) : w.heap.size ≤ gb228)); have n6_ := Aside0.mk ((by rw [hg]; exact Nat.ne_of_lt (blk_lt (g := gb187) (o := .cells #[.slice A0_0 l0_0.length c0_0, .slice A0_1 l0_1.length c0_1, .slice A0_2 l0_2.length c0_2, .slice A0_3 l0_3.length c0_3] 59 (0, 0)) (by (with_reducible repeat (first | refine blk_drewN ?_ _ | refine blk_drew ?_ | refine blk_alloc ?_ _)); exact BK187.out)) : gb187 ≠ gb228)); have n7_ := Aside0.mk ((by rw [hg]; exact Nat.ne_of_gt (blk_lt (g := gb187) (o := .cells #[.slice A0_0 l0_0.length c0_0, .slice A0_1 l0_1.length c0_1, .slice A0_2 l0_2.length c0_2, .slice A0_3 l0_3.length c0_3] 59 (0, 0)) (by (with_reducible repeat (first | refine blk_drewN ?_ _ | refine blk_drew ?_ | refine blk_alloc ?_ _)); exact BK187.out)) : gb228 ≠ gb187)); have n8_ := Aside0.mk ((by rw [hg]; exact Nat.ne_of_lt (blk_lt (g := gb188) (o := .cells #[.int .i64 a1_0, .string a1_1, .int .i64 a1_2, .int .i64 a1_3, .slice A1_4 l1_4.length c1_4, .int .i64 a1_5, .int .i64 a1_6, .bool a1_7, .bool a1_8, .bool a1_9, .int .i64 a1_10, .string a1_11, .string a1_12, .string a1_13, .int .i64 a1_14, .bool a1_15, .bool a1_16, .int .i64 a1_17, .int .i64 a1_18, .string a1_19, .int .i64 a1_20, .int .i64 a1_21, .int .i64 a1_22, .int .i64 a1_23, .int .i64 a1_24, .bool a1_25, .int .u64 a1_26, .slice A1_27 l1_27.length c1_27, .int .i64 a1_28, .string a1_29, .int .i64 a1_30, .int .i64 a1_31] 68 (0, 0)) (by (with_reducible repeat (first | refine blk_drewN ?_ _ | refine blk_drew ?_ | refine blk_alloc ?_ _)); exact BK188.out)) : gb188 ≠ gb228)); have n9_ := Aside0.mk ((by rw [hg]; exact Nat.ne_of_gt (blk_lt (g := gb188) (o := .cells #[.int .i64 a1_0, .string a1_1, .int .i64 a1_2, .int .i64 a1_3, .slice A1_4 l1_4.length c1_4, .int .i64 a1_5, .int .i64 a1_6, .bool a1_7, .bool a1_8, .bool a1_9, .int .i64 a1_10, .string a1_11, .string a1_12, .string a1_13, .int .i64 a1_14, .bool a1_15, .bool a1_16, .int .i64 a1_17, .int .i64 a1_18, .string a1_19, .int .i64 a1_20, .int .i64 a1_21, .int .i64 a1_22, .int .i64 a1_23, .int .i64 a1_24, .bool a1_25, .int .u64 a1_26, .slice A1_27 l1_27.length c1_27, .int .i64 a1_28, .string a1_29, .int .i64 a1_30, .int .i64 a1_31] 68 (0, 0)) (by (with_reducible repeat (first | refine blk_drewN ?_ _ | refine blk_drew ?_ | refine blk_alloc ?_ _)); exact BK188.out)) : gb228 ≠ gb188)); clear BK187; clear BK188; clear HB; have BK187 := n0_; have BK188 := n1_; have HB := n2_; have BK228 := n3_; have GW228 := n4_; have GE228 := n5_; have NB187_228 := n6_; have NB228_187 := n7_; have NB188_228 := n8_; have NB228_188 := n9_; clear n0_ n1_ n2_ n3_ n4_ n5_ n6_ n7_ n8_ n9_; clear hb hbox hg; have hnb65 := NB228_187.out; have hnc65 := NB187_228.out; have hnb66 := NB228_188.out; have hnc66 := NB188_228.out; have hcz67_0 : w64.cell? ⟨gb228, 0, none⟩ = some (.int .i64 0) := (blk_cell BK228.out 0).trans rfl; have hcz67_1 : w64.cell? ⟨gb228, 1, none⟩ = some (.string (⟨#[]⟩ : ByteArray)) := (blk_cell BK228.out 1).trans rfl; have hcz67_2 : w64.cell? ⟨gb228, 2, none⟩ = some (.int .i64 0) := (blk_cell BK228.out 2).trans rfl; have hcz67_3 : w64.cell? ⟨gb228, 3, none⟩ = some (.int .i64 0) := (blk_cell BK228.out 3).trans rfl; have hcz67_4 : w64.cell? ⟨gb228, 4, none⟩ = some (.slice none 0 0) := (blk_cell BK228.out 4).trans rfl; have hcz67_5 : w64.cell? ⟨gb228, 5, none⟩ = some (.int .i64 0) := (blk_cell BK228.out 5).trans rfl; have hcz67_6 : w64.cell? ⟨gb228, 6, none⟩ = some (.int .i64 0) := (blk_cell BK228.out 6).trans rfl; have hcz67_7 : w64.cell? ⟨gb228, 7, none⟩ = some (.bool false) := (blk_cell BK228.out 7).trans rfl; have hcz67_8 : w64.cell? ⟨gb228, 8, none⟩ = some (.bool false) := (blk_cell BK228.out 8).trans rfl; have hcz67_9 : w64.cell? ⟨gb228, 9, none⟩ = some (.bool false) := (blk_cell BK228.out 9).trans rfl; have hcz67_10 : w64.cell? ⟨gb228, 10, none⟩ = some (.int .i64 0) := (blk_cell BK228.out 10).trans rfl; have hcz67_11 : w64.cell? ⟨gb228, 11, none⟩ = some (.string (⟨#[]⟩ : ByteArray)) := (blk_cell BK228.out 11).trans rfl; have hcz67_12 : w64.cell? ⟨gb228, 12, none⟩ = some (.string (⟨#[]⟩ : ByteArray)) := (blk_cell BK228.out 12).trans rfl; have hcz67_13 : w64.cell? ⟨gb228, 13, none⟩ = some (.string (⟨#[]⟩ : ByteArray)) := (blk_cell BK228.out 13).trans rfl; have hcz67_14 : w64.cell? ⟨gb228, 14, none⟩ = some (.int .i64 0) := (blk_cell BK228.out 14).trans rfl; have hcz67_15 : w64.cell? ⟨gb228, 15, none⟩ = some (.bool false) := (blk_cell BK228.out 15).trans rfl; have hcz67_16 : w64.cell? ⟨gb228, 16, none⟩ = some (.bool false) := (blk_cell BK228.out 16).trans rfl; have hcz67_17 : w64.cell? ⟨gb228, 17, none⟩ = some (.int .i64 0) := (blk_cell BK228.out 17).trans rfl; have hcz67_18 : w64.cell? ⟨gb228, 18, none⟩ = some (.int .i64 0) := (blk_cell BK228.out 18).trans rfl; have hcz67_19 : w64.cell? ⟨gb228, 19, none⟩ = some (.string (⟨#[]⟩ : ByteArray)) := (blk_cell BK228.out 19).trans rfl; have hcz67_20 : w64.cell? ⟨gb228, 20, none⟩ = some (.int .i64 0) := (blk_cell BK228.out 20).trans rfl; have hcz67_21 : w64.cell? ⟨gb228, 21, none⟩ = some (.int .i64 0) := (blk_cell BK228.out 21).trans rfl; have hcz67_22 : w64.cell? ⟨gb228, 22, none⟩ = some (.int .i64 0) := (blk_cell BK228.out 22).trans rfl; have hcz67_23 : w64.cell? ⟨gb228, 23, none⟩ = some (.int .i64 0) := (blk_cell BK228.out 23).trans rfl; have hcz67_24 : w64.cell? ⟨gb228, 24, none⟩ = some (.int .i64 0) := (blk_cell BK228.out 24).trans rfl; have hcz67_25 : w64.cell? ⟨gb228, 25, none⟩ = some (.bool false) := (blk_cell BK228.out 25).trans rfl; have hcz67_26 : w64.cell? ⟨gb228, 26, none⟩ = some (.int .u64 0) := (blk_cell BK228.out 26).trans rfl; have hcz67_27 : w64.cell? ⟨gb228, 27, none⟩ = some (.slice none 0 0) := (blk_cell BK228.out 27).trans rfl; have hcz67_28 : w64.cell? ⟨gb228, 28, none⟩ = some (.int .i64 0) := (blk_cell BK228.out 28).trans rfl; have hcz67_29 : w64.cell? ⟨gb228, 29, none⟩ = some (.string (⟨#[]⟩ : ByteArray)) := (blk_cell BK228.out 29).trans rfl; have hcz67_30 : w64.cell? ⟨gb228, 30, none⟩ = some (.int .i64 0) := (blk_cell BK228.out 30).trans rfl; have hcz67_31 : w64.cell? ⟨gb228, 31, none⟩ = some (.int .i64 0) := (blk_cell BK228.out 31).trans rfl; have hfz67_0 := blk_frozen BK228.out 0; have hfz67_1 := blk_frozen BK228.out 1; have hfz67_2 := blk_frozen BK228.out 2; have hfz67_3 := blk_frozen BK228.out 3; have hfz67_4 := blk_frozen BK228.out 4; have hfz67_5 := blk_frozen BK228.out 5; have hfz67_6 := blk_frozen BK228.out 6; have hfz67_7 := blk_frozen BK228.out 7; have hfz67_8 := blk_frozen BK228.out 8; have hfz67_9 := blk_frozen BK228.out 9; have hfz67_10 := blk_frozen BK228.out 10; have hfz67_11 := blk_frozen BK228.out 11; have hfz67_12 := blk_frozen BK228.out 12; have hfz67_13 := blk_frozen BK228.out 13; have hfz67_14 := blk_frozen BK228.out 14; have hfz67_15 := blk_frozen BK228.out 15; have hfz67_16 := blk_frozen BK228.out 16; have hfz67_17 := blk_frozen BK228.out 17; have hfz67_18 := blk_frozen BK228.out 18; have hfz67_19 := blk_frozen BK228.out 19; have hfz67_20 := blk_frozen BK228.out 20; have hfz67_21 := blk_frozen BK228.out 21; have hfz67_22 := blk_frozen BK228.out 22; have hfz67_23 := blk_frozen BK228.out 23; have hfz67_24 := blk_frozen BK228.out 24; have hfz67_25 := blk_frozen BK228.out 25; have hfz67_26 := blk_frozen BK228.out 26; have hfz67_27 := blk_frozen BK228.out 27; have hfz67_28 := blk_frozen BK228.out 28; have hfz67_29 := blk_frozen BK228.out 29; have hfz67_30 := blk_frozen BK228.out 30; have hfz67_31 := blk_frozen BK228.out 31) | ((with_reducible refine gate_store (t := 68) (p := 5) rfl ?_); refine box_store_event (t := 68) (ty := 68) (p := 5) (x := ?vo_w68) (g := gb228) (cs := #[.int .i64 0, .string (⟨#[]⟩ : ByteArray), .int .i64 0, .int .i64 0, .slice none 0 0, .int .i64 0, .int .i64 0, .bool false, .bool false, .bool false, .int .i64 0, .string (⟨#[]⟩ : ByteArray), .string (⟨#[]⟩ : ByteArray), .string (⟨#[]⟩ : ByteArray), .int .i64 0, .bool false, .bool false, .int .i64 0, .int .i64 0, .string (⟨#[]⟩ : ByteArray), .int .i64 0, .int .i64 0, .int .i64 0, .int .i64 0, .int .i64 0, .bool false, .int .u64 0, .slice none 0 0, .int .i64 0, .string (⟨#[]⟩ : ByteArray), .int .i64 0, .int .i64 0]) (cs' := #[.int .i64 t189, .string t190, .int .i64 t191, .int .i64 t192, .slice Aq225 nq225 cq225, .int .i64 t196, .int .i64 t197, .bool t198, .bool t199, .bool t200, .int .i64 t201, .string t202, .string t203, .string t204, .int .i64 t205, .bool t206, .bool t207, .int .i64 t208, .int .i64 t209, .string t210, .int .i64 t211, .int .i64 t212, .int .i64 t213, .int .i64 t214, .int .i64 t215, .bool t216, .int .u64 t217, .slice Aq226 nq226 cq226, .int .i64 t221, .string t222, .int .i64 t223, .int .i64 t224]) ?hgd ?ho ?hN ?he ?hv ?hi ?hb ?hs ?h1 ?_; (case ho => rfl); (case hgd => rfl); (case hN => rfl); (case he => rfl); (case hv => first | rfl | (simp; done)); (case hi => exact size68); (case hb => (with_reducible repeat (first | refine blk_drewN ?_ _ | refine blk_drew ?_ | refine blk_alloc ?_ _)); exact BK228.out); (case hs => rfl); (case h1 => rfl); intro w68 hbox hg; have n0_ := Aside0.mk (blk_grown (by (with_reducible repeat (first | refine blk_drewN ?_ _ | refine blk_drew ?_ | refine blk_alloc ?_ _)); exact BK187.out) hg (fun e_ => NB187_228.out (Option.some.inj e_))); have n1_ := Aside0.mk (blk_grown (by (with_reducible repeat (first | refine blk_drewN ?_ _ | refine blk_drew ?_ | refine blk_alloc ?_ _)); exact BK188.out) hg (fun e_ => NB188_228.out (Option.some.inj e_))); have n2_ := Aside0.mk (hbox); have n3_ := Aside0.mk (Below.grown (by repeat (first | (with_reducible first | exact HB.out | apply below_alloc | apply pw_below_drewN | apply below_drew1 | refine below_set ?_ GE187.out | refine below_set ?_ GE188.out | refine below_set ?_ GE228.out) | exact HB.out)) hg (below_size (by repeat (first | (with_reducible first | exact HB.out | apply below_alloc | apply pw_below_drewN | apply below_drew1 | refine below_set ?_ GE187.out | refine below_set ?_ GE188.out | refine below_set ?_ GE228.out) | exact HB.out))) (fun k_ e_ => by injection e_ with e_; subst e_; exact GE228.out)); clear BK187; clear BK188; clear BK228; clear HB; have BK187 := n0_; have BK188 := n1_; have BK228 := n2_; have HB := n3_; clear n0_ n1_ n2_ n3_; clear hbox hg))
            go_ret
            exact ⟨by first | rfl | (simp [errW_none, errW_some] <;> rfl) | (simp [*, errW_none, errW_some] <;> rfl), by repeat (first | (with_reducible first | exact HB.out | apply below_alloc | apply pw_below_drewN | apply below_drew1 | refine below_set ?_ GE187.out | refine below_set ?_ GE188.out | refine below_set ?_ GE228.out) | exact HB.out)⟩
end Go.Proofs.Ytamjjeakkkdfhaa.PC
end
section
namespace Go.Proofs.Ytamjjeakkkdfhaa.G
open Go.RowKit Go.Proofs.YtamjjeakkkdfhaaW.PrintWords Go.Proofs.YtamjjeakkkdfhaaW.PrintLast Go.Proofs.YtamjjeakkkdfhaaW.PrintMore
open Go.Proofs.Ytamjjeakkkdfhaa.K Go.Proofs.YtamjjeakkkdfhaaE Go.Proofs.Ytamjjeakkkdfhaa.PB Go.Proofs.Ytamjjeakkkdfhaa.PC
set_option linter.unusedVariables false
set_option linter.unusedSimpArgs false
def heldI (n : Int) : Int := mn (mx n (-1125899906842624)) 1125899906842624
def bothI (a : Int × Int) (c d : Int) : Int × Int := (mn (a.1 + mx (heldI c) 0) 1125899906842624, mn (a.2 + mx (heldI d) 0) 1125899906842624)
def small (a : Int × Int) : Prop := (0 ≤ a.1 ∧ a.1 ≤ 1125899906842624) ∧ (0 ≤ a.2 ∧ a.2 ≤ 1125899906842624)
theorem heldI_le (n : Int) : heldI n ≤ 1125899906842624 := by unfold heldI mn; split <;> omega
theorem mx_held (n : Int) : 0 ≤ mx (heldI n) 0 ∧ mx (heldI n) 0 ≤ 1125899906842624 := by
  have := heldI_le n
  unfold mx
  split <;> omega
theorem mn_small {a b : Int} (ha : 0 ≤ a) (hb : 0 ≤ b) : 0 ≤ mn (a + b) 1125899906842624 ∧ mn (a + b) 1125899906842624 ≤ 1125899906842624 := by unfold mn; split <;> omega
theorem bothI_small {a : Int × Int} (h : small a) (c d : Int) : small (bothI a c d) := ⟨mn_small h.1.1 (mx_held c).1, mn_small h.2.1 (mx_held d).1⟩
theorem both_is {a b c d : Int} (h : small (a, b)) : rules_both.f a b c d = some (bothI (a, b) c d) := by
  obtain ⟨⟨h1, h2⟩, h3, h4⟩ := h
  have hc := mx_held c
  have hd := mx_held d
  have e1 : wrap64 (a + mx (heldI c) 0) = a + mx (heldI c) 0 := by unfold wrap64; simp only at h1 h2; omega
  have e2 : wrap64 (b + mx (heldI d) 0) = b + mx (heldI d) 0 := by unfold wrap64; simp only at h3 h4; omega
  show some (mn (wrap64 (a + mx (heldI c) 0)) 1125899906842624, mn (wrap64 (b + mx (heldI d) 0)) 1125899906842624) = _
  rw [e1, e2]; rfl
def usedOne (a : ByteArray) (acc : Int × Int) (x : S68) : Int × Int := if a.toList = ([] : List UInt8) then acc else if x.f12.toList = a.toList then bothI acc x.f16.f0 x.f16.f1 else acc
def usedL (l : List S68) (a : ByteArray) : Int × Int := l.foldl (usedOne a) (0, 0)
theorem usedOne_small {a : ByteArray} {acc : Int × Int} {x : S68} (h : small acc) : small (usedOne a acc x) := by
  unfold usedOne
  split
  · exact h
  · split
    · exact bothI_small h _ _
    · exact h
theorem used_from (a : ByteArray) (l : List S68) (hl : l.length ≤ 9223372036854775807) : ∀ (d k : Nat) (acc : Int × Int) (i : Nat), i ≤ l.length → l.length - i = d → d < k → small acc → rules_Used.l0 k a l (l.length : Int) (i : Int) acc.1 acc.2 = some ((l.drop i).foldl (usedOne a) acc) := by
  intro d
  induction d with
  | zero =>
    intro k acc i hi hd hk ha
    obtain ⟨k, rfl⟩ : ∃ m, k = m + 1 := ⟨k - 1, by omega⟩
    simp only [rules_Used.l0]
    rw [if_neg (by omega), List.drop_of_length_le (by omega)]; rfl
  | succ d ih =>
    intro k acc i hi hd hk ha
    obtain ⟨k, rfl⟩ : ∃ m, k = m + 1 := ⟨k - 1, by omega⟩
    have hw : wrap64 ((i : Int) + 1) = ((i + 1 : Nat) : Int) := by unfold wrap64; omega
    simp only [rules_Used.l0]
    rw [if_pos (by omega), if_pos (by omega), if_pos (by omega), hw, List.drop_eq_getElem_cons (show i < l.length by omega), List.foldl_cons]
    have hs := usedOne_small (a := a) (x := l[i]) ha
    unfold usedOne at hs ⊢
    rw [rd_get (show i < l.length by omega)]
    by_cases h1 : a.toList = ([] : List UInt8)
    · rw [if_pos h1] at hs ⊢
      rw [if_pos h1]
      exact ih k acc (i + 1) (by omega) (by omega) (by omega) ha
    · rw [if_neg h1] at hs ⊢
      rw [if_neg h1]
      by_cases h2 : l[i].f12.toList = a.toList
      · rw [if_pos h2] at hs ⊢
        rw [if_pos h2, both_is (show small (acc.1, acc.2) from ha)]
        exact ih k _ (i + 1) (by omega) (by omega) (by omega) hs
      · rw [if_neg h2] at hs ⊢
        rw [if_neg h2]
        exact ih k acc (i + 1) (by omega) (by omega) (by omega) ha
theorem small_zero : small (0, 0) := ⟨⟨by decide, by decide⟩, by decide, by decide⟩
theorem used_is (l0 l1 l2 l3 : List S68) (a : ByteArray) (hl : l1.length ≤ 9223372036854775807) : rules_Used.f (l1.length + 1) l0 l1 l2 l3 a = some (usedL l1 a) :=
  used_from a l1 hl l1.length (l1.length + 1) (0, 0) 0 (by omega) (by omega) (by omega) small_zero
def fitsI (a : Int × Int) (c d : Int) : Bool := decide (a.1 ≤ c) && decide (a.2 ≤ d)
theorem fits_is (a : Int × Int) (c d : Int) : amount_Fits.f a.1 a.2 c d = some (fitsI a c d) := by
  unfold amount_Fits.f fitsI
  by_cases h : a.1 ≤ c
  · rw [if_pos h]; simp [h]
  · rw [if_neg h]; simp [h]
def wrongL (nodes : List S68) (x : S68) : Int :=
  if (x.f14 && (x.f15 || decide (x.f13 ≠ 1))) || (decide (x.f13 = 1) && decide (x.f12.toList = ([] : List UInt8))) then 14
  else if x.f12.toList = ([] : List UInt8) then 0
  else match findL x.f12 nodes with
    | none => 28
    | some n => if x.f14 && n.f8 then 25 else 0
theorem wrong_is (k : Nat) (l0 l1 l2 l3 : List S68) (x : S68) :
    rules_wrong.f (k + 1) l0 l1 l2 l3 x.f0 x.f1 x.f2 x.f3 x.f4 x.f5.f0 x.f5.f1 x.f6 x.f7 x.f8 x.f9 x.f10 x.f11 x.f12 x.f13 x.f14 x.f15 x.f16.f0 x.f16.f1 x.f17 x.f18 x.f19 x.f20 x.f21 x.f22 x.f23 x.f24 x.f25 x.f26 x.f27 x.f28 x.f29 = some (wrongL l0 x) := by
  have hj : ∀ b : Bool, rules_wrong.j0 (k + 1) b l0 l1 l2 l3 x.f0 x.f1 x.f2 x.f3 x.f4 x.f5.f0 x.f5.f1 x.f6 x.f7 x.f8 x.f9 x.f10 x.f11 x.f12 x.f13 x.f14 x.f15 x.f16.f0 x.f16.f1 x.f17 x.f18 x.f19 x.f20 x.f21 x.f22 x.f23 x.f24 x.f25 x.f26 x.f27 x.f28 x.f29 = some (if b = true then 14 else if x.f12.toList = ([] : List UInt8) then 0 else match findL x.f12 l0 with | none => 28 | some n => if x.f14 && n.f8 then 25 else 0) := by
    intro b
    simp only [rules_wrong.j0]
    cases b with
    | true => rfl
    | false =>
      by_cases h2 : x.f12.toList = ([] : List UInt8)
      · simp [h2]
      · simp only [h2, if_false, Bool.false_eq_true]
        unfold rules_find.f
        cases findL x.f12 l0 with
        | none => simp
        | some n => cases h14 : x.f14 <;> cases h8 : n.f8 <;> simp [flatFound, h14, h8]
  unfold rules_wrong.f wrongL
  simp only [hj]
  cases h14 : x.f14 <;> cases h15 : x.f15 <;> by_cases h13 : x.f13 = 1 <;> by_cases h12 : x.f12.toList = ([] : List UInt8) <;> simp [h13, h12]
end Go.Proofs.Ytamjjeakkkdfhaa.G
end
section
namespace Go.Proofs.Ytamjjeakkkdfhaa.G
open Go.RowKit Go.Proofs.YtamjjeakkkdfhaaW.PrintWords Go.Proofs.YtamjjeakkkdfhaaW.PrintLast Go.Proofs.YtamjjeakkkdfhaaW.PrintMore
open Go.Proofs.Ytamjjeakkkdfhaa.K Go.Proofs.YtamjjeakkkdfhaaE Go.Proofs.Ytamjjeakkkdfhaa.PB Go.Proofs.Ytamjjeakkkdfhaa.PC
set_option linter.unusedVariables false
set_option linter.unusedSimpArgs false
def wrongAt (nodes : List S68) : List S68 → Int → Option Int
  | [], _ => none
  | x :: r, i => if wrongL nodes x = 0 then wrongAt nodes r (i + 1) else some (fault (wrongL nodes x) i)
def fullAt (pods : List S68) : List S68 → Int → Option Int
  | [], _ => none
  | n :: r, i => if fitsI (usedL pods n.f1) n.f5.f0 n.f5.f1 = true then fullAt pods r (i + 1) else some (fault 23 i)
def soundL (nodes pods : List S68) : Option Int :=
  if 0 ≤ twiceL nodes then some (fault 9 (twiceL nodes)) else if 0 ≤ twiceL pods then some (fault 9 (twiceL pods)) else
  match wrongAt nodes pods 0 with
  | some c => some c
  | none => fullAt pods nodes 0
def namesOK (l : List S68) : Bool := l.all (fun x => decide (x.f1.size ≤ 9223372036854775807))
theorem wrongL_pos (nodes : List S68) (x : S68) : 0 ≤ wrongL nodes x := by
  unfold wrongL
  split
  · omega
  · split
    · omega
    · split
      · omega
      · split <;> omega
theorem twiceFrom_le : ∀ (l pre : List S68) (i : Int), -1 ≤ i → -1 ≤ twiceFrom pre l i ∧ twiceFrom pre l i ≤ i + l.length
  | [], pre, i, h => by simp [twiceFrom]; omega
  | x :: r, pre, i, h => by
    have := twiceFrom_le r (pre ++ [x]) (i + 1) (by omega)
    simp only [twiceFrom, List.length_cons]
    split <;> omega
theorem twiceL_le (l : List S68) : -1 ≤ twiceL l ∧ twiceL l ≤ l.length := by
  have := twiceFrom_le l [] 0 (by omega)
  unfold twiceL; omega
theorem sound_twice0 {l0 l1 : List S68} (h : 0 ≤ twiceL l0) : soundL l0 l1 = some (fault 9 (twiceL l0)) := by unfold soundL; rw [if_pos h]
theorem sound_twice1 {l0 l1 : List S68} (h0 : twiceL l0 < 0) (h : 0 ≤ twiceL l1) : soundL l0 l1 = some (fault 9 (twiceL l1)) := by unfold soundL; rw [if_neg (by omega), if_pos h]
theorem sound_on {l0 l1 : List S68} (h0 : twiceL l0 < 0) (h : twiceL l1 < 0) : soundL l0 l1 = match wrongAt l0 l1 0 with | some c => some c | none => fullAt l1 l0 0 := by unfold soundL; rw [if_neg (by omega), if_neg (by omega)]
theorem wrong_step {n l : List S68} {k : Nat} (h : k < l.length) : wrongAt n (l.drop k) k = if wrongL n (rd_T68 l (k : Int)) = 0 then wrongAt n (l.drop (k + 1)) ((k + 1 : Nat) : Int) else some (fault (wrongL n (rd_T68 l (k : Int))) k) := by
  rw [List.drop_eq_getElem_cons h, rd_get h]; simp [wrongAt]
theorem full_step {p l : List S68} {k : Nat} (h : k < l.length) : fullAt p (l.drop k) k = if fitsI (usedL p (rd_T68 l (k : Int)).f1) (rd_T68 l (k : Int)).f5.f0 (rd_T68 l (k : Int)).f5.f1 = true then fullAt p (l.drop (k + 1)) ((k + 1 : Nat) : Int) else some (fault 23 k) := by
  rw [List.drop_eq_getElem_cons h, rd_get h]; simp [fullAt]
theorem retF {no at_ : Int} {o : Option Int} (h0 : 0 ≤ no) (h1 : -9223372036854775808 ≤ at_) (h2 : at_ ≤ 9223372036854775807) (h : o = some (fault no at_)) : Ending.returned (.iface 145 (.agg #[.int .i64 no, .int .i64 at_])) = Ending.returned (errW o) := by
  rw [h, errW_fault h0 h1 h2]
theorem K_room {w : World} {x : S68} {cs : List Value} (h : k68.K w x cs) : cs[5]? = some (.int .i64 x.f5.f0) ∧ cs[6]? = some (.int .i64 x.f5.f1) := by
  obtain ⟨A4, c4, A27, c27, rfl, _⟩ := k68_open h
  exact ⟨rfl, rfl⟩
theorem wrong_calls (A0 : Option Addr) (c0 : Nat) (l0 : List S68) (A1 : Option Addr) (c1 : Nat) (l1 : List S68) (A2 : Option Addr) (c2 : Nat) (l2 : List S68) (A3 : Option Addr) (c3 : Nat) (l3 : List S68) (x : S68) (cs : List Value) (w : World) (hr0 : k68.C w A0 l0.length l0) (hc0 : l0.length ≤ c0) (hr1 : k68.C w A1 l1.length l1) (hc1 : l1.length ≤ c1) (hr2 : k68.C w A2 l2.length l2) (hc2 : l2.length ≤ c2) (hr3 : k68.C w A3 l3.length l3) (hc3 : l3.length ≤ c3) (hK : k68.K w x cs) :
    Calls Try.prog 101 #[.agg #[.slice A0 l0.length c0, .slice A1 l1.length c1, .slice A2 l2.length c2, .slice A3 l3.length c3], .agg cs.toArray] w fun e w' => e = .returned (.int .i64 (wrongL l0 x)) ∧ Below w.heap.size w w' := by
  obtain ⟨A4, c4, A27, c27, rfl, l4, g4, l27, g27⟩ := k68_open hK
  exact rules_wrong.calls 1 A0 c0 l0 A1 c1 l1 A2 c2 l2 A3 c3 l3 x.f0 x.f1 x.f2 x.f3 A4 c4 x.f4 x.f5.f0 x.f5.f1 x.f6 x.f7 x.f8 x.f9 x.f10 x.f11 x.f12 x.f13 x.f14 x.f15 x.f16.f0 x.f16.f1 x.f17 x.f18 x.f19 x.f20 x.f21 x.f22 x.f23 x.f24 A27 c27 x.f25 x.f26 x.f27 x.f28 x.f29 _ w hr0 hc0 hr1 hc1 hr2 hc2 hr3 hc3 g4 l4 g27 l27 (wrong_is 0 l0 l1 l2 l3 x)
def rules_Sound.T18 : Bool × List (List Nat × List Nat) := (true, [([], []), ([], []), ([1], [1]), ([0, 2], [0, 2]), ([], []), ([4], [4]), ([3, 5, 3], [3, 5]), ([6], [6])])
def rules_Sound.B18 : List Nat := [0, 0, 2, 7, 0, 16, 63, 127]
theorem rules_Sound.tab18 : rtab .any (opsOf Try.f55 18) = rules_Sound.T18 := by kernel_rfl
theorem rules_Sound.bits18 : waitsOk rules_Sound.T18.2 rules_Sound.B18 = true := by kernel_rfl
set_option maxRecDepth 100000 in
set_option maxHeartbeats 4000000 in
theorem rules_Sound.walked (A0 : Option Addr) (c0 : Nat) (l0 : List S68) (A1 : Option Addr) (c1 : Nat) (l1 : List S68) (A2 : Option Addr) (c2 : Nat) (l2 : List S68) (A3 : Option Addr) (c3 : Nat) (l3 : List S68) (w : World) (hr0 : k68.C w A0 l0.length l0) (hc0 : l0.length ≤ c0) (hr1 : k68.C w A1 l1.length l1) (hc1 : l1.length ≤ c1) (hr2 : k68.C w A2 l2.length l2) (hc2 : l2.length ≤ c2) (hr3 : k68.C w A3 l3.length l3) (hc3 : l3.length ≤ c3) (hn0 : namesOK l0 = true) (hn1 : namesOK l1 = true) :
    Calls Try.prog 55 #[.agg #[.slice A0 l0.length c0, .slice A1 l1.length c1, .slice A2 l2.length c2, .slice A3 l3.length c3]] w fun e w' => e = .returned (errW (soundL l0 l1)) ∧ Below w.heap.size w w' := by
  have hb0 := hr0.2.1
  have hb1 := hr1.2.1
  have HR0 := Aside0.mk hr0
  have HR1 := Aside0.mk hr1
  have HR2 := Aside0.mk hr2
  have HR3 := Aside0.mk hr3
  have HC2 := Aside0.mk hc2
  have HC3 := Aside0.mk hc3
  have HC0 := Aside0.mk hc0
  have HC1 := Aside0.mk hc1
  have HN0 := Aside0.mk (show rules_twice.f l0 = some (twiceL l0) from if_pos hn0)
  have HN1 := Aside0.mk (show rules_twice.f l1 = some (twiceL l1) from if_pos hn1)
  clear hr0 hr1 hr2 hr3 hc0 hc1 hc2 hc3 hn0 hn1
  have hu59 := Try.underlying59
  have hu57 := Try.underlying57
  go_enter Try.func55, Try.ntmps55
  go_wp2_with ((with_reducible refine gate_dst (N := 1) rfl ?_); refine hold ?_)
  refine Hold.intro ?_
  refine box_event ?hg (N := 1) ?hd (cs := #[.slice A0 l0.length c0, .slice A1 l1.length c1, .slice A2 l2.length c2, .slice A3 l3.length c3]) (t := 59) ?hr ?_
  case hd => rfl
  case hg => rfl
  case hr => first | (go_simp; done) | (go_simp; rfl)
  intro gb hg w4 hbox hb
  have hz0 : w4.cell? ⟨gb, 0, none⟩ = some (.slice A0 l0.length c0) := (blk_cell hbox 0).trans rfl
  have hz1 : w4.cell? ⟨gb, 1, none⟩ = some (.slice A1 l1.length c1) := (blk_cell hbox 1).trans rfl
  have HB := Aside0.mk hb
  have HX := Aside0.mk hbox
  have HGE := Aside0.mk (show w.heap.size ≤ gb by rw [hg]; exact Nat.le_refl _)
  clear hb hbox hg
  go_wp2
  obtain ⟨gs, hgs⟩ : ∃ gs, gs = w4.heap.size := ⟨_, rfl⟩
  obtain ⟨w5, hw5⟩ : ∃ w5, w5 = w4.alloc (.cells #[.slice A0 l0.length c0, .slice A1 l1.length c1] 57) := ⟨_, rfl⟩
  rw [← hgs, ← hw5]
  have HB5 := Aside0.mk (show Below w.heap.size w w5 by rw [hw5]; exact below_alloc HB.out _)
  have HX5 := Aside0.mk (show w5.heap[gb]? = some (.cells #[.slice A0 l0.length c0, .slice A1 l1.length c1, .slice A2 l2.length c2, .slice A3 l3.length c3] 59 (0, 0)) by rw [hw5]; exact blk_alloc HX.out _)
  have HS5 := Aside0.mk (show w5.heap[gs]? = some (.cells #[.slice A0 l0.length c0, .slice A1 l1.length c1] 57 (0, 0)) by rw [hw5, hgs]; exact blk_new w4 _)
  clear hgs hw5 HB HX hz0 hz1
  go_loopw [17] (fun i wr => ∃ k : Int, (k = 0 ∨ k = 1 ∨ k = 2) ∧ i = .int .i64 k ∧ Aside0 (wr.heap[gb]? = some (.cells #[.slice A0 l0.length c0, .slice A1 l1.length c1, .slice A2 l2.length c2, .slice A3 l3.length c3] 59 (0, 0))) ∧ Aside0 (wr.heap[gs]? = some (.cells #[.slice A0 l0.length c0, .slice A1 l1.length c1] 57 (0, 0))) ∧ Aside0 (Below w.heap.size w wr) ∧ Aside0 (1 ≤ k → twiceL l0 < 0) ∧ Aside0 (2 ≤ k → twiceL l1 < 0)) (fun i _ => 2 - (intOf i).toNat)
  case atStart => exact ⟨0, by omega, rfl, HX5, HS5, HB5, ⟨fun h => absurd h (by omega)⟩, ⟨fun h => absurd h (by omega)⟩⟩
  case round =>
    obtain ⟨k, hk, rfl, HX, HS, HB, HT0, HT1⟩ := hrel
    have hs0 : wr.cell? ⟨gs, 0, none⟩ = some (.slice A0 l0.length c0) := (blk_cell HS.out 0).trans rfl
    have hs1 : wr.cell? ⟨gs, 1, none⟩ = some (.slice A1 l1.length c1) := (blk_cell HS.out 1).trans rfl
    rcases hk with rfl | rfl | rfl
    · go_wp2_with (go_at_call 100; refine hold ?_)
      refine Hold.intro ((rules_twice.calls A0 c0 l0 _ _ (Kd.C_below HR0.out HB.out) HC0.out HN0.out).mono ?_)
      rintro e w6 ⟨rfl, hb⟩
      have HB6 := Aside0.mk (below_step HB.out hb)
      have HX6 := Aside0.mk (blk_below HX.out hb)
      have HS6 := Aside0.mk (blk_below HS.out hb)
      obtain ⟨t1, t2⟩ := twiceL_le l0
      clear hb hs0 hs1 HX HS HB
      by_cases ht : 0 ≤ twiceL l0
      · have HE := Aside0.mk (sound_twice0 (l1 := l1) ht)
        have HTW := Aside0.mk t2
        clear t1 t2
        go_wp2
        go_ret
        exact ⟨retF (by decide) (by omega) (by have := HTW.out; omega) HE.out, HB6.out⟩
      · have HTN := Aside0.mk (show twiceL l0 < 0 by omega)
        clear t1 t2
        go_wp2
        go_roundw
        case rel => exact ⟨1, by omega, rfl, HX6, HS6, HB6, ⟨fun _ => HTN.out⟩, ⟨fun h => absurd h (by omega)⟩⟩
        case measure => simp [intOf]
    · go_wp2_with (go_at_call 100; refine hold ?_)
      refine Hold.intro ((rules_twice.calls A1 c1 l1 _ _ (Kd.C_below HR1.out HB.out) HC1.out HN1.out).mono ?_)
      rintro e w6 ⟨rfl, hb⟩
      have HB6 := Aside0.mk (below_step HB.out hb)
      have HX6 := Aside0.mk (blk_below HX.out hb)
      have HS6 := Aside0.mk (blk_below HS.out hb)
      obtain ⟨t1, t2⟩ := twiceL_le l1
      clear hb hs0 hs1 HX HS HB
      by_cases ht : 0 ≤ twiceL l1
      · have HE := Aside0.mk (sound_twice1 (HT0.out (by omega)) ht)
        have HTW := Aside0.mk t2
        clear t1 t2
        go_wp2
        go_ret
        exact ⟨retF (by decide) (by omega) (by have := HTW.out; omega) HE.out, HB6.out⟩
      · have HTN := Aside0.mk (show twiceL l1 < 0 by omega)
        clear t1 t2
        go_wp2
        go_roundw
        case rel => exact ⟨2, by omega, rfl, HX6, HS6, HB6, ⟨fun _ => HT0.out (by omega)⟩, ⟨fun _ => HTN.out⟩⟩
        case measure => simp [intOf]
    · have HSN := Aside0.mk (sound_on (HT0.out (by omega)) (HT1.out (by omega)))
      have hg1 : wr.cell? ⟨gb, 1, none⟩ = some (.slice A1 l1.length c1) := (blk_cell HX.out 1).trans rfl
      clear hs0 hs1 HT0 HT1 HS
      go_wp2
      clear hg1
      go_loopw [32] (fun i wr => ∃ k : Nat, k ≤ l1.length ∧ i = .int .i64 k ∧ Aside0 (wr.heap[gb]? = some (.cells #[.slice A0 l0.length c0, .slice A1 l1.length c1, .slice A2 l2.length c2, .slice A3 l3.length c3] 59 (0, 0))) ∧ Aside0 (Below w.heap.size w wr) ∧ Aside0 (wrongAt l0 l1 0 = wrongAt l0 (l1.drop k) k)) (fun i _ => l1.length - (intOf i).toNat)
      case atStart => exact ⟨0, Nat.zero_le _, rfl, HX, HB, ⟨rfl⟩⟩
      case round =>
        obtain ⟨k, hk, rfl, HX, HB, HW⟩ := hrel
        by_cases hlt : k < l1.length
        · skip
          obtain ⟨ad, cs, e, hcl, hK, hcells⟩ := Kd.C_get HR1.out z68 (k : Int) (by omega) (by omega)
          obtain ⟨x, hx⟩ : ∃ x, x = rd_T68 l1 (k : Int) := ⟨_, rfl⟩
          have hK' : k68.K w x cs := by rw [hx]; exact hK
          have HC := Aside0.mk (fun (j : Nat) (v : Value) (h : cs[j]? = some v) => (show wr.cell? ((ad.add (k * 32)).add j) = some v by rw [addr_add_add]; have := hcells j v h; rw [Int.toNat_natCast] at this; exact (HB.out.cell (World.block_lt_of_cell? w _ this)).trans this))
          have HCL := Aside0.mk (show (Try.prog.info? 68).map (fun i => i.size) = some cs.length by rw [hcl]; exact size68)
          have HO := Aside0.mk (k68.K_one hK')
          have HK := Aside0.mk hK'
          have HLN := Aside0.mk hcl
          have HST := Aside0.mk (show wrongAt l0 (l1.drop k) k = if wrongL l0 x = 0 then wrongAt l0 (l1.drop (k + 1)) ((k + 1 : Nat) : Int) else some (fault (wrongL l0 x) k) by rw [hx]; exact wrong_step hlt)
          clear hcells hK hcl hK' hx
          cases e
          go_wp2_with (first | ((with_reducible refine gate_load (t := 68) rfl ?_); refine load_list rfl rfl rfl Try.underlying68 rfl HCL.out HC.out ?_) | ((with_reducible refine gate_dst (N := 7) rfl ?_); refine hold ?_))
          refine Hold.intro (alloc_obj rfl rfl rfl ?_)
          intro g2 hg2 w2 hbox hb
          have HB2 := Aside0.mk (below_step HB.out hb)
          have HG2 := Aside0.mk (show w.heap.size ≤ g2 by rw [hg2]; exact HB.out.size)
          have HNE := Aside0.mk (show gb ≠ g2 by rw [hg2]; exact Nat.ne_of_lt (blk_lt HX.out))
          have HY2 := Aside0.mk hbox
          have HX2 := Aside0.mk (blk_below HX.out hb)
          clear hg2 hbox hb HC HX HB
          go_wp2_with ((with_reducible refine gate_store (t := 68) (p := 7) rfl ?_); refine hold ?_)
          refine Hold.intro (box_store_event (t := 68) (ty := 68) (p := 7) (x := .tmp 36) (g := g2) (cs := zcObj) (cs' := cs.toArray) rfl rfl rfl rfl rfl (by rw [HCL.out, List.size_toArray]) HY2.out (by rw [List.size_toArray, HLN.out]; rfl) (by simpa using HO.out) ?_)
          intro w3 hbox3 hg3'
          have HB3 := Aside0.mk (Below.grown HB2.out hg3' HB2.out.size (fun k_ e_ => by injection e_ with e_; subst e_; exact HG2.out))
          have HX3 := Aside0.mk (blk_grown HX2.out hg3' (fun e_ => HNE.out (Option.some.inj e_)))
          have HY3 := Aside0.mk (fun (j : Nat) (v : Value) (h : cs[j]? = some v) => (show w3.cell? ((⟨g2, 0, none⟩ : Addr).add j) = some v by rw [add_plain, blk_cell hbox3 j]; simpa using h))
          have hg0 : w3.cell? ⟨gb, 0, none⟩ = some (.slice A0 l0.length c0) := (blk_cell HX3.out 0).trans rfl
          have hg1 : w3.cell? ⟨gb, 1, none⟩ = some (.slice (some ad) l1.length c1) := (blk_cell HX3.out 1).trans rfl
          have hg2 : w3.cell? ⟨gb, 2, none⟩ = some (.slice A2 l2.length c2) := (blk_cell HX3.out 2).trans rfl
          have hg3 : w3.cell? ⟨gb, 3, none⟩ = some (.slice A3 l3.length c3) := (blk_cell HX3.out 3).trans rfl
          clear hbox3 hg3' HX2 HY2 HB2 HLN HO HG2 HNE
          go_wp2_with (first | ((with_reducible refine gate_load (t := 68) rfl ?_); refine load_list rfl rfl rfl Try.underlying68 rfl HCL.out HY3.out ?_) | (go_at_call 101; refine hold ?_))
          refine Hold.intro ((wrong_calls A0 c0 l0 (some ad) c1 l1 A2 c2 l2 A3 c3 l3 x cs w3 (Kd.C_below HR0.out HB3.out) HC0.out (Kd.C_below HR1.out HB3.out) HC1.out (Kd.C_below HR2.out HB3.out) HC2.out (Kd.C_below HR3.out HB3.out) HC3.out (k68.K_below HB3.out HK.out)).mono ?_)
          rintro e w6 ⟨rfl, hb⟩
          have HB6 := Aside0.mk (below_step HB3.out hb)
          have HX6 := Aside0.mk (blk_below HX3.out hb)
          have hps := wrongL_pos l0 x
          clear hb hg0 hg1 hg2 hg3 HX3 HB3 HY3 HCL HK
          by_cases hz : wrongL l0 x = 0
          · have HE := Aside0.mk (show wrongAt l0 l1 0 = wrongAt l0 (l1.drop (k + 1)) ((k + 1 : Nat) : Int) by rw [HW.out, HST.out, if_pos hz])
            rw [hz]
            clear hz hps HST HW
            go_wp2
            go_roundw
            case rel => exact ⟨k + 1, by omega, by simp, HX6, HB6, HE⟩
            case measure => simp [intOf]; omega
          · have HE := Aside0.mk (show soundL l0 l1 = some (fault (wrongL l0 x) k) by rw [HSN.out, HW.out, HST.out, if_neg hz])
            have HP := Aside0.mk hps
            clear hps HST HW
            go_wp2
            go_ret
            exact ⟨retF HP.out (by omega) (by omega) HE.out, HB6.out⟩
        · obtain rfl : k = l1.length := by omega
          have HSN2 := Aside0.mk (show soundL l0 l1 = fullAt l1 l0 0 by rw [HSN.out, HW.out]; simp [wrongAt])
          have hg0 : wr.cell? ⟨gb, 0, none⟩ = some (.slice A0 l0.length c0) := (blk_cell HX.out 0).trans rfl
          clear HW hk hlt
          go_wp2
          clear hg0
          go_loopw [50] (fun i wr => ∃ k : Nat, k ≤ l0.length ∧ i = .int .i64 k ∧ Aside0 (wr.heap[gb]? = some (.cells #[.slice A0 l0.length c0, .slice A1 l1.length c1, .slice A2 l2.length c2, .slice A3 l3.length c3] 59 (0, 0))) ∧ Aside0 (Below w.heap.size w wr) ∧ Aside0 (fullAt l1 l0 0 = fullAt l1 (l0.drop k) k)) (fun i _ => l0.length - (intOf i).toNat)
          case atStart => exact ⟨0, Nat.zero_le _, rfl, HX, HB, ⟨rfl⟩⟩
          case round =>
            obtain ⟨k, hk, rfl, HX, HB, HW⟩ := hrel
            by_cases hlt : k < l0.length
            · skip
              obtain ⟨ad, cs, e, hcl, hK, hcells⟩ := Kd.C_get HR0.out z68 (k : Int) (by omega) (by omega)
              obtain ⟨x, hx⟩ : ∃ x, x = rd_T68 l0 (k : Int) := ⟨_, rfl⟩
              have hK' : k68.K w x cs := by rw [hx]; exact hK
              have HC := Aside0.mk (fun (j : Nat) (v : Value) (h : cs[j]? = some v) => (show wr.cell? ((ad.add (k * 32)).add j) = some v by rw [addr_add_add]; have := hcells j v h; rw [Int.toNat_natCast] at this; exact (HB.out.cell (World.block_lt_of_cell? w _ this)).trans this))
              have HCL := Aside0.mk (show (Try.prog.info? 68).map (fun i => i.size) = some cs.length by rw [hcl]; exact size68)
              have HO := Aside0.mk (k68.K_one hK')
              have HK := Aside0.mk hK'
              have HLN := Aside0.mk hcl
              have HST := Aside0.mk (show fullAt l1 (l0.drop k) k = if fitsI (usedL l1 x.f1) x.f5.f0 x.f5.f1 = true then fullAt l1 (l0.drop (k + 1)) ((k + 1 : Nat) : Int) else some (fault 23 k) by rw [hx]; exact full_step hlt)
              clear hcells hK hcl hK' hx
              cases e
              go_wp2_with (first | ((with_reducible refine gate_load (t := 68) rfl ?_); refine load_list rfl rfl rfl Try.underlying68 rfl HCL.out HC.out ?_) | ((with_reducible refine gate_dst (N := 10) rfl ?_); refine hold ?_))
              refine Hold.intro (alloc_obj rfl rfl rfl ?_)
              intro g2 hg2 w2 hbox hb
              have HB2 := Aside0.mk (below_step HB.out hb)
              have HG2 := Aside0.mk (show w.heap.size ≤ g2 by rw [hg2]; exact HB.out.size)
              have HNE := Aside0.mk (show gb ≠ g2 by rw [hg2]; exact Nat.ne_of_lt (blk_lt HX.out))
              have HY2 := Aside0.mk hbox
              have HX2 := Aside0.mk (blk_below HX.out hb)
              clear hg2 hbox hb HC HX HB
              go_wp2_with ((with_reducible refine gate_store (t := 68) (p := 10) rfl ?_); refine hold ?_)
              refine Hold.intro (box_store_event (t := 68) (ty := 68) (p := 10) (x := .tmp 54) (g := g2) (cs := zcObj) (cs' := cs.toArray) rfl rfl rfl rfl rfl (by rw [HCL.out, List.size_toArray]) HY2.out (by rw [List.size_toArray, HLN.out]; rfl) (by simpa using HO.out) ?_)
              intro w3 hbox3 hg3'
              have HB3 := Aside0.mk (Below.grown HB2.out hg3' HB2.out.size (fun k_ e_ => by injection e_ with e_; subst e_; exact HG2.out))
              have HX3 := Aside0.mk (blk_grown HX2.out hg3' (fun e_ => HNE.out (Option.some.inj e_)))
              have HCX := Aside0.mk (show cs.toArray[1]? = some (.string x.f1) ∧ cs.toArray[5]? = some (.int .i64 x.f5.f0) ∧ cs.toArray[6]? = some (.int .i64 x.f5.f1) by
                obtain ⟨hc1, -, -, -⟩ := K_cells HK.out
                obtain ⟨hc5, hc6⟩ := K_room HK.out
                exact ⟨by simpa using hc1, by simpa using hc5, by simpa using hc6⟩)
              have HUS := Aside0.mk (used_is l0 l1 l2 l3 x.f1 hb1)
              have HY3 := Aside0.mk hbox3
              clear hbox3 hg3' HX2 HY2 HB2 HLN HO HG2 HNE HK HCL
              go_wp2
              have HB4 := Aside0.mk (below_drew1 HB3.out)
              have HX4 := Aside0.mk (blk_drew HX3.out)
              have HY4 := Aside0.mk (blk_drew HY3.out)
              clear HB3 HX3 HY3
              refine start_ (n := 8) (S := fun w' => w'.cell? ⟨gb, 0, none⟩ = some (.slice (some ad) l0.length c0) ∧ w'.cell? ⟨gb, 1, none⟩ = some (.slice A1 l1.length c1) ∧ w'.cell? ⟨gb, 2, none⟩ = some (.slice A2 l2.length c2) ∧ w'.cell? ⟨gb, 3, none⟩ = some (.slice A3 l3.length c3) ∧ w'.cell? ⟨g2, 1, none⟩ = some (.string x.f1) ∧ w'.cell? ⟨g2, 5, none⟩ = some (.int .i64 x.f5.f0) ∧ w'.cell? ⟨g2, 6, none⟩ = some (.int .i64 x.f5.f1)) (ds := []) #[false, false, false, false, false, false, false, false] (by kernel_rfl) rfl rfl ⟨(blk_cell HX4.out 0).trans rfl, (blk_cell HX4.out 1).trans rfl, (blk_cell HX4.out 2).trans rfl, (blk_cell HX4.out 3).trans rfl, (blk_cell HY4.out 1).trans HCX.out.1, (blk_cell HY4.out 5).trans HCX.out.2.1, (blk_cell HY4.out 6).trans HCX.out.2.2⟩ (fun hHeld => ?_); refine with_tabW rules_Sound.tab18 rules_Sound.bits18 (fun HT_ HW_ => ?_)
              generalize w3.drew = w4 at HB4 HX4 HY4 hHeld ⊢
              refine pure_ (i := 1) (N := some 56) (v := ?_) (a' := ?_) #[false, true, false, false, false, false, false, false] rfl rfl (any_of HT_.out (by kernel_rfl)) (fun _ _ _ h => h) (Or.inl ⟨by rfl, ?_⟩) ?_ ?_
              rotate_left
              · intro w'
                go_simp
                with_reducible rfl
              rotate_left
              · simp only [Act.put, List.setIfInBounds_toArray, List.set_cons_zero, List.set_cons_succ, i64_w, i32_w]
                rfl
              refine pure_ (i := 4) (N := some 59) (v := ?_) (a' := ?_) #[false, true, false, false, true, false, false, false] rfl rfl (any_of HT_.out (by kernel_rfl)) (fun _ _ _ h => h) (Or.inl ⟨by rfl, ?_⟩) ?_ ?_
              rotate_left
              · intro w'
                go_simp
                with_reducible rfl
              rotate_left
              · simp only [Act.put, List.setIfInBounds_toArray, List.set_cons_zero, List.set_cons_succ, i64_w, i32_w]
                rfl
              refine take_ (i := 0) (N := some 55) (v := ?_) (a' := ?_) #[true, true, false, false, true, false, false, false] rfl rfl (take_ofW HT_.out HW_.out (by kernel_rfl)) (fun _ _ _ h => h) (Or.inl ⟨by rfl, ?_⟩) hHeld ?_ ?_
              rotate_left
              · rintro w' ⟨s0, s1, s2, s3, s4, s5, s6⟩
                go_simp
                with_reducible rfl
              rotate_left
              · simp only [Act.put, List.setIfInBounds_toArray, List.set_cons_zero, List.set_cons_succ, i64_w, i32_w]
                rfl
              refine take_ (i := 2) (N := some 57) (v := ?_) (a' := ?_) #[true, true, true, false, true, false, false, false] rfl rfl (take_ofW HT_.out HW_.out (by kernel_rfl)) (fun _ _ _ h => h) (Or.inl ⟨by rfl, ?_⟩) hHeld ?_ ?_
              rotate_left
              · rintro w' ⟨s0, s1, s2, s3, s4, s5, s6⟩
                go_simp
                with_reducible rfl
              rotate_left
              · simp only [Act.put, List.setIfInBounds_toArray, List.set_cons_zero, List.set_cons_succ, i64_w, i32_w]
                rfl
              refine take_ (i := 5) (N := some 60) (v := ?_) (a' := ?_) #[true, true, true, false, true, true, false, false] rfl rfl (take_ofW HT_.out HW_.out (by kernel_rfl)) (fun _ _ _ h => h) (Or.inl ⟨by rfl, ?_⟩) hHeld ?_ ?_
              rotate_left
              · rintro w' ⟨s0, s1, s2, s3, s4, s5, s6⟩
                go_simp
                with_reducible rfl
              rotate_left
              · simp only [Act.put, List.setIfInBounds_toArray, List.set_cons_zero, List.set_cons_succ, i64_w, i32_w]
                rfl
              refine one_ (i := 3) (N := some 58) #[true, true, true, true, true, true, false, false] rfl rfl (one_of HT_.out (by kernel_rfl)) (by decide) (fun K hK => ?_)
              refine goes_ Try.func38 (by kernel_rfl) rfl #[.agg #[.slice (some ad) l0.length c0, .slice A1 l1.length c1, .slice A2 l2.length c2, .slice A3 l3.length c3], .string x.f1] (by rfl) rfl rfl (by (try simp only [List.map_toArray, List.map_cons, List.map_nil]); first | done | rfl | (simp only [List.length_drop, List.length_take]; rfl)) ?_
              refine (rules_Used.calls (l1.length + 1) _ _ l0 _ _ l1 _ _ l2 _ _ l3 x.f1 (usedL l1 x.f1).1 (usedL l1 x.f1).2 _ (Kd.C_below HR0.out HB4.out) HC0.out (Kd.C_below HR1.out HB4.out) HC1.out (Kd.C_below HR2.out HB4.out) HC2.out (Kd.C_below HR3.out HB4.out) HC3.out HUS.out).mono ?_
              rintro e w5' ⟨rfl, hb⟩
              refine ⟨_, rfl, ?_⟩
              have HB5' := Aside0.mk (below_step HB4.out hb)
              have HX5' := Aside0.mk (blk_below HX4.out hb)
              have HY5' := Aside0.mk (blk_below HY4.out hb)
              clear hb HB4 HX4 HY4
              refine hK.out _ _ ⟨(blk_cell HX5'.out 0).trans rfl, (blk_cell HX5'.out 1).trans rfl, (blk_cell HX5'.out 2).trans rfl, (blk_cell HX5'.out 3).trans rfl, (blk_cell HY5'.out 1).trans HCX.out.1, (blk_cell HY5'.out 5).trans HCX.out.2.1, (blk_cell HY5'.out 6).trans HCX.out.2.2⟩ (fun hHeld => ?_)
              clear hK K
              refine norm_ (a' := ?_) ?_ ?_
              rotate_left
              · show Act.put _ (some 58) _ = _
                simp only [Act.put, List.setIfInBounds_toArray, List.set_cons_zero, List.set_cons_succ, i64_w, i32_w]
                rfl
              refine one_ (i := 6) (N := some 61) #[true, true, true, true, true, true, true, false] rfl rfl (one_of HT_.out (by kernel_rfl)) (by decide) (fun K hK => ?_)
              refine goes_ Try.func102 (by kernel_rfl) rfl #[.agg #[.int .i64 (usedL l1 x.f1).1, .int .i64 (usedL l1 x.f1).2], .agg #[.int .i64 x.f5.f0, .int .i64 x.f5.f1]] (by rfl) rfl rfl (by (try simp only [List.map_toArray, List.map_cons, List.map_nil]); first | done | rfl | (simp only [List.length_drop, List.length_take]; rfl)) ?_
              refine (amount_Fits.calls _ _ _ _ (fitsI (usedL l1 x.f1) x.f5.f0 x.f5.f1) _ (fits_is _ _ _)).mono ?_
              rintro e w6 ⟨rfl, hb⟩
              refine ⟨_, rfl, ?_⟩
              have HB6 := Aside0.mk (below_step HB5'.out hb)
              have HX6 := Aside0.mk (blk_below HX5'.out hb)
              have HY6 := Aside0.mk (blk_below HY5'.out hb)
              clear hb HB5' HX5' HY5'
              refine hK.out _ _ ⟨(blk_cell HX6.out 0).trans rfl, (blk_cell HX6.out 1).trans rfl, (blk_cell HX6.out 2).trans rfl, (blk_cell HX6.out 3).trans rfl, (blk_cell HY6.out 1).trans HCX.out.1, (blk_cell HY6.out 5).trans HCX.out.2.1, (blk_cell HY6.out 6).trans HCX.out.2.2⟩ (fun hHeld => ?_)
              clear hK K
              refine norm_ (a' := ?_) ?_ ?_
              rotate_left
              · show Act.put _ (some 61) _ = _
                simp only [Act.put, List.setIfInBounds_toArray, List.set_cons_zero, List.set_cons_succ, i64_w, i32_w]
                rfl
              refine pure_ (i := 7) (N := some 62) (v := ?_) (a' := ?_) #[true, true, true, true, true, true, true, true] rfl rfl (any_of HT_.out (by kernel_rfl)) (fun _ _ _ h => h) (Or.inl ⟨by rfl, ?_⟩) ?_ ?_
              rotate_left
              · intro w'
                go_simp
                with_reducible rfl
              rotate_left
              · simp only [Act.put, List.setIfInBounds_toArray, List.set_cons_zero, List.set_cons_succ, i64_w, i32_w]
                rfl
              refine done_ (done_of HT_.out (by kernel_rfl)) ?_
              by_cases hf : fitsI (usedL l1 x.f1) x.f5.f0 x.f5.f1 = true
              · have HE := Aside0.mk (show fullAt l1 l0 0 = fullAt l1 (l0.drop (k + 1)) ((k + 1 : Nat) : Int) by rw [HW.out, HST.out, if_pos hf])
                rw [hf]
                clear hf HST HW
                go_wp2
                go_roundw
                case rel => exact ⟨k + 1, by omega, by simp, HX6, HB6, HE⟩
                case measure => simp [intOf]; omega
              · have hf' : fitsI (usedL l1 x.f1) x.f5.f0 x.f5.f1 = false := Bool.eq_false_iff.mpr hf
                have HE := Aside0.mk (show soundL l0 l1 = some (fault 23 k) by rw [HSN2.out, HW.out, HST.out, if_neg hf])
                rw [hf']
                clear hf hf' HST HW
                go_wp2
                go_ret
                exact ⟨retF (by decide) (by omega) (by omega) HE.out, HB6.out⟩
            · obtain rfl : k = l0.length := by omega
              have HE := Aside0.mk (show soundL l0 l1 = none by rw [HSN2.out, HW.out]; simp [fullAt])
              go_wp2
              go_ret
              exact ⟨by rw [HE.out]; rfl, HB.out⟩
def rules_Sound.f (l0_0 l0_1 l0_2 l0_3 : List S68) : Option (Option Int) := if (namesOK l0_0 && namesOK l0_1) = true then some (soundL l0_0 l0_1) else none
theorem rules_Sound.calls (A0_0 : Option Addr) (c0_0 : Nat) (l0_0 : List S68) (A0_1 : Option Addr) (c0_1 : Nat) (l0_1 : List S68) (A0_2 : Option Addr) (c0_2 : Nat) (l0_2 : List S68) (A0_3 : Option Addr) (c0_3 : Nat) (l0_3 : List S68) (r : Option Int) (w : World)
    (hr0_0 : k68.C w A0_0 l0_0.length l0_0) (hc0_0 : l0_0.length ≤ c0_0) (hr0_1 : k68.C w A0_1 l0_1.length l0_1) (hc0_1 : l0_1.length ≤ c0_1) (hr0_2 : k68.C w A0_2 l0_2.length l0_2) (hc0_2 : l0_2.length ≤ c0_2) (hr0_3 : k68.C w A0_3 l0_3.length l0_3) (hc0_3 : l0_3.length ≤ c0_3) (h : rules_Sound.f l0_0 l0_1 l0_2 l0_3 = some r) :
    Calls Try.prog 55 #[.agg #[.slice A0_0 l0_0.length c0_0, .slice A0_1 l0_1.length c0_1, .slice A0_2 l0_2.length c0_2, .slice A0_3 l0_3.length c0_3]] w fun e w' => e = .returned (errW r) ∧ Below w.heap.size w w' := by
  unfold rules_Sound.f at h
  by_cases hz : (namesOK l0_0 && namesOK l0_1) = true
  · rw [if_pos hz] at h
    obtain rfl := Option.some.inj h
    rw [Bool.and_eq_true] at hz
    exact rules_Sound.walked A0_0 c0_0 l0_0 A0_1 c0_1 l0_1 A0_2 c0_2 l0_2 A0_3 c0_3 l0_3 w hr0_0 hc0_0 hr0_1 hc0_1 hr0_2 hc0_2 hr0_3 hc0_3 hz.1 hz.2
  · rw [if_neg hz] at h; exact absurd h (by simp)
end Go.Proofs.Ytamjjeakkkdfhaa.G
end
section
namespace Go.Proofs.Ytamjjeakkkdfhaa.G
open Go.RowKit Go.Proofs.YtamjjeakkkdfhaaW.PrintWords Go.Proofs.YtamjjeakkkdfhaaW.PrintLast Go.Proofs.YtamjjeakkkdfhaaW.PrintMore
open Go.Proofs.Ytamjjeakkkdfhaa.K Go.Proofs.YtamjjeakkkdfhaaE
set_option linter.unusedVariables false
def namesL (l : List S68) : List (List UInt8) := l.map fun x => x.f1.data.toList
theorem namedL_iff (l : List S68) (s : List UInt8) : namedL l s = true ↔ s ∈ namesL l := by
  unfold namedL namesL
  simp only [List.any_eq_true, beq_iff_eq, List.mem_map]
theorem twiceFrom_neg : ∀ (l pre : List S68) (i : Int), 0 ≤ i → (twiceFrom pre l i < 0 ↔ (namesL l).Nodup ∧ ∀ x ∈ l, x.f1.data.toList ∉ namesL pre)
  | [], pre, i, h => by simp [twiceFrom, namesL]
  | x :: r, pre, i, h => by
    have ih := twiceFrom_neg r (pre ++ [x]) (i + 1) (by omega)
    simp only [twiceFrom]
    by_cases hn : namedL pre x.f1.data.toList = true
    · rw [if_pos hn]
      constructor
      · intro h'; omega
      · rintro ⟨-, h'⟩; exact absurd ((namedL_iff _ _).1 hn) (h' x List.mem_cons_self)
    · rw [if_neg hn, ih]
      have hn' : x.f1.data.toList ∉ namesL pre := fun h' => hn ((namedL_iff _ _).2 h')
      have e : namesL (pre ++ [x]) = namesL pre ++ [x.f1.data.toList] := by simp [namesL]
      have e2 : namesL (x :: r) = x.f1.data.toList :: namesL r := rfl
      rw [e, e2, List.nodup_cons]
      constructor
      · rintro ⟨h1, h2⟩
        refine ⟨⟨fun hm => ?_, h1⟩, fun y hy => ?_⟩
        · obtain ⟨y, hy, he⟩ := List.mem_map.1 hm
          exact h2 y hy (by rw [List.mem_append]; right; rw [List.mem_singleton]; exact he)
        · rcases List.mem_cons.1 hy with rfl | hy
          · exact hn'
          · exact fun hm => h2 y hy (List.mem_append_left _ hm)
      · rintro ⟨⟨h1, h2⟩, h3⟩
        refine ⟨h2, fun y hy hm => ?_⟩
        rcases List.mem_append.1 hm with hm | hm
        · exact h3 y (List.mem_cons_of_mem _ hy) hm
        · rw [List.mem_singleton] at hm
          exact h1 (by rw [← hm]; exact List.mem_map.2 ⟨y, hy, rfl⟩)
theorem twiceL_neg (l : List S68) : twiceL l < 0 ↔ (namesL l).Nodup := by
  unfold twiceL
  rw [twiceFrom_neg l [] 0 (by omega)]
  simp [namesL]
theorem wrongAt_none (n : List S68) : ∀ (l : List S68) (i : Int), wrongAt n l i = none ↔ ∀ x ∈ l, wrongL n x = 0
  | [], i => by simp [wrongAt]
  | x :: r, i => by
    simp only [wrongAt]
    by_cases h : wrongL n x = 0
    · rw [if_pos h, wrongAt_none n r]
      simp [h]
    · rw [if_neg h]
      simp [h]
theorem fullAt_none (p : List S68) : ∀ (l : List S68) (i : Int), fullAt p l i = none ↔ ∀ x ∈ l, fitsI (usedL p x.f1) x.f5.f0 x.f5.f1 = true
  | [], i => by simp [fullAt]
  | x :: r, i => by
    simp only [fullAt]
    by_cases h : fitsI (usedL p x.f1) x.f5.f0 x.f5.f1 = true
    · rw [if_pos h, fullAt_none p r]
      simp [h]
    · rw [if_neg h]
      simp [h]
theorem soundL_none (l0 l1 : List S68) : soundL l0 l1 = none ↔ (namesL l0).Nodup ∧ (namesL l1).Nodup ∧ (∀ x ∈ l1, wrongL l0 x = 0) ∧ ∀ x ∈ l0, fitsI (usedL l1 x.f1) x.f5.f0 x.f5.f1 = true := by
  rw [← twiceL_neg, ← twiceL_neg, ← wrongAt_none l0 l1 0, ← fullAt_none l1 l0 0]
  unfold soundL
  by_cases h0 : 0 ≤ twiceL l0
  · rw [if_pos h0]
    constructor
    · intro h; cases h
    · rintro ⟨h, -⟩; omega
  · rw [if_neg h0]
    by_cases h1 : 0 ≤ twiceL l1
    · rw [if_pos h1]
      constructor
      · intro h; cases h
      · rintro ⟨-, h, -⟩; omega
    · rw [if_neg h1]
      cases h2 : wrongAt l0 l1 0 with
      | none =>
        constructor
        · intro h; exact ⟨by omega, by omega, rfl, h⟩
        · rintro ⟨-, -, -, h⟩; exact h
      | some c => simp
def partI (a : ByteArray) (g : S68 → Int) (x : S68) : Int := if a.toList = ([] : List UInt8) then 0 else if x.f12.toList = a.toList then mx (heldI (g x)) 0 else 0
theorem partI_pos (a : ByteArray) (g : S68 → Int) (x : S68) : 0 ≤ partI a g x := by
  have := (mx_held (g x)).1
  unfold partI
  split
  · omega
  · split <;> omega
def usedSum (l : List S68) (a : ByteArray) (g : S68 → Int) : Int := (l.map (partI a g)).sum
theorem usedSum_cons (x : S68) (l : List S68) (a : ByteArray) (g : S68 → Int) : usedSum (x :: l) a g = partI a g x + usedSum l a g := by simp [usedSum]
theorem usedOne_is (a : ByteArray) (u v : Int) (x : S68) (hu : 0 ≤ u) (hv : 0 ≤ v) : usedOne a (mn u 1125899906842624, mn v 1125899906842624) x = (mn (u + partI a (fun x => x.f16.f0) x) 1125899906842624, mn (v + partI a (fun x => x.f16.f1) x) 1125899906842624) := by
  have h0 := mx_held x.f16.f0
  have h1 := mx_held x.f16.f1
  unfold usedOne partI
  split
  · simp
  · split
    · unfold bothI
      generalize mx (heldI x.f16.f0) 0 = c at *
      generalize mx (heldI x.f16.f1) 0 = d at *
      simp only [mn]
      refine Prod.ext ?_ ?_
      · dsimp only
        repeat' split
        all_goals omega
      · dsimp only
        repeat' split
        all_goals omega
    · simp
theorem used_sum_from (a : ByteArray) : ∀ (l : List S68) (u v : Int), 0 ≤ u → 0 ≤ v → l.foldl (usedOne a) (mn u 1125899906842624, mn v 1125899906842624) = (mn (u + usedSum l a (fun x => x.f16.f0)) 1125899906842624, mn (v + usedSum l a (fun x => x.f16.f1)) 1125899906842624)
  | [], u, v, hu, hv => by simp [usedSum]
  | x :: l, u, v, hu, hv => by
    have h0 := partI_pos a (fun x => x.f16.f0) x
    have h1 := partI_pos a (fun x => x.f16.f1) x
    rw [List.foldl_cons, usedOne_is a u v x hu hv, used_sum_from a l _ _ (by omega) (by omega), usedSum_cons, usedSum_cons, Int.add_assoc, Int.add_assoc]
theorem used_sum (l : List S68) (a : ByteArray) : usedL l a = (mn (usedSum l a (fun x => x.f16.f0)) 1125899906842624, mn (usedSum l a (fun x => x.f16.f1)) 1125899906842624) := by
  have h := used_sum_from a l 0 0 (Int.le_refl _) (Int.le_refl _)
  rw [Int.zero_add, Int.zero_add] at h
  exact h
theorem usedSum_set (a : ByteArray) (g : S68 → Int) (y : S68) : ∀ (l : List S68) (i : Nat) (h : i < l.length), usedSum (l.set i y) a g + partI a g l[i] = usedSum l a g + partI a g y
  | x :: l, 0, h => by simp only [List.set_cons_zero, usedSum_cons, List.getElem_cons_zero]; omega
  | x :: l, i + 1, h => by
    have := usedSum_set a g y l i (by simpa using h)
    simp only [List.set_cons_succ, usedSum_cons, List.getElem_cons_succ]
    omega
theorem namesL_set (l : List S68) (i : Nat) (h : i < l.length) (y : S68) (hy : y.f1 = l[i].f1) : namesL (l.set i y) = namesL l := by
  unfold namesL
  rw [List.map_set, hy]
  apply List.ext_getElem
  · simp
  · intro k h1 h2
    rw [List.getElem_set]
    split
    · rename_i e; subst e; simp
    · rfl
end Go.Proofs.Ytamjjeakkkdfhaa.G
end
