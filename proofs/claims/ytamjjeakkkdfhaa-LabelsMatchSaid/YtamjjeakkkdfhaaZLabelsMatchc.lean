/- Parts of the proof of LabelsMatch: lemmas, put together by a program of this session (pack.py) out of the kit's words, printed contracts and texts of its own. -/
import Derived.Test.YtamjjeakkkdfhaaProg
import Derived.Below
import Derived.Deep.Draws
import Derived.Deep.AppendLies
import Derived.Maps.AppendAt
import Derived.OwnWalk
import Derived.Laws.BytesArg
import Derived.Laws.MakeOwn
import Derived.Laws.OwnMore
import Derived.Deep.OwnRows
import Derived.Tactics
import Derived.Lib.ConvBytes
import Derived.Laws.Slices
import Derived.WalkKit
import Derived.KernelRfl
import Derived.RowKit3
import Derived.Deep.LoopGhost
import Derived.Deep.QuietTactic
import Derived.BigQuiet
import Derived.WideLaws
import Derived.Deep.DeepCutAuto
import Derived.Deep.CutBlock
import Derived.Deep.RegionHeld3
import Derived.Laws.Rows
import Derived.Lib.AppendStr
import Derived.ArgAppend
import Derived.Laws.IdiomCopy
import Derived.OrdersHeld
import Derived.Laws.BitsLemmas
import Derived.RowKit
import Derived.Laws.StructEq
import Derived.RangeFuncNested
import Derived.RangeFuncBound
import Derived.RangeFuncCalls
import Derived.RangeFuncLeaves
import Derived.Shelf.Abstract
import Derived.Shelf.RegionOpen
import Derived.OwnWalkIn
import Derived.TacticsInMore
import Derived.LoopNIn
import Derived.LoopIn
import Derived.Maps.Own
import Derived.Maps.OwnOps
import Derived.Maps.Views
import Derived.StringKeys
import Derived.ChangeArms
import Derived.SizedLaws
import Derived.SliceStrings
import Derived.Maps.OwnIn
import Derived.LoopN
import Derived.Test.YtamjjeakkkdfhaaZLabelsMatcha
import Derived.Test.YtamjjeakkkdfhaaZLabelsMatchb
namespace Foot
end Foot
namespace Go.Proofs.Ytamjjeakkkdfhaa
end Go.Proofs.Ytamjjeakkkdfhaa
namespace Go.Proofs.Ytamjjeakkkdfhaa.G
end Go.Proofs.Ytamjjeakkkdfhaa.G
namespace Go.Proofs.Ytamjjeakkkdfhaa.K
end Go.Proofs.Ytamjjeakkkdfhaa.K
namespace Go.Proofs.Ytamjjeakkkdfhaa.OP
end Go.Proofs.Ytamjjeakkkdfhaa.OP
namespace Go.Proofs.Ytamjjeakkkdfhaa.PB
end Go.Proofs.Ytamjjeakkkdfhaa.PB
namespace Go.Proofs.Ytamjjeakkkdfhaa.PC
end Go.Proofs.Ytamjjeakkkdfhaa.PC
namespace Go.Proofs.Ytamjjeakkkdfhaa.PD
end Go.Proofs.Ytamjjeakkkdfhaa.PD
namespace Go.Proofs.Ytamjjeakkkdfhaa.labelsMatch
end Go.Proofs.Ytamjjeakkkdfhaa.labelsMatch
namespace Go.Proofs.YtamjjeakkkdfhaaE
end Go.Proofs.YtamjjeakkkdfhaaE
namespace Go.Proofs.YtamjjeakkkdfhaaRF
end Go.Proofs.YtamjjeakkkdfhaaRF
namespace Go.Proofs.YtamjjeakkkdfhaaW.PrintLast
end Go.Proofs.YtamjjeakkkdfhaaW.PrintLast
namespace Go.Proofs.YtamjjeakkkdfhaaW.PrintMore
end Go.Proofs.YtamjjeakkkdfhaaW.PrintMore
namespace Go.Proofs.YtamjjeakkkdfhaaW.PrintWords
end Go.Proofs.YtamjjeakkkdfhaaW.PrintWords
namespace Kd
end Kd
section
namespace Go.Proofs.Ytamjjeakkkdfhaa.G
open Go.RowKit Go.Shelf Go.Proofs.YtamjjeakkkdfhaaW.PrintWords Go.Proofs.YtamjjeakkkdfhaaW.PrintLast Go.Proofs.YtamjjeakkkdfhaaW.PrintMore
open Go.Proofs.YtamjjeakkkdfhaaRF Go.Proofs.Ytamjjeakkkdfhaa.K Go.Proofs.YtamjjeakkkdfhaaE Go.Proofs.Ytamjjeakkkdfhaa.PB Go.Proofs.Ytamjjeakkkdfhaa.PC Go.Proofs.Ytamjjeakkkdfhaa.PD
set_option linter.unusedVariables false
set_option linter.unusedSimpArgs false
theorem func_nil (w : World) (g : Fn) (cs lb : Array Value) : (binOp BinOp.eql 25 (.func g cs lb) .nilFunc).run Try.prog w = .ok (.bool false) w := by
  have h : (Op.equalIn (9999 + 1) 25 (.func g cs lb) .nilFunc).run Try.prog w = .ok false w := by
    unfold Op.equalIn
    rw [Sem.run_bind, run_underlying Try.underlying25 w]
    rfl
  show (do pure (Value.bool (← Op.equal 25 (.func g cs lb) .nilFunc)) : Sem Value).run Try.prog w = _
  rw [Sem.run_bind]
  show (Result.andThen ((Op.equalIn (9999 + 1) 25 (.func g cs lb) .nilFunc).run Try.prog w) _) = _
  rw [h]; rfl
attribute [local go_sem high] func_nil
attribute [local go_sem] Oper.semAt_some
attribute [local go_sem] max2_int min2_int max_two min_two
theorem lent_block {w : World} {base : Nat} {ok : Nat → Prop} {l : List S31} {v : Value} (h : kLent.M w base ok l [v]) :
    ∃ g c cs, v = .slice (some ⟨g, 0, none⟩) l.length c ∧ base ≤ g ∧ g < w.heap.size ∧ w.heap[g]? = some (.cells cs 31 (0, 0)) ∧ l.length * 2 ≤ cs.size := by
  obtain ⟨A, c, e, hR⟩ := h
  obtain rfl : v = .slice A l.length c := by simpa using e
  obtain ⟨g, cap, he, hb, hl, cs, hc⟩ := Kd.R_form hR (by rw [lentL_len]; omega)
  have hll := lentL_len l
  obtain ⟨rfl, rfl⟩ : A = some ⟨g, 0, none⟩ ∧ c = cap := by injection he with h1 h2 h3; exact ⟨h1, h3⟩
  refine ⟨g, c, cs, rfl, hb, hl, hc, ?_⟩
  have hC := (Kd.R_reads' hR).2.2
  obtain ⟨ad, e2, h0, h1⟩ := at_T31 hC ((l.length + 15 : Nat) : Int) (by omega) (by omega)
  cases e2
  rw [Int.toNat_natCast] at h1
  by_cases hs : l.length * 2 ≤ cs.size
  · exact hs
  · exfalso
    have h2 : w.cell? ⟨g, 0 + (l.length + 15) * 2 + 1, none⟩ = cs[0 + (l.length + 15) * 2 + 1]? := by simp [World.cell?, hc]
    have h3 : cs[0 + (l.length + 15) * 2 + 1]? = none := Array.getElem?_eq_none (by omega)
    rw [h3] at h2
    have h4 := h1.symm.trans h2
    cases h4
theorem C_take {w : World} {A : Option Addr} {n m : Nat} {xs : List S31} (h : k31.C w A n xs) (hm : m ≤ n) : k31.C w A m (xs.take m) := by
  have hn : xs.length = n := h.1
  refine ⟨by rw [List.length_take]; omega, by have := h.2.1; omega, fun h0 => ?_⟩
  obtain ⟨ad, e, hc⟩ := h.2.2 (by omega)
  refine ⟨ad, e, fun j p hj => hc j p ?_⟩
  rw [List.getElem?_take] at hj
  split at hj
  · exact hj
  · cases hj
theorem useA0 {α : Type} {G : Prop} (A0 : α) (h : G) : G := h
theorem useA1 {α : Type} {G : Prop} (A1 : α) (h : G) : G := h
theorem useA2 {α : Type} {G : Prop} (A2 : α) (h : G) : G := h
theorem R_top {w w1 : World} {base g : Nat} {v : Value} {xs : List S31} (h : k31.R 31 w base (fun _ => True) v xs) (hg : w.grownBy w1 (some g)) (hn : g < base) : k31.R 31 w1 base (fun _ => True) v xs :=
  Kd.R_mono (Kd.R_grown (Kd.R_bound h) hg (fun k hk e => by injection e with e; have := hk.2.1; omega)) (fun _ _ => trivial)
theorem BoxRow.grown {bl g : Nat} {w w1 : World} {acc : List S31} (h : BoxRow bl w acc) (hg : w.grownBy w1 (some g)) (hn : g < bl) : BoxRow bl w1 acc := by
  obtain ⟨v, h1, h2⟩ := h
  exact ⟨v, blk_grown h1 hg (fun e => by injection e with e; omega), R_top h2 hg hn⟩
def Got (g b : Nat) (W : World) (acc : List S31) : Prop := ∃ v, W.heap[g]? = some (.cells #[v] 22 (0, 0)) ∧ k31.R 31 W b (fun _ => True) v acc
theorem Got.below {g b : Nat} {w w1 : World} {acc : List S31} (h : Got g b w acc) (hb : Below w.heap.size w w1) : Got g b w1 acc := by
  obtain ⟨v, h1, h2⟩ := h; exact ⟨v, blk_below h1 hb, Kd.R_below h2 hb⟩
theorem Got.grown {g b : Nat} {w w1 : World} {acc : List S31} {row : Option Nat} (h : Got g b w acc) (hg : w.grownBy w1 row) (hr : ∀ r, row = some r → r ≠ g ∧ r < b) : Got g b w1 acc := by
  obtain ⟨v, h1, h2⟩ := h
  exact ⟨v, blk_grown h1 hg (fun e => (hr g e.symm).1 rfl), Kd.R_mono (Kd.R_grown (Kd.R_bound h2) hg (fun k hk e => by have := (hr k e.symm).2; have := hk.2.1; omega)) (fun _ _ => trivial)⟩
set_option maxRecDepth 100000 in
set_option maxHeartbeats 16000000 in
theorem match_walk (A0 : Option Addr) (c0 : Nat) (l0 : List S31) (A1 : Option Addr) (c1 : Nat) (l1 : List S31) (a2 : Int) (w : World) (hr0 : k31.C w A0 l0.length l0) (hc0 : l0.length ≤ c0) (hr1 : k31.C w A1 l1.length l1) (hc1 : l1.length ≤ c1) (hz0 : l0.length * 32 ≤ 140737488351232) (hz1 : l1.length * 32 ≤ 140737488351232) :
    Calls Try.prog 3 #[.slice A0 l0.length c0, .slice A1 l1.length c1, .int .i64 a2] w fun e w' => e = .returned (.bool true) ∧ Below w.heap.size w w' := by
  have HR0 := Aside0.mk hr0
  have HC0 := Aside0.mk hc0
  have HZ0 := Aside0.mk hz0
  have HN0 := Aside0.mk (show l0.length ≤ 4398046511000 by omega)
  have HR1 := Aside0.mk hr1
  have HC1 := Aside0.mk hc1
  have HZ1 := Aside0.mk hz1
  have HN1 := Aside0.mk (show l1.length ≤ 4398046511000 by omega)
  clear hr0 hc0 hr1 hc1 hz0 hz1
  have hu31 := Try.underlying31
  have hu22 := Try.underlying22
  refine (callsIn_wide (n := 0)).1 ?_
  refine callsIn_of_wp_marks Try.func3 rfl trivial ?_
  simp only [Try.ntmps3, List.size_toArray, List.length_cons, List.length_nil, Nat.reduceAdd, Nat.reduceSub, Array.replicate_succ, Array.replicate_zero, List.push_toArray, List.append_toArray, List.nil_append, List.cons_append]
  refine wpIn_wide.2 ?_
  have HB0 := Aside0.mk (Below.refl w.heap.size w)
  go_wp2_with (go_at_call 13; refine hold ?_)
  refine Hold.intro ((lent_labels A0 c0 l0 _ (Kd.C_below HR0.out HB0.out) HC0.out HN0.out).mono ?_)
  rintro e w1_ ⟨v7, rfl, hm, hb⟩
  have HB1 := Aside0.mk (below_step HB0.out hb)
  clear HB0 hb
  have HM0 := Aside0.mk hm
  clear hm
  obtain ⟨g7, c7, cs7, rfl, b7, y7, hg7, hs7⟩ := lent_block HM0.out
  have HG7 := Aside0.mk hg7
  have HS7 := Aside0.mk hs7
  have HY7 := Aside0.mk (show w.heap.size ≤ g7 ∧ g7 < w1_.heap.size from ⟨b7, y7⟩)
  have HK0 := Aside0.mk (kLent.K_of_M HM0.out)
  clear b7 y7 hg7 hs7 HM0
  replace HR0 := Aside0.mk (Kd.C_below HR0.out HB1.out)
  replace HR1 := Aside0.mk (Kd.C_below HR1.out HB1.out)
  have HW := Aside0.mk HB1.out
  clear HB1
  have HB2 := Aside0.mk (Below.refl w1_.heap.size w1_)
  go_wp2_with (go_at_call 13; refine hold ?_)
  refine Hold.intro ((lent_labels A1 c1 l1 _ (Kd.C_below HR1.out HB2.out) HC1.out HN1.out).mono ?_)
  rintro e w2_ ⟨v8, rfl, hm, hb⟩
  have HB3 := Aside0.mk (below_step HB2.out hb)
  clear HB2 hb
  have HK1 := Aside0.mk (kLent.K_of_M hm)
  clear hm
  obtain ⟨A8, c8, e8, l8, g8⟩ := HK1.out
  obtain rfl : v8 = .slice A8 l1.length c8 := by simpa using e8
  replace HR0 := Aside0.mk (Kd.C_below HR0.out HB3.out)
  replace HR1 := Aside0.mk (Kd.C_below HR1.out HB3.out)
  replace HK0 := Aside0.mk (kLent.K_below HB3.out HK0.out)
  replace HG7 := Aside0.mk (blk_below HG7.out HB3.out)
  replace HY7 := Aside0.mk ((⟨HY7.out.1, Nat.lt_of_lt_of_le HY7.out.2 (HB3.out).size⟩ : w.heap.size ≤ g7 ∧ g7 < w2_.heap.size))
  replace HW := Aside0.mk (below_step HW.out HB3.out)
  clear HB3
  have HB4 := Aside0.mk (Below.refl w2_.heap.size w2_)
  have HF1 := Aside0.mk (C_front g8)
  have HCF1 := Aside0.mk (show l1.length ≤ c8 by omega)
  clear e8 l8 g8
  have HF0 := Aside0.mk (show k31.C w2_ (some ⟨g7, 0, none⟩) l0.length l0 by
    obtain ⟨A7, c7_, e7, l7, g7_⟩ := HK0.out
    obtain ⟨rfl, rfl⟩ : some ⟨g7, 0, none⟩ = A7 ∧ c7 = c7_ := by simpa using e7
    exact C_front g7_)
  have HCF0 := Aside0.mk (show l0.length ≤ c7 by
    obtain ⟨A7, c7_, e7, l7, g7_⟩ := HK0.out
    obtain ⟨rfl, rfl⟩ : some ⟨g7, 0, none⟩ = A7 ∧ c7 = c7_ := by simpa using e7
    omega)
  go_wp2_with (go_at_call 14; refine hold ?_)
  refine Hold.intro ((labels_Common.calls (some ⟨g7, 0, none⟩) c7 l0 A8 c8 l1 _ (Kd.C_below HF0.out HB4.out) (Kd.C_below HF1.out HB4.out) HZ0.out).mono ?_)
  rintro e w3_ ⟨rfl, hx, hb⟩
  have HB5 := Aside0.mk (below_step HB4.out hb)
  clear HB4 hb
  obtain ⟨bl, hbl⟩ : ∃ bl, bl = w2_.heap.size := ⟨_, rfl⟩
  rw [← hbl] at hx ⊢
  have HX := Aside0.mk hx
  have HBL := Aside0.mk (show g7 < bl by rw [hbl]; exact HY7.out.2)
  clear hx hbl
  replace HR0 := Aside0.mk (Kd.C_below HR0.out HB5.out)
  replace HR1 := Aside0.mk (Kd.C_below HR1.out HB5.out)
  replace HF0 := Aside0.mk (Kd.C_below HF0.out HB5.out)
  replace HF1 := Aside0.mk (Kd.C_below HF1.out HB5.out)
  replace HK0 := Aside0.mk (kLent.K_below HB5.out HK0.out)
  replace HK1 := Aside0.mk (kLent.K_below HB5.out HK1.out)
  replace HG7 := Aside0.mk (blk_below HG7.out HB5.out)
  replace HW := Aside0.mk (below_step HW.out HB5.out)
  clear HB5
  have HB6 := Aside0.mk (Below.refl w3_.heap.size w3_)
  have HYW := Aside0.mk HY7.out.1
  have HGB := Aside0.mk (show g7 < w3_.heap.size by exact blk_lt HG7.out)
  clear HY7
  go_wp2_with (go_at_call 15; refine hold ?_)
  refine Hold.intro ((matches_co _ _ l0 _ _ l1 _ (Kd.C_below HF0.out HB6.out) HCF0.out (Kd.C_below HF1.out HB6.out) HCF1.out HZ0.out).mono ?_)
  rintro e w4_ ⟨rfl, hb⟩
  have HB7 := Aside0.mk (below_step HB6.out hb)
  clear HB6 hb
  go_wp2_with (go_at_call 16; refine hold ?_)
  refine Hold.intro ((flotillaref02_Matches.calls (l0.length + l1.length + 2) A0 c0 l0 A1 c1 l1 (matchL l0 l1) _ (Kd.C_below HR0.out HB7.out) HC0.out (Kd.C_below HR1.out HB7.out) HC1.out (matches_ref l0 l1 HN0.out HN1.out _ (by omega))).mono ?_)
  rintro e w5_ ⟨rfl, hb⟩
  have HB8 := Aside0.mk (below_step HB7.out hb)
  clear HB7 hb
  go_wp2_with (go_at_call 17; refine hold ?_)
  refine Hold.intro ((kept_labels l0 _ A0 c0 _ (kLent.K_below HB8.out HK0.out) (Kd.C_below HR0.out HB8.out) HN0.out).mono ?_)
  rintro e w6_ ⟨rfl, hb⟩
  have HB9 := Aside0.mk (below_step HB8.out hb)
  clear HB8 hb
  go_wp2_with (go_at_call 17; refine hold ?_)
  refine Hold.intro ((kept_labels l1 _ A1 c1 _ (kLent.K_below HB9.out HK1.out) (Kd.C_below HR1.out HB9.out) HN1.out).mono ?_)
  rintro e w7_ ⟨rfl, hb⟩
  have HB10 := Aside0.mk (below_step HB9.out hb)
  clear HB9 hb
  go_wp2
  go_loopw [10] (fun v wr => ∃ k : Nat, k ≤ l1.length ∧ v = .int .i64 k ∧ Aside0 (Below w3_.heap.size w3_ wr)) (fun v _ => l1.length - (intOf v).toNat)
  case atStart => exact ⟨0, Nat.zero_le _, rfl, HB10⟩
  case round =>
    clear HB10
    obtain ⟨k, hk, rfl, HB⟩ := hrel
    have hln := HN1.out
    by_cases hlt : k < l1.length
    · skip
      obtain ⟨y, hy⟩ : ∃ y, y = rd_T31 l1 (k : Int) := ⟨_, rfl⟩
      obtain ⟨ad, e, hx0, hx1⟩ := at_T31 HR1.out (k : Int) (by omega) (by omega)
      cases e
      simp only [Int.toNat_natCast] at hx0 hx1
      rw [← hy] at hx0
      have HXC := Aside0.mk hx0
      clear hx0 hx1 hy
      obtain ⟨r1, r2, hgr⟩ : ∃ r1 r2, getL l0 y.f0 = (r1, r2) := ⟨_, _, rfl⟩
      have HG1 := Aside0.mk (show labels_Get.f (l0.length + 1) l0 y.f0 = some (r1, r2) by rw [← hgr]; exact get_is l0 y.f0 (by have := HN0.out; omega))
      have HG2 := Aside0.mk (show flotillaref02_Get.f (l0.length + 1) l0 y.f0 = some (r1, r2) by rw [← hgr]; exact get_ref l0 y.f0 (by have := HN0.out; omega))
      clear hgr
      have hc0 := (HB.out.cell (World.block_lt_of_cell? w3_ _ HXC.out)).trans HXC.out
      go_wp2_with (go_at_call 18; refine hold ?_)
      refine Hold.intro ((labels_Get.calls (l0.length + 1) _ c7 l0 y.f0 r1 r2 _ (Kd.C_below HF0.out HB.out) HCF0.out HG1.out).mono ?_)
      rintro e w8_ ⟨rfl, hb⟩
      have HB11 := Aside0.mk (below_step HB.out hb)
      clear HB hb
      clear hc0
      have hc0 := (HB11.out.cell (World.block_lt_of_cell? w3_ _ HXC.out)).trans HXC.out
      go_wp2_with (go_at_call 19; refine hold ?_)
      refine Hold.intro ((flotillaref02_Get.calls (l0.length + 1) _ c0 l0 y.f0 r1 r2 _ (Kd.C_below HR0.out HB11.out) HC0.out HG2.out).mono ?_)
      rintro e w9_ ⟨rfl, hd⟩
      have hb : Below w8_.heap.size w8_ w9_ := hd.below
      clear hd
      have HB12 := Aside0.mk (below_step HB11.out hb)
      clear HB11 hb
      clear hc0
      go_wp2
      go_roundw
      case rel => exact ⟨k + 1, by omega, by simp, HB12⟩
      case measure => simp [intOf]; omega
    · obtain rfl : k = l1.length := by omega
      clear hk hlt
      have HZB := Aside0.mk (show w3_.heap.size ≤ wr.heap.size from HB.out.size)
      go_wp2_with (go_at_call 20; refine hold ?_)
      refine Hold.intro ((flotillaref02_Common.calls (l0.length + l1.length + 2) A0 c0 l0 A1 c1 l1 (comm l0 l1) _ (Kd.C_below HR0.out HB.out) HC0.out (Kd.C_below HR1.out HB.out) HC1.out (common_ref l0 l1 HN0.out HN1.out)).mono ?_)
      rintro e w10_ ⟨vw, rfl, hr, hb⟩
      have HB13 := Aside0.mk (below_step HB.out hb)
      clear HB hb
      obtain ⟨cm, hcm⟩ : ∃ cm, cm = comm l0 l1 := ⟨_, rfl⟩
      have HCM := Aside0.mk (show cm.length ≤ 4398046511000 by rw [hcm]; exact Nat.le_trans (List.length_filter_le _ _) HN0.out)
      rw [← hcm] at hr
      replace HX := Aside0.mk (show BoxRow bl w10_ cm by rw [hcm]; exact HX.out.below HB13.out)
      obtain ⟨bw, hbw⟩ : ∃ bw, bw = wr.heap.size := ⟨_, rfl⟩
      rw [← hbw] at hr
      obtain ⟨Aw, cw, rfl, hlw, -⟩ := Kd.R_reads hr
      have HRW := Aside0.mk hr
      have HLW := Aside0.mk hlw
      replace HG7 := Aside0.mk (blk_below HG7.out HB13.out)
      have HBW := Aside0.mk (show g7 < bw by
        have h1 := HZB.out
        have h3 : g7 < w3_.heap.size := HGB.out
        omega)
      clear hr hbw hlw hcm
      replace HW := Aside0.mk (below_step HW.out HB13.out)
      clear HB13
      go_wp2
      go_loopw [16] (fun v wr => ∃ (k : Nat) (cs : Array Value), k ≤ l0.length ∧ v = .int .i64 k ∧ Aside0 (Below w.heap.size w wr) ∧ Aside0 (wr.heap[g7]? = some (.cells cs 31 (0, 0)) ∧ l0.length * 2 ≤ cs.size) ∧ Aside0 (BoxRow bl wr cm) ∧ Aside0 (k31.R 31 wr bw (fun _ => True) (.slice Aw cm.length cw) cm)) (fun v _ => l0.length - (intOf v).toNat)
      case atStart => exact ⟨0, cs7, Nat.zero_le _, rfl, HW, ⟨HG7.out, HS7.out⟩, HX, HRW⟩
      case round =>
        clear HW HX HRW HG7
        obtain ⟨k, cs, hk, rfl, HW, HG7, HX, HRW⟩ := hrel
        have hln := HN0.out
        by_cases hlt : k < l0.length
        · skip
          go_wp2_with ((with_reducible refine gate_store (t := 31) (p := 97) rfl ?_); refine hold ?_)
          refine Hold.intro (two_store_event (t := 31) (ty := 31) (p := 97) (x := .tmp 96) (g := g7) (j := k * 2) (cs := cs) (u := .string ⟨#[111, 116, 104, 101, 114]⟩) (v := .string ⟨#[]⟩) rfl rfl rfl ?he ?hv size31 HG7.out.1 (by have := HG7.out.2; omega) rfl rfl ?_)
          case he => first | rfl | (go_simp; done)
          case hv => first | rfl | (go_simp; done)
          intro wn hbox hg
          have HG8 := Aside0.mk hbox
          have HX8 := Aside0.mk (BoxRow.grown HX.out hg HBL.out)
          have HR8 := Aside0.mk (R_top HRW.out hg HBW.out)
          have HW8 := Aside0.mk (Below.grown HW.out hg HW.out.size (fun k_ e_ => by injection e_ with e_; rw [← e_]; exact HYW.out))
          clear HW HX HRW hbox hg
          go_wp2
          go_roundw
          case rel => exact ⟨k + 1, _, by omega, by simp, HW8, ⟨HG8.out, by have := HG7.out.2; simpa using this⟩, HX8, HR8⟩
          case measure => simp [intOf]; omega
        · obtain rfl : k = l0.length := by omega
          clear hk hlt HG7
          have HB50 := Aside0.mk (Below.refl wr.heap.size wr)
          have hwl : wrap64 ((cm.length : Int) + 2) = ((cm.length + 2 : Nat) : Int) := by have := HCM.out; unfold wrap64; omega
          obtain ⟨p, hp, hpl⟩ := pick_in a2 (cm.length + 2) (by omega) (by have := HCM.out; omega)
          have HP := Aside0.mk hp
          clear hp hpl
          go_wp2_with (go_at_call 21; refine hold ?_)
          refine Hold.intro ((flotillakit_Pick.calls a2 ((cm.length + 2 : Nat) : Int) p _ HP.out).mono ?_)
          rintro e w11_ ⟨rfl, hd⟩
          have hb : Below wr.heap.size wr w11_ := hd.below
          clear hd
          have HB51 := Aside0.mk (below_step HB50.out hb)
          clear HB50 hb
          clear hwl
          go_wp2_with ((with_reducible refine gate_dst (N := 17) rfl ?_); refine hold ?_)
          refine Hold.intro ?_
          refine box_event (N := 17) (t := 3) (cs := #[.int .i64 0]) rfl rfl ?hr8 ?_
          case hr8 => first | (go_simp; done) | (go_simp; rfl)
          intro g17 hg w12_ hbox hb
          have HG_ := Aside0.mk (show wr.heap.size ≤ g17 by rw [hg]; exact HB51.out.size)
          have HP17 := Aside0.mk hbox
          clear hbox hg
          have HB52 := Aside0.mk (below_step HB51.out hb)
          clear HB51 hb
          go_wp2_with ((with_reducible refine gate_store (t := 3) (p := 17) rfl ?_); refine hold ?_)
          refine Hold.intro (cell_store_event (t := 3) (ty := 3) (p := 17) (x := .tmp 102) (g := g17) (j := 0) (cs := #[.int .i64 0]) (v := .int .i64 p) rfl rfl rfl rfl rfl (by kernel_rfl) HP17.out (by decide) rfl rfl ?_)
          intro w13_ hbox hg
          replace HP17 := Aside0.mk (show w13_.heap[g17]? = some (.cells #[.int .i64 p] 3 (0, 0)) from hbox)
          clear hbox
          have HB53 := Aside0.mk (Below.grown HB52.out hg HB52.out.size (fun k_ e_ => by injection e_ with e_; rw [← e_]; exact HG_.out))
          clear hg HB52
          clear HG_
          have HCW := Aside0.mk (Kd.R_reads' HRW.out).2.2
          replace HCW := Aside0.mk (Kd.C_below HCW.out HB53.out)
          replace HX := Aside0.mk (BoxRow.below HX.out HB53.out)
          replace HW := Aside0.mk (below_step HW.out HB53.out)
          clear HB53
          have HB54 := Aside0.mk (Below.refl w13_.heap.size w13_)
          go_wp2_with ((with_reducible refine gate_dst (N := 18) rfl ?_); refine hold ?_)
          refine Hold.intro ?_
          refine box_event (N := 18) (t := 3) (cs := #[.int .i64 0]) rfl rfl ?hr8 ?_
          case hr8 => first | (go_simp; done) | (go_simp; rfl)
          intro g18 hg w14_ hbox hb
          have HG_ := Aside0.mk (show w13_.heap.size ≤ g18 by rw [hg]; exact HB54.out.size)
          have HP18 := Aside0.mk hbox
          clear hbox hg
          have HB55 := Aside0.mk (below_step HB54.out hb)
          clear HB54 hb
          go_wp2_with ((with_reducible refine gate_store (t := 3) (p := 18) rfl ?_); refine hold ?_)
          refine Hold.intro (cell_store_event (t := 3) (ty := 3) (p := 18) (x := .const (.int .i64 0)) (g := g18) (j := 0) (cs := #[.int .i64 0]) (v := .int .i64 0) rfl rfl rfl rfl rfl (by kernel_rfl) HP18.out (by decide) rfl rfl ?_)
          intro w15_ hbox hg
          replace HP18 := Aside0.mk (show w15_.heap[g18]? = some (.cells #[.int .i64 0] 3 (0, 0)) from hbox)
          clear hbox
          have HB56 := Aside0.mk (Below.grown HB55.out hg HB55.out.size (fun k_ e_ => by injection e_ with e_; rw [← e_]; exact HG_.out))
          clear hg HB55
          clear HG_
          replace HCW := Aside0.mk (Kd.C_below HCW.out HB56.out)
          replace HP17 := Aside0.mk (blk_below HP17.out HB56.out)
          replace HX := Aside0.mk (BoxRow.below HX.out HB56.out)
          replace HW := Aside0.mk (below_step HW.out HB56.out)
          clear HB56
          have HB57 := Aside0.mk (Below.refl w15_.heap.size w15_)
          go_wp2
          refine wp_loop_rounds 4 ?_
          rw [rounds_succ]
          have hc_i_0 : w15_.cell? ⟨g18, 0, none⟩ = some (.int .i64 0) := (blk_cell (blk_below HP18.out HB57.out) 0).trans rfl
          go_wp2_with ((with_reducible refine gate_dst (N := 19) rfl ?_); refine hold ?_)
          refine Hold.intro ?_
          refine box_event (N := 19) (t := 22) (cs := #[.slice none 0 0]) rfl rfl ?hr8 ?_
          case hr8 => first | (go_simp; done) | (go_simp; rfl)
          intro g19 hg w16_ hbox hb
          clear hc_i_0
          have HG19 := Aside0.mk (show w15_.heap.size ≤ g19 ∧ g19 < w16_.heap.size from ⟨by rw [hg]; exact HB57.out.size, blk_lt hbox⟩)
          have H19 := Aside0.mk hbox
          clear hbox hg
          have HB58 := Aside0.mk (below_step HB57.out hb)
          clear HB57 hb
          go_wp2
          obtain ⟨v, hv, hrow⟩ := HX.out
          have hltv := Kd.R_lt hrow
          obtain ⟨Ai, ci, rfl, -, hC⟩ := Kd.R_reads hrow
          have hge : ∀ k, comS bl Ai cm.length k → k < w15_.heap.size := fun k hk => by
            rcases hk with rfl | ⟨ad, rfl, hn, rfl⟩
            · exact blk_lt hv
            · exact hltv _ rfl
          have it := labels_Common_1.iter bl Ai ci cm w16_ (blk_below hv HB58.out) (Kd.C_below hC HB58.out)
          have HGE := Aside0.mk hge
          have HHB := Aside0.mk HB58.out
          clear hv hrow hltv hC hge
          have HWN0 := Aside0.mk (show w.heap.size ≤ w16_.heap.size from Nat.le_trans HW.out.size HHB.out.size)
          apply useA0 (α := Nat → S31 → Act)
          case h =>
            have firm : ∀ i : Nat, Firm (Its (fun _ => False) w16_.heap.size (0 + 2)) (fun W => Below w15_.heap.size w15_ W ∧ Got g19 (w16_.heap.size + 2) W (cm.take i)) := fun i A B h st => by
              obtain ⟨row, hg, hr⟩ := st
              have hr1 : ∀ r, row = some r → w16_.heap.size ≤ r ∧ r < w16_.heap.size + 2 := fun r e => by
                rcases hr r e with h | ⟨h, h2⟩
                · exact h.elim
                · exact ⟨h, by omega⟩
              have hz := HHB.out.size
              exact ⟨h.1.grown hg h.1.size (fun r e => by have := hr1 r e; omega), h.2.grown hg (fun r e => by have := hr1 r e; have := HG19.out; omega)⟩
            refine wpIn_wide.1 (wpIn_range (gf := 73) (lb := #[.pointer (some ⟨bl, 0, none⟩)]) rfl (enters_of Try.func73 (by kernel_rfl) rfl) it (fun k hk => Nat.lt_of_lt_of_le (HGE.out k hk) HHB.out.size) (fun k hk => hk.elim) (fun i x hx => by
                rw [List.getElem?_map] at hx
                obtain ⟨y, _, rfl⟩ := Option.map_eq_some_iff.1 hx
                rfl)
              (fun i' W => Below w15_.heap.size w15_ W ∧ Got g19 (w16_.heap.size + 2) W (cm.take i')) (fun _ _ _ => False) (fun i' a' W => i' < cm.length ∧ (Below w15_.heap.size w15_ W ∧ Got g19 (w16_.heap.size + 2) W (cm.take i')) ∧ ∃ g20 y, a' = ?A0 g20 y ∧ y = rd_T31 cm (i' : Int) ∧ w16_.heap.size + 2 ≤ g20 ∧ W.heap[g20]? = some (.cells #[.string y.f0, .string y.f1] 31 (0, 0))) ?fI ?fIx ?fAx ?h0 ?assign ?body ?done ?stop)
            case assign =>
              intro l i W x K hx hI hz2 hK
              rw [List.getElem?_map] at hx
              obtain ⟨y, hy, rfl⟩ := Option.map_eq_some_iff.1 hx
              have hil := (List.getElem?_eq_some_iff.1 hy).1
              have hfold : ∀ t : Array Value, ((#[108] : Array Tmp).zip (lab y)).foldl (fun t (p, v) => t.setIfInBounds p v) t = t.setIfInBounds 108 (.agg #[.string y.f0, .string y.f1]) := fun t => by simp [lab]
              rw [hfold]
              simp only [List.setIfInBounds_toArray, List.set_cons_succ, List.set_cons_zero]
              clear hfold
              gi_wp2
              skip
              obtain ⟨g20, hg20⟩ : ∃ g, g = W.heap.size := ⟨_, rfl⟩
              rw [← hg20]
              refine hK _ _ (Books.grown (World.grownBy_alloc W _ none) (fun r e => by cases e)) (Keep.grown (World.grownBy_alloc W _ none) (fun r e => by cases e)) ⟨by simpa using hil, ⟨hI.1.alloc (Nat.le_trans HHB.out.size (by omega)) _, hI.2.below (below_alloc (Below.refl _ W) _)⟩, g20, y, rfl, ?_, by omega, by rw [hg20]; exact blk_new W _⟩
              simp [rd_T31, List.getD_eq_getElem?_getD, hy]
            case fI => exact firm
            case fIx => exact fun _ _ _ _ h _ => h
            case fAx =>
              intro i a' A B h st
              obtain ⟨h1, h2, g20, y, e1, e2, e3, e4⟩ := h
              refine ⟨h1, firm i A B h2 st, g20, y, e1, e2, e3, ?_⟩
              obtain ⟨row, hg, hr⟩ := st
              exact blk_grown e4 hg (fun e => by
                rcases hr _ e.symm with h | ⟨h, h2⟩
                · exact h.elim
                · omega)
            case h0 => exact ⟨HHB.out, ⟨_, H19.out, Kd.R_nil _ _ _ _ _⟩⟩
            case body =>
              rintro l i a' W hi ⟨hil, ⟨h1, h2⟩, g20, y, rfl, hy, hz20, h20⟩ hz2
              obtain ⟨v, hv, hrow⟩ := h2
              have hcm := HCM.out
              have hc18 : W.cell? ⟨g18, 0, none⟩ = some (.int .i64 0) := (blk_cell (blk_below HP18.out h1) 0).trans rfl
              have hc19 : W.cell? ⟨g19, 0, none⟩ = some v := blk_cell hv 0
              have hf19 : W.frozen? ⟨g19, 0, none⟩ = false := blk_frozen hv 0
              have hc20 : W.cell? ⟨g20, 0, none⟩ = some (.string y.f0) := blk_cell h20 0
              have hc21 : W.cell? ⟨g20, 1, none⟩ = some (.string y.f1) := blk_cell h20 1
              have H1 := Aside0.mk h1
              have HV := Aside0.mk hv
              have HR := Aside0.mk hrow
              have HSZ := Aside0.mk (show w15_.heap.size ≤ w16_.heap.size from HHB.out.size)
              have HTK := Aside0.mk (show cm.take (i + 1) = cm.take i ++ [y] by rw [take_snoc_rd hil, hy])
              have HLT := Aside0.mk (show (cm.take i).length ≤ i from List.length_take_le _ _)
              clear h1 hv hrow it firm h20 hy
              have N8 := Kd.R_ne HR.out HV.out (by decide)
              gi_wp2_with (gi_at_builtin; refine hold ?_)
              refine Hold.intro ?_
              refine R_append_in k31 (w0 := W) (w16_.heap.size + 2) rfl (.tmp 117) (.tmp 119) 22 31 (.agg #[(.string ⟨#[]⟩), (.string ⟨#[]⟩)]) 32 rfl Try.underlying22 info31 rfl (by decide) (by omega) v (cm.take i) y [.string y.f0, .string y.f1] (fun _ => True) (fun _ => False) rfl rfl (k31_mkM _ _ _ _) (fun _ hk => hk.elim) (fun _ _ => trivial) HR.out (Below.refl _ W) (by omega) (by have := HLT.out; omega) ?_
              intro v2 w9 ho hb2 hg hat
              obtain ⟨Aq, cq, hv2⟩ := Kd.R_slice ho
              rw [show (cm.take i ++ [y]).length = i + 1 by rw [← HTK.out, List.length_take]; omega] at hv2
              subst hv2
              have HO9 := Aside0.mk ho
              have HB9 := Aside0.mk hb2
              have hv9 := blk_grown HV.out hg N8
              have hc9 : w9.cell? ⟨g19, 0, none⟩ = some v := blk_cell hv9 0
              have hf9 : w9.frozen? ⟨g19, 0, none⟩ = false := blk_frozen hv9 0
              have HV9 := Aside0.mk hv9
              clear ho hb2 hg hat hv9 hc19 hf19 hc18 hc20 hc21 N8
              gi_wp2
              refine ⟨(Books.below HB9.out (by omega)).trans (Books.grown (grownBy_setCell' _ _ _) (fun r e => by cases e; have := HG19.out; omega)), (Keep.below HB9.out (fun k hk => ?_)).trans (Keep.grown (grownBy_setCell' _ _ _) (fun r e hs => ?_)), ((H1.out.trans (HB9.out.mono (by have := HSZ.out; omega))).setCell HG19.out.1 _), ⟨_, blk_put HV9.out 0 _ rfl, by rw [HTK.out]; exact Kd.R_set HO9.out HV9.out (by decide) 0 _⟩⟩
              · rcases hk with hk | ⟨hk, hk2⟩
                · have := HGE.out _ hk; have := HSZ.out; omega
                · omega
              · cases e
                rcases hs with hs | ⟨hs, hs2⟩
                · have := HGE.out _ hs; have := HG19.out; omega
                · have := HG19.out; omega
            case stop => exact fun _ _ _ _ h => h.elim
            case done =>
              rintro W ⟨h1, h2⟩ hd hz2
              have hfull : cm.take (cm.map lab).length = cm := by rw [List.length_map]; exact List.take_length
              rw [hfull] at h2
              clear hfull it firm
              obtain ⟨Wt0, rfl⟩ : ∃ x, x = W := ⟨_, rfl⟩
              have HD0 := Aside0.mk hd
              have HBT := Aside0.mk h1
              obtain ⟨v, hv, hrow⟩ := h2
              obtain ⟨Ag, cg, rfl, hlg, hCg⟩ := Kd.R_reads hrow
              have HCG := Aside0.mk hCg
              have HLG := Aside0.mk hlg
              have HV19 := Aside0.mk hv
              clear hd h1 hv hrow hlg hCg hz2
              replace HCW := Aside0.mk (Kd.C_below HCW.out HBT.out)
              replace HP17 := Aside0.mk (blk_below HP17.out HBT.out)
              replace HP18 := Aside0.mk (blk_below HP18.out HBT.out)
              replace HX := Aside0.mk (BoxRow.below HX.out HBT.out)
              replace HW := Aside0.mk (below_step HW.out HBT.out)
              clear HBT
              have HB59 := Aside0.mk (Below.refl Wt0.heap.size Wt0)
              have hc_i_0 : Wt0.cell? ⟨g18, 0, none⟩ = some (.int .i64 0) := (blk_cell (blk_below HP18.out HB59.out) 0).trans rfl
              have hc_a_0 : Wt0.cell? ⟨g17, 0, none⟩ = some (.int .i64 p) := (blk_cell (blk_below HP17.out HB59.out) 0).trans rfl
              have hc_r_0 : Wt0.cell? ⟨g19, 0, none⟩ = some (.slice Ag cm.length cg) := (blk_cell (blk_below HV19.out HB59.out) 0).trans rfl
              go_wp2_with (go_at_call 22; refine hold ?_)
              refine Hold.intro ((flotillaref0_SameLabels.calls (cm.length + 1) Ag cg cm Aw cw cm true _ (Kd.C_below HCG.out HB59.out) HLG.out (Kd.C_below HCW.out HB59.out) HLW.out (sameL_is cm (by have := HCM.out; omega))).mono ?_)
              rintro e w17_ ⟨rfl, hd⟩
              have hb : Below Wt0.heap.size Wt0 w17_ := hd.below
              clear hd
              clear hc_i_0 hc_a_0 hc_r_0
              have HB60 := Aside0.mk (below_step HB59.out hb)
              clear HB59 hb
              have hc_i_0 : w17_.cell? ⟨g18, 0, none⟩ = some (.int .i64 0) := (blk_cell (blk_below HP18.out HB60.out) 0).trans rfl
              go_wp2_with ((with_reducible refine gate_dst (N := 18) rfl ?_); refine hold ?_)
              refine Hold.intro ?_
              refine box_event (N := 18) (t := 3) (cs := #[.int .i64 0]) rfl rfl ?hr8 ?_
              case hr8 => first | (go_simp; done) | (go_simp; rfl)
              intro h18_0 hg w18_ hbox hb
              have HG_ := Aside0.mk (show Wt0.heap.size ≤ h18_0 by rw [hg]; exact HB60.out.size)
              have HQ0 := Aside0.mk hbox
              clear hbox hg
              have HB61 := Aside0.mk (below_step HB60.out hb)
              clear HB60 hb
              go_wp2_with ((with_reducible refine gate_store (t := 3) (p := 18) rfl ?_); refine hold ?_)
              refine Hold.intro (cell_store_event (t := 3) (ty := 3) (p := 18) (x := .tmp 133) (g := h18_0) (j := 0) (cs := #[.int .i64 0]) (v := .int .i64 0) rfl rfl rfl rfl rfl (by kernel_rfl) HQ0.out (by decide) rfl rfl ?_)
              intro w19_ hbox hg
              replace HQ0 := Aside0.mk (show w19_.heap[h18_0]? = some (.cells #[.int .i64 0] 3 (0, 0)) from hbox)
              clear hbox
              have HB62 := Aside0.mk (Below.grown HB61.out hg HB61.out.size (fun k_ e_ => by injection e_ with e_; rw [← e_]; exact HG_.out))
              clear hg HB61
              clear hc_i_0
              have hc_ : w19_.cell? ⟨h18_0, 0, none⟩ = some (.int .i64 0) := (blk_cell HQ0.out 0).trans rfl
              go_wp2_with ((with_reducible refine gate_store (t := 3) (p := 18) rfl ?_); refine hold ?_)
              clear hc_
              refine Hold.intro (cell_store_event (t := 3) (ty := 3) (p := 18) (x := .tmp 106) (g := h18_0) (j := 0) (cs := #[.int .i64 0]) (v := .int .i64 1) rfl rfl rfl rfl rfl (by kernel_rfl) HQ0.out (by decide) rfl rfl ?_)
              intro w20_ hbox hg
              replace HQ0 := Aside0.mk (show w20_.heap[h18_0]? = some (.cells #[.int .i64 1] 3 (0, 0)) from hbox)
              clear hbox
              have HB63 := Aside0.mk (Below.grown HB62.out hg HB62.out.size (fun k_ e_ => by injection e_ with e_; rw [← e_]; exact HG_.out))
              clear hg HB62
              clear HG_
              replace HCW := Aside0.mk (Kd.C_below HCW.out HB63.out)
              replace HP17 := Aside0.mk (blk_below HP17.out HB63.out)
              replace HX := Aside0.mk (BoxRow.below HX.out HB63.out)
              replace HD0 := Aside0.mk (blk_below HD0.out HB63.out)
              replace HW := Aside0.mk (below_step HW.out HB63.out)
              clear HB63
              have HB64 := Aside0.mk (Below.refl w20_.heap.size w20_)
              go_wp2
              rw [rounds_succ]
              have hc_i_0 : w20_.cell? ⟨h18_0, 0, none⟩ = some (.int .i64 1) := (blk_cell (blk_below HQ0.out HB64.out) 0).trans rfl
              go_wp2_with ((with_reducible refine gate_dst (N := 19) rfl ?_); refine hold ?_)
              refine Hold.intro ?_
              refine box_event (N := 19) (t := 22) (cs := #[.slice none 0 0]) rfl rfl ?hr8 ?_
              case hr8 => first | (go_simp; done) | (go_simp; rfl)
              intro g19 hg w21_ hbox hb
              clear hc_i_0
              have HG19 := Aside0.mk (show w20_.heap.size ≤ g19 ∧ g19 < w21_.heap.size from ⟨by rw [hg]; exact HB64.out.size, blk_lt hbox⟩)
              have H19 := Aside0.mk hbox
              clear hbox hg
              have HB65 := Aside0.mk (below_step HB64.out hb)
              clear HB64 hb
              go_wp2
              obtain ⟨v, hv, hrow⟩ := HX.out
              have hltv := Kd.R_lt hrow
              obtain ⟨Ai, ci, rfl, -, hC⟩ := Kd.R_reads hrow
              have hge : ∀ k, comS bl Ai cm.length k → k < w20_.heap.size := fun k hk => by
                rcases hk with rfl | ⟨ad, rfl, hn, rfl⟩
                · exact blk_lt hv
                · exact hltv _ rfl
              have it := labels_Common_1.iter bl Ai ci cm w21_ (blk_below hv HB65.out) (Kd.C_below hC HB65.out)
              have HGE := Aside0.mk hge
              have HHB := Aside0.mk HB65.out
              clear hv hrow hltv hC hge
              have HWN1 := Aside0.mk (show w.heap.size ≤ w21_.heap.size from Nat.le_trans HW.out.size HHB.out.size)
              have HNE01 := Aside0.mk (show w16_.heap.size ≠ w21_.heap.size by have h1 := blk_lt HD0.out; have h2 := HHB.out.size; omega)
              apply useA1 (α := Nat → S31 → Act)
              case h =>
                have firm : ∀ i : Nat, Firm (Its (fun _ => False) w21_.heap.size (0 + 2)) (fun W => Below w20_.heap.size w20_ W ∧ Got g19 (w21_.heap.size + 2) W (cm.take i)) := fun i A B h st => by
                  obtain ⟨row, hg, hr⟩ := st
                  have hr1 : ∀ r, row = some r → w21_.heap.size ≤ r ∧ r < w21_.heap.size + 2 := fun r e => by
                    rcases hr r e with h | ⟨h, h2⟩
                    · exact h.elim
                    · exact ⟨h, by omega⟩
                  have hz := HHB.out.size
                  exact ⟨h.1.grown hg h.1.size (fun r e => by have := hr1 r e; omega), h.2.grown hg (fun r e => by have := hr1 r e; have := HG19.out; omega)⟩
                refine wpIn_wide.1 (wpIn_range (gf := 73) (lb := #[.pointer (some ⟨bl, 0, none⟩)]) rfl (enters_of Try.func73 (by kernel_rfl) rfl) it (fun k hk => Nat.lt_of_lt_of_le (HGE.out k hk) HHB.out.size) (fun k hk => hk.elim) (fun i x hx => by
                    rw [List.getElem?_map] at hx
                    obtain ⟨y, _, rfl⟩ := Option.map_eq_some_iff.1 hx
                    rfl)
                  (fun i' W => Below w20_.heap.size w20_ W ∧ Got g19 (w21_.heap.size + 2) W (cm.take i')) (fun _ _ _ => False) (fun i' a' W => i' < cm.length ∧ (Below w20_.heap.size w20_ W ∧ Got g19 (w21_.heap.size + 2) W (cm.take i')) ∧ ∃ g20 y, a' = ?A1 g20 y ∧ y = rd_T31 cm (i' : Int) ∧ w21_.heap.size + 2 ≤ g20 ∧ W.heap[g20]? = some (.cells #[.string y.f0, .string y.f1] 31 (0, 0))) ?fI ?fIx ?fAx ?h0 ?assign ?body ?done ?stop)
                case assign =>
                  intro l i W x K hx hI hz2 hK
                  rw [List.getElem?_map] at hx
                  obtain ⟨y, hy, rfl⟩ := Option.map_eq_some_iff.1 hx
                  have hil := (List.getElem?_eq_some_iff.1 hy).1
                  have hfold : ∀ t : Array Value, ((#[108] : Array Tmp).zip (lab y)).foldl (fun t (p, v) => t.setIfInBounds p v) t = t.setIfInBounds 108 (.agg #[.string y.f0, .string y.f1]) := fun t => by simp [lab]
                  rw [hfold]
                  simp only [List.setIfInBounds_toArray, List.set_cons_succ, List.set_cons_zero]
                  clear hfold
                  gi_wp2
                  skip
                  obtain ⟨g20, hg20⟩ : ∃ g, g = W.heap.size := ⟨_, rfl⟩
                  rw [← hg20]
                  refine hK _ _ (Books.grown (World.grownBy_alloc W _ none) (fun r e => by cases e)) (Keep.grown (World.grownBy_alloc W _ none) (fun r e => by cases e)) ⟨by simpa using hil, ⟨hI.1.alloc (Nat.le_trans HHB.out.size (by omega)) _, hI.2.below (below_alloc (Below.refl _ W) _)⟩, g20, y, rfl, ?_, by omega, by rw [hg20]; exact blk_new W _⟩
                  simp [rd_T31, List.getD_eq_getElem?_getD, hy]
                case fI => exact firm
                case fIx => exact fun _ _ _ _ h _ => h
                case fAx =>
                  intro i a' A B h st
                  obtain ⟨h1, h2, g20, y, e1, e2, e3, e4⟩ := h
                  refine ⟨h1, firm i A B h2 st, g20, y, e1, e2, e3, ?_⟩
                  obtain ⟨row, hg, hr⟩ := st
                  exact blk_grown e4 hg (fun e => by
                    rcases hr _ e.symm with h | ⟨h, h2⟩
                    · exact h.elim
                    · omega)
                case h0 => exact ⟨HHB.out, ⟨_, H19.out, Kd.R_nil _ _ _ _ _⟩⟩
                case body =>
                  rintro l i a' W hi ⟨hil, ⟨h1, h2⟩, g20, y, rfl, hy, hz20, h20⟩ hz2
                  obtain ⟨v, hv, hrow⟩ := h2
                  have hcm := HCM.out
                  have hc18 : W.cell? ⟨h18_0, 0, none⟩ = some (.int .i64 1) := (blk_cell (blk_below HQ0.out h1) 0).trans rfl
                  have hc19 : W.cell? ⟨g19, 0, none⟩ = some v := blk_cell hv 0
                  have hf19 : W.frozen? ⟨g19, 0, none⟩ = false := blk_frozen hv 0
                  have hc20 : W.cell? ⟨g20, 0, none⟩ = some (.string y.f0) := blk_cell h20 0
                  have hc21 : W.cell? ⟨g20, 1, none⟩ = some (.string y.f1) := blk_cell h20 1
                  have H1 := Aside0.mk h1
                  have HV := Aside0.mk hv
                  have HR := Aside0.mk hrow
                  have HSZ := Aside0.mk (show w20_.heap.size ≤ w21_.heap.size from HHB.out.size)
                  have HTK := Aside0.mk (show cm.take (i + 1) = cm.take i ++ [y] by rw [take_snoc_rd hil, hy])
                  have HLT := Aside0.mk (show (cm.take i).length ≤ i from List.length_take_le _ _)
                  clear h1 hv hrow it firm h20 hy
                  have N8 := Kd.R_ne HR.out HV.out (by decide)
                  gi_wp2_with (gi_at_builtin; refine hold ?_)
                  refine Hold.intro ?_
                  refine R_append_in k31 (w0 := W) (w21_.heap.size + 2) rfl (.tmp 117) (.tmp 119) 22 31 (.agg #[(.string ⟨#[]⟩), (.string ⟨#[]⟩)]) 32 rfl Try.underlying22 info31 rfl (by decide) (by omega) v (cm.take i) y [.string y.f0, .string y.f1] (fun _ => True) (fun _ => False) rfl rfl (k31_mkM _ _ _ _) (fun _ hk => hk.elim) (fun _ _ => trivial) HR.out (Below.refl _ W) (by omega) (by have := HLT.out; omega) ?_
                  intro v2 w9 ho hb2 hg hat
                  obtain ⟨Aq, cq, hv2⟩ := Kd.R_slice ho
                  rw [show (cm.take i ++ [y]).length = i + 1 by rw [← HTK.out, List.length_take]; omega] at hv2
                  subst hv2
                  have HO9 := Aside0.mk ho
                  have HB9 := Aside0.mk hb2
                  have hv9 := blk_grown HV.out hg N8
                  have hc9 : w9.cell? ⟨g19, 0, none⟩ = some v := blk_cell hv9 0
                  have hf9 : w9.frozen? ⟨g19, 0, none⟩ = false := blk_frozen hv9 0
                  have HV9 := Aside0.mk hv9
                  clear ho hb2 hg hat hv9 hc19 hf19 hc18 hc20 hc21 N8
                  gi_wp2
                  refine ⟨(Books.below HB9.out (by omega)).trans (Books.grown (grownBy_setCell' _ _ _) (fun r e => by cases e; have := HG19.out; omega)), (Keep.below HB9.out (fun k hk => ?_)).trans (Keep.grown (grownBy_setCell' _ _ _) (fun r e hs => ?_)), ((H1.out.trans (HB9.out.mono (by have := HSZ.out; omega))).setCell HG19.out.1 _), ⟨_, blk_put HV9.out 0 _ rfl, by rw [HTK.out]; exact Kd.R_set HO9.out HV9.out (by decide) 0 _⟩⟩
                  · rcases hk with hk | ⟨hk, hk2⟩
                    · have := HGE.out _ hk; have := HSZ.out; omega
                    · omega
                  · cases e
                    rcases hs with hs | ⟨hs, hs2⟩
                    · have := HGE.out _ hs; have := HG19.out; omega
                    · have := HG19.out; omega
                case stop => exact fun _ _ _ _ h => h.elim
                case done =>
                  rintro W ⟨h1, h2⟩ hd hz2
                  have hfull : cm.take (cm.map lab).length = cm := by rw [List.length_map]; exact List.take_length
                  rw [hfull] at h2
                  clear hfull it firm
                  obtain ⟨Wt1, rfl⟩ : ∃ x, x = W := ⟨_, rfl⟩
                  have HD1 := Aside0.mk hd
                  have HBT := Aside0.mk h1
                  obtain ⟨v, hv, hrow⟩ := h2
                  obtain ⟨Ag, cg, rfl, hlg, hCg⟩ := Kd.R_reads hrow
                  have HCG := Aside0.mk hCg
                  have HLG := Aside0.mk hlg
                  have HV19 := Aside0.mk hv
                  clear hd h1 hv hrow hlg hCg hz2
                  replace HCW := Aside0.mk (Kd.C_below HCW.out HBT.out)
                  replace HP17 := Aside0.mk (blk_below HP17.out HBT.out)
                  replace HQ0 := Aside0.mk (blk_below HQ0.out HBT.out)
                  replace HX := Aside0.mk (BoxRow.below HX.out HBT.out)
                  replace HD0 := Aside0.mk (blk_below HD0.out HBT.out)
                  replace HW := Aside0.mk (below_step HW.out HBT.out)
                  clear HBT
                  have HB66 := Aside0.mk (Below.refl Wt1.heap.size Wt1)
                  have hc_i_0 : Wt1.cell? ⟨h18_0, 0, none⟩ = some (.int .i64 1) := (blk_cell (blk_below HQ0.out HB66.out) 0).trans rfl
                  have hc_a_0 : Wt1.cell? ⟨g17, 0, none⟩ = some (.int .i64 p) := (blk_cell (blk_below HP17.out HB66.out) 0).trans rfl
                  have hc_r_0 : Wt1.cell? ⟨g19, 0, none⟩ = some (.slice Ag cm.length cg) := (blk_cell (blk_below HV19.out HB66.out) 0).trans rfl
                  go_wp2_with (go_at_call 22; refine hold ?_)
                  refine Hold.intro ((flotillaref0_SameLabels.calls (cm.length + 1) Ag cg cm Aw cw cm true _ (Kd.C_below HCG.out HB66.out) HLG.out (Kd.C_below HCW.out HB66.out) HLW.out (sameL_is cm (by have := HCM.out; omega))).mono ?_)
                  rintro e w22_ ⟨rfl, hd⟩
                  have hb : Below Wt1.heap.size Wt1 w22_ := hd.below
                  clear hd
                  clear hc_i_0 hc_a_0 hc_r_0
                  have HB67 := Aside0.mk (below_step HB66.out hb)
                  clear HB66 hb
                  have hc_i_0 : w22_.cell? ⟨h18_0, 0, none⟩ = some (.int .i64 1) := (blk_cell (blk_below HQ0.out HB67.out) 0).trans rfl
                  go_wp2_with ((with_reducible refine gate_dst (N := 18) rfl ?_); refine hold ?_)
                  refine Hold.intro ?_
                  refine box_event (N := 18) (t := 3) (cs := #[.int .i64 0]) rfl rfl ?hr8 ?_
                  case hr8 => first | (go_simp; done) | (go_simp; rfl)
                  intro h18_1 hg w23_ hbox hb
                  have HG_ := Aside0.mk (show Wt1.heap.size ≤ h18_1 by rw [hg]; exact HB67.out.size)
                  have HQ1 := Aside0.mk hbox
                  clear hbox hg
                  have HB68 := Aside0.mk (below_step HB67.out hb)
                  clear HB67 hb
                  go_wp2_with ((with_reducible refine gate_store (t := 3) (p := 18) rfl ?_); refine hold ?_)
                  refine Hold.intro (cell_store_event (t := 3) (ty := 3) (p := 18) (x := .tmp 133) (g := h18_1) (j := 0) (cs := #[.int .i64 0]) (v := .int .i64 1) rfl rfl rfl rfl rfl (by kernel_rfl) HQ1.out (by decide) rfl rfl ?_)
                  intro w24_ hbox hg
                  replace HQ1 := Aside0.mk (show w24_.heap[h18_1]? = some (.cells #[.int .i64 1] 3 (0, 0)) from hbox)
                  clear hbox
                  have HB69 := Aside0.mk (Below.grown HB68.out hg HB68.out.size (fun k_ e_ => by injection e_ with e_; rw [← e_]; exact HG_.out))
                  clear hg HB68
                  clear hc_i_0
                  have hc_ : w24_.cell? ⟨h18_1, 0, none⟩ = some (.int .i64 1) := (blk_cell HQ1.out 0).trans rfl
                  go_wp2_with ((with_reducible refine gate_store (t := 3) (p := 18) rfl ?_); refine hold ?_)
                  clear hc_
                  refine Hold.intro (cell_store_event (t := 3) (ty := 3) (p := 18) (x := .tmp 106) (g := h18_1) (j := 0) (cs := #[.int .i64 1]) (v := .int .i64 2) rfl rfl rfl rfl rfl (by kernel_rfl) HQ1.out (by decide) rfl rfl ?_)
                  intro w25_ hbox hg
                  replace HQ1 := Aside0.mk (show w25_.heap[h18_1]? = some (.cells #[.int .i64 2] 3 (0, 0)) from hbox)
                  clear hbox
                  have HB70 := Aside0.mk (Below.grown HB69.out hg HB69.out.size (fun k_ e_ => by injection e_ with e_; rw [← e_]; exact HG_.out))
                  clear hg HB69
                  clear HG_
                  replace HCW := Aside0.mk (Kd.C_below HCW.out HB70.out)
                  replace HP17 := Aside0.mk (blk_below HP17.out HB70.out)
                  replace HX := Aside0.mk (BoxRow.below HX.out HB70.out)
                  replace HD0 := Aside0.mk (blk_below HD0.out HB70.out)
                  replace HD1 := Aside0.mk (blk_below HD1.out HB70.out)
                  replace HW := Aside0.mk (below_step HW.out HB70.out)
                  clear HB70
                  have HB71 := Aside0.mk (Below.refl w25_.heap.size w25_)
                  go_wp2
                  rw [rounds_succ]
                  have hc_i_0 : w25_.cell? ⟨h18_1, 0, none⟩ = some (.int .i64 2) := (blk_cell (blk_below HQ1.out HB71.out) 0).trans rfl
                  go_wp2_with ((with_reducible refine gate_dst (N := 19) rfl ?_); refine hold ?_)
                  refine Hold.intro ?_
                  refine box_event (N := 19) (t := 22) (cs := #[.slice none 0 0]) rfl rfl ?hr8 ?_
                  case hr8 => first | (go_simp; done) | (go_simp; rfl)
                  intro g19 hg w26_ hbox hb
                  clear hc_i_0
                  have HG19 := Aside0.mk (show w25_.heap.size ≤ g19 ∧ g19 < w26_.heap.size from ⟨by rw [hg]; exact HB71.out.size, blk_lt hbox⟩)
                  have H19 := Aside0.mk hbox
                  clear hbox hg
                  have HB72 := Aside0.mk (below_step HB71.out hb)
                  clear HB71 hb
                  go_wp2
                  obtain ⟨v, hv, hrow⟩ := HX.out
                  have hltv := Kd.R_lt hrow
                  obtain ⟨Ai, ci, rfl, -, hC⟩ := Kd.R_reads hrow
                  have hge : ∀ k, comS bl Ai cm.length k → k < w25_.heap.size := fun k hk => by
                    rcases hk with rfl | ⟨ad, rfl, hn, rfl⟩
                    · exact blk_lt hv
                    · exact hltv _ rfl
                  have it := labels_Common_1.iter bl Ai ci cm w26_ (blk_below hv HB72.out) (Kd.C_below hC HB72.out)
                  have HGE := Aside0.mk hge
                  have HHB := Aside0.mk HB72.out
                  clear hv hrow hltv hC hge
                  have HWN2 := Aside0.mk (show w.heap.size ≤ w26_.heap.size from Nat.le_trans HW.out.size HHB.out.size)
                  have HNE02 := Aside0.mk (show w16_.heap.size ≠ w26_.heap.size by have h1 := blk_lt HD0.out; have h2 := HHB.out.size; omega)
                  have HNE12 := Aside0.mk (show w21_.heap.size ≠ w26_.heap.size by have h1 := blk_lt HD1.out; have h2 := HHB.out.size; omega)
                  apply useA2 (α := Nat → S31 → Act)
                  case h =>
                    have firm : ∀ i : Nat, Firm (Its (fun _ => False) w26_.heap.size (0 + 2)) (fun W => Below w25_.heap.size w25_ W ∧ Got g19 (w26_.heap.size + 2) W (cm.take i)) := fun i A B h st => by
                      obtain ⟨row, hg, hr⟩ := st
                      have hr1 : ∀ r, row = some r → w26_.heap.size ≤ r ∧ r < w26_.heap.size + 2 := fun r e => by
                        rcases hr r e with h | ⟨h, h2⟩
                        · exact h.elim
                        · exact ⟨h, by omega⟩
                      have hz := HHB.out.size
                      exact ⟨h.1.grown hg h.1.size (fun r e => by have := hr1 r e; omega), h.2.grown hg (fun r e => by have := hr1 r e; have := HG19.out; omega)⟩
                    refine wpIn_wide.1 (wpIn_range (gf := 73) (lb := #[.pointer (some ⟨bl, 0, none⟩)]) rfl (enters_of Try.func73 (by kernel_rfl) rfl) it (fun k hk => Nat.lt_of_lt_of_le (HGE.out k hk) HHB.out.size) (fun k hk => hk.elim) (fun i x hx => by
                        rw [List.getElem?_map] at hx
                        obtain ⟨y, _, rfl⟩ := Option.map_eq_some_iff.1 hx
                        rfl)
                      (fun i' W => i' ≤ p ∧ Below w25_.heap.size w25_ W ∧ Got g19 (w26_.heap.size + 2) W (cm.take i')) (fun cd _ W => cd = .exit 6 ∧ p ≤ cm.length ∧ Below w25_.heap.size w25_ W ∧ Got g19 (w26_.heap.size + 2) W (cm.take p)) (fun i' a' W => i' < cm.length ∧ (i' ≤ p ∧ Below w25_.heap.size w25_ W ∧ Got g19 (w26_.heap.size + 2) W (cm.take i')) ∧ ∃ g20 y, a' = ?A2 g20 y ∧ y = rd_T31 cm (i' : Int) ∧ w26_.heap.size + 2 ≤ g20 ∧ W.heap[g20]? = some (.cells #[.string y.f0, .string y.f1] 31 (0, 0))) ?fI ?fIx ?fAx ?h0 ?assign ?body ?done ?stop)
                    case assign =>
                      intro l i W x K hx hI hz2 hK
                      rw [List.getElem?_map] at hx
                      obtain ⟨y, hy, rfl⟩ := Option.map_eq_some_iff.1 hx
                      have hil := (List.getElem?_eq_some_iff.1 hy).1
                      have hfold : ∀ t : Array Value, ((#[108] : Array Tmp).zip (lab y)).foldl (fun t (p, v) => t.setIfInBounds p v) t = t.setIfInBounds 108 (.agg #[.string y.f0, .string y.f1]) := fun t => by simp [lab]
                      rw [hfold]
                      simp only [List.setIfInBounds_toArray, List.set_cons_succ, List.set_cons_zero]
                      clear hfold
                      gi_wp2
                      skip
                      obtain ⟨g20, hg20⟩ : ∃ g, g = W.heap.size := ⟨_, rfl⟩
                      rw [← hg20]
                      refine hK _ _ (Books.grown (World.grownBy_alloc W _ none) (fun r e => by cases e)) (Keep.grown (World.grownBy_alloc W _ none) (fun r e => by cases e)) ⟨by simpa using hil, ⟨hI.1, hI.2.1.alloc (Nat.le_trans HHB.out.size (by omega)) _, hI.2.2.below (below_alloc (Below.refl _ W) _)⟩, g20, y, rfl, ?_, by omega, by rw [hg20]; exact blk_new W _⟩
                      simp [rd_T31, List.getD_eq_getElem?_getD, hy]
                    case fI => exact fun i A B h st => ⟨h.1, firm i A B h.2 st⟩
                    case fIx => exact fun _ _ A B h st => ⟨h.1, h.2.1, firm p A B h.2.2 st⟩
                    case fAx =>
                      intro i a' A B h st
                      obtain ⟨h1, h2, g20, y, e1, e2, e3, e4⟩ := h
                      refine ⟨h1, ⟨h2.1, firm i A B h2.2 st⟩, g20, y, e1, e2, e3, ?_⟩
                      obtain ⟨row, hg, hr⟩ := st
                      exact blk_grown e4 hg (fun e => by
                        rcases hr _ e.symm with h | ⟨h, h2⟩
                        · exact h.elim
                        · omega)
                    case h0 => exact ⟨Nat.zero_le _, HHB.out, ⟨_, H19.out, Kd.R_nil _ _ _ _ _⟩⟩
                    case body =>
                      rintro l i a' W hi ⟨hil, ⟨hip, h1, h2⟩, g20, y, rfl, hy, hz20, h20⟩ hz2
                      obtain ⟨v, hv, hrow⟩ := h2
                      have hcm := HCM.out
                      have hc18 : W.cell? ⟨h18_1, 0, none⟩ = some (.int .i64 2) := (blk_cell (blk_below HQ1.out h1) 0).trans rfl
                      have hc19 : W.cell? ⟨g19, 0, none⟩ = some v := blk_cell hv 0
                      have hf19 : W.frozen? ⟨g19, 0, none⟩ = false := blk_frozen hv 0
                      have hc20 : W.cell? ⟨g20, 0, none⟩ = some (.string y.f0) := blk_cell h20 0
                      have hc21 : W.cell? ⟨g20, 1, none⟩ = some (.string y.f1) := blk_cell h20 1
                      have H1 := Aside0.mk h1
                      have HV := Aside0.mk hv
                      have HR := Aside0.mk hrow
                      have HSZ := Aside0.mk (show w25_.heap.size ≤ w26_.heap.size from HHB.out.size)
                      have HTK := Aside0.mk (show cm.take (i + 1) = cm.take i ++ [y] by rw [take_snoc_rd hil, hy])
                      have HLT := Aside0.mk (show (cm.take i).length ≤ i from List.length_take_le _ _)
                      clear h1 hv hrow it firm h20 hy
                      have N8 := Kd.R_ne HR.out HV.out (by decide)
                      have hti : (cm.take i).length = i := by rw [List.length_take]; omega
                      obtain ⟨Av, cv, hv2⟩ := Kd.R_slice HR.out
                      rw [hti] at hv2
                      subst hv2
                      have hc17 : W.cell? ⟨g17, 0, none⟩ = some (.int .i64 p) := (blk_cell (blk_below HP17.out H1.out) 0).trans rfl
                      by_cases hpi : p ≤ i
                      · obtain rfl : i = p := by omega
                        gi_wp2
                        exact ⟨Books.refl _ _, rfl, by omega, H1.out, ⟨_, HV.out, HR.out⟩⟩
                      · skip
                        gi_wp2_with (gi_at_builtin; refine hold ?_)
                        refine Hold.intro ?_
                        refine R_append_in k31 (w0 := W) (w26_.heap.size + 2) rfl (.tmp 117) (.tmp 119) 22 31 (.agg #[(.string ⟨#[]⟩), (.string ⟨#[]⟩)]) 32 rfl Try.underlying22 info31 rfl (by decide) (by omega) (.slice Av i cv) (cm.take i) y [.string y.f0, .string y.f1] (fun _ => True) (fun _ => False) rfl rfl (k31_mkM _ _ _ _) (fun _ hk => hk.elim) (fun _ _ => trivial) HR.out (Below.refl _ W) (by omega) (by have := HLT.out; omega) ?_
                        clear hc17
                        intro v2 w9 ho hb2 hg hat
                        obtain ⟨Aq, cq, hv2⟩ := Kd.R_slice ho
                        rw [show (cm.take i ++ [y]).length = i + 1 by rw [← HTK.out, List.length_take]; omega] at hv2
                        subst hv2
                        have HO9 := Aside0.mk ho
                        have HB9 := Aside0.mk hb2
                        have hv9 := blk_grown HV.out hg N8
                        have hc9 : w9.cell? ⟨g19, 0, none⟩ = some (.slice Av i cv) := blk_cell hv9 0
                        have hf9 : w9.frozen? ⟨g19, 0, none⟩ = false := blk_frozen hv9 0
                        have HV9 := Aside0.mk hv9
                        clear ho hb2 hg hat hv9 hc19 hf19 hc18 hc20 hc21 N8
                        gi_wp2
                        refine ⟨(Books.below HB9.out (by omega)).trans (Books.grown (grownBy_setCell' _ _ _) (fun r e => by cases e; have := HG19.out; omega)), (Keep.below HB9.out (fun k hk => ?_)).trans (Keep.grown (grownBy_setCell' _ _ _) (fun r e hs => ?_)), by omega, ((H1.out.trans (HB9.out.mono (by have := HSZ.out; omega))).setCell HG19.out.1 _), ⟨_, blk_put HV9.out 0 _ rfl, by rw [HTK.out]; exact Kd.R_set HO9.out HV9.out (by decide) 0 _⟩⟩
                        · rcases hk with hk | ⟨hk, hk2⟩
                          · have := HGE.out _ hk; have := HSZ.out; omega
                          · omega
                        · cases e
                          rcases hs with hs | ⟨hs, hs2⟩
                          · have := HGE.out _ hs; have := HG19.out; omega
                          · have := HG19.out; omega
                    case stop =>
                      rintro cd i W hi2 ⟨rfl, hpl, h1, h2⟩ hd hz2
                      obtain ⟨m, rfl⟩ : ∃ m, m = p := ⟨_, rfl⟩
                      have hmn : ¬ ((cm.length : Int) < (m : Int)) := by omega
                      refine wpIn_wide.2 ?_
                      clear it firm
                      obtain ⟨Wt2, rfl⟩ : ∃ x, x = W := ⟨_, rfl⟩
                      have HD2 := Aside0.mk hd
                      have HBT := Aside0.mk h1
                      obtain ⟨v, hv, hrow⟩ := h2
                      have htm : (cm.take m).length = m := by rw [List.length_take]; omega
                      obtain ⟨Ag, cg, rfl, hlg, hCg⟩ := Kd.R_reads hrow
                      rw [htm] at hCg hlg hv
                      have HCG := Aside0.mk hCg
                      have HLG := Aside0.mk hlg
                      have HV19 := Aside0.mk hv
                      have HTM := Aside0.mk htm
                      have HPL := Aside0.mk hpl
                      have HCT := Aside0.mk (C_take HCW.out hpl)
                      clear hd h1 hv hrow hlg hCg hz2 htm
                      replace HCW := Aside0.mk (Kd.C_below HCW.out HBT.out)
                      replace HCT := Aside0.mk (Kd.C_below HCT.out HBT.out)
                      replace HP17 := Aside0.mk (blk_below HP17.out HBT.out)
                      replace HQ1 := Aside0.mk (blk_below HQ1.out HBT.out)
                      replace HX := Aside0.mk (BoxRow.below HX.out HBT.out)
                      replace HD0 := Aside0.mk (blk_below HD0.out HBT.out)
                      replace HD1 := Aside0.mk (blk_below HD1.out HBT.out)
                      replace HW := Aside0.mk (below_step HW.out HBT.out)
                      clear HBT
                      have HB73 := Aside0.mk (Below.refl Wt2.heap.size Wt2)
                      have hc_i_0 : Wt2.cell? ⟨h18_1, 0, none⟩ = some (.int .i64 2) := (blk_cell (blk_below HQ1.out HB73.out) 0).trans rfl
                      have hc_a_0 : Wt2.cell? ⟨g17, 0, none⟩ = some (.int .i64 m) := (blk_cell (blk_below HP17.out HB73.out) 0).trans rfl
                      have hc_r_0 : Wt2.cell? ⟨g19, 0, none⟩ = some (.slice Ag m cg) := (blk_cell (blk_below HV19.out HB73.out) 0).trans rfl
                      have hcwm : m ≤ cw := Nat.le_trans hpl HLW.out
                      have HCALL := flotillaref0_SameLabels.calls ((cm.take m).length + 1) Ag cg (cm.take m) Aw cw (cm.take m) true Wt2 (by rw [HTM.out]; exact (Kd.C_below HCG.out HB73.out)) (by rw [HTM.out]; exact HLG.out) (by rw [HTM.out]; exact (Kd.C_below HCT.out HB73.out)) (by rw [HTM.out]; exact hcwm) (sameL_is _ (by rw [HTM.out]; have := HCM.out; have := HPL.out; omega))
                      rw [HTM.out] at HCALL
                      go_wp2_with (go_at_call 22; refine hold ?_)
                      refine Hold.intro ((HCALL).mono ?_)
                      rintro e w27_ ⟨rfl, hd⟩
                      have hb : Below Wt2.heap.size Wt2 w27_ := hd.below
                      clear hd
                      clear hc_i_0 hc_a_0 hc_r_0
                      have HB74 := Aside0.mk (below_step HB73.out hb)
                      clear HB73 hb
                      clear HCALL hmn hcwm
                      have hc_i_0 : w27_.cell? ⟨h18_1, 0, none⟩ = some (.int .i64 2) := (blk_cell (blk_below HQ1.out HB74.out) 0).trans rfl
                      go_wp2_with ((with_reducible refine gate_dst (N := 18) rfl ?_); refine hold ?_)
                      refine Hold.intro ?_
                      refine box_event (N := 18) (t := 3) (cs := #[.int .i64 0]) rfl rfl ?hr8 ?_
                      case hr8 => first | (go_simp; done) | (go_simp; rfl)
                      intro h18_2 hg w28_ hbox hb
                      have HG_ := Aside0.mk (show Wt2.heap.size ≤ h18_2 by rw [hg]; exact HB74.out.size)
                      have HQ2 := Aside0.mk hbox
                      clear hbox hg
                      have HB75 := Aside0.mk (below_step HB74.out hb)
                      clear HB74 hb
                      go_wp2_with ((with_reducible refine gate_store (t := 3) (p := 18) rfl ?_); refine hold ?_)
                      refine Hold.intro (cell_store_event (t := 3) (ty := 3) (p := 18) (x := .tmp 133) (g := h18_2) (j := 0) (cs := #[.int .i64 0]) (v := .int .i64 2) rfl rfl rfl rfl rfl (by kernel_rfl) HQ2.out (by decide) rfl rfl ?_)
                      intro w29_ hbox hg
                      replace HQ2 := Aside0.mk (show w29_.heap[h18_2]? = some (.cells #[.int .i64 2] 3 (0, 0)) from hbox)
                      clear hbox
                      have HB76 := Aside0.mk (Below.grown HB75.out hg HB75.out.size (fun k_ e_ => by injection e_ with e_; rw [← e_]; exact HG_.out))
                      clear hg HB75
                      clear hc_i_0
                      have hc_ : w29_.cell? ⟨h18_2, 0, none⟩ = some (.int .i64 2) := (blk_cell HQ2.out 0).trans rfl
                      go_wp2_with ((with_reducible refine gate_store (t := 3) (p := 18) rfl ?_); refine hold ?_)
                      clear hc_
                      refine Hold.intro (cell_store_event (t := 3) (ty := 3) (p := 18) (x := .tmp 106) (g := h18_2) (j := 0) (cs := #[.int .i64 2]) (v := .int .i64 3) rfl rfl rfl rfl rfl (by kernel_rfl) HQ2.out (by decide) rfl rfl ?_)
                      intro w30_ hbox hg
                      replace HQ2 := Aside0.mk (show w30_.heap[h18_2]? = some (.cells #[.int .i64 3] 3 (0, 0)) from hbox)
                      clear hbox
                      have HB77 := Aside0.mk (Below.grown HB76.out hg HB76.out.size (fun k_ e_ => by injection e_ with e_; rw [← e_]; exact HG_.out))
                      clear hg HB76
                      clear HG_
                      replace HCW := Aside0.mk (Kd.C_below HCW.out HB77.out)
                      replace HCT := Aside0.mk (Kd.C_below HCT.out HB77.out)
                      replace HP17 := Aside0.mk (blk_below HP17.out HB77.out)
                      replace HX := Aside0.mk (BoxRow.below HX.out HB77.out)
                      replace HD0 := Aside0.mk (blk_below HD0.out HB77.out)
                      replace HD1 := Aside0.mk (blk_below HD1.out HB77.out)
                      replace HD2 := Aside0.mk (blk_below HD2.out HB77.out)
                      replace HW := Aside0.mk (below_step HW.out HB77.out)
                      clear HB77
                      have HB78 := Aside0.mk (Below.refl w30_.heap.size w30_)
                      go_wp2
                      rw [rounds_succ]
                      have hc_i_0 : w30_.cell? ⟨h18_2, 0, none⟩ = some (.int .i64 3) := (blk_cell (blk_below HQ2.out HB78.out) 0).trans rfl
                      go_wp2
                      have X0 := (below_step HW.out HB78.out)
                      have X1 := X0.grown (grownBy_putObj' _ w26_.heap.size (.deferred none)) X0.size (fun k e => by cases e; exact HWN2.out)
                      have X2 := X1.grown (grownBy_putObj' _ w21_.heap.size (.deferred none)) X1.size (fun k e => by cases e; exact HWN1.out)
                      have X3 := X2.grown (grownBy_putObj' _ w16_.heap.size (.deferred none)) X2.size (fun k e => by cases e; exact HWN0.out)
                      refine ⟨by simp, .inl ⟨_, _, rfl, run_takeDeferred (blk_below HD2.out HB78.out), ?_⟩⟩
                      refine ⟨by simp, .inl ⟨_, _, rfl, run_takeDeferred (blk_grown (blk_below HD1.out HB78.out) (grownBy_putObj' _ _ _) (fun e => by injection e with e; exact HNE12.out e)), ?_⟩⟩
                      refine ⟨by simp, .inl ⟨_, _, rfl, run_takeDeferred (blk_grown (blk_grown (blk_below HD0.out HB78.out) (grownBy_putObj' _ _ _) (fun e => by injection e with e; exact HNE02.out e)) (grownBy_putObj' _ _ _) (fun e => by injection e with e; exact HNE01.out e)), ?_⟩⟩
                      exact ⟨_, results_tmp rfl _ _ _, rfl, X3⟩
                    case done =>
                      rintro W ⟨hip, h1, h2⟩ hd hz2
                      rw [List.length_map] at hip h2
                      have hpl : cm.length ≤ cm.length := Nat.le_refl _
                      rcases Nat.lt_or_ge cm.length p with hlp | hlp
                      · have hmn : (cm.length : Int) < (p : Int) := by omega
                        clear hip hlp
                        clear it firm
                        obtain ⟨Wt2, rfl⟩ : ∃ x, x = W := ⟨_, rfl⟩
                        have HD2 := Aside0.mk hd
                        have HBT := Aside0.mk h1
                        obtain ⟨v, hv, hrow⟩ := h2
                        have htm : (cm.take cm.length).length = cm.length := by rw [List.length_take]; omega
                        obtain ⟨Ag, cg, rfl, hlg, hCg⟩ := Kd.R_reads hrow
                        rw [htm] at hCg hlg hv
                        have HCG := Aside0.mk hCg
                        have HLG := Aside0.mk hlg
                        have HV19 := Aside0.mk hv
                        have HTM := Aside0.mk htm
                        have HPL := Aside0.mk hpl
                        have HCT := Aside0.mk (C_take HCW.out hpl)
                        clear hd h1 hv hrow hlg hCg hz2 htm
                        replace HCW := Aside0.mk (Kd.C_below HCW.out HBT.out)
                        replace HCT := Aside0.mk (Kd.C_below HCT.out HBT.out)
                        replace HP17 := Aside0.mk (blk_below HP17.out HBT.out)
                        replace HQ1 := Aside0.mk (blk_below HQ1.out HBT.out)
                        replace HX := Aside0.mk (BoxRow.below HX.out HBT.out)
                        replace HD0 := Aside0.mk (blk_below HD0.out HBT.out)
                        replace HD1 := Aside0.mk (blk_below HD1.out HBT.out)
                        replace HW := Aside0.mk (below_step HW.out HBT.out)
                        clear HBT
                        have HB73 := Aside0.mk (Below.refl Wt2.heap.size Wt2)
                        have hc_i_0 : Wt2.cell? ⟨h18_1, 0, none⟩ = some (.int .i64 2) := (blk_cell (blk_below HQ1.out HB73.out) 0).trans rfl
                        have hc_a_0 : Wt2.cell? ⟨g17, 0, none⟩ = some (.int .i64 p) := (blk_cell (blk_below HP17.out HB73.out) 0).trans rfl
                        have hc_r_0 : Wt2.cell? ⟨g19, 0, none⟩ = some (.slice Ag cm.length cg) := (blk_cell (blk_below HV19.out HB73.out) 0).trans rfl
                        have hcwm : cm.length ≤ cw := Nat.le_trans hpl HLW.out
                        have HCALL := flotillaref0_SameLabels.calls ((cm.take cm.length).length + 1) Ag cg (cm.take cm.length) Aw cw (cm.take cm.length) true Wt2 (by rw [HTM.out]; exact (Kd.C_below HCG.out HB73.out)) (by rw [HTM.out]; exact HLG.out) (by rw [HTM.out]; exact (Kd.C_below HCT.out HB73.out)) (by rw [HTM.out]; exact hcwm) (sameL_is _ (by rw [HTM.out]; have := HCM.out; have := HPL.out; omega))
                        rw [HTM.out] at HCALL
                        go_wp2_with (go_at_call 22; refine hold ?_)
                        refine Hold.intro ((HCALL).mono ?_)
                        rintro e w27_ ⟨rfl, hd⟩
                        have hb : Below Wt2.heap.size Wt2 w27_ := hd.below
                        clear hd
                        clear hc_i_0 hc_a_0 hc_r_0
                        have HB74 := Aside0.mk (below_step HB73.out hb)
                        clear HB73 hb
                        clear HCALL hmn hcwm
                        have hc_i_0 : w27_.cell? ⟨h18_1, 0, none⟩ = some (.int .i64 2) := (blk_cell (blk_below HQ1.out HB74.out) 0).trans rfl
                        go_wp2_with ((with_reducible refine gate_dst (N := 18) rfl ?_); refine hold ?_)
                        refine Hold.intro ?_
                        refine box_event (N := 18) (t := 3) (cs := #[.int .i64 0]) rfl rfl ?hr8 ?_
                        case hr8 => first | (go_simp; done) | (go_simp; rfl)
                        intro h18_2 hg w28_ hbox hb
                        have HG_ := Aside0.mk (show Wt2.heap.size ≤ h18_2 by rw [hg]; exact HB74.out.size)
                        have HQ2 := Aside0.mk hbox
                        clear hbox hg
                        have HB75 := Aside0.mk (below_step HB74.out hb)
                        clear HB74 hb
                        go_wp2_with ((with_reducible refine gate_store (t := 3) (p := 18) rfl ?_); refine hold ?_)
                        refine Hold.intro (cell_store_event (t := 3) (ty := 3) (p := 18) (x := .tmp 133) (g := h18_2) (j := 0) (cs := #[.int .i64 0]) (v := .int .i64 2) rfl rfl rfl rfl rfl (by kernel_rfl) HQ2.out (by decide) rfl rfl ?_)
                        intro w29_ hbox hg
                        replace HQ2 := Aside0.mk (show w29_.heap[h18_2]? = some (.cells #[.int .i64 2] 3 (0, 0)) from hbox)
                        clear hbox
                        have HB76 := Aside0.mk (Below.grown HB75.out hg HB75.out.size (fun k_ e_ => by injection e_ with e_; rw [← e_]; exact HG_.out))
                        clear hg HB75
                        clear hc_i_0
                        have hc_ : w29_.cell? ⟨h18_2, 0, none⟩ = some (.int .i64 2) := (blk_cell HQ2.out 0).trans rfl
                        go_wp2_with ((with_reducible refine gate_store (t := 3) (p := 18) rfl ?_); refine hold ?_)
                        clear hc_
                        refine Hold.intro (cell_store_event (t := 3) (ty := 3) (p := 18) (x := .tmp 106) (g := h18_2) (j := 0) (cs := #[.int .i64 2]) (v := .int .i64 3) rfl rfl rfl rfl rfl (by kernel_rfl) HQ2.out (by decide) rfl rfl ?_)
                        intro w30_ hbox hg
                        replace HQ2 := Aside0.mk (show w30_.heap[h18_2]? = some (.cells #[.int .i64 3] 3 (0, 0)) from hbox)
                        clear hbox
                        have HB77 := Aside0.mk (Below.grown HB76.out hg HB76.out.size (fun k_ e_ => by injection e_ with e_; rw [← e_]; exact HG_.out))
                        clear hg HB76
                        clear HG_
                        replace HCW := Aside0.mk (Kd.C_below HCW.out HB77.out)
                        replace HCT := Aside0.mk (Kd.C_below HCT.out HB77.out)
                        replace HP17 := Aside0.mk (blk_below HP17.out HB77.out)
                        replace HX := Aside0.mk (BoxRow.below HX.out HB77.out)
                        replace HD0 := Aside0.mk (blk_below HD0.out HB77.out)
                        replace HD1 := Aside0.mk (blk_below HD1.out HB77.out)
                        replace HD2 := Aside0.mk (blk_below HD2.out HB77.out)
                        replace HW := Aside0.mk (below_step HW.out HB77.out)
                        clear HB77
                        have HB78 := Aside0.mk (Below.refl w30_.heap.size w30_)
                        go_wp2
                        rw [rounds_succ]
                        have hc_i_0 : w30_.cell? ⟨h18_2, 0, none⟩ = some (.int .i64 3) := (blk_cell (blk_below HQ2.out HB78.out) 0).trans rfl
                        go_wp2
                        have X0 := (below_step HW.out HB78.out)
                        have X1 := X0.grown (grownBy_putObj' _ w26_.heap.size (.deferred none)) X0.size (fun k e => by cases e; exact HWN2.out)
                        have X2 := X1.grown (grownBy_putObj' _ w21_.heap.size (.deferred none)) X1.size (fun k e => by cases e; exact HWN1.out)
                        have X3 := X2.grown (grownBy_putObj' _ w16_.heap.size (.deferred none)) X2.size (fun k e => by cases e; exact HWN0.out)
                        refine ⟨by simp, .inl ⟨_, _, rfl, run_takeDeferred (blk_below HD2.out HB78.out), ?_⟩⟩
                        refine ⟨by simp, .inl ⟨_, _, rfl, run_takeDeferred (blk_grown (blk_below HD1.out HB78.out) (grownBy_putObj' _ _ _) (fun e => by injection e with e; exact HNE12.out e)), ?_⟩⟩
                        refine ⟨by simp, .inl ⟨_, _, rfl, run_takeDeferred (blk_grown (blk_grown (blk_below HD0.out HB78.out) (grownBy_putObj' _ _ _) (fun e => by injection e with e; exact HNE02.out e)) (grownBy_putObj' _ _ _) (fun e => by injection e with e; exact HNE01.out e)), ?_⟩⟩
                        exact ⟨_, results_tmp rfl _ _ _, rfl, X3⟩
                      · obtain rfl : p = cm.length := by omega
                        have hmn := hpl
                        clear hip hlp
                        clear it firm
                        obtain ⟨Wt2, rfl⟩ : ∃ x, x = W := ⟨_, rfl⟩
                        have HD2 := Aside0.mk hd
                        have HBT := Aside0.mk h1
                        obtain ⟨v, hv, hrow⟩ := h2
                        have htm : (cm.take cm.length).length = cm.length := by rw [List.length_take]; omega
                        obtain ⟨Ag, cg, rfl, hlg, hCg⟩ := Kd.R_reads hrow
                        rw [htm] at hCg hlg hv
                        have HCG := Aside0.mk hCg
                        have HLG := Aside0.mk hlg
                        have HV19 := Aside0.mk hv
                        have HTM := Aside0.mk htm
                        have HPL := Aside0.mk hpl
                        have HCT := Aside0.mk (C_take HCW.out hpl)
                        clear hd h1 hv hrow hlg hCg hz2 htm
                        replace HCW := Aside0.mk (Kd.C_below HCW.out HBT.out)
                        replace HCT := Aside0.mk (Kd.C_below HCT.out HBT.out)
                        replace HP17 := Aside0.mk (blk_below HP17.out HBT.out)
                        replace HQ1 := Aside0.mk (blk_below HQ1.out HBT.out)
                        replace HX := Aside0.mk (BoxRow.below HX.out HBT.out)
                        replace HD0 := Aside0.mk (blk_below HD0.out HBT.out)
                        replace HD1 := Aside0.mk (blk_below HD1.out HBT.out)
                        replace HW := Aside0.mk (below_step HW.out HBT.out)
                        clear HBT
                        have HB73 := Aside0.mk (Below.refl Wt2.heap.size Wt2)
                        have hc_i_0 : Wt2.cell? ⟨h18_1, 0, none⟩ = some (.int .i64 2) := (blk_cell (blk_below HQ1.out HB73.out) 0).trans rfl
                        have hc_a_0 : Wt2.cell? ⟨g17, 0, none⟩ = some (.int .i64 cm.length) := (blk_cell (blk_below HP17.out HB73.out) 0).trans rfl
                        have hc_r_0 : Wt2.cell? ⟨g19, 0, none⟩ = some (.slice Ag cm.length cg) := (blk_cell (blk_below HV19.out HB73.out) 0).trans rfl
                        have hcwm : cm.length ≤ cw := Nat.le_trans hpl HLW.out
                        have HCALL := flotillaref0_SameLabels.calls ((cm.take cm.length).length + 1) Ag cg (cm.take cm.length) Aw cw (cm.take cm.length) true Wt2 (by rw [HTM.out]; exact (Kd.C_below HCG.out HB73.out)) (by rw [HTM.out]; exact HLG.out) (by rw [HTM.out]; exact (Kd.C_below HCT.out HB73.out)) (by rw [HTM.out]; exact hcwm) (sameL_is _ (by rw [HTM.out]; have := HCM.out; have := HPL.out; omega))
                        rw [HTM.out] at HCALL
                        go_wp2_with (go_at_call 22; refine hold ?_)
                        refine Hold.intro ((HCALL).mono ?_)
                        rintro e w27_ ⟨rfl, hd⟩
                        have hb : Below Wt2.heap.size Wt2 w27_ := hd.below
                        clear hd
                        clear hc_i_0 hc_a_0 hc_r_0
                        have HB74 := Aside0.mk (below_step HB73.out hb)
                        clear HB73 hb
                        clear HCALL hmn hcwm
                        have hc_i_0 : w27_.cell? ⟨h18_1, 0, none⟩ = some (.int .i64 2) := (blk_cell (blk_below HQ1.out HB74.out) 0).trans rfl
                        go_wp2_with ((with_reducible refine gate_dst (N := 18) rfl ?_); refine hold ?_)
                        refine Hold.intro ?_
                        refine box_event (N := 18) (t := 3) (cs := #[.int .i64 0]) rfl rfl ?hr8 ?_
                        case hr8 => first | (go_simp; done) | (go_simp; rfl)
                        intro h18_2 hg w28_ hbox hb
                        have HG_ := Aside0.mk (show Wt2.heap.size ≤ h18_2 by rw [hg]; exact HB74.out.size)
                        have HQ2 := Aside0.mk hbox
                        clear hbox hg
                        have HB75 := Aside0.mk (below_step HB74.out hb)
                        clear HB74 hb
                        go_wp2_with ((with_reducible refine gate_store (t := 3) (p := 18) rfl ?_); refine hold ?_)
                        refine Hold.intro (cell_store_event (t := 3) (ty := 3) (p := 18) (x := .tmp 133) (g := h18_2) (j := 0) (cs := #[.int .i64 0]) (v := .int .i64 2) rfl rfl rfl rfl rfl (by kernel_rfl) HQ2.out (by decide) rfl rfl ?_)
                        intro w29_ hbox hg
                        replace HQ2 := Aside0.mk (show w29_.heap[h18_2]? = some (.cells #[.int .i64 2] 3 (0, 0)) from hbox)
                        clear hbox
                        have HB76 := Aside0.mk (Below.grown HB75.out hg HB75.out.size (fun k_ e_ => by injection e_ with e_; rw [← e_]; exact HG_.out))
                        clear hg HB75
                        clear hc_i_0
                        have hc_ : w29_.cell? ⟨h18_2, 0, none⟩ = some (.int .i64 2) := (blk_cell HQ2.out 0).trans rfl
                        go_wp2_with ((with_reducible refine gate_store (t := 3) (p := 18) rfl ?_); refine hold ?_)
                        clear hc_
                        refine Hold.intro (cell_store_event (t := 3) (ty := 3) (p := 18) (x := .tmp 106) (g := h18_2) (j := 0) (cs := #[.int .i64 2]) (v := .int .i64 3) rfl rfl rfl rfl rfl (by kernel_rfl) HQ2.out (by decide) rfl rfl ?_)
                        intro w30_ hbox hg
                        replace HQ2 := Aside0.mk (show w30_.heap[h18_2]? = some (.cells #[.int .i64 3] 3 (0, 0)) from hbox)
                        clear hbox
                        have HB77 := Aside0.mk (Below.grown HB76.out hg HB76.out.size (fun k_ e_ => by injection e_ with e_; rw [← e_]; exact HG_.out))
                        clear hg HB76
                        clear HG_
                        replace HCW := Aside0.mk (Kd.C_below HCW.out HB77.out)
                        replace HCT := Aside0.mk (Kd.C_below HCT.out HB77.out)
                        replace HP17 := Aside0.mk (blk_below HP17.out HB77.out)
                        replace HX := Aside0.mk (BoxRow.below HX.out HB77.out)
                        replace HD0 := Aside0.mk (blk_below HD0.out HB77.out)
                        replace HD1 := Aside0.mk (blk_below HD1.out HB77.out)
                        replace HD2 := Aside0.mk (blk_below HD2.out HB77.out)
                        replace HW := Aside0.mk (below_step HW.out HB77.out)
                        clear HB77
                        have HB78 := Aside0.mk (Below.refl w30_.heap.size w30_)
                        go_wp2
                        rw [rounds_succ]
                        have hc_i_0 : w30_.cell? ⟨h18_2, 0, none⟩ = some (.int .i64 3) := (blk_cell (blk_below HQ2.out HB78.out) 0).trans rfl
                        go_wp2
                        have X0 := (below_step HW.out HB78.out)
                        have X1 := X0.grown (grownBy_putObj' _ w26_.heap.size (.deferred none)) X0.size (fun k e => by cases e; exact HWN2.out)
                        have X2 := X1.grown (grownBy_putObj' _ w21_.heap.size (.deferred none)) X1.size (fun k e => by cases e; exact HWN1.out)
                        have X3 := X2.grown (grownBy_putObj' _ w16_.heap.size (.deferred none)) X2.size (fun k e => by cases e; exact HWN0.out)
                        refine ⟨by simp, .inl ⟨_, _, rfl, run_takeDeferred (blk_below HD2.out HB78.out), ?_⟩⟩
                        refine ⟨by simp, .inl ⟨_, _, rfl, run_takeDeferred (blk_grown (blk_below HD1.out HB78.out) (grownBy_putObj' _ _ _) (fun e => by injection e with e; exact HNE12.out e)), ?_⟩⟩
                        refine ⟨by simp, .inl ⟨_, _, rfl, run_takeDeferred (blk_grown (blk_grown (blk_below HD0.out HB78.out) (grownBy_putObj' _ _ _) (fun e => by injection e with e; exact HNE02.out e)) (grownBy_putObj' _ _ _) (fun e => by injection e with e; exact HNE01.out e)), ?_⟩⟩
                        exact ⟨_, results_tmp rfl _ _ _, rfl, X3⟩
end Go.Proofs.Ytamjjeakkkdfhaa.G
end
section
namespace Go.Proofs.Ytamjjeakkkdfhaa.G
open Go.RowKit Go.Proofs.YtamjjeakkkdfhaaW.PrintWords Go.Proofs.YtamjjeakkkdfhaaW.PrintLast Go.Proofs.YtamjjeakkkdfhaaW.PrintMore
open Go.Proofs.Ytamjjeakkkdfhaa.K Go.Proofs.YtamjjeakkkdfhaaE Go.Proofs.Ytamjjeakkkdfhaa.OP
set_option linter.unusedVariables false
set_option maxRecDepth 100000 in
theorem opens_labels : Opens Try.prog 22 (Kd.slice 31 k31) (fun l => l.length * 32 ≤ reachBytes) := opens_mono (opens_slice (e := 31) 31 (by kernel_rfl) opens_label (by kernel_rfl) z31) (fun l h => h.1)
set_option maxRecDepth 100000 in
open Go.WideShapes in
theorem open_labels {H : Type} {enc : TypeId × Value → H} {W : World} {base : Nat} {r : Reach} {v : Value} {d : DataW H} {p : List MemPlace} (hv : Value.okWide Try.prog W r base 22 v) (h : DataW.Trod enc Try.prog W 0 (fun _ => true) true 22 v d p) (hw : ∀ n ∈ d.weights Try.prog 22, n ≤ reachBytes) :
    ∃ A c l, v = .slice A (l : List S31).length c ∧ l.length ≤ c ∧ k31.C W A l.length l ∧ l.length * 32 ≤ reachBytes := by
  obtain ⟨a, len, cap, rfl⟩ := okWide_slice Try.underlying22 hv
  obtain ⟨fuel, hf⟩ := h
  obtain ⟨l, hK, q⟩ := opens_labels H enc W 0 _ true fuel _ _ hf hw
  obtain ⟨A, c, e, hb, hg⟩ := hK
  have e' : [Value.slice a len cap] = [.slice A l.length c] := e
  injection e' with e1 _
  exact ⟨A, c, l, e1, hb, hg, q⟩
end Go.Proofs.Ytamjjeakkkdfhaa.G
end
