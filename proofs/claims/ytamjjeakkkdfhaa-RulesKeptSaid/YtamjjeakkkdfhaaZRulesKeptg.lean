/- Parts of the proof of RulesKept: lemmas, put together by a program of this session (pack.py) out of the kit's words, printed contracts and texts of its own. -/
import Derived.Test.YtamjjeakkkdfhaaProg
import Derived.Below
import Derived.Deep.Draws
import Derived.Deep.AppendLies
import Derived.Maps.AppendAt
import Derived.OwnWalk
import Derived.Laws.BytesArg
import Derived.Laws.MakeOwn
import Derived.Laws.OwnMore
import Derived.Deep.OwnRows
import Derived.Tactics
import Derived.Lib.ConvBytes
import Derived.Laws.Slices
import Derived.WalkKit
import Derived.KernelRfl
import Derived.RowKit3
import Derived.Deep.LoopGhost
import Derived.Deep.QuietTactic
import Derived.BigQuiet
import Derived.WideLaws
import Derived.Deep.DeepCutAuto
import Derived.Deep.CutBlock
import Derived.Deep.RegionHeld3
import Derived.Laws.Rows
import Derived.Lib.AppendStr
import Derived.ArgAppend
import Derived.Laws.IdiomCopy
import Derived.OrdersHeld
import Derived.Laws.BitsLemmas
import Derived.RowKit
import Derived.Laws.StructEq
import Derived.RangeFuncNested
import Derived.RangeFuncBound
import Derived.RangeFuncCalls
import Derived.RangeFuncLeaves
import Derived.Shelf.Abstract
import Derived.Shelf.RegionOpen
import Derived.OwnWalkIn
import Derived.TacticsInMore
import Derived.LoopNIn
import Derived.LoopIn
import Derived.Maps.Own
import Derived.Maps.OwnOps
import Derived.Maps.Views
import Derived.StringKeys
import Derived.ChangeArms
import Derived.SizedLaws
import Derived.SliceStrings
import Derived.Laws.EntriesVeiled
import Derived.Test.YtamjjeakkkdfhaaZRulesKepta
import Derived.Test.YtamjjeakkkdfhaaZRulesKeptb
import Derived.Test.YtamjjeakkkdfhaaZRulesKeptc
import Derived.Test.YtamjjeakkkdfhaaZRulesKeptd
import Derived.Test.YtamjjeakkkdfhaaZRulesKepte
import Derived.Test.YtamjjeakkkdfhaaZRulesKeptf
namespace Foot
end Foot
namespace Go.Proofs.Ytamjjeakkkdfhaa
end Go.Proofs.Ytamjjeakkkdfhaa
namespace Go.Proofs.Ytamjjeakkkdfhaa.G
end Go.Proofs.Ytamjjeakkkdfhaa.G
namespace Go.Proofs.Ytamjjeakkkdfhaa.K
end Go.Proofs.Ytamjjeakkkdfhaa.K
namespace Go.Proofs.Ytamjjeakkkdfhaa.OP
end Go.Proofs.Ytamjjeakkkdfhaa.OP
namespace Go.Proofs.Ytamjjeakkkdfhaa.PB
end Go.Proofs.Ytamjjeakkkdfhaa.PB
namespace Go.Proofs.Ytamjjeakkkdfhaa.PC
end Go.Proofs.Ytamjjeakkkdfhaa.PC
namespace Go.Proofs.Ytamjjeakkkdfhaa.PD
end Go.Proofs.Ytamjjeakkkdfhaa.PD
namespace Go.Proofs.Ytamjjeakkkdfhaa.rulesKept
end Go.Proofs.Ytamjjeakkkdfhaa.rulesKept
namespace Go.Proofs.YtamjjeakkkdfhaaE
end Go.Proofs.YtamjjeakkkdfhaaE
namespace Go.Proofs.YtamjjeakkkdfhaaRF
end Go.Proofs.YtamjjeakkkdfhaaRF
namespace Go.Proofs.YtamjjeakkkdfhaaW.PrintLast
end Go.Proofs.YtamjjeakkkdfhaaW.PrintLast
namespace Go.Proofs.YtamjjeakkkdfhaaW.PrintMore
end Go.Proofs.YtamjjeakkkdfhaaW.PrintMore
namespace Go.Proofs.YtamjjeakkkdfhaaW.PrintWords
end Go.Proofs.YtamjjeakkkdfhaaW.PrintWords
namespace Kd
end Kd
section
namespace Go.Proofs.Ytamjjeakkkdfhaa.G
open Go.RowKit Go.Proofs.YtamjjeakkkdfhaaW.PrintWords Go.Proofs.YtamjjeakkkdfhaaW.PrintLast Go.Proofs.YtamjjeakkkdfhaaW.PrintMore
open Go.Proofs.Ytamjjeakkkdfhaa.K Go.Proofs.YtamjjeakkkdfhaaE Go.Proofs.Ytamjjeakkkdfhaa.PB Go.Proofs.Ytamjjeakkkdfhaa.PC Go.Proofs.Ytamjjeakkkdfhaa.PD
set_option linter.unusedVariables false
set_option linter.unusedSimpArgs false
def kept.T14 : Bool × List (List Nat × List Nat) := (true, [([], []), ([], []), ([1], [1]), ([0, 2], [0, 2]), ([], []), ([], []), ([5], [5]), ([4, 6, 3], [4, 6]), ([3, 7], [3, 7]), ([8, 7, 0, 1, 2, 3, 4, 5, 6, 7, 8], [8])])
def kept.B14 : List Nat := [0, 0, 2, 7, 0, 0, 32, 127, 255, 511]
theorem kept.tab14 : rtab .any (opsOf Try.f12 14) = kept.T14 := by kernel_rfl
theorem kept.bits14 : waitsOk kept.T14.2 kept.B14 = true := by kernel_rfl
def kept.T16 : Bool × List (List Nat × List Nat) := (true, [([], []), ([0], [0]), ([1], [1]), ([2], [2]), ([2], [2]), ([4, 2], [2, 4]), ([3, 5, 2, 2], [2, 3, 5]), ([2], [2]), ([7, 2], [2, 7]), ([2], [2]), ([8, 9, 2], [2, 8, 9]), ([10, 2], [2, 10]), ([11, 2], [2, 11]), ([12, 6, 2], [2, 12]), ([2], [2]), ([14, 2], [2, 14]), ([2], [2]), ([15, 16, 2], [2, 15, 16]), ([17, 2], [2, 17]), ([18, 2], [2, 18]), ([19, 13, 2], [2, 19]), ([13, 20, 2], [2, 13, 20]), ([6, 21, 2], [2, 6, 21]), ([2, 22], [2, 22])])
def kept.B16 : List Nat := [0, 1, 3, 7, 7, 23, 63, 7, 135, 7, 903, 1927, 3975, 8191, 7, 16391, 7, 114695, 245767, 507911, 1048575, 2097151, 4194303, 8388607]
theorem kept.tab16 : rtab .any (opsOf Try.f12 16) = kept.T16 := by kernel_rfl
theorem kept.bits16 : waitsOk kept.T16.2 kept.B16 = true := by kernel_rfl
def kept.T21 : Bool × List (List Nat × List Nat) := (true, [([], []), ([0], [0]), ([], []), ([1, 2], [1, 2]), ([3], [3]), ([4], [4]), ([], []), ([6], [6]), ([5, 7], [5, 7]), ([8, 8], [8]), ([9], [9]), ([9], [9]), ([11, 9], [9, 11]), ([9], [9]), ([12, 13, 9], [9, 12, 13]), ([14, 9], [9, 14]), ([10, 15, 9, 9], [9, 10, 15]), ([9], [9]), ([17, 9], [9, 17]), ([9], [9]), ([18, 19, 9], [9, 18, 19]), ([20, 9], [9, 20]), ([21, 9], [9, 21]), ([16, 22, 9], [9, 16, 22]), ([9, 23], [9, 23])])
def kept.B21 : List Nat := [0, 1, 0, 7, 15, 31, 0, 64, 255, 511, 1023, 1023, 3071, 1023, 15359, 31743, 65535, 1023, 132095, 1023, 918527, 1967103, 4064255, 8388607, 16777215]
theorem kept.tab21 : rtab .any (opsOf Try.f12 21) = kept.T21 := by kernel_rfl
theorem kept.bits21 : waitsOk kept.T21.2 kept.B21 = true := by kernel_rfl
set_option maxRecDepth 100000 in
set_option maxHeartbeats 16000000 in
theorem kept_walk (A0 : Option Addr) (c0 : Nat) (l0 : List S68) (A1 : Option Addr) (c1 : Nat) (l1 : List S68) (A2 : Option Addr) (c2 : Nat) (l2 : List S68) (A3 : Option Addr) (c3 : Nat) (l3 : List S68) (a1 : Int) (w : World) (hr0 : k68.C w A0 l0.length l0) (hc0 : l0.length ≤ c0) (hr1 : k68.C w A1 l1.length l1) (hc1 : l1.length ≤ c1) (hr2 : k68.C w A2 l2.length l2) (hc2 : l2.length ≤ c2) (hr3 : k68.C w A3 l3.length l3) (hc3 : l3.length ≤ c3) (o0 : okRow l0) (o1 : okRow l1) (o2 : okRow l2) (o3 : okRow l3) :
    Calls Try.prog 12 #[.agg #[.slice A0 l0.length c0, .slice A1 l1.length c1, .slice A2 l2.length c2, .slice A3 l3.length c3], .int .i64 a1] w fun e w' => e = .returned (.bool true) ∧ Below w.heap.size w w' := by
  have HR0 := Aside0.mk hr0
  have HC0 := Aside0.mk hc0
  have HR1 := Aside0.mk hr1
  have HC1 := Aside0.mk hc1
  have HR2 := Aside0.mk hr2
  have HC2 := Aside0.mk hc2
  have HR3 := Aside0.mk hr3
  have HC3 := Aside0.mk hc3
  have HO := Aside0.mk (show okRow l0 ∧ okRow l1 ∧ okRow l2 ∧ okRow l3 from ⟨o0, o1, o2, o3⟩)
  have HSD := Aside0.mk (show rules_Sound.f l0 l1 l2 l3 = some (soundL l0 l1) from if_pos (by rw [names_ok o0, names_ok o1]; rfl))
  have HBZ := Aside0.mk (show ∀ b ∈ l3, b.f25.length * 32 ≤ 140737488351232 from fun b hb => (o3.2 b hb).2.2)
  clear hr0 hr1 hr2 hr3 hc0 hc1 hc2 hc3 o0 o1 o2 o3
  have hu59 := Try.underlying59
  have hu57 := Try.underlying57
  have hu68 := Try.underlying68
  go_enter Try.func12, Try.ntmps12
  go_wp2_with ((with_reducible refine gate_dst (N := 2) rfl ?_); refine hold ?_)
  refine Hold.intro ?_
  refine box_event (N := 2) (cs := #[.slice A0 l0.length c0, .slice A1 l1.length c1, .slice A2 l2.length c2, .slice A3 l3.length c3]) (t := 59) rfl rfl ?hr ?_
  case hr => first | (go_simp; done) | (go_simp; rfl)
  intro gb hg wb hbox hb
  have HW := Aside0.mk hb
  have HXG := Aside0.mk hbox
  clear hb hbox hg
  replace HR0 := Aside0.mk (Kd.C_below HR0.out HW.out)
  replace HR1 := Aside0.mk (Kd.C_below HR1.out HW.out)
  replace HR2 := Aside0.mk (Kd.C_below HR2.out HW.out)
  replace HR3 := Aside0.mk (Kd.C_below HR3.out HW.out)
  have HB0 := Aside0.mk (Below.refl wb.heap.size wb)
  go_wp2_with (go_at_call 54; refine hold ?_)
  refine Hold.intro ((law16_works.calls _).mono ?_)
  rintro e w1_ ⟨rfl, hb⟩
  have HB1 := Aside0.mk (below_step HB0.out hb)
  clear HB0 hb
  have hc_g_0 : w1_.cell? ⟨gb, 0, none⟩ = some (.slice A0 l0.length c0) := (blk_cell (blk_below HXG.out HB1.out) 0).trans rfl
  have hc_g_1 : w1_.cell? ⟨gb, 1, none⟩ = some (.slice A1 l1.length c1) := (blk_cell (blk_below HXG.out HB1.out) 1).trans rfl
  have hc_g_2 : w1_.cell? ⟨gb, 2, none⟩ = some (.slice A2 l2.length c2) := (blk_cell (blk_below HXG.out HB1.out) 2).trans rfl
  have hc_g_3 : w1_.cell? ⟨gb, 3, none⟩ = some (.slice A3 l3.length c3) := (blk_cell (blk_below HXG.out HB1.out) 3).trans rfl
  go_wp2_with (go_at_call 32; refine hold ?_)
  refine Hold.intro ((flotillalaw16_big.calls _ _ l0 _ _ l1 _ _ l2 _ _ l3 (bigF l0 l1 l2 l3) _ (Kd.C_below HR0.out HB1.out) HC0.out (Kd.C_below HR1.out HB1.out) HC1.out (Kd.C_below HR2.out HB1.out) HC2.out (Kd.C_below HR3.out HB1.out) HC3.out (bigF_is l0 l1 l2 l3)).mono ?_)
  rintro e w2_ ⟨rfl, hb⟩
  clear hc_g_0 hc_g_1 hc_g_2 hc_g_3
  have HB2 := Aside0.mk (below_step HB1.out hb)
  clear HB1 hb
  cases hbig : bigF l0 l1 l2 l3 with
  | true =>
    clear hbig
    go_wp2_with (go_at_call 54; refine hold ?_)
    refine Hold.intro ((law16_works.calls _).mono ?_)
    rintro e w91_ ⟨rfl, hb⟩
    have HB91 := Aside0.mk (below_step HB2.out hb)
    clear HB2 hb
    go_wp2
    go_ret
    exact ⟨rfl, (below_step HW.out HB91.out)⟩
  | false =>
    have HLN := Aside0.mk (show l0.length ≤ 300 ∧ l1.length ≤ 300 ∧ l2.length ≤ 300 ∧ l3.length ≤ 300 by
      unfold bigF at hbig
      simp only [Bool.or_eq_false_iff, decide_eq_false_iff_not] at hbig
      omega)
    clear hbig
    have hc_g_0 : w2_.cell? ⟨gb, 0, none⟩ = some (.slice A0 l0.length c0) := (blk_cell (blk_below HXG.out HB2.out) 0).trans rfl
    have hc_g_1 : w2_.cell? ⟨gb, 1, none⟩ = some (.slice A1 l1.length c1) := (blk_cell (blk_below HXG.out HB2.out) 1).trans rfl
    have hc_g_2 : w2_.cell? ⟨gb, 2, none⟩ = some (.slice A2 l2.length c2) := (blk_cell (blk_below HXG.out HB2.out) 2).trans rfl
    have hc_g_3 : w2_.cell? ⟨gb, 3, none⟩ = some (.slice A3 l3.length c3) := (blk_cell (blk_below HXG.out HB2.out) 3).trans rfl
    go_wp2_with (go_at_call 55; refine hold ?_)
    refine Hold.intro ((rules_Sound.calls _ _ l0 _ _ l1 _ _ l2 _ _ l3 (soundL l0 l1) _ (Kd.C_below HR0.out HB2.out) HC0.out (Kd.C_below HR1.out HB2.out) HC1.out (Kd.C_below HR2.out HB2.out) HC2.out (Kd.C_below HR3.out HB2.out) HC3.out HSD.out).mono ?_)
    rintro e w3_ ⟨rfl, hb⟩
    clear hc_g_0 hc_g_1 hc_g_2 hc_g_3
    have HB3 := Aside0.mk (below_step HB2.out hb)
    clear HB2 hb
    cases hso : soundL l0 l1 with
    | some cc =>
      clear hso
      rw [errW_some]
      go_wp2_with (go_at_call 54; refine hold ?_)
      refine Hold.intro ((law16_works.calls _).mono ?_)
      rintro e w91_ ⟨rfl, hb⟩
      have HB91 := Aside0.mk (below_step HB3.out hb)
      clear HB3 hb
      go_wp2
      go_ret
      exact ⟨rfl, (below_step HW.out HB91.out)⟩
    | none =>
      have HSO := Aside0.mk hso
      clear hso
      rw [errW_none]
      obtain ⟨p, hp⟩ := pick_is l1 a1 HLN.out.2.1
      have HP := Aside0.mk hp
      clear hp
      have HAT := Aside0.mk (at_is l1 p (by have := HLN.out.2.1; omega) (l1.length + 1) (by omega))
      have hc_g_0 : w3_.cell? ⟨gb, 0, none⟩ = some (.slice A0 l0.length c0) := (blk_cell (blk_below HXG.out HB3.out) 0).trans rfl
      have hc_g_1 : w3_.cell? ⟨gb, 1, none⟩ = some (.slice A1 l1.length c1) := (blk_cell (blk_below HXG.out HB3.out) 1).trans rfl
      have hc_g_2 : w3_.cell? ⟨gb, 2, none⟩ = some (.slice A2 l2.length c2) := (blk_cell (blk_below HXG.out HB3.out) 2).trans rfl
      have hc_g_3 : w3_.cell? ⟨gb, 3, none⟩ = some (.slice A3 l3.length c3) := (blk_cell (blk_below HXG.out HB3.out) 3).trans rfl
      go_wp2_with (go_at_call 56; refine hold ?_)
      refine Hold.intro ((flotillalaw16_pick.calls _ _ l1 a1 p _ (Kd.C_below HR1.out HB3.out) HC1.out HP.out).mono ?_)
      rintro e w4_ ⟨rfl, hd⟩
      have hb : Below w3_.heap.size w3_ w4_ := by obtain ⟨m, rfl⟩ := hd; exact pw_below_drewN (Below.refl _ _) _
      clear hd
      clear hc_g_0 hc_g_1 hc_g_2 hc_g_3
      have HB4 := Aside0.mk (below_step HB3.out hb)
      clear HB3 hb
      have hc_g_0 : w4_.cell? ⟨gb, 0, none⟩ = some (.slice A0 l0.length c0) := (blk_cell (blk_below HXG.out HB4.out) 0).trans rfl
      have hc_g_1 : w4_.cell? ⟨gb, 1, none⟩ = some (.slice A1 l1.length c1) := (blk_cell (blk_below HXG.out HB4.out) 1).trans rfl
      have hc_g_2 : w4_.cell? ⟨gb, 2, none⟩ = some (.slice A2 l2.length c2) := (blk_cell (blk_below HXG.out HB4.out) 2).trans rfl
      have hc_g_3 : w4_.cell? ⟨gb, 3, none⟩ = some (.slice A3 l3.length c3) := (blk_cell (blk_below HXG.out HB4.out) 3).trans rfl
      go_wp2_with (go_at_call 59; refine hold ?_)
      refine Hold.intro ((flotillalaw16_at.calls (l1.length + 1) _ _ l1 p _ _ (Kd.C_below HR1.out HB4.out) HC1.out HAT.out).mono ?_)
      rintro e w5_ ⟨rfl, hd⟩
      have hb : Below w4_.heap.size w4_ w5_ := hd.below
      clear hd
      clear hc_g_0 hc_g_1 hc_g_2 hc_g_3
      have HB5 := Aside0.mk (below_step HB4.out hb)
      clear HB4 hb
      have hc_g_0 : w5_.cell? ⟨gb, 0, none⟩ = some (.slice A0 l0.length c0) := (blk_cell (blk_below HXG.out HB5.out) 0).trans rfl
      have hc_g_1 : w5_.cell? ⟨gb, 1, none⟩ = some (.slice A1 l1.length c1) := (blk_cell (blk_below HXG.out HB5.out) 1).trans rfl
      have hc_g_2 : w5_.cell? ⟨gb, 2, none⟩ = some (.slice A2 l2.length c2) := (blk_cell (blk_below HXG.out HB5.out) 2).trans rfl
      have hc_g_3 : w5_.cell? ⟨gb, 3, none⟩ = some (.slice A3 l3.length c3) := (blk_cell (blk_below HXG.out HB5.out) 3).trans rfl
      have HIX := Aside0.mk (show ∃ ix : Int, ix = idxOf (isNamed p) l1 from ⟨_, rfl⟩)
      generalize hix : idxOf (isNamed p) l1 = ix at HAT ⊢
      have HX := Aside0.mk hix
      clear hix HIX
      go_wp2_with (go_at_call 71; refine hold ?_)
      refine Hold.intro ((evict.calls A0 c0 l0 A1 c1 l1 A2 c2 l2 A3 c3 l3 p _ (Kd.C_below HR0.out HB5.out) HC0.out (Kd.C_below HR1.out HB5.out) HC1.out (Kd.C_below HR2.out HB5.out) HC2.out (Kd.C_below HR3.out HB5.out) HC3.out HBZ.out).mono ?_)
      rintro e w6_ ⟨rfl, hb⟩
      clear hc_g_0 hc_g_1 hc_g_2 hc_g_3
      have HB6 := Aside0.mk (below_step HB5.out hb)
      clear HB5 hb
      cases hev : evictL l0 l1 l2 l3 p with
      | some cc =>
        rw [errW_some]
        rcases evict_some hev with hfn | ⟨x, hfx, hor⟩
        · obtain rfl : ix = -1 := by rw [← HX.out]; exact findL_none hfn
          clear hfn hev
          go_wp2
          go_ret
          exact ⟨rfl, (below_step HW.out HB6.out)⟩
        · obtain ⟨i, hi, hidx, hxi⟩ := idx_find hfx
          obtain rfl : ix = (i : Int) := by rw [← HX.out]; exact hidx
          have HI := Aside0.mk hi
          have HOR := Aside0.mk hor
          have hrx : rd_T68 l1 (i : Int) = x := by rw [rd_get hi]; exact hxi
          obtain ⟨ad, z4, z27, hA, -, -, hzj, -⟩ := at_all HR1.out i hi
          rw [hrx] at hzj
          have HZ15 := Aside0.mk (hzj 15 (.bool x.f14) (by omega) rfl)
          have HZ16 := Aside0.mk (hzj 16 (.bool x.f15) (by omega) rfl)
          cases hA
          clear hzj hrx hfx hidx hxi hev hor hi HX HAT
          have hq15 : w6_.cell? ⟨(ad.add (i * 32)).block, (ad.add (i * 32)).off + 15, none⟩ = some (.bool x.f14) := (HB6.out.cell (World.block_lt_of_cell? wb _ HZ15.out)).trans HZ15.out
          have hq16 : w6_.cell? ⟨(ad.add (i * 32)).block, (ad.add (i * 32)).off + 16, none⟩ = some (.bool x.f15) := (HB6.out.cell (World.block_lt_of_cell? wb _ HZ16.out)).trans HZ16.out
          have hc_g_1 : w6_.cell? ⟨gb, 1, none⟩ = some (.slice (some ad) l1.length c1) := (blk_cell (blk_below HXG.out HB6.out) 1).trans rfl
          have hil : i < l1.length := HI.out
          cases h15 : x.f15 with
          | true =>
            rw [h15] at hq16
            clear h15
            go_wp2
            go_ret
            exact ⟨rfl, (below_step HW.out HB6.out)⟩
          | false =>
            have h14 : x.f14 = true := by rcases HOR.out with h | h
                                          · rw [h15] at h; cases h
                                          · exact h
            rw [h15] at hq16
            rw [h14] at hq15
            clear h15 h14
            go_wp2
            go_ret
            exact ⟨rfl, (below_step HW.out HB6.out)⟩
      | none =>
        rw [errW_none]
        obtain ⟨x, hfx, h15, hno⟩ := evict_none hev
        obtain ⟨i, hi, hidx, hxi⟩ := idx_find hfx
        obtain rfl : ix = (i : Int) := by rw [← HX.out]; exact hidx
        have HI := Aside0.mk hi
        have H15 := Aside0.mk h15
        have HNO := Aside0.mk hno
        have HXI := Aside0.mk (show l1[i]'HI.out = x from hxi)
        have hrx : rd_T68 l1 (i : Int) = x := by rw [rd_get hi]; exact hxi
        obtain ⟨ad, z4, z27, hA, hkx, -, -, hall⟩ := at_all HR1.out i hi
        rw [hrx] at hkx hall
        have HKX := Aside0.mk hkx
        have HALL := Aside0.mk hall
        have HRX := Aside0.mk hrx
        cases hA
        clear hkx hall hrx hfx hidx h15 hno hev HX HAT hxi
        have hc_g_1 : w6_.cell? ⟨gb, 1, none⟩ = some (.slice (some ad) l1.length c1) := (blk_cell (blk_below HXG.out HB6.out) 1).trans rfl
        have hil : i < l1.length := HI.out
        go_wp2_with (first | ((with_reducible refine gate_load (t := 68) rfl ?_); refine load_elem (x := x) (v4 := z4) (v27 := z27) rfl rfl rfl (fun j v hj => (HB6.out.cell (World.block_lt_of_cell? wb _ (HALL.out j v hj))).trans (HALL.out j v hj)) ?_) | ((with_reducible refine gate_dst (N := 7) rfl ?_); refine hold ?_))
        clear hc_g_1
        clear hi
        refine Hold.intro (alloc_obj rfl rfl (N := 7) rfl ?_)
        intro gx hg w7_ hbox hb
        have HGX := Aside0.mk (show wb.heap.size ≤ gx by rw [hg]; exact HB6.out.size)
        have HXX := Aside0.mk hbox
        clear hbox hg
        have HB7 := Aside0.mk (below_step HB6.out hb)
        clear HB6 hb
        go_wp2_with ((with_reducible refine gate_store (t := 68) (p := 7) rfl ?_); refine hold ?_)
        refine Hold.intro (box_store_event (t := 68) (ty := 68) (p := 7) (x := .tmp 57) (g := gx) (cs := zcObj) (cs' := cO x z4 z27) rfl rfl rfl rfl rfl size68 HXX.out rfl (kO_one HKX.out) ?_)
        intro w8_ hbox hg
        replace HXX := Aside0.mk hbox
        clear hbox
        have HB8 := Aside0.mk (Below.grown HB7.out hg HB7.out.size (fun k_ e_ => by injection e_ with e_; rw [← e_]; exact HGX.out))
        clear hg HB7
        replace HR0 := Aside0.mk (Kd.C_below HR0.out HB8.out)
        replace HR1 := Aside0.mk (Kd.C_below HR1.out HB8.out)
        replace HR2 := Aside0.mk (Kd.C_below HR2.out HB8.out)
        replace HR3 := Aside0.mk (Kd.C_below HR3.out HB8.out)
        replace HXG := Aside0.mk (blk_below HXG.out HB8.out)
        replace HKX := Aside0.mk (kO_below HKX.out HB8.out)
        replace HW := Aside0.mk (below_step HW.out HB8.out)
        clear HALL HGX HB8
        have HB9 := Aside0.mk (Below.refl w8_.heap.size w8_)
        have hc_g_0 : w8_.cell? ⟨gb, 0, none⟩ = some (.slice A0 l0.length c0) := (blk_cell (blk_below HXG.out HB9.out) 0).trans rfl
        have hc_g_1 : w8_.cell? ⟨gb, 1, none⟩ = some (.slice (some ad) l1.length c1) := (blk_cell (blk_below HXG.out HB9.out) 1).trans rfl
        have hc_g_2 : w8_.cell? ⟨gb, 2, none⟩ = some (.slice A2 l2.length c2) := (blk_cell (blk_below HXG.out HB9.out) 2).trans rfl
        have hc_g_3 : w8_.cell? ⟨gb, 3, none⟩ = some (.slice A3 l3.length c3) := (blk_cell (blk_below HXG.out HB9.out) 3).trans rfl
        have HCF := Aside0.mk (show flotillaref0_CopyFleet.f l0 l1 l2 l3 = some (l0, l1, l2, l3) by
          unfold flotillaref0_CopyFleet.f
          rw [copy_row HO.out.1 HLN.out.1, copy_row HO.out.2.1 HLN.out.2.1, copy_row HO.out.2.2.1 HLN.out.2.2.1, copy_row HO.out.2.2.2 HLN.out.2.2.2]; rfl)
        go_wp2_with (go_at_call 58; refine hold ?_)
        refine Hold.intro ((flotillaref0_CopyFleet.calls _ _ l0 _ _ l1 _ _ l2 _ _ l3 l0 l1 l2 l3 _ (Kd.C_below HR0.out HB9.out) HC0.out (Kd.C_below HR1.out HB9.out) HC1.out (Kd.C_below HR2.out HB9.out) HC2.out (Kd.C_below HR3.out HB9.out) HC3.out HCF.out).mono ?_)
        rintro e w9_ ⟨u0, u1, u2, u3, rfl, s0, s1, s2, s3, hb⟩
        clear hc_g_0 hc_g_1 hc_g_2 hc_g_3
        have HB10 := Aside0.mk (below_step HB9.out hb)
        clear HB9 hb
        have HZ8 := Aside0.mk (show w8_.heap.size ≤ w9_.heap.size from HB10.out.size)
        obtain ⟨B0, d0, rfl, e0, -⟩ := Kd.S_reads s0
        obtain ⟨B1, d1, rfl, e1, -⟩ := Kd.S_reads s1
        obtain ⟨B2, d2, rfl, e2, -⟩ := Kd.S_reads s2
        obtain ⟨B3, d3, rfl, e3, -⟩ := Kd.S_reads s3
        have HE := Aside0.mk (show l0.length ≤ d0 ∧ l1.length ≤ d1 ∧ l2.length ≤ d2 ∧ l3.length ≤ d3 from ⟨e0, e1, e2, e3⟩)
        clear e0 e1 e2 e3
        have HS0 := Aside0.mk (Kd.S_mono (ok' := fun k_ => k_ < w9_.heap.size ∧ some k_ ≠ (Value.slice B1 l1.length d1).ownBlock) (Kd.S_bound s0) (fun _ h_ => ⟨h_.2.2.1, h_.1.1⟩))
        have HS1 := Aside0.mk (Kd.S_mono (ok' := fun k_ => k_ < w9_.heap.size) (Kd.S_bound s1) (fun _ h_ => h_.2.2.1))
        have HS2 := Aside0.mk (Kd.S_mono (ok' := fun k_ => k_ < w9_.heap.size ∧ some k_ ≠ (Value.slice B1 l1.length d1).ownBlock) (Kd.S_bound s2) (fun _ h_ => ⟨h_.2.2.1, h_.1.2.1⟩))
        have HS3 := Aside0.mk (Kd.S_mono (ok' := fun k_ => k_ < w9_.heap.size ∧ some k_ ≠ (Value.slice B1 l1.length d1).ownBlock) (Kd.S_bound s3) (fun _ h_ => ⟨h_.2.2.1, h_.1.2.1⟩))
        clear s0 s1 s2 s3 HCF
        go_wp2_with ((with_reducible refine gate_dst (N := 8) rfl ?_); refine hold ?_)
        refine Hold.intro ?_
        refine box_event (N := 8) (t := 59) (cs := #[.slice none 0 0, .slice none 0 0, .slice none 0 0, .slice none 0 0]) rfl rfl ?hr8 ?_
        case hr8 => first | (go_simp; done) | (go_simp; rfl)
        intro gg hg w10_ hbox hb
        have HGG := Aside0.mk (show w9_.heap.size ≤ gg by rw [hg]; exact Nat.le_refl _)
        have HXgg := Aside0.mk hbox
        replace HS0 := Aside0.mk (Kd.S_below HS0.out hb)
        replace HS1 := Aside0.mk (Kd.S_below HS1.out hb)
        replace HS2 := Aside0.mk (Kd.S_below HS2.out hb)
        replace HS3 := Aside0.mk (Kd.S_below HS3.out hb)
        clear hbox hg
        have HB11 := Aside0.mk (below_step HB10.out hb)
        clear HB10 hb
        go_wp2_with ((with_reducible refine gate_store (t := 59) (p := 8) rfl ?_); refine hold ?_)
        refine Hold.intro (box_store_event (t := 59) (ty := 59) (p := 8) (x := .tmp 59) (g := gg) (cs := #[.slice none 0 0, .slice none 0 0, .slice none 0 0, .slice none 0 0]) (cs' := #[.slice B0 l0.length d0, .slice B1 l1.length d1, .slice B2 l2.length d2, .slice B3 l3.length d3]) rfl rfl rfl rfl rfl size59 HXgg.out rfl rfl ?_)
        intro w11_ hbox hg
        replace HS0 := Aside0.mk (Kd.S_grown HS0.out hg (fun k_ hk_ e_ => by have h1 := HGG.out; injection e_ with e_; have h2 : k_ < w9_.heap.size := hk_.1; omega))
        replace HS1 := Aside0.mk (Kd.S_grown HS1.out hg (fun k_ hk_ e_ => by have h1 := HGG.out; injection e_ with e_; have h2 : k_ < w9_.heap.size := hk_; omega))
        replace HS2 := Aside0.mk (Kd.S_grown HS2.out hg (fun k_ hk_ e_ => by have h1 := HGG.out; injection e_ with e_; have h2 : k_ < w9_.heap.size := hk_.1; omega))
        replace HS3 := Aside0.mk (Kd.S_grown HS3.out hg (fun k_ hk_ e_ => by have h1 := HGG.out; injection e_ with e_; have h2 : k_ < w9_.heap.size := hk_.1; omega))
        replace HXgg := Aside0.mk hbox
        clear hbox
        have HB12 := Aside0.mk (Below.grown HB11.out hg HB11.out.size (fun k_ e_ => by injection e_ with e_; rw [← e_]; exact (Nat.le_trans HZ8.out HGG.out)))
        clear hg HB11
        obtain ⟨go, co, eo, gb1, gl1, cl1, HGc⟩ := Kd.S_form HS1.out (by have := HI.out; omega)
        obtain ⟨rfl, rfl⟩ : B1 = some ⟨go, 0, none⟩ ∧ d1 = co := by injection eo with e1 e2 e3; exact ⟨e1, e3⟩
        have HNG := Aside0.mk (show go ≠ gg ∧ w8_.heap.size ≤ go by
          have h2 : go < w9_.heap.size := (Kd.S_R HS1.out).1 go rfl
          have h3 := HGG.out
          exact ⟨by omega, gb1⟩)
        clear eo gb1 gl1 cl1 HGc
        obtain ⟨hpc, hpf, hps⟩ := S_ending HS1.out i HI.out
        have hgp : w11_.cell? ⟨gg, 1, none⟩ = some (.slice (some ⟨go, 0, none⟩) l1.length d1) := (blk_cell HXgg.out 1).trans rfl
        have hil : i < l1.length := HI.out
        have HPS := Aside0.mk (hps true)
        clear hps
        go_wp2_with ((with_reducible refine gate_dst (N := 65) rfl ?_); refine hold ?_)
        refine Hold.intro ?_
        obtain ⟨w12_, hw_⟩ : ∃ w_, w_ = w11_.setCell ⟨go, i * 32 + 16, none⟩ (.bool true) := ⟨_, rfl⟩
        rw [← hw_] at HPS ⊢
        have hg : w11_.grownBy w12_ (some go) := by rw [hw_]; exact (show w11_.grownBy (w11_.setCells go (i * 32 + 16) [.bool true]) (some go) from grown_seg _ _ _ _)
        clear hw_ hpc hpf hgp hil
        replace HS0 := Aside0.mk (Kd.S_grown HS0.out hg (fun k_ hk_ => hk_.2))
        replace HS2 := Aside0.mk (Kd.S_grown HS2.out hg (fun k_ hk_ => hk_.2))
        replace HS3 := Aside0.mk (Kd.S_grown HS3.out hg (fun k_ hk_ => hk_.2))
        replace HXgg := Aside0.mk (blk_grown HXgg.out hg (fun e_ => by injection e_ with e_; exact HNG.out.1 e_.symm))
        replace HS1 := HPS
        clear HPS
        have HB13 := Aside0.mk (Below.grown HB12.out hg HB12.out.size (fun k_ e_ => by injection e_ with e_; rw [← e_]; exact HNG.out.2))
        clear hg HB12
        obtain ⟨hpc, hpf, hps⟩ := S_ready HS1.out i HI.out
        have hgp : w12_.cell? ⟨gg, 1, none⟩ = some (.slice (some ⟨go, 0, none⟩) l1.length d1) := (blk_cell HXgg.out 1).trans rfl
        have hil : i < l1.length := HI.out
        have HPS := Aside0.mk (hps false)
        clear hps
        go_wp2_with ((with_reducible refine gate_dst (N := 70) rfl ?_); refine hold ?_)
        refine Hold.intro ?_
        obtain ⟨w13_, hw_⟩ : ∃ w_, w_ = w12_.setCell ⟨go, i * 32 + 15, none⟩ (.bool false) := ⟨_, rfl⟩
        rw [← hw_] at HPS ⊢
        have hg : w12_.grownBy w13_ (some go) := by rw [hw_]; exact (show w12_.grownBy (w12_.setCells go (i * 32 + 15) [.bool false]) (some go) from grown_seg _ _ _ _)
        clear hw_ hpc hpf hgp hil
        replace HS0 := Aside0.mk (Kd.S_grown HS0.out hg (fun k_ hk_ => hk_.2))
        replace HS2 := Aside0.mk (Kd.S_grown HS2.out hg (fun k_ hk_ => hk_.2))
        replace HS3 := Aside0.mk (Kd.S_grown HS3.out hg (fun k_ hk_ => hk_.2))
        replace HXgg := Aside0.mk (blk_grown HXgg.out hg (fun e_ => by injection e_ with e_; exact HNG.out.1 e_.symm))
        replace HS1 := HPS
        clear HPS
        have HB14 := Aside0.mk (Below.grown HB13.out hg HB13.out.size (fun k_ e_ => by injection e_ with e_; rw [← e_]; exact HNG.out.2))
        clear hg HB13
        obtain ⟨ly, hly⟩ : ∃ ly, ly = l1.set i (ended x) := ⟨_, rfl⟩
        have HLY := Aside0.mk hly
        have HLL := Aside0.mk (show ly.length = l1.length by rw [hly]; exact List.length_set)
        have HU0 := Aside0.mk (Kd.S_reads' HS0.out).2.2
        have HU2 := Aside0.mk (Kd.S_reads' HS2.out).2.2
        have HU3 := Aside0.mk (Kd.S_reads' HS3.out).2.2
        have hy1 : (rd_T68 (l1.set i { rd_T68 l1 (i : Int) with f15 := true }) (i : Int)) = { x with f15 := true } := by rw [rd_get (by rw [List.length_set]; exact HI.out), List.getElem_set_self, HRX.out]
        have HU1 := Aside0.mk (show k68.C w13_ (some ⟨go, 0, none⟩) ly.length ly by
          have h1 := (Kd.S_reads' HS1.out).2.2
          rw [hy1, List.set_set] at h1
          rw [hly]; exact h1)
        clear hy1 hly HS0 HS1 HS2 HS3
        replace HR0 := Aside0.mk (Kd.C_below HR0.out HB14.out)
        replace HR1 := Aside0.mk (Kd.C_below HR1.out HB14.out)
        replace HR2 := Aside0.mk (Kd.C_below HR2.out HB14.out)
        replace HR3 := Aside0.mk (Kd.C_below HR3.out HB14.out)
        replace HXG := Aside0.mk (blk_below HXG.out HB14.out)
        replace HXX := Aside0.mk (blk_below HXX.out HB14.out)
        replace HKX := Aside0.mk (kO_below HKX.out HB14.out)
        replace HW := Aside0.mk (below_step HW.out HB14.out)
        clear HB14
        have HB15 := Aside0.mk (Below.refl w13_.heap.size w13_)
        have HYX := Aside0.mk (show l1[i]'HI.out = x from HXI.out)
        have HSN := Aside0.mk (show rules_Sound.f l0 ly l2 l3 = some none by
          have hs := sound_evict HI.out HSO.out
          rw [HYX.out, ← HLY.out] at hs
          have hz : namesOK ly = true := by
            have h1 := names_ok HO.out.2.1
            unfold namesOK at h1 ⊢
            rw [List.all_eq_true] at h1 ⊢
            intro y hy
            rw [HLY.out] at hy
            rcases List.mem_or_eq_of_mem_set hy with hm | rfl
            · exact h1 y hm
            · exact h1 x (by rw [← HYX.out]; exact List.getElem_mem HI.out)
          unfold rules_Sound.f
          rw [names_ok HO.out.1, hz, hs]; rfl)
        have hc_gg_0 : w13_.cell? ⟨gg, 0, none⟩ = some (.slice B0 l0.length d0) := (blk_cell (blk_below HXgg.out HB15.out) 0).trans rfl
        have hc_gg_1 : w13_.cell? ⟨gg, 1, none⟩ = some (.slice (some ⟨go, 0, none⟩) l1.length d1) := (blk_cell (blk_below HXgg.out HB15.out) 1).trans rfl
        have hc_gg_2 : w13_.cell? ⟨gg, 2, none⟩ = some (.slice B2 l2.length d2) := (blk_cell (blk_below HXgg.out HB15.out) 2).trans rfl
        have hc_gg_3 : w13_.cell? ⟨gg, 3, none⟩ = some (.slice B3 l3.length d3) := (blk_cell (blk_below HXgg.out HB15.out) 3).trans rfl
        have HCALL := rules_Sound.calls _ _ l0 _ _ ly _ _ l2 _ _ l3 none _ (Kd.C_below HU0.out HB15.out) HE.out.1 (Kd.C_below HU1.out HB15.out) (by rw [HLL.out]; exact HE.out.2.1) (Kd.C_below HU2.out HB15.out) HE.out.2.2.1 (Kd.C_below HU3.out HB15.out) HE.out.2.2.2 HSN.out
        rw [HLL.out, errW_none] at HCALL
        go_wp2_with (go_at_call 55; refine hold ?_)
        refine Hold.intro ((HCALL).mono ?_)
        rintro e w14_ ⟨rfl, hb⟩
        clear hc_gg_0 hc_gg_1 hc_gg_2 hc_gg_3
        have HB16 := Aside0.mk (below_step HB15.out hb)
        clear HB15 hb
        clear HCALL
        have hc_x_15 : w14_.cell? ⟨gx, 15, none⟩ = some (.bool x.f14) := (blk_cell (blk_below HXX.out HB16.out) 15).trans rfl
        cases h14 : x.f14 with
        | false =>
          rw [h14] at hc_x_15
          obtain ⟨m, hm⟩ : ∃ m : Int, m = ((countL (isReady x.f10) l1 : Nat) : Int) := ⟨_, rfl⟩
          have HRF := Aside0.mk (show rules_Ready.f l0 l1 l2 l3 x.f10 = some m by rw [hm]; rfl)
          have HRG := Aside0.mk (show rules_Ready.f l0 ly l2 l3 x.f10 = some m by
            show some ((countL (isReady x.f10) ly : Nat) : Int) = _
            have := ready_same HI.out (by rw [HYX.out]; exact h14) x.f10
            rw [HYX.out] at this
            rw [hm, HLY.out, this])
          clear hm h14
          have HRGC := Aside0.mk (show ∀ W, Below w13_.heap.size w13_ W → Calls Try.prog 36 #[.agg #[.slice B0 l0.length d0, .slice (some ⟨go, 0, none⟩) l1.length d1, .slice B2 l2.length d2, .slice B3 l3.length d3], .string x.f10] W (fun e w' => e = .returned (.int .i64 m) ∧ Below W.heap.size W w') from fun W HBW => by have h_ := rules_Ready.calls _ _ l0 _ d1 ly _ _ l2 _ _ l3 x.f10 m _ (Kd.C_below HU0.out HBW) HE.out.1 (Kd.C_below HU1.out HBW) (by rw [HLL.out]; exact HE.out.2.1) (Kd.C_below HU2.out HBW) HE.out.2.2.1 (Kd.C_below HU3.out HBW) HE.out.2.2.2 HRG.out; rw [HLL.out] at h_; exact h_)
          go_wp2
          clear hc_x_15
          have HB17 := Aside0.mk (below_drew1 HB16.out)
          clear HB16
          refine start_ (n := 10) (S := fun w' => w'.cell? ⟨gg, 0, none⟩ = some (.slice B0 l0.length d0) ∧ w'.cell? ⟨gg, 1, none⟩ = some (.slice (some ⟨go, 0, none⟩) l1.length d1) ∧ w'.cell? ⟨gg, 2, none⟩ = some (.slice B2 l2.length d2) ∧ w'.cell? ⟨gg, 3, none⟩ = some (.slice B3 l3.length d3) ∧ w'.cell? ⟨gb, 0, none⟩ = some (.slice A0 l0.length c0) ∧ w'.cell? ⟨gb, 1, none⟩ = some (.slice (some ad) l1.length c1) ∧ w'.cell? ⟨gb, 2, none⟩ = some (.slice A2 l2.length c2) ∧ w'.cell? ⟨gb, 3, none⟩ = some (.slice A3 l3.length c3) ∧ w'.cell? ⟨gx, 11, none⟩ = some (.string x.f10)) (ds := []) #[false, false, false, false, false, false, false, false, false, false] (by kernel_rfl) rfl rfl ⟨(blk_cell (blk_below HXgg.out HB17.out) 0).trans rfl, (blk_cell (blk_below HXgg.out HB17.out) 1).trans rfl, (blk_cell (blk_below HXgg.out HB17.out) 2).trans rfl, (blk_cell (blk_below HXgg.out HB17.out) 3).trans rfl, (blk_cell (blk_below HXG.out HB17.out) 0).trans rfl, (blk_cell (blk_below HXG.out HB17.out) 1).trans rfl, (blk_cell (blk_below HXG.out HB17.out) 2).trans rfl, (blk_cell (blk_below HXG.out HB17.out) 3).trans rfl, (blk_cell (blk_below HXX.out HB17.out) 11).trans rfl⟩ (fun hHeld => ?_); refine with_tabW kept.tab14 kept.bits14 (fun HT_ HW_ => ?_)
          generalize w14_.drew = w15_ at HB17 hHeld ⊢
          refine pure_ (i := 1) (N := some 77) (v := ?_) (a' := ?_) #[false, true, false, false, false, false, false, false, false, false] rfl rfl (any_of HT_.out (by kernel_rfl)) (fun _ _ _ h => h) (Or.inl ⟨by rfl, ?_⟩) ?_ ?_
          rotate_left
          · intro w'
            go_simp
            with_reducible rfl
          rotate_left
          · simp only [Act.put, List.setIfInBounds_toArray, List.set_cons_zero, List.set_cons_succ, i64_w, i32_w]
            rfl
          refine pure_ (i := 5) (N := some 81) (v := ?_) (a' := ?_) #[false, true, false, false, false, true, false, false, false, false] rfl rfl (any_of HT_.out (by kernel_rfl)) (fun _ _ _ h => h) (Or.inl ⟨by rfl, ?_⟩) ?_ ?_
          rotate_left
          · intro w'
            go_simp
            with_reducible rfl
          rotate_left
          · simp only [Act.put, List.setIfInBounds_toArray, List.set_cons_zero, List.set_cons_succ, i64_w, i32_w]
            rfl
          refine take_ (i := 0) (N := some 76) (v := ?_) (a' := ?_) #[true, true, false, false, false, true, false, false, false, false] rfl rfl (take_ofW HT_.out HW_.out (by kernel_rfl)) (fun _ _ _ h => h) (Or.inl ⟨by rfl, ?_⟩) hHeld ?_ ?_
          rotate_left
          · rintro w' ⟨s0, s1, s2, s3, s4, s5, s6, s7, s8⟩
            go_simp
            with_reducible rfl
          rotate_left
          · simp only [Act.put, List.setIfInBounds_toArray, List.set_cons_zero, List.set_cons_succ, i64_w, i32_w]
            rfl
          refine take_ (i := 2) (N := some 78) (v := ?_) (a' := ?_) #[true, true, true, false, false, true, false, false, false, false] rfl rfl (take_ofW HT_.out HW_.out (by kernel_rfl)) (fun _ _ _ h => h) (Or.inl ⟨by rfl, ?_⟩) hHeld ?_ ?_
          rotate_left
          · rintro w' ⟨s0, s1, s2, s3, s4, s5, s6, s7, s8⟩
            go_simp
            with_reducible rfl
          rotate_left
          · simp only [Act.put, List.setIfInBounds_toArray, List.set_cons_zero, List.set_cons_succ, i64_w, i32_w]
            rfl
          refine take_ (i := 4) (N := some 80) (v := ?_) (a' := ?_) #[true, true, true, false, true, true, false, false, false, false] rfl rfl (take_ofW HT_.out HW_.out (by kernel_rfl)) (fun _ _ _ h => h) (Or.inl ⟨by rfl, ?_⟩) hHeld ?_ ?_
          rotate_left
          · rintro w' ⟨s0, s1, s2, s3, s4, s5, s6, s7, s8⟩
            go_simp
            with_reducible rfl
          rotate_left
          · simp only [Act.put, List.setIfInBounds_toArray, List.set_cons_zero, List.set_cons_succ, i64_w, i32_w]
            rfl
          refine take_ (i := 6) (N := some 82) (v := ?_) (a' := ?_) #[true, true, true, false, true, true, true, false, false, false] rfl rfl (take_ofW HT_.out HW_.out (by kernel_rfl)) (fun _ _ _ h => h) (Or.inl ⟨by rfl, ?_⟩) hHeld ?_ ?_
          rotate_left
          · rintro w' ⟨s0, s1, s2, s3, s4, s5, s6, s7, s8⟩
            go_simp
            with_reducible rfl
          rotate_left
          · simp only [Act.put, List.setIfInBounds_toArray, List.set_cons_zero, List.set_cons_succ, i64_w, i32_w]
            rfl
          refine one_ (i := 3) (N := some 79) #[true, true, true, true, true, true, true, false, false, false] rfl rfl (one_of HT_.out (by kernel_rfl)) (by decide) (fun K hK => ?_)
          refine goes_ Try.func36 (by kernel_rfl) rfl #[.agg #[.slice B0 l0.length d0, .slice (some ⟨go, 0, none⟩) l1.length d1, .slice B2 l2.length d2, .slice B3 l3.length d3], .string x.f10] (by rfl) rfl rfl (by (try simp only [List.map_toArray, List.map_cons, List.map_nil]); first | done | rfl | (simp only [List.length_drop, List.length_take]; rfl)) ?_
          refine (HRGC.out _ HB17.out).mono ?_
          rintro e w16_ ⟨rfl, hb⟩
          refine ⟨_, rfl, ?_⟩
          have HB18 := Aside0.mk (below_step HB17.out hb)
          clear hb HB17
          refine hK.out _ _ ⟨(blk_cell (blk_below HXgg.out HB18.out) 0).trans rfl, (blk_cell (blk_below HXgg.out HB18.out) 1).trans rfl, (blk_cell (blk_below HXgg.out HB18.out) 2).trans rfl, (blk_cell (blk_below HXgg.out HB18.out) 3).trans rfl, (blk_cell (blk_below HXG.out HB18.out) 0).trans rfl, (blk_cell (blk_below HXG.out HB18.out) 1).trans rfl, (blk_cell (blk_below HXG.out HB18.out) 2).trans rfl, (blk_cell (blk_below HXG.out HB18.out) 3).trans rfl, (blk_cell (blk_below HXX.out HB18.out) 11).trans rfl⟩ (fun hHeld => ?_)
          clear hK K
          refine norm_ (a' := ?_) ?_ ?_
          rotate_left
          · show Act.put _ (some 79) _ = _
            simp only [Act.put, List.setIfInBounds_toArray, List.set_cons_zero, List.set_cons_succ, i64_w, i32_w]
            rfl
          refine one_ (i := 7) (N := some 83) #[true, true, true, true, true, true, true, true, false, false] rfl rfl (one_of HT_.out (by kernel_rfl)) (by decide) (fun K hK => ?_)
          refine goes_ Try.func36 (by kernel_rfl) rfl #[.agg #[.slice A0 l0.length c0, .slice (some ad) l1.length c1, .slice A2 l2.length c2, .slice A3 l3.length c3], .string x.f10] (by rfl) rfl rfl (by (try simp only [List.map_toArray, List.map_cons, List.map_nil]); first | done | rfl | (simp only [List.length_drop, List.length_take]; rfl)) ?_
          refine (rules_Ready.calls _ _ l0 _ _ l1 _ _ l2 _ _ l3 x.f10 m _ (Kd.C_below HR0.out HB18.out) HC0.out (Kd.C_below HR1.out HB18.out) HC1.out (Kd.C_below HR2.out HB18.out) HC2.out (Kd.C_below HR3.out HB18.out) HC3.out HRF.out).mono ?_
          rintro e w17_ ⟨rfl, hb⟩
          refine ⟨_, rfl, ?_⟩
          have HB19 := Aside0.mk (below_step HB18.out hb)
          clear hb HB18
          refine hK.out _ _ ⟨(blk_cell (blk_below HXgg.out HB19.out) 0).trans rfl, (blk_cell (blk_below HXgg.out HB19.out) 1).trans rfl, (blk_cell (blk_below HXgg.out HB19.out) 2).trans rfl, (blk_cell (blk_below HXgg.out HB19.out) 3).trans rfl, (blk_cell (blk_below HXG.out HB19.out) 0).trans rfl, (blk_cell (blk_below HXG.out HB19.out) 1).trans rfl, (blk_cell (blk_below HXG.out HB19.out) 2).trans rfl, (blk_cell (blk_below HXG.out HB19.out) 3).trans rfl, (blk_cell (blk_below HXX.out HB19.out) 11).trans rfl⟩ (fun hHeld => ?_)
          clear hK K
          refine norm_ (a' := ?_) ?_ ?_
          rotate_left
          · show Act.put _ (some 83) _ = _
            simp only [Act.put, List.setIfInBounds_toArray, List.set_cons_zero, List.set_cons_succ, i64_w, i32_w]
            rfl
          refine pure_ (i := 8) (N := some 84) (v := ?_) (a' := ?_) #[true, true, true, true, true, true, true, true, true, false] rfl rfl (any_of HT_.out (by kernel_rfl)) (fun _ _ _ h => h) (Or.inl ⟨by rfl, ?_⟩) ?_ ?_
          rotate_left
          · intro w'
            go_simp
            with_reducible rfl
          rotate_left
          · simp only [Act.put, List.setIfInBounds_toArray, List.set_cons_zero, List.set_cons_succ, i64_w, i32_w]
            rfl
          refine pure_ (i := 9) (N := some 4) (v := ?_) (a' := ?_) #[true, true, true, true, true, true, true, true, true, true] rfl rfl (any_of HT_.out (by kernel_rfl)) (fun _ _ _ h => h) (Or.inl ⟨by rfl, ?_⟩) ?_ ?_
          rotate_left
          · intro w'
            go_simp
            with_reducible rfl
          rotate_left
          · simp only [Act.put, List.setIfInBounds_toArray, List.set_cons_zero, List.set_cons_succ, i64_w, i32_w]
            rfl
          refine done_ (done_of HT_.out (by kernel_rfl)) ?_
          go_wp2
          go_ret
          exact ⟨rfl, (below_step HW.out HB19.out)⟩
        | true =>
          rw [h14] at hc_x_15
          obtain ⟨hsl, hbu⟩ := HNO.out h14
          have HSL := Aside0.mk hsl
          have HBU := Aside0.mk hbu
          have H14 := Aside0.mk h14
          clear hsl hbu h14
          have hc_g_2 : w14_.cell? ⟨gb, 2, none⟩ = some (.slice A2 l2.length c2) := (blk_cell (blk_below HXG.out HB16.out) 2).trans rfl
          have hc_x_11 : w14_.cell? ⟨gx, 11, none⟩ = some (.string x.f10) := (blk_cell (blk_below HXX.out HB16.out) 11).trans rfl
          have HAD := Aside0.mk (at_is l2 x.f10 (by have := HLN.out.2.2.1; omega) (l2.length + 1) (by omega))
          go_wp2_with (go_at_call 59; refine hold ?_)
          refine Hold.intro ((flotillalaw16_at.calls (l2.length + 1) _ _ l2 x.f10 _ _ (Kd.C_below HR2.out HB16.out) HC2.out HAD.out).mono ?_)
          rintro e w18_ ⟨rfl, hd⟩
          have hb : Below w14_.heap.size w14_ w18_ := hd.below
          clear hd
          clear hc_x_15 hc_g_2 hc_x_11
          have HB20 := Aside0.mk (below_step HB16.out hb)
          clear HB16 hb
          obtain ⟨m, hm⟩ : ∃ m : Int, m + 1 = ((countL (isReady x.f10) l1 : Nat) : Int) := ⟨_, Int.sub_add_cancel _ 1⟩
          have HRG := Aside0.mk (show rules_Ready.f l0 ly l2 l3 x.f10 = some m by
            show some ((countL (isReady x.f10) ly : Nat) : Int) = _
            have := ready_less HI.out (by rw [HYX.out]; exact H14.out) (by rw [HYX.out]; exact H15.out)
            rw [HYX.out] at this
            rw [HLY.out]; congr 1; omega)
          have HM := Aside0.mk hm
          clear hm
          have HRGC := Aside0.mk (show ∀ W, Below w13_.heap.size w13_ W → Calls Try.prog 36 #[.agg #[.slice B0 l0.length d0, .slice (some ⟨go, 0, none⟩) l1.length d1, .slice B2 l2.length d2, .slice B3 l3.length d3], .string x.f10] W (fun e w' => e = .returned (.int .i64 m) ∧ Below W.heap.size W w') from fun W HBW => by have h_ := rules_Ready.calls _ _ l0 _ d1 ly _ _ l2 _ _ l3 x.f10 m _ (Kd.C_below HU0.out HBW) HE.out.1 (Kd.C_below HU1.out HBW) (by rw [HLL.out]; exact HE.out.2.1) (Kd.C_below HU2.out HBW) HE.out.2.2.1 (Kd.C_below HU3.out HBW) HE.out.2.2.2 HRG.out; rw [HLL.out] at h_; exact h_)
          cases hfd : findL x.f10 l2 with
          | none =>
            rw [findL_none hfd]
            clear hfd
            go_wp2
            have HB21 := Aside0.mk (below_drew1 HB20.out)
            clear HB20
            refine start_ (n := 24) (S := fun w' => w'.cell? ⟨gg, 0, none⟩ = some (.slice B0 l0.length d0) ∧ w'.cell? ⟨gg, 1, none⟩ = some (.slice (some ⟨go, 0, none⟩) l1.length d1) ∧ w'.cell? ⟨gg, 2, none⟩ = some (.slice B2 l2.length d2) ∧ w'.cell? ⟨gg, 3, none⟩ = some (.slice B3 l3.length d3) ∧ w'.cell? ⟨gx, 11, none⟩ = some (.string x.f10)) (ds := []) #[false, false, false, false, false, false, false, false, false, false, false, false, false, false, false, false, false, false, false, false, false, false, false, false] (by kernel_rfl) rfl rfl ⟨(blk_cell (blk_below HXgg.out HB21.out) 0).trans rfl, (blk_cell (blk_below HXgg.out HB21.out) 1).trans rfl, (blk_cell (blk_below HXgg.out HB21.out) 2).trans rfl, (blk_cell (blk_below HXgg.out HB21.out) 3).trans rfl, (blk_cell (blk_below HXX.out HB21.out) 11).trans rfl⟩ (fun hHeld => ?_); refine with_tabW kept.tab16 kept.bits16 (fun HT_ HW_ => ?_)
            generalize w18_.drew = w19_ at HB21 hHeld ⊢
            refine pure_ (i := 0) (N := some 90) (v := ?_) (a' := ?_) #[true, false, false, false, false, false, false, false, false, false, false, false, false, false, false, false, false, false, false, false, false, false, false, false] rfl rfl (any_of HT_.out (by kernel_rfl)) (fun _ _ _ h => h) (Or.inl ⟨by rfl, ?_⟩) ?_ ?_
            rotate_left
            · intro w'
              go_simp
              with_reducible rfl
            rotate_left
            · simp only [Act.put, List.setIfInBounds_toArray, List.set_cons_zero, List.set_cons_succ, i64_w, i32_w]
              rfl
            refine pure_ (i := 1) (N := some 91) (v := ?_) (a' := ?_) #[true, true, false, false, false, false, false, false, false, false, false, false, false, false, false, false, false, false, false, false, false, false, false, false] rfl rfl (any_of HT_.out (by kernel_rfl)) (fun _ _ _ h => h) (Or.inl ⟨by rfl, ?_⟩) ?_ ?_
            rotate_left
            · intro w'
              go_simp
              with_reducible rfl
            rotate_left
            · simp only [Act.put, List.setIfInBounds_toArray, List.set_cons_zero, List.set_cons_succ, i64_w, i32_w]
              rfl
            refine pure_ (i := 2) (N := some 92) (v := ?_) (a' := ?_) #[true, true, true, false, false, false, false, false, false, false, false, false, false, false, false, false, false, false, false, false, false, false, false, false] rfl rfl (any_of HT_.out (by kernel_rfl)) (fun _ _ _ h => h) (Or.inl ⟨by rfl, ?_⟩) ?_ ?_
            rotate_left
            · intro w'
              go_simp
              with_reducible rfl
            rotate_left
            · simp only [Act.put, List.setIfInBounds_toArray, List.set_cons_zero, List.set_cons_succ, i64_w, i32_w]
              rfl
            refine pure_ (i := 3) (N := some 93) (v := undef) (a' := ?_) #[true, true, true, true, false, false, false, false, false, false, false, false, false, false, false, false, false, false, false, false, false, false, false, false] rfl rfl (any_of HT_.out (by kernel_rfl)) (fun _ _ _ h => h) (Or.inr ⟨by rfl, rfl⟩) ?_ ?_
            rotate_left
            · simp only [Act.put, List.setIfInBounds_toArray, List.set_cons_zero, List.set_cons_succ, i64_w, i32_w]
              rfl
            refine pure_ (i := 4) (N := some 94) (v := undef) (a' := ?_) #[true, true, true, true, true, false, false, false, false, false, false, false, false, false, false, false, false, false, false, false, false, false, false, false] rfl rfl (any_of HT_.out (by kernel_rfl)) (fun _ _ _ h => h) (Or.inr ⟨by rfl, rfl⟩) ?_ ?_
            rotate_left
            · simp only [Act.put, List.setIfInBounds_toArray, List.set_cons_zero, List.set_cons_succ, i64_w, i32_w]
              rfl
            refine pure_ (i := 5) (N := some 95) (v := undef) (a' := ?_) #[true, true, true, true, true, true, false, false, false, false, false, false, false, false, false, false, false, false, false, false, false, false, false, false] rfl rfl (any_of HT_.out (by kernel_rfl)) (fun _ _ _ h => h) (Or.inr ⟨by rfl, rfl⟩) ?_ ?_
            rotate_left
            · simp only [Act.put, List.setIfInBounds_toArray, List.set_cons_zero, List.set_cons_succ, i64_w, i32_w]
              rfl
            refine pure_ (i := 6) (N := some 96) (v := undef) (a' := ?_) #[true, true, true, true, true, true, true, false, false, false, false, false, false, false, false, false, false, false, false, false, false, false, false, false] rfl rfl (any_of HT_.out (by kernel_rfl)) (fun _ _ _ h => h) (Or.inr ⟨by rfl, rfl⟩) ?_ ?_
            rotate_left
            · simp only [Act.put, List.setIfInBounds_toArray, List.set_cons_zero, List.set_cons_succ, i64_w, i32_w]
              rfl
            refine pure_ (i := 7) (N := some 97) (v := undef) (a' := ?_) #[true, true, true, true, true, true, true, true, false, false, false, false, false, false, false, false, false, false, false, false, false, false, false, false] rfl rfl (any_of HT_.out (by kernel_rfl)) (fun _ _ _ h => h) (Or.inr ⟨by rfl, rfl⟩) ?_ ?_
            rotate_left
            · simp only [Act.put, List.setIfInBounds_toArray, List.set_cons_zero, List.set_cons_succ, i64_w, i32_w]
              rfl
            refine pure_ (i := 8) (N := some 98) (v := undef) (a' := ?_) #[true, true, true, true, true, true, true, true, true, false, false, false, false, false, false, false, false, false, false, false, false, false, false, false] rfl rfl (any_of HT_.out (by kernel_rfl)) (fun _ _ _ h => h) (Or.inr ⟨by rfl, rfl⟩) ?_ ?_
            rotate_left
            · simp only [Act.put, List.setIfInBounds_toArray, List.set_cons_zero, List.set_cons_succ, i64_w, i32_w]
              rfl
            refine pure_ (i := 9) (N := some 99) (v := undef) (a' := ?_) #[true, true, true, true, true, true, true, true, true, true, false, false, false, false, false, false, false, false, false, false, false, false, false, false] rfl rfl (any_of HT_.out (by kernel_rfl)) (fun _ _ _ h => h) (Or.inr ⟨by rfl, rfl⟩) ?_ ?_
            rotate_left
            · simp only [Act.put, List.setIfInBounds_toArray, List.set_cons_zero, List.set_cons_succ, i64_w, i32_w]
              rfl
            refine pure_ (i := 10) (N := some 100) (v := undef) (a' := ?_) #[true, true, true, true, true, true, true, true, true, true, true, false, false, false, false, false, false, false, false, false, false, false, false, false] rfl rfl (any_of HT_.out (by kernel_rfl)) (fun _ _ _ h => h) (Or.inr ⟨by rfl, rfl⟩) ?_ ?_
            rotate_left
            · simp only [Act.put, List.setIfInBounds_toArray, List.set_cons_zero, List.set_cons_succ, i64_w, i32_w]
              rfl
            refine pure_ (i := 11) (N := some 101) (v := undef) (a' := ?_) #[true, true, true, true, true, true, true, true, true, true, true, true, false, false, false, false, false, false, false, false, false, false, false, false] rfl rfl (any_of HT_.out (by kernel_rfl)) (fun _ _ _ h => h) (Or.inr ⟨by rfl, rfl⟩) ?_ ?_
            rotate_left
            · simp only [Act.put, List.setIfInBounds_toArray, List.set_cons_zero, List.set_cons_succ, i64_w, i32_w]
              rfl
            refine pure_ (i := 12) (N := some 102) (v := undef) (a' := ?_) #[true, true, true, true, true, true, true, true, true, true, true, true, true, false, false, false, false, false, false, false, false, false, false, false] rfl rfl (any_of HT_.out (by kernel_rfl)) (fun _ _ _ h => h) (Or.inr ⟨by rfl, rfl⟩) ?_ ?_
            rotate_left
            · simp only [Act.put, List.setIfInBounds_toArray, List.set_cons_zero, List.set_cons_succ, i64_w, i32_w]
              rfl
            refine pure_ (i := 13) (N := some 103) (v := undef) (a' := ?_) #[true, true, true, true, true, true, true, true, true, true, true, true, true, true, false, false, false, false, false, false, false, false, false, false] rfl rfl (any_of HT_.out (by kernel_rfl)) (fun _ _ _ h => h) (Or.inr ⟨by rfl, rfl⟩) ?_ ?_
            rotate_left
            · simp only [Act.put, List.setIfInBounds_toArray, List.set_cons_zero, List.set_cons_succ, i64_w, i32_w]
              rfl
            refine pure_ (i := 14) (N := some 104) (v := undef) (a' := ?_) #[true, true, true, true, true, true, true, true, true, true, true, true, true, true, true, false, false, false, false, false, false, false, false, false] rfl rfl (any_of HT_.out (by kernel_rfl)) (fun _ _ _ h => h) (Or.inr ⟨by rfl, rfl⟩) ?_ ?_
            rotate_left
            · simp only [Act.put, List.setIfInBounds_toArray, List.set_cons_zero, List.set_cons_succ, i64_w, i32_w]
              rfl
            refine pure_ (i := 15) (N := some 105) (v := undef) (a' := ?_) #[true, true, true, true, true, true, true, true, true, true, true, true, true, true, true, true, false, false, false, false, false, false, false, false] rfl rfl (any_of HT_.out (by kernel_rfl)) (fun _ _ _ h => h) (Or.inr ⟨by rfl, rfl⟩) ?_ ?_
            rotate_left
            · simp only [Act.put, List.setIfInBounds_toArray, List.set_cons_zero, List.set_cons_succ, i64_w, i32_w]
              rfl
            refine pure_ (i := 16) (N := some 106) (v := undef) (a' := ?_) #[true, true, true, true, true, true, true, true, true, true, true, true, true, true, true, true, true, false, false, false, false, false, false, false] rfl rfl (any_of HT_.out (by kernel_rfl)) (fun _ _ _ h => h) (Or.inr ⟨by rfl, rfl⟩) ?_ ?_
            rotate_left
            · simp only [Act.put, List.setIfInBounds_toArray, List.set_cons_zero, List.set_cons_succ, i64_w, i32_w]
              rfl
            refine pure_ (i := 17) (N := some 107) (v := undef) (a' := ?_) #[true, true, true, true, true, true, true, true, true, true, true, true, true, true, true, true, true, true, false, false, false, false, false, false] rfl rfl (any_of HT_.out (by kernel_rfl)) (fun _ _ _ h => h) (Or.inr ⟨by rfl, rfl⟩) ?_ ?_
            rotate_left
            · simp only [Act.put, List.setIfInBounds_toArray, List.set_cons_zero, List.set_cons_succ, i64_w, i32_w]
              rfl
            refine pure_ (i := 18) (N := some 108) (v := undef) (a' := ?_) #[true, true, true, true, true, true, true, true, true, true, true, true, true, true, true, true, true, true, true, false, false, false, false, false] rfl rfl (any_of HT_.out (by kernel_rfl)) (fun _ _ _ h => h) (Or.inr ⟨by rfl, rfl⟩) ?_ ?_
            rotate_left
            · simp only [Act.put, List.setIfInBounds_toArray, List.set_cons_zero, List.set_cons_succ, i64_w, i32_w]
              rfl
            refine pure_ (i := 19) (N := some 109) (v := undef) (a' := ?_) #[true, true, true, true, true, true, true, true, true, true, true, true, true, true, true, true, true, true, true, true, false, false, false, false] rfl rfl (any_of HT_.out (by kernel_rfl)) (fun _ _ _ h => h) (Or.inr ⟨by rfl, rfl⟩) ?_ ?_
            rotate_left
            · simp only [Act.put, List.setIfInBounds_toArray, List.set_cons_zero, List.set_cons_succ, i64_w, i32_w]
              rfl
            refine pure_ (i := 20) (N := some 110) (v := undef) (a' := ?_) #[true, true, true, true, true, true, true, true, true, true, true, true, true, true, true, true, true, true, true, true, true, false, false, false] rfl rfl (any_of HT_.out (by kernel_rfl)) (fun _ _ _ h => h) (Or.inr ⟨by rfl, rfl⟩) ?_ ?_
            rotate_left
            · simp only [Act.put, List.setIfInBounds_toArray, List.set_cons_zero, List.set_cons_succ, i64_w, i32_w]
              rfl
            refine pure_ (i := 21) (N := some 111) (v := undef) (a' := ?_) #[true, true, true, true, true, true, true, true, true, true, true, true, true, true, true, true, true, true, true, true, true, true, false, false] rfl rfl (any_of HT_.out (by kernel_rfl)) (fun _ _ _ h => h) (Or.inr ⟨by rfl, rfl⟩) ?_ ?_
            rotate_left
            · simp only [Act.put, List.setIfInBounds_toArray, List.set_cons_zero, List.set_cons_succ, i64_w, i32_w]
              rfl
            refine pure_ (i := 22) (N := some 112) (v := undef) (a' := ?_) #[true, true, true, true, true, true, true, true, true, true, true, true, true, true, true, true, true, true, true, true, true, true, true, false] rfl rfl (any_of HT_.out (by kernel_rfl)) (fun _ _ _ h => h) (Or.inr ⟨by rfl, rfl⟩) ?_ ?_
            rotate_left
            · simp only [Act.put, List.setIfInBounds_toArray, List.set_cons_zero, List.set_cons_succ, i64_w, i32_w]
              rfl
            refine pure_ (i := 23) (N := some 113) (v := ?_) (a' := ?_) #[true, true, true, true, true, true, true, true, true, true, true, true, true, true, true, true, true, true, true, true, true, true, true, true] rfl rfl (any_of HT_.out (by kernel_rfl)) (fun _ _ _ h => h) (Or.inl ⟨by rfl, ?_⟩) ?_ ?_
            rotate_left
            · intro w'
              go_simp
              with_reducible rfl
            rotate_left
            · simp only [Act.put, List.setIfInBounds_toArray, List.set_cons_zero, List.set_cons_succ, i64_w, i32_w]
              rfl
            refine done_ (done_of HT_.out (by kernel_rfl)) ?_
            go_wp2
            go_loopw [10] (fun v wr => ∃ k : Nat, k ≤ l3.length ∧ v = .int .i64 k ∧ Aside0 (Below w13_.heap.size w13_ wr)) (fun v _ => l3.length - (intOf v).toNat)
            case atStart => exact ⟨0, Nat.zero_le _, rfl, HB21⟩
            case round =>
              obtain ⟨k, hk, rfl, HB⟩ := hrel
              clear HB21
              have hl3 : l3.length ≤ 300 := HLN.out.2.2.2
              by_cases hlt : k < l3.length
              · skip
                obtain ⟨y, hy⟩ : ∃ y, y = l3[k] := ⟨_, rfl⟩
                have hry : rd_T68 l3 (k : Int) = y := by rw [rd_get hlt, hy]
                have HYM := Aside0.mk (show y ∈ l3 by rw [hy]; exact List.getElem_mem hlt)
                obtain ⟨ad3, y4, y27, hA3, hky, -, hyj, -⟩ := at_all HR3.out k hlt
                obtain ⟨bd3, q4, q27, hB3, hkq, -, hqj, hqall⟩ := at_all HU3.out k hlt
                rw [hry] at hky hyj hkq hqj hqall
                cases hA3
                cases hB3
                obtain ⟨A4, c4, A27, c27, e4, e27, t4, g4, t27, g27⟩ := HKX.out
                obtain ⟨D4, d4, D27, d27, f4, f27, m4, h4, m27, h27⟩ := hky
                subst e4 f27
                have HG4 := Aside0.mk g4
                have HL4 := Aside0.mk t4
                have HG27 := Aside0.mk h27
                have HL27 := Aside0.mk m27
                have HKQ := Aside0.mk hkq
                have HY27 := Aside0.mk (hyj 27 _ (by omega) rfl)
                have HY28 := Aside0.mk (hyj 28 (.int .i64 y.f26) (by omega) rfl)
                have HQA := Aside0.mk hqall
                have HLT := Aside0.mk hlt
                clear hy hry hyj hqj hqall hkq g4 t4 h27 m27 e27 f4 t27 g27 m4 h4
                have hc_g_3 : wr.cell? ⟨gb, 3, none⟩ = some (.slice (some ad3) l3.length c3) := (blk_cell (blk_below HXG.out HB.out) 3).trans rfl
                go_wp2
                clear hc_g_3
                cases hma : matchL y.f25 x.f4 with
                | false =>
                  have HMA := Aside0.mk hma
                  clear hma
                  have hlt : k < l3.length := HLT.out
                  have HB22 := Aside0.mk (below_drew1 HB.out)
                  clear HB
                  refine start_ (n := 25) (S := fun w' => w'.cell? ⟨gg, 0, none⟩ = some (.slice B0 l0.length d0) ∧ w'.cell? ⟨gg, 1, none⟩ = some (.slice (some ⟨go, 0, none⟩) l1.length d1) ∧ w'.cell? ⟨gg, 2, none⟩ = some (.slice B2 l2.length d2) ∧ w'.cell? ⟨gg, 3, none⟩ = some (.slice (some bd3) l3.length d3) ∧ w'.cell? ⟨gb, 3, none⟩ = some (.slice (some ad3) l3.length c3) ∧ w'.cell? ⟨gx, 4, none⟩ = some (.slice A4 x.f4.length c4) ∧ w'.cell? ⟨(ad3.add (k * 32)).block, (ad3.add (k * 32)).off + 27, none⟩ = some (.slice D27 y.f25.length d27) ∧ w'.cell? ⟨(ad3.add (k * 32)).block, (ad3.add (k * 32)).off + 28, none⟩ = some (.int .i64 y.f26) ∧ (∀ (j : Nat) (v : Value), (cO y q4 q27).toList[j]? = some v → w'.cell? ((bd3.add (k * 32)).add j) = some v)) (ds := []) #[false, false, false, false, false, false, false, false, false, false, false, false, false, false, false, false, false, false, false, false, false, false, false, false, false] (by kernel_rfl) rfl rfl ⟨(blk_cell (blk_below HXgg.out HB22.out) 0).trans rfl, (blk_cell (blk_below HXgg.out HB22.out) 1).trans rfl, (blk_cell (blk_below HXgg.out HB22.out) 2).trans rfl, (blk_cell (blk_below HXgg.out HB22.out) 3).trans rfl, (blk_cell (blk_below HXG.out HB22.out) 3).trans rfl, (blk_cell (blk_below HXX.out HB22.out) 4).trans rfl, (HB22.out.cell (World.block_lt_of_cell? w13_ _ HY27.out)).trans HY27.out, (HB22.out.cell (World.block_lt_of_cell? w13_ _ HY28.out)).trans HY28.out, (fun j v hj => (HB22.out.cell (World.block_lt_of_cell? w13_ _ (HQA.out j v hj))).trans (HQA.out j v hj))⟩ (fun hHeld => ?_); refine with_tabW kept.tab21 kept.bits21 (fun HT_ HW_ => ?_)
                  generalize wr.drew = w20_ at HB22 hHeld ⊢
                  refine pure_ (i := 0) (N := some 121) (v := ?_) (a' := ?_) #[true, false, false, false, false, false, false, false, false, false, false, false, false, false, false, false, false, false, false, false, false, false, false, false, false] rfl rfl (any_of HT_.out (by kernel_rfl)) (fun _ _ _ h => h) (Or.inl ⟨by rfl, ?_⟩) ?_ ?_
                  rotate_left
                  · intro w'
                    go_simp
                    with_reducible rfl
                  rotate_left
                  · simp only [Act.put, List.setIfInBounds_toArray, List.set_cons_zero, List.set_cons_succ, i64_w, i32_w]
                    rfl
                  refine pure_ (i := 2) (N := some 123) (v := ?_) (a' := ?_) #[true, false, true, false, false, false, false, false, false, false, false, false, false, false, false, false, false, false, false, false, false, false, false, false, false] rfl rfl (any_of HT_.out (by kernel_rfl)) (fun _ _ _ h => h) (Or.inl ⟨by rfl, ?_⟩) ?_ ?_
                  rotate_left
                  · intro w'
                    go_simp
                    with_reducible rfl
                  rotate_left
                  · simp only [Act.put, List.setIfInBounds_toArray, List.set_cons_zero, List.set_cons_succ, i64_w, i32_w]
                    rfl
                  refine pure_ (i := 6) (N := some 127) (v := ?_) (a' := ?_) #[true, false, true, false, false, false, true, false, false, false, false, false, false, false, false, false, false, false, false, false, false, false, false, false, false] rfl rfl (any_of HT_.out (by kernel_rfl)) (fun _ _ _ h => h) (Or.inl ⟨by rfl, ?_⟩) ?_ ?_
                  rotate_left
                  · intro w'
                    go_simp
                    with_reducible rfl
                  rotate_left
                  · simp only [Act.put, List.setIfInBounds_toArray, List.set_cons_zero, List.set_cons_succ, i64_w, i32_w]
                    rfl
                  refine take_ (i := 1) (N := some 122) (v := ?_) (a' := ?_) #[true, true, true, false, false, false, true, false, false, false, false, false, false, false, false, false, false, false, false, false, false, false, false, false, false] rfl rfl (take_ofW HT_.out HW_.out (by kernel_rfl)) (fun _ _ _ h => h) (Or.inl ⟨by rfl, ?_⟩) hHeld ?_ ?_
                  rotate_left
                  · rintro w' ⟨s0, s1, s2, s3, s4, s5, s6, s7, s8⟩
                    go_simp
                    with_reducible rfl
                  rotate_left
                  · simp only [Act.put, List.setIfInBounds_toArray, List.set_cons_zero, List.set_cons_succ, i64_w, i32_w]
                    rfl
                  refine pure_ (i := 3) (N := some 124) (v := ?_) (a' := ?_) #[true, true, true, true, false, false, true, false, false, false, false, false, false, false, false, false, false, false, false, false, false, false, false, false, false] rfl rfl (any_of HT_.out (by kernel_rfl)) (fun _ _ _ h => h) (Or.inl ⟨by rfl, ?_⟩) ?_ ?_
                  rotate_left
                  · intro w'
                    go_simp
                    with_reducible rfl
                  rotate_left
                  · simp only [Act.put, List.setIfInBounds_toArray, List.set_cons_zero, List.set_cons_succ, i64_w, i32_w]
                    rfl
                  refine pure_ (i := 4) (N := some 125) (v := ?_) (a' := ?_) #[true, true, true, true, true, false, true, false, false, false, false, false, false, false, false, false, false, false, false, false, false, false, false, false, false] rfl rfl (any_of HT_.out (by kernel_rfl)) (fun _ _ _ h => h) (Or.inl ⟨by rfl, ?_⟩) ?_ ?_
                  rotate_left
                  · intro w'
                    go_simp
                    with_reducible rfl
                  rotate_left
                  · simp only [Act.put, List.setIfInBounds_toArray, List.set_cons_zero, List.set_cons_succ, i64_w, i32_w]
                    rfl
                  refine take_ (i := 5) (N := some 126) (v := ?_) (a' := ?_) #[true, true, true, true, true, true, true, false, false, false, false, false, false, false, false, false, false, false, false, false, false, false, false, false, false] rfl rfl (take_ofW HT_.out HW_.out (by kernel_rfl)) (fun _ _ _ h => h) (Or.inl ⟨by rfl, ?_⟩) hHeld ?_ ?_
                  rotate_left
                  · rintro w' ⟨s0, s1, s2, s3, s4, s5, s6, s7, s8⟩
                    go_simp
                    with_reducible rfl
                  rotate_left
                  · simp only [Act.put, List.setIfInBounds_toArray, List.set_cons_zero, List.set_cons_succ, i64_w, i32_w]
                    rfl
                  refine take_ (i := 7) (N := some 128) (v := ?_) (a' := ?_) #[true, true, true, true, true, true, true, true, false, false, false, false, false, false, false, false, false, false, false, false, false, false, false, false, false] rfl rfl (take_ofW HT_.out HW_.out (by kernel_rfl)) (fun _ _ _ h => h) (Or.inl ⟨by rfl, ?_⟩) hHeld ?_ ?_
                  rotate_left
                  · rintro w' ⟨s0, s1, s2, s3, s4, s5, s6, s7, s8⟩
                    go_simp
                    with_reducible rfl
                  rotate_left
                  · simp only [Act.put, List.setIfInBounds_toArray, List.set_cons_zero, List.set_cons_succ, i64_w, i32_w]
                    rfl
                  refine one_ (i := 8) (N := some 129) #[true, true, true, true, true, true, true, true, true, false, false, false, false, false, false, false, false, false, false, false, false, false, false, false, false] rfl rfl (one_of HT_.out (by kernel_rfl)) (by decide) (fun K hK => ?_)
                  refine goes_ Try.func15 (by kernel_rfl) rfl #[.slice D27 y.f25.length d27, .slice A4 x.f4.length c4] (by rfl) rfl rfl (by (try simp only [List.map_toArray, List.map_cons, List.map_nil]); first | done | rfl | (simp only [List.length_drop, List.length_take]; rfl)) ?_
                  refine (matches_co _ _ y.f25 _ _ x.f4 _ (Kd.C_below HG27.out HB22.out) HL27.out (Kd.C_below HG4.out HB22.out) HL4.out (HBZ.out y HYM.out)).mono ?_
                  rintro e w21_ ⟨rfl, hb⟩
                  refine ⟨_, rfl, ?_⟩
                  have HB23 := Aside0.mk (below_step HB22.out hb)
                  clear hb HB22
                  refine hK.out _ _ ⟨(blk_cell (blk_below HXgg.out HB23.out) 0).trans rfl, (blk_cell (blk_below HXgg.out HB23.out) 1).trans rfl, (blk_cell (blk_below HXgg.out HB23.out) 2).trans rfl, (blk_cell (blk_below HXgg.out HB23.out) 3).trans rfl, (blk_cell (blk_below HXG.out HB23.out) 3).trans rfl, (blk_cell (blk_below HXX.out HB23.out) 4).trans rfl, (HB23.out.cell (World.block_lt_of_cell? w13_ _ HY27.out)).trans HY27.out, (HB23.out.cell (World.block_lt_of_cell? w13_ _ HY28.out)).trans HY28.out, (fun j v hj => (HB23.out.cell (World.block_lt_of_cell? w13_ _ (HQA.out j v hj))).trans (HQA.out j v hj))⟩ (fun hHeld => ?_)
                  clear hK K
                  refine norm_ (a' := ?_) ?_ ?_
                  rotate_left
                  · show Act.put _ (some 129) _ = _
                    simp only [Act.put, List.setIfInBounds_toArray, List.set_cons_zero, List.set_cons_succ, i64_w, i32_w]
                    rfl
                  rw [HMA.out]
                  refine pure_ (i := 9) (N := some 130) (v := ?_) (a' := ?_) #[true, true, true, true, true, true, true, true, true, true, false, false, false, false, false, false, false, false, false, false, false, false, false, false, false] rfl rfl (any_of HT_.out (by kernel_rfl)) (fun _ _ _ h => h) (Or.inl ⟨by rfl, ?_⟩) ?_ ?_
                  rotate_left
                  · intro w'
                    go_simp
                    with_reducible rfl
                  rotate_left
                  · simp only [Act.put, List.setIfInBounds_toArray, List.set_cons_zero, List.set_cons_succ, i64_w, i32_w]
                    rfl
                  refine pure_ (i := 10) (N := some 131) (v := undef) (a' := ?_) #[true, true, true, true, true, true, true, true, true, true, true, false, false, false, false, false, false, false, false, false, false, false, false, false, false] rfl rfl (any_of HT_.out (by kernel_rfl)) (fun _ _ _ h => h) (Or.inr ⟨by rfl, rfl⟩) ?_ ?_
                  rotate_left
                  · simp only [Act.put, List.setIfInBounds_toArray, List.set_cons_zero, List.set_cons_succ, i64_w, i32_w]
                    rfl
                  refine pure_ (i := 11) (N := some 132) (v := undef) (a' := ?_) #[true, true, true, true, true, true, true, true, true, true, true, true, false, false, false, false, false, false, false, false, false, false, false, false, false] rfl rfl (any_of HT_.out (by kernel_rfl)) (fun _ _ _ h => h) (Or.inr ⟨by rfl, rfl⟩) ?_ ?_
                  rotate_left
                  · simp only [Act.put, List.setIfInBounds_toArray, List.set_cons_zero, List.set_cons_succ, i64_w, i32_w]
                    rfl
                  refine pure_ (i := 12) (N := some 133) (v := undef) (a' := ?_) #[true, true, true, true, true, true, true, true, true, true, true, true, true, false, false, false, false, false, false, false, false, false, false, false, false] rfl rfl (any_of HT_.out (by kernel_rfl)) (fun _ _ _ h => h) (Or.inr ⟨by rfl, rfl⟩) ?_ ?_
                  rotate_left
                  · simp only [Act.put, List.setIfInBounds_toArray, List.set_cons_zero, List.set_cons_succ, i64_w, i32_w]
                    rfl
                  refine pure_ (i := 13) (N := some 134) (v := undef) (a' := ?_) #[true, true, true, true, true, true, true, true, true, true, true, true, true, true, false, false, false, false, false, false, false, false, false, false, false] rfl rfl (any_of HT_.out (by kernel_rfl)) (fun _ _ _ h => h) (Or.inr ⟨by rfl, rfl⟩) ?_ ?_
                  rotate_left
                  · simp only [Act.put, List.setIfInBounds_toArray, List.set_cons_zero, List.set_cons_succ, i64_w, i32_w]
                    rfl
                  refine pure_ (i := 14) (N := some 135) (v := undef) (a' := ?_) #[true, true, true, true, true, true, true, true, true, true, true, true, true, true, true, false, false, false, false, false, false, false, false, false, false] rfl rfl (any_of HT_.out (by kernel_rfl)) (fun _ _ _ h => h) (Or.inr ⟨by rfl, rfl⟩) ?_ ?_
                  rotate_left
                  · simp only [Act.put, List.setIfInBounds_toArray, List.set_cons_zero, List.set_cons_succ, i64_w, i32_w]
                    rfl
                  refine pure_ (i := 15) (N := some 136) (v := undef) (a' := ?_) #[true, true, true, true, true, true, true, true, true, true, true, true, true, true, true, true, false, false, false, false, false, false, false, false, false] rfl rfl (any_of HT_.out (by kernel_rfl)) (fun _ _ _ h => h) (Or.inr ⟨by rfl, rfl⟩) ?_ ?_
                  rotate_left
                  · simp only [Act.put, List.setIfInBounds_toArray, List.set_cons_zero, List.set_cons_succ, i64_w, i32_w]
                    rfl
                  refine pure_ (i := 16) (N := some 137) (v := undef) (a' := ?_) #[true, true, true, true, true, true, true, true, true, true, true, true, true, true, true, true, true, false, false, false, false, false, false, false, false] rfl rfl (any_of HT_.out (by kernel_rfl)) (fun _ _ _ h => h) (Or.inr ⟨by rfl, rfl⟩) ?_ ?_
                  rotate_left
                  · simp only [Act.put, List.setIfInBounds_toArray, List.set_cons_zero, List.set_cons_succ, i64_w, i32_w]
                    rfl
                  refine pure_ (i := 17) (N := some 138) (v := undef) (a' := ?_) #[true, true, true, true, true, true, true, true, true, true, true, true, true, true, true, true, true, true, false, false, false, false, false, false, false] rfl rfl (any_of HT_.out (by kernel_rfl)) (fun _ _ _ h => h) (Or.inr ⟨by rfl, rfl⟩) ?_ ?_
                  rotate_left
                  · simp only [Act.put, List.setIfInBounds_toArray, List.set_cons_zero, List.set_cons_succ, i64_w, i32_w]
                    rfl
                  refine pure_ (i := 18) (N := some 139) (v := undef) (a' := ?_) #[true, true, true, true, true, true, true, true, true, true, true, true, true, true, true, true, true, true, true, false, false, false, false, false, false] rfl rfl (any_of HT_.out (by kernel_rfl)) (fun _ _ _ h => h) (Or.inr ⟨by rfl, rfl⟩) ?_ ?_
                  rotate_left
                  · simp only [Act.put, List.setIfInBounds_toArray, List.set_cons_zero, List.set_cons_succ, i64_w, i32_w]
                    rfl
                  refine pure_ (i := 19) (N := some 140) (v := undef) (a' := ?_) #[true, true, true, true, true, true, true, true, true, true, true, true, true, true, true, true, true, true, true, true, false, false, false, false, false] rfl rfl (any_of HT_.out (by kernel_rfl)) (fun _ _ _ h => h) (Or.inr ⟨by rfl, rfl⟩) ?_ ?_
                  rotate_left
                  · simp only [Act.put, List.setIfInBounds_toArray, List.set_cons_zero, List.set_cons_succ, i64_w, i32_w]
                    rfl
                  refine pure_ (i := 20) (N := some 141) (v := undef) (a' := ?_) #[true, true, true, true, true, true, true, true, true, true, true, true, true, true, true, true, true, true, true, true, true, false, false, false, false] rfl rfl (any_of HT_.out (by kernel_rfl)) (fun _ _ _ h => h) (Or.inr ⟨by rfl, rfl⟩) ?_ ?_
                  rotate_left
                  · simp only [Act.put, List.setIfInBounds_toArray, List.set_cons_zero, List.set_cons_succ, i64_w, i32_w]
                    rfl
                  refine pure_ (i := 21) (N := some 142) (v := undef) (a' := ?_) #[true, true, true, true, true, true, true, true, true, true, true, true, true, true, true, true, true, true, true, true, true, true, false, false, false] rfl rfl (any_of HT_.out (by kernel_rfl)) (fun _ _ _ h => h) (Or.inr ⟨by rfl, rfl⟩) ?_ ?_
                  rotate_left
                  · simp only [Act.put, List.setIfInBounds_toArray, List.set_cons_zero, List.set_cons_succ, i64_w, i32_w]
                    rfl
                  refine pure_ (i := 22) (N := some 143) (v := undef) (a' := ?_) #[true, true, true, true, true, true, true, true, true, true, true, true, true, true, true, true, true, true, true, true, true, true, true, false, false] rfl rfl (any_of HT_.out (by kernel_rfl)) (fun _ _ _ h => h) (Or.inr ⟨by rfl, rfl⟩) ?_ ?_
                  rotate_left
                  · simp only [Act.put, List.setIfInBounds_toArray, List.set_cons_zero, List.set_cons_succ, i64_w, i32_w]
                    rfl
                  refine pure_ (i := 23) (N := some 144) (v := undef) (a' := ?_) #[true, true, true, true, true, true, true, true, true, true, true, true, true, true, true, true, true, true, true, true, true, true, true, true, false] rfl rfl (any_of HT_.out (by kernel_rfl)) (fun _ _ _ h => h) (Or.inr ⟨by rfl, rfl⟩) ?_ ?_
                  rotate_left
                  · simp only [Act.put, List.setIfInBounds_toArray, List.set_cons_zero, List.set_cons_succ, i64_w, i32_w]
                    rfl
                  refine pure_ (i := 24) (N := some 145) (v := ?_) (a' := ?_) #[true, true, true, true, true, true, true, true, true, true, true, true, true, true, true, true, true, true, true, true, true, true, true, true, true] rfl rfl (any_of HT_.out (by kernel_rfl)) (fun _ _ _ h => h) (Or.inl ⟨by rfl, ?_⟩) ?_ ?_
                  rotate_left
                  · intro w'
                    go_simp
                    with_reducible rfl
                  rotate_left
                  · simp only [Act.put, List.setIfInBounds_toArray, List.set_cons_zero, List.set_cons_succ, i64_w, i32_w]
                    rfl
                  refine done_ (done_of HT_.out (by kernel_rfl)) ?_
                  go_wp2
                  go_roundw
                  case rel => exact ⟨k + 1, by have := HLT.out; omega, by simp, HB23⟩
                  case measure => have := HLT.out; simp [intOf]; omega
                | true =>
                  have HMA := Aside0.mk hma
                  obtain ⟨q, hq⟩ : ∃ q : Int, q = ((countL (isGuard y.f25) ly : Nat) : Int) := ⟨_, rfl⟩
                  have HQ := Aside0.mk hq
                  have HQL := Aside0.mk (show y.f26 ≤ q by
                    have h1 := guard_less HI.out (by rw [HYX.out]; exact H14.out) (by rw [HYX.out]; exact H15.out) (sel := y.f25) (by rw [HYX.out]; exact hma)
                    rw [HYX.out, ← HLY.out] at h1
                    have h2 : budgetB l1 x y = false := Bool.eq_false_iff.mpr (fun hb => by have := List.any_eq_false.1 HBU.out y HYM.out; exact this hb)
                    unfold budgetB at h2
                    rw [hma, Bool.true_and, decide_eq_false_iff_not] at h2
                    rw [hq]; omega)
                  clear hma hq
                  have hlt : k < l3.length := HLT.out
                  have HGDC := Aside0.mk (show ∀ W, Below w13_.heap.size w13_ W → Calls Try.prog 40 #[.agg #[.slice B0 l0.length d0, .slice (some ⟨go, 0, none⟩) l1.length d1, .slice B2 l2.length d2, .slice (some bd3) l3.length d3], .agg (cO y q4 q27)] W (fun e w' => e = .returned (.int .i64 ((countL (isGuard y.f25) ly : Nat) : Int)) ∧ Below W.heap.size W w') from fun W HBW => by have h_ := guarded_co B0 d0 l0 (some ⟨go, 0, none⟩) d1 ly B2 d2 l2 (some bd3) d3 l3 y q4 q27 _ (Kd.C_below HU1.out HBW) (kO_below HKQ.out HBW) (HBZ.out y HYM.out); rw [HLL.out] at h_; exact h_)
                  have HB24 := Aside0.mk (below_drew1 HB.out)
                  clear HB
                  refine start_ (n := 25) (S := fun w' => w'.cell? ⟨gg, 0, none⟩ = some (.slice B0 l0.length d0) ∧ w'.cell? ⟨gg, 1, none⟩ = some (.slice (some ⟨go, 0, none⟩) l1.length d1) ∧ w'.cell? ⟨gg, 2, none⟩ = some (.slice B2 l2.length d2) ∧ w'.cell? ⟨gg, 3, none⟩ = some (.slice (some bd3) l3.length d3) ∧ w'.cell? ⟨gb, 3, none⟩ = some (.slice (some ad3) l3.length c3) ∧ w'.cell? ⟨gx, 4, none⟩ = some (.slice A4 x.f4.length c4) ∧ w'.cell? ⟨(ad3.add (k * 32)).block, (ad3.add (k * 32)).off + 27, none⟩ = some (.slice D27 y.f25.length d27) ∧ w'.cell? ⟨(ad3.add (k * 32)).block, (ad3.add (k * 32)).off + 28, none⟩ = some (.int .i64 y.f26) ∧ (∀ (j : Nat) (v : Value), (cO y q4 q27).toList[j]? = some v → w'.cell? ((bd3.add (k * 32)).add j) = some v)) (ds := []) #[false, false, false, false, false, false, false, false, false, false, false, false, false, false, false, false, false, false, false, false, false, false, false, false, false] (by kernel_rfl) rfl rfl ⟨(blk_cell (blk_below HXgg.out HB24.out) 0).trans rfl, (blk_cell (blk_below HXgg.out HB24.out) 1).trans rfl, (blk_cell (blk_below HXgg.out HB24.out) 2).trans rfl, (blk_cell (blk_below HXgg.out HB24.out) 3).trans rfl, (blk_cell (blk_below HXG.out HB24.out) 3).trans rfl, (blk_cell (blk_below HXX.out HB24.out) 4).trans rfl, (HB24.out.cell (World.block_lt_of_cell? w13_ _ HY27.out)).trans HY27.out, (HB24.out.cell (World.block_lt_of_cell? w13_ _ HY28.out)).trans HY28.out, (fun j v hj => (HB24.out.cell (World.block_lt_of_cell? w13_ _ (HQA.out j v hj))).trans (HQA.out j v hj))⟩ (fun hHeld => ?_); refine with_tabW kept.tab21 kept.bits21 (fun HT_ HW_ => ?_)
                  generalize wr.drew = w22_ at HB24 hHeld ⊢
                  refine pure_ (i := 0) (N := some 121) (v := ?_) (a' := ?_) #[true, false, false, false, false, false, false, false, false, false, false, false, false, false, false, false, false, false, false, false, false, false, false, false, false] rfl rfl (any_of HT_.out (by kernel_rfl)) (fun _ _ _ h => h) (Or.inl ⟨by rfl, ?_⟩) ?_ ?_
                  rotate_left
                  · intro w'
                    go_simp
                    with_reducible rfl
                  rotate_left
                  · simp only [Act.put, List.setIfInBounds_toArray, List.set_cons_zero, List.set_cons_succ, i64_w, i32_w]
                    rfl
                  refine pure_ (i := 2) (N := some 123) (v := ?_) (a' := ?_) #[true, false, true, false, false, false, false, false, false, false, false, false, false, false, false, false, false, false, false, false, false, false, false, false, false] rfl rfl (any_of HT_.out (by kernel_rfl)) (fun _ _ _ h => h) (Or.inl ⟨by rfl, ?_⟩) ?_ ?_
                  rotate_left
                  · intro w'
                    go_simp
                    with_reducible rfl
                  rotate_left
                  · simp only [Act.put, List.setIfInBounds_toArray, List.set_cons_zero, List.set_cons_succ, i64_w, i32_w]
                    rfl
                  refine pure_ (i := 6) (N := some 127) (v := ?_) (a' := ?_) #[true, false, true, false, false, false, true, false, false, false, false, false, false, false, false, false, false, false, false, false, false, false, false, false, false] rfl rfl (any_of HT_.out (by kernel_rfl)) (fun _ _ _ h => h) (Or.inl ⟨by rfl, ?_⟩) ?_ ?_
                  rotate_left
                  · intro w'
                    go_simp
                    with_reducible rfl
                  rotate_left
                  · simp only [Act.put, List.setIfInBounds_toArray, List.set_cons_zero, List.set_cons_succ, i64_w, i32_w]
                    rfl
                  refine take_ (i := 1) (N := some 122) (v := ?_) (a' := ?_) #[true, true, true, false, false, false, true, false, false, false, false, false, false, false, false, false, false, false, false, false, false, false, false, false, false] rfl rfl (take_ofW HT_.out HW_.out (by kernel_rfl)) (fun _ _ _ h => h) (Or.inl ⟨by rfl, ?_⟩) hHeld ?_ ?_
                  rotate_left
                  · rintro w' ⟨s0, s1, s2, s3, s4, s5, s6, s7, s8⟩
                    go_simp
                    with_reducible rfl
                  rotate_left
                  · simp only [Act.put, List.setIfInBounds_toArray, List.set_cons_zero, List.set_cons_succ, i64_w, i32_w]
                    rfl
                  refine pure_ (i := 3) (N := some 124) (v := ?_) (a' := ?_) #[true, true, true, true, false, false, true, false, false, false, false, false, false, false, false, false, false, false, false, false, false, false, false, false, false] rfl rfl (any_of HT_.out (by kernel_rfl)) (fun _ _ _ h => h) (Or.inl ⟨by rfl, ?_⟩) ?_ ?_
                  rotate_left
                  · intro w'
                    go_simp
                    with_reducible rfl
                  rotate_left
                  · simp only [Act.put, List.setIfInBounds_toArray, List.set_cons_zero, List.set_cons_succ, i64_w, i32_w]
                    rfl
                  refine pure_ (i := 4) (N := some 125) (v := ?_) (a' := ?_) #[true, true, true, true, true, false, true, false, false, false, false, false, false, false, false, false, false, false, false, false, false, false, false, false, false] rfl rfl (any_of HT_.out (by kernel_rfl)) (fun _ _ _ h => h) (Or.inl ⟨by rfl, ?_⟩) ?_ ?_
                  rotate_left
                  · intro w'
                    go_simp
                    with_reducible rfl
                  rotate_left
                  · simp only [Act.put, List.setIfInBounds_toArray, List.set_cons_zero, List.set_cons_succ, i64_w, i32_w]
                    rfl
                  refine take_ (i := 5) (N := some 126) (v := ?_) (a' := ?_) #[true, true, true, true, true, true, true, false, false, false, false, false, false, false, false, false, false, false, false, false, false, false, false, false, false] rfl rfl (take_ofW HT_.out HW_.out (by kernel_rfl)) (fun _ _ _ h => h) (Or.inl ⟨by rfl, ?_⟩) hHeld ?_ ?_
                  rotate_left
                  · rintro w' ⟨s0, s1, s2, s3, s4, s5, s6, s7, s8⟩
                    go_simp
                    with_reducible rfl
                  rotate_left
                  · simp only [Act.put, List.setIfInBounds_toArray, List.set_cons_zero, List.set_cons_succ, i64_w, i32_w]
                    rfl
                  refine take_ (i := 7) (N := some 128) (v := ?_) (a' := ?_) #[true, true, true, true, true, true, true, true, false, false, false, false, false, false, false, false, false, false, false, false, false, false, false, false, false] rfl rfl (take_ofW HT_.out HW_.out (by kernel_rfl)) (fun _ _ _ h => h) (Or.inl ⟨by rfl, ?_⟩) hHeld ?_ ?_
                  rotate_left
                  · rintro w' ⟨s0, s1, s2, s3, s4, s5, s6, s7, s8⟩
                    go_simp
                    with_reducible rfl
                  rotate_left
                  · simp only [Act.put, List.setIfInBounds_toArray, List.set_cons_zero, List.set_cons_succ, i64_w, i32_w]
                    rfl
                  refine one_ (i := 8) (N := some 129) #[true, true, true, true, true, true, true, true, true, false, false, false, false, false, false, false, false, false, false, false, false, false, false, false, false] rfl rfl (one_of HT_.out (by kernel_rfl)) (by decide) (fun K hK => ?_)
                  refine goes_ Try.func15 (by kernel_rfl) rfl #[.slice D27 y.f25.length d27, .slice A4 x.f4.length c4] (by rfl) rfl rfl (by (try simp only [List.map_toArray, List.map_cons, List.map_nil]); first | done | rfl | (simp only [List.length_drop, List.length_take]; rfl)) ?_
                  refine (matches_co _ _ y.f25 _ _ x.f4 _ (Kd.C_below HG27.out HB24.out) HL27.out (Kd.C_below HG4.out HB24.out) HL4.out (HBZ.out y HYM.out)).mono ?_
                  rintro e w23_ ⟨rfl, hb⟩
                  refine ⟨_, rfl, ?_⟩
                  have HB25 := Aside0.mk (below_step HB24.out hb)
                  clear hb HB24
                  refine hK.out _ _ ⟨(blk_cell (blk_below HXgg.out HB25.out) 0).trans rfl, (blk_cell (blk_below HXgg.out HB25.out) 1).trans rfl, (blk_cell (blk_below HXgg.out HB25.out) 2).trans rfl, (blk_cell (blk_below HXgg.out HB25.out) 3).trans rfl, (blk_cell (blk_below HXG.out HB25.out) 3).trans rfl, (blk_cell (blk_below HXX.out HB25.out) 4).trans rfl, (HB25.out.cell (World.block_lt_of_cell? w13_ _ HY27.out)).trans HY27.out, (HB25.out.cell (World.block_lt_of_cell? w13_ _ HY28.out)).trans HY28.out, (fun j v hj => (HB25.out.cell (World.block_lt_of_cell? w13_ _ (HQA.out j v hj))).trans (HQA.out j v hj))⟩ (fun hHeld => ?_)
                  clear hK K
                  refine norm_ (a' := ?_) ?_ ?_
                  rotate_left
                  · show Act.put _ (some 129) _ = _
                    simp only [Act.put, List.setIfInBounds_toArray, List.set_cons_zero, List.set_cons_succ, i64_w, i32_w]
                    rfl
                  rw [HMA.out]
                  refine pure_ (i := 9) (N := some 130) (v := ?_) (a' := ?_) #[true, true, true, true, true, true, true, true, true, true, false, false, false, false, false, false, false, false, false, false, false, false, false, false, false] rfl rfl (any_of HT_.out (by kernel_rfl)) (fun _ _ _ h => h) (Or.inl ⟨by rfl, ?_⟩) ?_ ?_
                  rotate_left
                  · intro w'
                    go_simp
                    with_reducible rfl
                  rotate_left
                  · simp only [Act.put, List.setIfInBounds_toArray, List.set_cons_zero, List.set_cons_succ, i64_w, i32_w]
                    rfl
                  refine pure_ (i := 11) (N := some 132) (v := ?_) (a' := ?_) #[true, true, true, true, true, true, true, true, true, true, false, true, false, false, false, false, false, false, false, false, false, false, false, false, false] rfl rfl (any_of HT_.out (by kernel_rfl)) (fun _ _ _ h => h) (Or.inl ⟨by rfl, ?_⟩) ?_ ?_
                  rotate_left
                  · intro w'
                    go_simp
                    with_reducible rfl
                  rotate_left
                  · simp only [Act.put, List.setIfInBounds_toArray, List.set_cons_zero, List.set_cons_succ, i64_w, i32_w]
                    rfl
                  refine pure_ (i := 13) (N := some 134) (v := ?_) (a' := ?_) #[true, true, true, true, true, true, true, true, true, true, false, true, false, true, false, false, false, false, false, false, false, false, false, false, false] rfl rfl (any_of HT_.out (by kernel_rfl)) (fun _ _ _ h => h) (Or.inl ⟨by rfl, ?_⟩) ?_ ?_
                  rotate_left
                  · intro w'
                    go_simp
                    with_reducible rfl
                  rotate_left
                  · simp only [Act.put, List.setIfInBounds_toArray, List.set_cons_zero, List.set_cons_succ, i64_w, i32_w]
                    rfl
                  refine pure_ (i := 17) (N := some 138) (v := ?_) (a' := ?_) #[true, true, true, true, true, true, true, true, true, true, false, true, false, true, false, false, false, true, false, false, false, false, false, false, false] rfl rfl (any_of HT_.out (by kernel_rfl)) (fun _ _ _ h => h) (Or.inl ⟨by rfl, ?_⟩) ?_ ?_
                  rotate_left
                  · intro w'
                    go_simp
                    with_reducible rfl
                  rotate_left
                  · simp only [Act.put, List.setIfInBounds_toArray, List.set_cons_zero, List.set_cons_succ, i64_w, i32_w]
                    rfl
                  refine pure_ (i := 19) (N := some 140) (v := ?_) (a' := ?_) #[true, true, true, true, true, true, true, true, true, true, false, true, false, true, false, false, false, true, false, true, false, false, false, false, false] rfl rfl (any_of HT_.out (by kernel_rfl)) (fun _ _ _ h => h) (Or.inl ⟨by rfl, ?_⟩) ?_ ?_
                  rotate_left
                  · intro w'
                    go_simp
                    with_reducible rfl
                  rotate_left
                  · simp only [Act.put, List.setIfInBounds_toArray, List.set_cons_zero, List.set_cons_succ, i64_w, i32_w]
                    rfl
                  refine take_ (i := 10) (N := some 131) (v := ?_) (a' := ?_) #[true, true, true, true, true, true, true, true, true, true, true, true, false, true, false, false, false, true, false, true, false, false, false, false, false] rfl rfl (take_ofW HT_.out HW_.out (by kernel_rfl)) (fun _ _ _ h => h) (Or.inl ⟨by rfl, ?_⟩) hHeld ?_ ?_
                  rotate_left
                  · rintro w' ⟨s0, s1, s2, s3, s4, s5, s6, s7, s8⟩
                    go_simp
                    with_reducible rfl
                  rotate_left
                  · simp only [Act.put, List.setIfInBounds_toArray, List.set_cons_zero, List.set_cons_succ, i64_w, i32_w]
                    rfl
                  refine take_ (i := 12) (N := some 133) (v := ?_) (a' := ?_) #[true, true, true, true, true, true, true, true, true, true, true, true, true, true, false, false, false, true, false, true, false, false, false, false, false] rfl rfl (take_ofW HT_.out HW_.out (by kernel_rfl)) (fun _ _ _ h => h) (Or.inl ⟨by rfl, ?_⟩) hHeld ?_ ?_
                  rotate_left
                  · rintro w' ⟨s0, s1, s2, s3, s4, s5, s6, s7, s8⟩
                    go_simp
                    with_reducible rfl
                  rotate_left
                  · simp only [Act.put, List.setIfInBounds_toArray, List.set_cons_zero, List.set_cons_succ, i64_w, i32_w]
                    rfl
                  refine pure_ (i := 14) (N := some 135) (v := ?_) (a' := ?_) #[true, true, true, true, true, true, true, true, true, true, true, true, true, true, true, false, false, true, false, true, false, false, false, false, false] rfl rfl (any_of HT_.out (by kernel_rfl)) (fun _ _ _ h => h) (Or.inl ⟨by rfl, ?_⟩) ?_ ?_
                  rotate_left
                  · intro w'
                    go_simp
                    with_reducible rfl
                  rotate_left
                  · simp only [Act.put, List.setIfInBounds_toArray, List.set_cons_zero, List.set_cons_succ, i64_w, i32_w]
                    rfl
                  refine take_ (i := 15) (N := some 136) (v := ?_) (a' := ?_) #[true, true, true, true, true, true, true, true, true, true, true, true, true, true, true, true, false, true, false, true, false, false, false, false, false] rfl rfl (take_ofW HT_.out HW_.out (by kernel_rfl)) (fun _ _ _ h => h) (Or.inl ⟨by rfl, ?_⟩) hHeld ?_ ?_
                  rotate_left
                  · rintro w' ⟨s0, s1, s2, s3, s4, s5, s6, s7, s8⟩
                    refine load_elem_run (p := .tmp 135) ?_ ?_ s8 <;> rfl
                  rotate_left
                  · simp only [Act.put, List.setIfInBounds_toArray, List.set_cons_zero, List.set_cons_succ, i64_w, i32_w]
                    rfl
                  refine take_ (i := 18) (N := some 139) (v := ?_) (a' := ?_) #[true, true, true, true, true, true, true, true, true, true, true, true, true, true, true, true, false, true, true, true, false, false, false, false, false] rfl rfl (take_ofW HT_.out HW_.out (by kernel_rfl)) (fun _ _ _ h => h) (Or.inl ⟨by rfl, ?_⟩) hHeld ?_ ?_
                  rotate_left
                  · rintro w' ⟨s0, s1, s2, s3, s4, s5, s6, s7, s8⟩
                    go_simp
                    with_reducible rfl
                  rotate_left
                  · simp only [Act.put, List.setIfInBounds_toArray, List.set_cons_zero, List.set_cons_succ, i64_w, i32_w]
                    rfl
                  refine pure_ (i := 20) (N := some 141) (v := ?_) (a' := ?_) #[true, true, true, true, true, true, true, true, true, true, true, true, true, true, true, true, false, true, true, true, true, false, false, false, false] rfl rfl (any_of HT_.out (by kernel_rfl)) (fun _ _ _ h => h) (Or.inl ⟨by rfl, ?_⟩) ?_ ?_
                  rotate_left
                  · intro w'
                    go_simp
                    with_reducible rfl
                  rotate_left
                  · simp only [Act.put, List.setIfInBounds_toArray, List.set_cons_zero, List.set_cons_succ, i64_w, i32_w]
                    rfl
                  refine pure_ (i := 21) (N := some 142) (v := ?_) (a' := ?_) #[true, true, true, true, true, true, true, true, true, true, true, true, true, true, true, true, false, true, true, true, true, true, false, false, false] rfl rfl (any_of HT_.out (by kernel_rfl)) (fun _ _ _ h => h) (Or.inl ⟨by rfl, ?_⟩) ?_ ?_
                  rotate_left
                  · intro w'
                    go_simp
                    with_reducible rfl
                  rotate_left
                  · simp only [Act.put, List.setIfInBounds_toArray, List.set_cons_zero, List.set_cons_succ, i64_w, i32_w]
                    rfl
                  refine take_ (i := 22) (N := some 143) (v := ?_) (a' := ?_) #[true, true, true, true, true, true, true, true, true, true, true, true, true, true, true, true, false, true, true, true, true, true, true, false, false] rfl rfl (take_ofW HT_.out HW_.out (by kernel_rfl)) (fun _ _ _ h => h) (Or.inl ⟨by rfl, ?_⟩) hHeld ?_ ?_
                  rotate_left
                  · rintro w' ⟨s0, s1, s2, s3, s4, s5, s6, s7, s8⟩
                    go_simp
                    with_reducible rfl
                  rotate_left
                  · simp only [Act.put, List.setIfInBounds_toArray, List.set_cons_zero, List.set_cons_succ, i64_w, i32_w]
                    rfl
                  refine one_ (i := 16) (N := some 137) #[true, true, true, true, true, true, true, true, true, true, true, true, true, true, true, true, true, true, true, true, true, true, true, false, false] rfl rfl (one_of HT_.out (by kernel_rfl)) (by decide) (fun K hK => ?_)
                  refine goes_ Try.func40 (by kernel_rfl) rfl #[.agg #[.slice B0 l0.length d0, .slice (some ⟨go, 0, none⟩) l1.length d1, .slice B2 l2.length d2, .slice (some bd3) l3.length d3], .agg (cO y q4 q27)] (by rfl) rfl rfl (by (try simp only [List.map_toArray, List.map_cons, List.map_nil]); first | done | rfl | (simp only [List.length_drop, List.length_take]; rfl)) ?_
                  refine (HGDC.out _ HB25.out).mono ?_
                  rintro e w24_ ⟨rfl, hb⟩
                  refine ⟨_, rfl, ?_⟩
                  have HB26 := Aside0.mk (below_step HB25.out hb)
                  clear hb HB25
                  refine hK.out _ _ ⟨(blk_cell (blk_below HXgg.out HB26.out) 0).trans rfl, (blk_cell (blk_below HXgg.out HB26.out) 1).trans rfl, (blk_cell (blk_below HXgg.out HB26.out) 2).trans rfl, (blk_cell (blk_below HXgg.out HB26.out) 3).trans rfl, (blk_cell (blk_below HXG.out HB26.out) 3).trans rfl, (blk_cell (blk_below HXX.out HB26.out) 4).trans rfl, (HB26.out.cell (World.block_lt_of_cell? w13_ _ HY27.out)).trans HY27.out, (HB26.out.cell (World.block_lt_of_cell? w13_ _ HY28.out)).trans HY28.out, (fun j v hj => (HB26.out.cell (World.block_lt_of_cell? w13_ _ (HQA.out j v hj))).trans (HQA.out j v hj))⟩ (fun hHeld => ?_)
                  clear hK K
                  refine norm_ (a' := ?_) ?_ ?_
                  rotate_left
                  · show Act.put _ (some 137) _ = _
                    simp only [Act.put, List.setIfInBounds_toArray, List.set_cons_zero, List.set_cons_succ, i64_w, i32_w]
                    rfl
                  rw [← HQ.out]
                  have hql : ¬ q < y.f26 := by have := HQL.out; omega
                  refine pure_ (i := 23) (N := some 144) (v := ?_) (a' := ?_) #[true, true, true, true, true, true, true, true, true, true, true, true, true, true, true, true, true, true, true, true, true, true, true, true, false] rfl rfl (any_of HT_.out (by kernel_rfl)) (fun _ _ _ h => h) (Or.inl ⟨by rfl, ?_⟩) ?_ ?_
                  rotate_left
                  · intro w'
                    go_simp
                    with_reducible rfl
                  rotate_left
                  · simp only [Act.put, List.setIfInBounds_toArray, List.set_cons_zero, List.set_cons_succ, i64_w, i32_w]
                    rfl
                  refine pure_ (i := 24) (N := some 145) (v := ?_) (a' := ?_) #[true, true, true, true, true, true, true, true, true, true, true, true, true, true, true, true, true, true, true, true, true, true, true, true, true] rfl rfl (any_of HT_.out (by kernel_rfl)) (fun _ _ _ h => h) (Or.inl ⟨by rfl, ?_⟩) ?_ ?_
                  rotate_left
                  · intro w'
                    go_simp
                    with_reducible rfl
                  rotate_left
                  · simp only [Act.put, List.setIfInBounds_toArray, List.set_cons_zero, List.set_cons_succ, i64_w, i32_w]
                    rfl
                  refine done_ (done_of HT_.out (by kernel_rfl)) ?_
                  go_wp2
                  go_roundw
                  case rel => exact ⟨k + 1, by have := HLT.out; omega, by simp, HB26⟩
                  case measure => have := HLT.out; simp [intOf]; omega
              · obtain rfl : k = l3.length := by omega
                have hc_g_3 : wr.cell? ⟨gb, 3, none⟩ = some (.slice A3 l3.length c3) := (blk_cell (blk_below HXG.out HB.out) 3).trans rfl
                go_wp2
                go_ret
                exact ⟨rfl, (below_step HW.out HB.out)⟩
          | some d =>
            obtain ⟨j, hj, hjd, hdj⟩ := idx_find hfd
            rw [hjd]
            have HSB := Aside0.mk (show heldI d.f20 - heldI d.f22 ≤ m by
              have h1 := HSL.out
              unfold slackB at h1
              rw [hfd] at h1
              simp only [decide_eq_false_iff_not] at h1
              have h2 := HM.out
              omega)
            have hrd : rd_T68 l2 (j : Int) = d := by rw [rd_get hj]; exact hdj
            obtain ⟨ad2, d4_, d27_, hA2, -, -, hdc, -⟩ := at_all HR2.out j hj
            rw [hrd] at hdc
            have HD22 := Aside0.mk (hdc 22 (.int .i64 d.f20) (by omega) rfl)
            have HD24 := Aside0.mk (hdc 24 (.int .i64 d.f22) (by omega) rfl)
            have HJ := Aside0.mk hj
            cases hA2
            clear hfd hjd hdj hrd hdc hj
            obtain ⟨a, ha⟩ : ∃ a : Int, a = heldI d.f20 := ⟨_, rfl⟩
            obtain ⟨b, hb_⟩ : ∃ b : Int, b = heldI d.f22 := ⟨_, rfl⟩
            have HHA := Aside0.mk (show flotillalaw16_held.f d.f20 = some a by rw [ha]; rfl)
            have HHB := Aside0.mk (show flotillalaw16_held.f d.f22 = some b by rw [hb_]; rfl)
            rw [← ha, ← hb_] at HSB
            have HBD := Aside0.mk (show (-1125899906842624 ≤ a ∧ a ≤ 1125899906842624) ∧ (-1125899906842624 ≤ b ∧ b ≤ 1125899906842624) by exact ⟨by rw [ha]; exact heldI_range _, by rw [hb_]; exact heldI_range _⟩)
            clear ha hb_
            go_wp2
            have hjl : j < l2.length := HJ.out
            have HB27 := Aside0.mk (below_drew1 HB20.out)
            clear HB20
            refine start_ (n := 24) (S := fun w' => w'.cell? ⟨gg, 0, none⟩ = some (.slice B0 l0.length d0) ∧ w'.cell? ⟨gg, 1, none⟩ = some (.slice (some ⟨go, 0, none⟩) l1.length d1) ∧ w'.cell? ⟨gg, 2, none⟩ = some (.slice B2 l2.length d2) ∧ w'.cell? ⟨gg, 3, none⟩ = some (.slice B3 l3.length d3) ∧ w'.cell? ⟨gb, 2, none⟩ = some (.slice (some ad2) l2.length c2) ∧ w'.cell? ⟨gx, 11, none⟩ = some (.string x.f10) ∧ w'.cell? ⟨(ad2.add (j * 32)).block, (ad2.add (j * 32)).off + 22, none⟩ = some (.int .i64 d.f20) ∧ w'.cell? ⟨(ad2.add (j * 32)).block, (ad2.add (j * 32)).off + 24, none⟩ = some (.int .i64 d.f22)) (ds := []) #[false, false, false, false, false, false, false, false, false, false, false, false, false, false, false, false, false, false, false, false, false, false, false, false] (by kernel_rfl) rfl rfl ⟨(blk_cell (blk_below HXgg.out HB27.out) 0).trans rfl, (blk_cell (blk_below HXgg.out HB27.out) 1).trans rfl, (blk_cell (blk_below HXgg.out HB27.out) 2).trans rfl, (blk_cell (blk_below HXgg.out HB27.out) 3).trans rfl, (blk_cell (blk_below HXG.out HB27.out) 2).trans rfl, (blk_cell (blk_below HXX.out HB27.out) 11).trans rfl, (HB27.out.cell (World.block_lt_of_cell? w13_ _ HD22.out)).trans HD22.out, (HB27.out.cell (World.block_lt_of_cell? w13_ _ HD24.out)).trans HD24.out⟩ (fun hHeld => ?_); refine with_tabW kept.tab16 kept.bits16 (fun HT_ HW_ => ?_)
            generalize w18_.drew = w25_ at HB27 hHeld ⊢
            refine pure_ (i := 0) (N := some 90) (v := ?_) (a' := ?_) #[true, false, false, false, false, false, false, false, false, false, false, false, false, false, false, false, false, false, false, false, false, false, false, false] rfl rfl (any_of HT_.out (by kernel_rfl)) (fun _ _ _ h => h) (Or.inl ⟨by rfl, ?_⟩) ?_ ?_
            rotate_left
            · intro w'
              go_simp
              with_reducible rfl
            rotate_left
            · simp only [Act.put, List.setIfInBounds_toArray, List.set_cons_zero, List.set_cons_succ, i64_w, i32_w]
              rfl
            refine pure_ (i := 1) (N := some 91) (v := ?_) (a' := ?_) #[true, true, false, false, false, false, false, false, false, false, false, false, false, false, false, false, false, false, false, false, false, false, false, false] rfl rfl (any_of HT_.out (by kernel_rfl)) (fun _ _ _ h => h) (Or.inl ⟨by rfl, ?_⟩) ?_ ?_
            rotate_left
            · intro w'
              go_simp
              with_reducible rfl
            rotate_left
            · simp only [Act.put, List.setIfInBounds_toArray, List.set_cons_zero, List.set_cons_succ, i64_w, i32_w]
              rfl
            refine pure_ (i := 2) (N := some 92) (v := ?_) (a' := ?_) #[true, true, true, false, false, false, false, false, false, false, false, false, false, false, false, false, false, false, false, false, false, false, false, false] rfl rfl (any_of HT_.out (by kernel_rfl)) (fun _ _ _ h => h) (Or.inl ⟨by rfl, ?_⟩) ?_ ?_
            rotate_left
            · intro w'
              go_simp
              with_reducible rfl
            rotate_left
            · simp only [Act.put, List.setIfInBounds_toArray, List.set_cons_zero, List.set_cons_succ, i64_w, i32_w]
              rfl
            refine pure_ (i := 4) (N := some 94) (v := ?_) (a' := ?_) #[true, true, true, false, true, false, false, false, false, false, false, false, false, false, false, false, false, false, false, false, false, false, false, false] rfl rfl (any_of HT_.out (by kernel_rfl)) (fun _ _ _ h => h) (Or.inl ⟨by rfl, ?_⟩) ?_ ?_
            rotate_left
            · intro w'
              go_simp
              with_reducible rfl
            rotate_left
            · simp only [Act.put, List.setIfInBounds_toArray, List.set_cons_zero, List.set_cons_succ, i64_w, i32_w]
              rfl
            refine pure_ (i := 7) (N := some 97) (v := ?_) (a' := ?_) #[true, true, true, false, true, false, false, true, false, false, false, false, false, false, false, false, false, false, false, false, false, false, false, false] rfl rfl (any_of HT_.out (by kernel_rfl)) (fun _ _ _ h => h) (Or.inl ⟨by rfl, ?_⟩) ?_ ?_
            rotate_left
            · intro w'
              go_simp
              with_reducible rfl
            rotate_left
            · simp only [Act.put, List.setIfInBounds_toArray, List.set_cons_zero, List.set_cons_succ, i64_w, i32_w]
              rfl
            refine pure_ (i := 9) (N := some 99) (v := ?_) (a' := ?_) #[true, true, true, false, true, false, false, true, false, true, false, false, false, false, false, false, false, false, false, false, false, false, false, false] rfl rfl (any_of HT_.out (by kernel_rfl)) (fun _ _ _ h => h) (Or.inl ⟨by rfl, ?_⟩) ?_ ?_
            rotate_left
            · intro w'
              go_simp
              with_reducible rfl
            rotate_left
            · simp only [Act.put, List.setIfInBounds_toArray, List.set_cons_zero, List.set_cons_succ, i64_w, i32_w]
              rfl
            refine pure_ (i := 14) (N := some 104) (v := ?_) (a' := ?_) #[true, true, true, false, true, false, false, true, false, true, false, false, false, false, true, false, false, false, false, false, false, false, false, false] rfl rfl (any_of HT_.out (by kernel_rfl)) (fun _ _ _ h => h) (Or.inl ⟨by rfl, ?_⟩) ?_ ?_
            rotate_left
            · intro w'
              go_simp
              with_reducible rfl
            rotate_left
            · simp only [Act.put, List.setIfInBounds_toArray, List.set_cons_zero, List.set_cons_succ, i64_w, i32_w]
              rfl
            refine pure_ (i := 16) (N := some 106) (v := ?_) (a' := ?_) #[true, true, true, false, true, false, false, true, false, true, false, false, false, false, true, false, true, false, false, false, false, false, false, false] rfl rfl (any_of HT_.out (by kernel_rfl)) (fun _ _ _ h => h) (Or.inl ⟨by rfl, ?_⟩) ?_ ?_
            rotate_left
            · intro w'
              go_simp
              with_reducible rfl
            rotate_left
            · simp only [Act.put, List.setIfInBounds_toArray, List.set_cons_zero, List.set_cons_succ, i64_w, i32_w]
              rfl
            refine take_ (i := 3) (N := some 93) (v := ?_) (a' := ?_) #[true, true, true, true, true, false, false, true, false, true, false, false, false, false, true, false, true, false, false, false, false, false, false, false] rfl rfl (take_ofW HT_.out HW_.out (by kernel_rfl)) (fun _ _ _ h => h) (Or.inl ⟨by rfl, ?_⟩) hHeld ?_ ?_
            rotate_left
            · rintro w' ⟨s0, s1, s2, s3, s4, s5, s6, s7⟩
              go_simp
              with_reducible rfl
            rotate_left
            · simp only [Act.put, List.setIfInBounds_toArray, List.set_cons_zero, List.set_cons_succ, i64_w, i32_w]
              rfl
            refine take_ (i := 5) (N := some 95) (v := ?_) (a' := ?_) #[true, true, true, true, true, true, false, true, false, true, false, false, false, false, true, false, true, false, false, false, false, false, false, false] rfl rfl (take_ofW HT_.out HW_.out (by kernel_rfl)) (fun _ _ _ h => h) (Or.inl ⟨by rfl, ?_⟩) hHeld ?_ ?_
            rotate_left
            · rintro w' ⟨s0, s1, s2, s3, s4, s5, s6, s7⟩
              go_simp
              with_reducible rfl
            rotate_left
            · simp only [Act.put, List.setIfInBounds_toArray, List.set_cons_zero, List.set_cons_succ, i64_w, i32_w]
              rfl
            refine take_ (i := 8) (N := some 98) (v := ?_) (a' := ?_) #[true, true, true, true, true, true, false, true, true, true, false, false, false, false, true, false, true, false, false, false, false, false, false, false] rfl rfl (take_ofW HT_.out HW_.out (by kernel_rfl)) (fun _ _ _ h => h) (Or.inl ⟨by rfl, ?_⟩) hHeld ?_ ?_
            rotate_left
            · rintro w' ⟨s0, s1, s2, s3, s4, s5, s6, s7⟩
              go_simp
              with_reducible rfl
            rotate_left
            · simp only [Act.put, List.setIfInBounds_toArray, List.set_cons_zero, List.set_cons_succ, i64_w, i32_w]
              rfl
            refine pure_ (i := 10) (N := some 100) (v := ?_) (a' := ?_) #[true, true, true, true, true, true, false, true, true, true, true, false, false, false, true, false, true, false, false, false, false, false, false, false] rfl rfl (any_of HT_.out (by kernel_rfl)) (fun _ _ _ h => h) (Or.inl ⟨by rfl, ?_⟩) ?_ ?_
            rotate_left
            · intro w'
              go_simp
              with_reducible rfl
            rotate_left
            · simp only [Act.put, List.setIfInBounds_toArray, List.set_cons_zero, List.set_cons_succ, i64_w, i32_w]
              rfl
            refine pure_ (i := 11) (N := some 101) (v := ?_) (a' := ?_) #[true, true, true, true, true, true, false, true, true, true, true, true, false, false, true, false, true, false, false, false, false, false, false, false] rfl rfl (any_of HT_.out (by kernel_rfl)) (fun _ _ _ h => h) (Or.inl ⟨by rfl, ?_⟩) ?_ ?_
            rotate_left
            · intro w'
              go_simp
              with_reducible rfl
            rotate_left
            · simp only [Act.put, List.setIfInBounds_toArray, List.set_cons_zero, List.set_cons_succ, i64_w, i32_w]
              rfl
            refine take_ (i := 12) (N := some 102) (v := ?_) (a' := ?_) #[true, true, true, true, true, true, false, true, true, true, true, true, true, false, true, false, true, false, false, false, false, false, false, false] rfl rfl (take_ofW HT_.out HW_.out (by kernel_rfl)) (fun _ _ _ h => h) (Or.inl ⟨by rfl, ?_⟩) hHeld ?_ ?_
            rotate_left
            · rintro w' ⟨s0, s1, s2, s3, s4, s5, s6, s7⟩
              go_simp
              with_reducible rfl
            rotate_left
            · simp only [Act.put, List.setIfInBounds_toArray, List.set_cons_zero, List.set_cons_succ, i64_w, i32_w]
              rfl
            refine take_ (i := 15) (N := some 105) (v := ?_) (a' := ?_) #[true, true, true, true, true, true, false, true, true, true, true, true, true, false, true, true, true, false, false, false, false, false, false, false] rfl rfl (take_ofW HT_.out HW_.out (by kernel_rfl)) (fun _ _ _ h => h) (Or.inl ⟨by rfl, ?_⟩) hHeld ?_ ?_
            rotate_left
            · rintro w' ⟨s0, s1, s2, s3, s4, s5, s6, s7⟩
              go_simp
              with_reducible rfl
            rotate_left
            · simp only [Act.put, List.setIfInBounds_toArray, List.set_cons_zero, List.set_cons_succ, i64_w, i32_w]
              rfl
            refine pure_ (i := 17) (N := some 107) (v := ?_) (a' := ?_) #[true, true, true, true, true, true, false, true, true, true, true, true, true, false, true, true, true, true, false, false, false, false, false, false] rfl rfl (any_of HT_.out (by kernel_rfl)) (fun _ _ _ h => h) (Or.inl ⟨by rfl, ?_⟩) ?_ ?_
            rotate_left
            · intro w'
              go_simp
              with_reducible rfl
            rotate_left
            · simp only [Act.put, List.setIfInBounds_toArray, List.set_cons_zero, List.set_cons_succ, i64_w, i32_w]
              rfl
            refine pure_ (i := 18) (N := some 108) (v := ?_) (a' := ?_) #[true, true, true, true, true, true, false, true, true, true, true, true, true, false, true, true, true, true, true, false, false, false, false, false] rfl rfl (any_of HT_.out (by kernel_rfl)) (fun _ _ _ h => h) (Or.inl ⟨by rfl, ?_⟩) ?_ ?_
            rotate_left
            · intro w'
              go_simp
              with_reducible rfl
            rotate_left
            · simp only [Act.put, List.setIfInBounds_toArray, List.set_cons_zero, List.set_cons_succ, i64_w, i32_w]
              rfl
            refine take_ (i := 19) (N := some 109) (v := ?_) (a' := ?_) #[true, true, true, true, true, true, false, true, true, true, true, true, true, false, true, true, true, true, true, true, false, false, false, false] rfl rfl (take_ofW HT_.out HW_.out (by kernel_rfl)) (fun _ _ _ h => h) (Or.inl ⟨by rfl, ?_⟩) hHeld ?_ ?_
            rotate_left
            · rintro w' ⟨s0, s1, s2, s3, s4, s5, s6, s7⟩
              go_simp
              with_reducible rfl
            rotate_left
            · simp only [Act.put, List.setIfInBounds_toArray, List.set_cons_zero, List.set_cons_succ, i64_w, i32_w]
              rfl
            refine one_ (i := 6) (N := some 96) #[true, true, true, true, true, true, true, true, true, true, true, true, true, false, true, true, true, true, true, true, false, false, false, false] rfl rfl (one_of HT_.out (by kernel_rfl)) (by decide) (fun K hK => ?_)
            refine goes_ Try.func36 (by kernel_rfl) rfl #[.agg #[.slice B0 l0.length d0, .slice (some ⟨go, 0, none⟩) l1.length d1, .slice B2 l2.length d2, .slice B3 l3.length d3], .string x.f10] (by rfl) rfl rfl (by (try simp only [List.map_toArray, List.map_cons, List.map_nil]); first | done | rfl | (simp only [List.length_drop, List.length_take]; rfl)) ?_
            refine (HRGC.out _ HB27.out).mono ?_
            rintro e w26_ ⟨rfl, hb⟩
            refine ⟨_, rfl, ?_⟩
            have HB28 := Aside0.mk (below_step HB27.out hb)
            clear hb HB27
            refine hK.out _ _ ⟨(blk_cell (blk_below HXgg.out HB28.out) 0).trans rfl, (blk_cell (blk_below HXgg.out HB28.out) 1).trans rfl, (blk_cell (blk_below HXgg.out HB28.out) 2).trans rfl, (blk_cell (blk_below HXgg.out HB28.out) 3).trans rfl, (blk_cell (blk_below HXG.out HB28.out) 2).trans rfl, (blk_cell (blk_below HXX.out HB28.out) 11).trans rfl, (HB28.out.cell (World.block_lt_of_cell? w13_ _ HD22.out)).trans HD22.out, (HB28.out.cell (World.block_lt_of_cell? w13_ _ HD24.out)).trans HD24.out⟩ (fun hHeld => ?_)
            clear hK K
            refine norm_ (a' := ?_) ?_ ?_
            rotate_left
            · show Act.put _ (some 96) _ = _
              simp only [Act.put, List.setIfInBounds_toArray, List.set_cons_zero, List.set_cons_succ, i64_w, i32_w]
              rfl
            refine one_ (i := 13) (N := some 103) #[true, true, true, true, true, true, true, true, true, true, true, true, true, true, true, true, true, true, true, true, false, false, false, false] rfl rfl (one_of HT_.out (by kernel_rfl)) (by decide) (fun K hK => ?_)
            refine goes_ Try.func62 (by kernel_rfl) rfl #[.int .i64 d.f20] (by rfl) rfl rfl (by (try simp only [List.map_toArray, List.map_cons, List.map_nil]); first | done | rfl | (simp only [List.length_drop, List.length_take]; rfl)) ?_
            refine (flotillalaw16_held.calls d.f20 a _ HHA.out).mono ?_
            rintro e w27_ ⟨rfl, hb⟩
            refine ⟨_, rfl, ?_⟩
            have HB29 := Aside0.mk (below_step HB28.out hb)
            clear hb HB28
            refine hK.out _ _ ⟨(blk_cell (blk_below HXgg.out HB29.out) 0).trans rfl, (blk_cell (blk_below HXgg.out HB29.out) 1).trans rfl, (blk_cell (blk_below HXgg.out HB29.out) 2).trans rfl, (blk_cell (blk_below HXgg.out HB29.out) 3).trans rfl, (blk_cell (blk_below HXG.out HB29.out) 2).trans rfl, (blk_cell (blk_below HXX.out HB29.out) 11).trans rfl, (HB29.out.cell (World.block_lt_of_cell? w13_ _ HD22.out)).trans HD22.out, (HB29.out.cell (World.block_lt_of_cell? w13_ _ HD24.out)).trans HD24.out⟩ (fun hHeld => ?_)
            clear hK K
            refine norm_ (a' := ?_) ?_ ?_
            rotate_left
            · show Act.put _ (some 103) _ = _
              simp only [Act.put, List.setIfInBounds_toArray, List.set_cons_zero, List.set_cons_succ, i64_w, i32_w]
              rfl
            refine one_ (i := 20) (N := some 110) #[true, true, true, true, true, true, true, true, true, true, true, true, true, true, true, true, true, true, true, true, true, false, false, false] rfl rfl (one_of HT_.out (by kernel_rfl)) (by decide) (fun K hK => ?_)
            refine goes_ Try.func62 (by kernel_rfl) rfl #[.int .i64 d.f22] (by rfl) rfl rfl (by (try simp only [List.map_toArray, List.map_cons, List.map_nil]); first | done | rfl | (simp only [List.length_drop, List.length_take]; rfl)) ?_
            refine (flotillalaw16_held.calls d.f22 b _ HHB.out).mono ?_
            rintro e w28_ ⟨rfl, hb⟩
            refine ⟨_, rfl, ?_⟩
            have HB30 := Aside0.mk (below_step HB29.out hb)
            clear hb HB29
            refine hK.out _ _ ⟨(blk_cell (blk_below HXgg.out HB30.out) 0).trans rfl, (blk_cell (blk_below HXgg.out HB30.out) 1).trans rfl, (blk_cell (blk_below HXgg.out HB30.out) 2).trans rfl, (blk_cell (blk_below HXgg.out HB30.out) 3).trans rfl, (blk_cell (blk_below HXG.out HB30.out) 2).trans rfl, (blk_cell (blk_below HXX.out HB30.out) 11).trans rfl, (HB30.out.cell (World.block_lt_of_cell? w13_ _ HD22.out)).trans HD22.out, (HB30.out.cell (World.block_lt_of_cell? w13_ _ HD24.out)).trans HD24.out⟩ (fun hHeld => ?_)
            clear hK K
            refine norm_ (a' := ?_) ?_ ?_
            rotate_left
            · show Act.put _ (some 110) _ = _
              simp only [Act.put, List.setIfInBounds_toArray, List.set_cons_zero, List.set_cons_succ, i64_w, i32_w]
              rfl
            obtain ⟨⟨ha0, ha1⟩, hb0, hb1⟩ := HBD.out
            have hwab : wrap64 (a - b) = a - b := by unfold wrap64; omega
            have hml : ¬ m < a - b := by have := HSB.out; omega
            refine pure_ (i := 21) (N := some 111) (v := ?_) (a' := ?_) #[true, true, true, true, true, true, true, true, true, true, true, true, true, true, true, true, true, true, true, true, true, true, false, false] rfl rfl (any_of HT_.out (by kernel_rfl)) (fun _ _ _ h => h) (Or.inl ⟨by rfl, ?_⟩) ?_ ?_
            rotate_left
            · intro w'
              go_simp
              with_reducible rfl
            rotate_left
            · simp only [Act.put, List.setIfInBounds_toArray, List.set_cons_zero, List.set_cons_succ, i64_w, i32_w]
              rfl
            refine pure_ (i := 22) (N := some 112) (v := ?_) (a' := ?_) #[true, true, true, true, true, true, true, true, true, true, true, true, true, true, true, true, true, true, true, true, true, true, true, false] rfl rfl (any_of HT_.out (by kernel_rfl)) (fun _ _ _ h => h) (Or.inl ⟨by rfl, ?_⟩) ?_ ?_
            rotate_left
            · intro w'
              go_simp
              with_reducible rfl
            rotate_left
            · simp only [Act.put, List.setIfInBounds_toArray, List.set_cons_zero, List.set_cons_succ, i64_w, i32_w]
              rfl
            refine pure_ (i := 23) (N := some 113) (v := ?_) (a' := ?_) #[true, true, true, true, true, true, true, true, true, true, true, true, true, true, true, true, true, true, true, true, true, true, true, true] rfl rfl (any_of HT_.out (by kernel_rfl)) (fun _ _ _ h => h) (Or.inl ⟨by rfl, ?_⟩) ?_ ?_
            rotate_left
            · intro w'
              go_simp
              with_reducible rfl
            rotate_left
            · simp only [Act.put, List.setIfInBounds_toArray, List.set_cons_zero, List.set_cons_succ, i64_w, i32_w]
              rfl
            refine done_ (done_of HT_.out (by kernel_rfl)) ?_
            go_wp2
            go_loopw [10] (fun v wr => ∃ k : Nat, k ≤ l3.length ∧ v = .int .i64 k ∧ Aside0 (Below w13_.heap.size w13_ wr)) (fun v _ => l3.length - (intOf v).toNat)
            case atStart => exact ⟨0, Nat.zero_le _, rfl, HB30⟩
            case round =>
              obtain ⟨k, hk, rfl, HB⟩ := hrel
              clear HB30
              have hl3 : l3.length ≤ 300 := HLN.out.2.2.2
              by_cases hlt : k < l3.length
              · skip
                obtain ⟨y, hy⟩ : ∃ y, y = l3[k] := ⟨_, rfl⟩
                have hry : rd_T68 l3 (k : Int) = y := by rw [rd_get hlt, hy]
                have HYM := Aside0.mk (show y ∈ l3 by rw [hy]; exact List.getElem_mem hlt)
                obtain ⟨ad3, y4, y27, hA3, hky, -, hyj, -⟩ := at_all HR3.out k hlt
                obtain ⟨bd3, q4, q27, hB3, hkq, -, hqj, hqall⟩ := at_all HU3.out k hlt
                rw [hry] at hky hyj hkq hqj hqall
                cases hA3
                cases hB3
                obtain ⟨A4, c4, A27, c27, e4, e27, t4, g4, t27, g27⟩ := HKX.out
                obtain ⟨D4, d4, D27, d27, f4, f27, m4, h4, m27, h27⟩ := hky
                subst e4 f27
                have HG4 := Aside0.mk g4
                have HL4 := Aside0.mk t4
                have HG27 := Aside0.mk h27
                have HL27 := Aside0.mk m27
                have HKQ := Aside0.mk hkq
                have HY27 := Aside0.mk (hyj 27 _ (by omega) rfl)
                have HY28 := Aside0.mk (hyj 28 (.int .i64 y.f26) (by omega) rfl)
                have HQA := Aside0.mk hqall
                have HLT := Aside0.mk hlt
                clear hy hry hyj hqj hqall hkq g4 t4 h27 m27 e27 f4 t27 g27 m4 h4
                have hc_g_3 : wr.cell? ⟨gb, 3, none⟩ = some (.slice (some ad3) l3.length c3) := (blk_cell (blk_below HXG.out HB.out) 3).trans rfl
                go_wp2
                clear hc_g_3
                cases hma : matchL y.f25 x.f4 with
                | false =>
                  have HMA := Aside0.mk hma
                  clear hma
                  have hlt : k < l3.length := HLT.out
                  have HB31 := Aside0.mk (below_drew1 HB.out)
                  clear HB
                  refine start_ (n := 25) (S := fun w' => w'.cell? ⟨gg, 0, none⟩ = some (.slice B0 l0.length d0) ∧ w'.cell? ⟨gg, 1, none⟩ = some (.slice (some ⟨go, 0, none⟩) l1.length d1) ∧ w'.cell? ⟨gg, 2, none⟩ = some (.slice B2 l2.length d2) ∧ w'.cell? ⟨gg, 3, none⟩ = some (.slice (some bd3) l3.length d3) ∧ w'.cell? ⟨gb, 3, none⟩ = some (.slice (some ad3) l3.length c3) ∧ w'.cell? ⟨gx, 4, none⟩ = some (.slice A4 x.f4.length c4) ∧ w'.cell? ⟨(ad3.add (k * 32)).block, (ad3.add (k * 32)).off + 27, none⟩ = some (.slice D27 y.f25.length d27) ∧ w'.cell? ⟨(ad3.add (k * 32)).block, (ad3.add (k * 32)).off + 28, none⟩ = some (.int .i64 y.f26) ∧ (∀ (j : Nat) (v : Value), (cO y q4 q27).toList[j]? = some v → w'.cell? ((bd3.add (k * 32)).add j) = some v)) (ds := []) #[false, false, false, false, false, false, false, false, false, false, false, false, false, false, false, false, false, false, false, false, false, false, false, false, false] (by kernel_rfl) rfl rfl ⟨(blk_cell (blk_below HXgg.out HB31.out) 0).trans rfl, (blk_cell (blk_below HXgg.out HB31.out) 1).trans rfl, (blk_cell (blk_below HXgg.out HB31.out) 2).trans rfl, (blk_cell (blk_below HXgg.out HB31.out) 3).trans rfl, (blk_cell (blk_below HXG.out HB31.out) 3).trans rfl, (blk_cell (blk_below HXX.out HB31.out) 4).trans rfl, (HB31.out.cell (World.block_lt_of_cell? w13_ _ HY27.out)).trans HY27.out, (HB31.out.cell (World.block_lt_of_cell? w13_ _ HY28.out)).trans HY28.out, (fun j v hj => (HB31.out.cell (World.block_lt_of_cell? w13_ _ (HQA.out j v hj))).trans (HQA.out j v hj))⟩ (fun hHeld => ?_); refine with_tabW kept.tab21 kept.bits21 (fun HT_ HW_ => ?_)
                  generalize wr.drew = w29_ at HB31 hHeld ⊢
                  refine pure_ (i := 0) (N := some 121) (v := ?_) (a' := ?_) #[true, false, false, false, false, false, false, false, false, false, false, false, false, false, false, false, false, false, false, false, false, false, false, false, false] rfl rfl (any_of HT_.out (by kernel_rfl)) (fun _ _ _ h => h) (Or.inl ⟨by rfl, ?_⟩) ?_ ?_
                  rotate_left
                  · intro w'
                    go_simp
                    with_reducible rfl
                  rotate_left
                  · simp only [Act.put, List.setIfInBounds_toArray, List.set_cons_zero, List.set_cons_succ, i64_w, i32_w]
                    rfl
                  refine pure_ (i := 2) (N := some 123) (v := ?_) (a' := ?_) #[true, false, true, false, false, false, false, false, false, false, false, false, false, false, false, false, false, false, false, false, false, false, false, false, false] rfl rfl (any_of HT_.out (by kernel_rfl)) (fun _ _ _ h => h) (Or.inl ⟨by rfl, ?_⟩) ?_ ?_
                  rotate_left
                  · intro w'
                    go_simp
                    with_reducible rfl
                  rotate_left
                  · simp only [Act.put, List.setIfInBounds_toArray, List.set_cons_zero, List.set_cons_succ, i64_w, i32_w]
                    rfl
                  refine pure_ (i := 6) (N := some 127) (v := ?_) (a' := ?_) #[true, false, true, false, false, false, true, false, false, false, false, false, false, false, false, false, false, false, false, false, false, false, false, false, false] rfl rfl (any_of HT_.out (by kernel_rfl)) (fun _ _ _ h => h) (Or.inl ⟨by rfl, ?_⟩) ?_ ?_
                  rotate_left
                  · intro w'
                    go_simp
                    with_reducible rfl
                  rotate_left
                  · simp only [Act.put, List.setIfInBounds_toArray, List.set_cons_zero, List.set_cons_succ, i64_w, i32_w]
                    rfl
                  refine take_ (i := 1) (N := some 122) (v := ?_) (a' := ?_) #[true, true, true, false, false, false, true, false, false, false, false, false, false, false, false, false, false, false, false, false, false, false, false, false, false] rfl rfl (take_ofW HT_.out HW_.out (by kernel_rfl)) (fun _ _ _ h => h) (Or.inl ⟨by rfl, ?_⟩) hHeld ?_ ?_
                  rotate_left
                  · rintro w' ⟨s0, s1, s2, s3, s4, s5, s6, s7, s8⟩
                    go_simp
                    with_reducible rfl
                  rotate_left
                  · simp only [Act.put, List.setIfInBounds_toArray, List.set_cons_zero, List.set_cons_succ, i64_w, i32_w]
                    rfl
                  refine pure_ (i := 3) (N := some 124) (v := ?_) (a' := ?_) #[true, true, true, true, false, false, true, false, false, false, false, false, false, false, false, false, false, false, false, false, false, false, false, false, false] rfl rfl (any_of HT_.out (by kernel_rfl)) (fun _ _ _ h => h) (Or.inl ⟨by rfl, ?_⟩) ?_ ?_
                  rotate_left
                  · intro w'
                    go_simp
                    with_reducible rfl
                  rotate_left
                  · simp only [Act.put, List.setIfInBounds_toArray, List.set_cons_zero, List.set_cons_succ, i64_w, i32_w]
                    rfl
                  refine pure_ (i := 4) (N := some 125) (v := ?_) (a' := ?_) #[true, true, true, true, true, false, true, false, false, false, false, false, false, false, false, false, false, false, false, false, false, false, false, false, false] rfl rfl (any_of HT_.out (by kernel_rfl)) (fun _ _ _ h => h) (Or.inl ⟨by rfl, ?_⟩) ?_ ?_
                  rotate_left
                  · intro w'
                    go_simp
                    with_reducible rfl
                  rotate_left
                  · simp only [Act.put, List.setIfInBounds_toArray, List.set_cons_zero, List.set_cons_succ, i64_w, i32_w]
                    rfl
                  refine take_ (i := 5) (N := some 126) (v := ?_) (a' := ?_) #[true, true, true, true, true, true, true, false, false, false, false, false, false, false, false, false, false, false, false, false, false, false, false, false, false] rfl rfl (take_ofW HT_.out HW_.out (by kernel_rfl)) (fun _ _ _ h => h) (Or.inl ⟨by rfl, ?_⟩) hHeld ?_ ?_
                  rotate_left
                  · rintro w' ⟨s0, s1, s2, s3, s4, s5, s6, s7, s8⟩
                    go_simp
                    with_reducible rfl
                  rotate_left
                  · simp only [Act.put, List.setIfInBounds_toArray, List.set_cons_zero, List.set_cons_succ, i64_w, i32_w]
                    rfl
                  refine take_ (i := 7) (N := some 128) (v := ?_) (a' := ?_) #[true, true, true, true, true, true, true, true, false, false, false, false, false, false, false, false, false, false, false, false, false, false, false, false, false] rfl rfl (take_ofW HT_.out HW_.out (by kernel_rfl)) (fun _ _ _ h => h) (Or.inl ⟨by rfl, ?_⟩) hHeld ?_ ?_
                  rotate_left
                  · rintro w' ⟨s0, s1, s2, s3, s4, s5, s6, s7, s8⟩
                    go_simp
                    with_reducible rfl
                  rotate_left
                  · simp only [Act.put, List.setIfInBounds_toArray, List.set_cons_zero, List.set_cons_succ, i64_w, i32_w]
                    rfl
                  refine one_ (i := 8) (N := some 129) #[true, true, true, true, true, true, true, true, true, false, false, false, false, false, false, false, false, false, false, false, false, false, false, false, false] rfl rfl (one_of HT_.out (by kernel_rfl)) (by decide) (fun K hK => ?_)
                  refine goes_ Try.func15 (by kernel_rfl) rfl #[.slice D27 y.f25.length d27, .slice A4 x.f4.length c4] (by rfl) rfl rfl (by (try simp only [List.map_toArray, List.map_cons, List.map_nil]); first | done | rfl | (simp only [List.length_drop, List.length_take]; rfl)) ?_
                  refine (matches_co _ _ y.f25 _ _ x.f4 _ (Kd.C_below HG27.out HB31.out) HL27.out (Kd.C_below HG4.out HB31.out) HL4.out (HBZ.out y HYM.out)).mono ?_
                  rintro e w30_ ⟨rfl, hb⟩
                  refine ⟨_, rfl, ?_⟩
                  have HB32 := Aside0.mk (below_step HB31.out hb)
                  clear hb HB31
                  refine hK.out _ _ ⟨(blk_cell (blk_below HXgg.out HB32.out) 0).trans rfl, (blk_cell (blk_below HXgg.out HB32.out) 1).trans rfl, (blk_cell (blk_below HXgg.out HB32.out) 2).trans rfl, (blk_cell (blk_below HXgg.out HB32.out) 3).trans rfl, (blk_cell (blk_below HXG.out HB32.out) 3).trans rfl, (blk_cell (blk_below HXX.out HB32.out) 4).trans rfl, (HB32.out.cell (World.block_lt_of_cell? w13_ _ HY27.out)).trans HY27.out, (HB32.out.cell (World.block_lt_of_cell? w13_ _ HY28.out)).trans HY28.out, (fun j v hj => (HB32.out.cell (World.block_lt_of_cell? w13_ _ (HQA.out j v hj))).trans (HQA.out j v hj))⟩ (fun hHeld => ?_)
                  clear hK K
                  refine norm_ (a' := ?_) ?_ ?_
                  rotate_left
                  · show Act.put _ (some 129) _ = _
                    simp only [Act.put, List.setIfInBounds_toArray, List.set_cons_zero, List.set_cons_succ, i64_w, i32_w]
                    rfl
                  rw [HMA.out]
                  refine pure_ (i := 9) (N := some 130) (v := ?_) (a' := ?_) #[true, true, true, true, true, true, true, true, true, true, false, false, false, false, false, false, false, false, false, false, false, false, false, false, false] rfl rfl (any_of HT_.out (by kernel_rfl)) (fun _ _ _ h => h) (Or.inl ⟨by rfl, ?_⟩) ?_ ?_
                  rotate_left
                  · intro w'
                    go_simp
                    with_reducible rfl
                  rotate_left
                  · simp only [Act.put, List.setIfInBounds_toArray, List.set_cons_zero, List.set_cons_succ, i64_w, i32_w]
                    rfl
                  refine pure_ (i := 10) (N := some 131) (v := undef) (a' := ?_) #[true, true, true, true, true, true, true, true, true, true, true, false, false, false, false, false, false, false, false, false, false, false, false, false, false] rfl rfl (any_of HT_.out (by kernel_rfl)) (fun _ _ _ h => h) (Or.inr ⟨by rfl, rfl⟩) ?_ ?_
                  rotate_left
                  · simp only [Act.put, List.setIfInBounds_toArray, List.set_cons_zero, List.set_cons_succ, i64_w, i32_w]
                    rfl
                  refine pure_ (i := 11) (N := some 132) (v := undef) (a' := ?_) #[true, true, true, true, true, true, true, true, true, true, true, true, false, false, false, false, false, false, false, false, false, false, false, false, false] rfl rfl (any_of HT_.out (by kernel_rfl)) (fun _ _ _ h => h) (Or.inr ⟨by rfl, rfl⟩) ?_ ?_
                  rotate_left
                  · simp only [Act.put, List.setIfInBounds_toArray, List.set_cons_zero, List.set_cons_succ, i64_w, i32_w]
                    rfl
                  refine pure_ (i := 12) (N := some 133) (v := undef) (a' := ?_) #[true, true, true, true, true, true, true, true, true, true, true, true, true, false, false, false, false, false, false, false, false, false, false, false, false] rfl rfl (any_of HT_.out (by kernel_rfl)) (fun _ _ _ h => h) (Or.inr ⟨by rfl, rfl⟩) ?_ ?_
                  rotate_left
                  · simp only [Act.put, List.setIfInBounds_toArray, List.set_cons_zero, List.set_cons_succ, i64_w, i32_w]
                    rfl
                  refine pure_ (i := 13) (N := some 134) (v := undef) (a' := ?_) #[true, true, true, true, true, true, true, true, true, true, true, true, true, true, false, false, false, false, false, false, false, false, false, false, false] rfl rfl (any_of HT_.out (by kernel_rfl)) (fun _ _ _ h => h) (Or.inr ⟨by rfl, rfl⟩) ?_ ?_
                  rotate_left
                  · simp only [Act.put, List.setIfInBounds_toArray, List.set_cons_zero, List.set_cons_succ, i64_w, i32_w]
                    rfl
                  refine pure_ (i := 14) (N := some 135) (v := undef) (a' := ?_) #[true, true, true, true, true, true, true, true, true, true, true, true, true, true, true, false, false, false, false, false, false, false, false, false, false] rfl rfl (any_of HT_.out (by kernel_rfl)) (fun _ _ _ h => h) (Or.inr ⟨by rfl, rfl⟩) ?_ ?_
                  rotate_left
                  · simp only [Act.put, List.setIfInBounds_toArray, List.set_cons_zero, List.set_cons_succ, i64_w, i32_w]
                    rfl
                  refine pure_ (i := 15) (N := some 136) (v := undef) (a' := ?_) #[true, true, true, true, true, true, true, true, true, true, true, true, true, true, true, true, false, false, false, false, false, false, false, false, false] rfl rfl (any_of HT_.out (by kernel_rfl)) (fun _ _ _ h => h) (Or.inr ⟨by rfl, rfl⟩) ?_ ?_
                  rotate_left
                  · simp only [Act.put, List.setIfInBounds_toArray, List.set_cons_zero, List.set_cons_succ, i64_w, i32_w]
                    rfl
                  refine pure_ (i := 16) (N := some 137) (v := undef) (a' := ?_) #[true, true, true, true, true, true, true, true, true, true, true, true, true, true, true, true, true, false, false, false, false, false, false, false, false] rfl rfl (any_of HT_.out (by kernel_rfl)) (fun _ _ _ h => h) (Or.inr ⟨by rfl, rfl⟩) ?_ ?_
                  rotate_left
                  · simp only [Act.put, List.setIfInBounds_toArray, List.set_cons_zero, List.set_cons_succ, i64_w, i32_w]
                    rfl
                  refine pure_ (i := 17) (N := some 138) (v := undef) (a' := ?_) #[true, true, true, true, true, true, true, true, true, true, true, true, true, true, true, true, true, true, false, false, false, false, false, false, false] rfl rfl (any_of HT_.out (by kernel_rfl)) (fun _ _ _ h => h) (Or.inr ⟨by rfl, rfl⟩) ?_ ?_
                  rotate_left
                  · simp only [Act.put, List.setIfInBounds_toArray, List.set_cons_zero, List.set_cons_succ, i64_w, i32_w]
                    rfl
                  refine pure_ (i := 18) (N := some 139) (v := undef) (a' := ?_) #[true, true, true, true, true, true, true, true, true, true, true, true, true, true, true, true, true, true, true, false, false, false, false, false, false] rfl rfl (any_of HT_.out (by kernel_rfl)) (fun _ _ _ h => h) (Or.inr ⟨by rfl, rfl⟩) ?_ ?_
                  rotate_left
                  · simp only [Act.put, List.setIfInBounds_toArray, List.set_cons_zero, List.set_cons_succ, i64_w, i32_w]
                    rfl
                  refine pure_ (i := 19) (N := some 140) (v := undef) (a' := ?_) #[true, true, true, true, true, true, true, true, true, true, true, true, true, true, true, true, true, true, true, true, false, false, false, false, false] rfl rfl (any_of HT_.out (by kernel_rfl)) (fun _ _ _ h => h) (Or.inr ⟨by rfl, rfl⟩) ?_ ?_
                  rotate_left
                  · simp only [Act.put, List.setIfInBounds_toArray, List.set_cons_zero, List.set_cons_succ, i64_w, i32_w]
                    rfl
                  refine pure_ (i := 20) (N := some 141) (v := undef) (a' := ?_) #[true, true, true, true, true, true, true, true, true, true, true, true, true, true, true, true, true, true, true, true, true, false, false, false, false] rfl rfl (any_of HT_.out (by kernel_rfl)) (fun _ _ _ h => h) (Or.inr ⟨by rfl, rfl⟩) ?_ ?_
                  rotate_left
                  · simp only [Act.put, List.setIfInBounds_toArray, List.set_cons_zero, List.set_cons_succ, i64_w, i32_w]
                    rfl
                  refine pure_ (i := 21) (N := some 142) (v := undef) (a' := ?_) #[true, true, true, true, true, true, true, true, true, true, true, true, true, true, true, true, true, true, true, true, true, true, false, false, false] rfl rfl (any_of HT_.out (by kernel_rfl)) (fun _ _ _ h => h) (Or.inr ⟨by rfl, rfl⟩) ?_ ?_
                  rotate_left
                  · simp only [Act.put, List.setIfInBounds_toArray, List.set_cons_zero, List.set_cons_succ, i64_w, i32_w]
                    rfl
                  refine pure_ (i := 22) (N := some 143) (v := undef) (a' := ?_) #[true, true, true, true, true, true, true, true, true, true, true, true, true, true, true, true, true, true, true, true, true, true, true, false, false] rfl rfl (any_of HT_.out (by kernel_rfl)) (fun _ _ _ h => h) (Or.inr ⟨by rfl, rfl⟩) ?_ ?_
                  rotate_left
                  · simp only [Act.put, List.setIfInBounds_toArray, List.set_cons_zero, List.set_cons_succ, i64_w, i32_w]
                    rfl
                  refine pure_ (i := 23) (N := some 144) (v := undef) (a' := ?_) #[true, true, true, true, true, true, true, true, true, true, true, true, true, true, true, true, true, true, true, true, true, true, true, true, false] rfl rfl (any_of HT_.out (by kernel_rfl)) (fun _ _ _ h => h) (Or.inr ⟨by rfl, rfl⟩) ?_ ?_
                  rotate_left
                  · simp only [Act.put, List.setIfInBounds_toArray, List.set_cons_zero, List.set_cons_succ, i64_w, i32_w]
                    rfl
                  refine pure_ (i := 24) (N := some 145) (v := ?_) (a' := ?_) #[true, true, true, true, true, true, true, true, true, true, true, true, true, true, true, true, true, true, true, true, true, true, true, true, true] rfl rfl (any_of HT_.out (by kernel_rfl)) (fun _ _ _ h => h) (Or.inl ⟨by rfl, ?_⟩) ?_ ?_
                  rotate_left
                  · intro w'
                    go_simp
                    with_reducible rfl
                  rotate_left
                  · simp only [Act.put, List.setIfInBounds_toArray, List.set_cons_zero, List.set_cons_succ, i64_w, i32_w]
                    rfl
                  refine done_ (done_of HT_.out (by kernel_rfl)) ?_
                  go_wp2
                  go_roundw
                  case rel => exact ⟨k + 1, by have := HLT.out; omega, by simp, HB32⟩
                  case measure => have := HLT.out; simp [intOf]; omega
                | true =>
                  have HMA := Aside0.mk hma
                  obtain ⟨q, hq⟩ : ∃ q : Int, q = ((countL (isGuard y.f25) ly : Nat) : Int) := ⟨_, rfl⟩
                  have HQ := Aside0.mk hq
                  have HQL := Aside0.mk (show y.f26 ≤ q by
                    have h1 := guard_less HI.out (by rw [HYX.out]; exact H14.out) (by rw [HYX.out]; exact H15.out) (sel := y.f25) (by rw [HYX.out]; exact hma)
                    rw [HYX.out, ← HLY.out] at h1
                    have h2 : budgetB l1 x y = false := Bool.eq_false_iff.mpr (fun hb => by have := List.any_eq_false.1 HBU.out y HYM.out; exact this hb)
                    unfold budgetB at h2
                    rw [hma, Bool.true_and, decide_eq_false_iff_not] at h2
                    rw [hq]; omega)
                  clear hma hq
                  have hlt : k < l3.length := HLT.out
                  have HGDC := Aside0.mk (show ∀ W, Below w13_.heap.size w13_ W → Calls Try.prog 40 #[.agg #[.slice B0 l0.length d0, .slice (some ⟨go, 0, none⟩) l1.length d1, .slice B2 l2.length d2, .slice (some bd3) l3.length d3], .agg (cO y q4 q27)] W (fun e w' => e = .returned (.int .i64 ((countL (isGuard y.f25) ly : Nat) : Int)) ∧ Below W.heap.size W w') from fun W HBW => by have h_ := guarded_co B0 d0 l0 (some ⟨go, 0, none⟩) d1 ly B2 d2 l2 (some bd3) d3 l3 y q4 q27 _ (Kd.C_below HU1.out HBW) (kO_below HKQ.out HBW) (HBZ.out y HYM.out); rw [HLL.out] at h_; exact h_)
                  have HB33 := Aside0.mk (below_drew1 HB.out)
                  clear HB
                  refine start_ (n := 25) (S := fun w' => w'.cell? ⟨gg, 0, none⟩ = some (.slice B0 l0.length d0) ∧ w'.cell? ⟨gg, 1, none⟩ = some (.slice (some ⟨go, 0, none⟩) l1.length d1) ∧ w'.cell? ⟨gg, 2, none⟩ = some (.slice B2 l2.length d2) ∧ w'.cell? ⟨gg, 3, none⟩ = some (.slice (some bd3) l3.length d3) ∧ w'.cell? ⟨gb, 3, none⟩ = some (.slice (some ad3) l3.length c3) ∧ w'.cell? ⟨gx, 4, none⟩ = some (.slice A4 x.f4.length c4) ∧ w'.cell? ⟨(ad3.add (k * 32)).block, (ad3.add (k * 32)).off + 27, none⟩ = some (.slice D27 y.f25.length d27) ∧ w'.cell? ⟨(ad3.add (k * 32)).block, (ad3.add (k * 32)).off + 28, none⟩ = some (.int .i64 y.f26) ∧ (∀ (j : Nat) (v : Value), (cO y q4 q27).toList[j]? = some v → w'.cell? ((bd3.add (k * 32)).add j) = some v)) (ds := []) #[false, false, false, false, false, false, false, false, false, false, false, false, false, false, false, false, false, false, false, false, false, false, false, false, false] (by kernel_rfl) rfl rfl ⟨(blk_cell (blk_below HXgg.out HB33.out) 0).trans rfl, (blk_cell (blk_below HXgg.out HB33.out) 1).trans rfl, (blk_cell (blk_below HXgg.out HB33.out) 2).trans rfl, (blk_cell (blk_below HXgg.out HB33.out) 3).trans rfl, (blk_cell (blk_below HXG.out HB33.out) 3).trans rfl, (blk_cell (blk_below HXX.out HB33.out) 4).trans rfl, (HB33.out.cell (World.block_lt_of_cell? w13_ _ HY27.out)).trans HY27.out, (HB33.out.cell (World.block_lt_of_cell? w13_ _ HY28.out)).trans HY28.out, (fun j v hj => (HB33.out.cell (World.block_lt_of_cell? w13_ _ (HQA.out j v hj))).trans (HQA.out j v hj))⟩ (fun hHeld => ?_); refine with_tabW kept.tab21 kept.bits21 (fun HT_ HW_ => ?_)
                  generalize wr.drew = w31_ at HB33 hHeld ⊢
                  refine pure_ (i := 0) (N := some 121) (v := ?_) (a' := ?_) #[true, false, false, false, false, false, false, false, false, false, false, false, false, false, false, false, false, false, false, false, false, false, false, false, false] rfl rfl (any_of HT_.out (by kernel_rfl)) (fun _ _ _ h => h) (Or.inl ⟨by rfl, ?_⟩) ?_ ?_
                  rotate_left
                  · intro w'
                    go_simp
                    with_reducible rfl
                  rotate_left
                  · simp only [Act.put, List.setIfInBounds_toArray, List.set_cons_zero, List.set_cons_succ, i64_w, i32_w]
                    rfl
                  refine pure_ (i := 2) (N := some 123) (v := ?_) (a' := ?_) #[true, false, true, false, false, false, false, false, false, false, false, false, false, false, false, false, false, false, false, false, false, false, false, false, false] rfl rfl (any_of HT_.out (by kernel_rfl)) (fun _ _ _ h => h) (Or.inl ⟨by rfl, ?_⟩) ?_ ?_
                  rotate_left
                  · intro w'
                    go_simp
                    with_reducible rfl
                  rotate_left
                  · simp only [Act.put, List.setIfInBounds_toArray, List.set_cons_zero, List.set_cons_succ, i64_w, i32_w]
                    rfl
                  refine pure_ (i := 6) (N := some 127) (v := ?_) (a' := ?_) #[true, false, true, false, false, false, true, false, false, false, false, false, false, false, false, false, false, false, false, false, false, false, false, false, false] rfl rfl (any_of HT_.out (by kernel_rfl)) (fun _ _ _ h => h) (Or.inl ⟨by rfl, ?_⟩) ?_ ?_
                  rotate_left
                  · intro w'
                    go_simp
                    with_reducible rfl
                  rotate_left
                  · simp only [Act.put, List.setIfInBounds_toArray, List.set_cons_zero, List.set_cons_succ, i64_w, i32_w]
                    rfl
                  refine take_ (i := 1) (N := some 122) (v := ?_) (a' := ?_) #[true, true, true, false, false, false, true, false, false, false, false, false, false, false, false, false, false, false, false, false, false, false, false, false, false] rfl rfl (take_ofW HT_.out HW_.out (by kernel_rfl)) (fun _ _ _ h => h) (Or.inl ⟨by rfl, ?_⟩) hHeld ?_ ?_
                  rotate_left
                  · rintro w' ⟨s0, s1, s2, s3, s4, s5, s6, s7, s8⟩
                    go_simp
                    with_reducible rfl
                  rotate_left
                  · simp only [Act.put, List.setIfInBounds_toArray, List.set_cons_zero, List.set_cons_succ, i64_w, i32_w]
                    rfl
                  refine pure_ (i := 3) (N := some 124) (v := ?_) (a' := ?_) #[true, true, true, true, false, false, true, false, false, false, false, false, false, false, false, false, false, false, false, false, false, false, false, false, false] rfl rfl (any_of HT_.out (by kernel_rfl)) (fun _ _ _ h => h) (Or.inl ⟨by rfl, ?_⟩) ?_ ?_
                  rotate_left
                  · intro w'
                    go_simp
                    with_reducible rfl
                  rotate_left
                  · simp only [Act.put, List.setIfInBounds_toArray, List.set_cons_zero, List.set_cons_succ, i64_w, i32_w]
                    rfl
                  refine pure_ (i := 4) (N := some 125) (v := ?_) (a' := ?_) #[true, true, true, true, true, false, true, false, false, false, false, false, false, false, false, false, false, false, false, false, false, false, false, false, false] rfl rfl (any_of HT_.out (by kernel_rfl)) (fun _ _ _ h => h) (Or.inl ⟨by rfl, ?_⟩) ?_ ?_
                  rotate_left
                  · intro w'
                    go_simp
                    with_reducible rfl
                  rotate_left
                  · simp only [Act.put, List.setIfInBounds_toArray, List.set_cons_zero, List.set_cons_succ, i64_w, i32_w]
                    rfl
                  refine take_ (i := 5) (N := some 126) (v := ?_) (a' := ?_) #[true, true, true, true, true, true, true, false, false, false, false, false, false, false, false, false, false, false, false, false, false, false, false, false, false] rfl rfl (take_ofW HT_.out HW_.out (by kernel_rfl)) (fun _ _ _ h => h) (Or.inl ⟨by rfl, ?_⟩) hHeld ?_ ?_
                  rotate_left
                  · rintro w' ⟨s0, s1, s2, s3, s4, s5, s6, s7, s8⟩
                    go_simp
                    with_reducible rfl
                  rotate_left
                  · simp only [Act.put, List.setIfInBounds_toArray, List.set_cons_zero, List.set_cons_succ, i64_w, i32_w]
                    rfl
                  refine take_ (i := 7) (N := some 128) (v := ?_) (a' := ?_) #[true, true, true, true, true, true, true, true, false, false, false, false, false, false, false, false, false, false, false, false, false, false, false, false, false] rfl rfl (take_ofW HT_.out HW_.out (by kernel_rfl)) (fun _ _ _ h => h) (Or.inl ⟨by rfl, ?_⟩) hHeld ?_ ?_
                  rotate_left
                  · rintro w' ⟨s0, s1, s2, s3, s4, s5, s6, s7, s8⟩
                    go_simp
                    with_reducible rfl
                  rotate_left
                  · simp only [Act.put, List.setIfInBounds_toArray, List.set_cons_zero, List.set_cons_succ, i64_w, i32_w]
                    rfl
                  refine one_ (i := 8) (N := some 129) #[true, true, true, true, true, true, true, true, true, false, false, false, false, false, false, false, false, false, false, false, false, false, false, false, false] rfl rfl (one_of HT_.out (by kernel_rfl)) (by decide) (fun K hK => ?_)
                  refine goes_ Try.func15 (by kernel_rfl) rfl #[.slice D27 y.f25.length d27, .slice A4 x.f4.length c4] (by rfl) rfl rfl (by (try simp only [List.map_toArray, List.map_cons, List.map_nil]); first | done | rfl | (simp only [List.length_drop, List.length_take]; rfl)) ?_
                  refine (matches_co _ _ y.f25 _ _ x.f4 _ (Kd.C_below HG27.out HB33.out) HL27.out (Kd.C_below HG4.out HB33.out) HL4.out (HBZ.out y HYM.out)).mono ?_
                  rintro e w32_ ⟨rfl, hb⟩
                  refine ⟨_, rfl, ?_⟩
                  have HB34 := Aside0.mk (below_step HB33.out hb)
                  clear hb HB33
                  refine hK.out _ _ ⟨(blk_cell (blk_below HXgg.out HB34.out) 0).trans rfl, (blk_cell (blk_below HXgg.out HB34.out) 1).trans rfl, (blk_cell (blk_below HXgg.out HB34.out) 2).trans rfl, (blk_cell (blk_below HXgg.out HB34.out) 3).trans rfl, (blk_cell (blk_below HXG.out HB34.out) 3).trans rfl, (blk_cell (blk_below HXX.out HB34.out) 4).trans rfl, (HB34.out.cell (World.block_lt_of_cell? w13_ _ HY27.out)).trans HY27.out, (HB34.out.cell (World.block_lt_of_cell? w13_ _ HY28.out)).trans HY28.out, (fun j v hj => (HB34.out.cell (World.block_lt_of_cell? w13_ _ (HQA.out j v hj))).trans (HQA.out j v hj))⟩ (fun hHeld => ?_)
                  clear hK K
                  refine norm_ (a' := ?_) ?_ ?_
                  rotate_left
                  · show Act.put _ (some 129) _ = _
                    simp only [Act.put, List.setIfInBounds_toArray, List.set_cons_zero, List.set_cons_succ, i64_w, i32_w]
                    rfl
                  rw [HMA.out]
                  refine pure_ (i := 9) (N := some 130) (v := ?_) (a' := ?_) #[true, true, true, true, true, true, true, true, true, true, false, false, false, false, false, false, false, false, false, false, false, false, false, false, false] rfl rfl (any_of HT_.out (by kernel_rfl)) (fun _ _ _ h => h) (Or.inl ⟨by rfl, ?_⟩) ?_ ?_
                  rotate_left
                  · intro w'
                    go_simp
                    with_reducible rfl
                  rotate_left
                  · simp only [Act.put, List.setIfInBounds_toArray, List.set_cons_zero, List.set_cons_succ, i64_w, i32_w]
                    rfl
                  refine pure_ (i := 11) (N := some 132) (v := ?_) (a' := ?_) #[true, true, true, true, true, true, true, true, true, true, false, true, false, false, false, false, false, false, false, false, false, false, false, false, false] rfl rfl (any_of HT_.out (by kernel_rfl)) (fun _ _ _ h => h) (Or.inl ⟨by rfl, ?_⟩) ?_ ?_
                  rotate_left
                  · intro w'
                    go_simp
                    with_reducible rfl
                  rotate_left
                  · simp only [Act.put, List.setIfInBounds_toArray, List.set_cons_zero, List.set_cons_succ, i64_w, i32_w]
                    rfl
                  refine pure_ (i := 13) (N := some 134) (v := ?_) (a' := ?_) #[true, true, true, true, true, true, true, true, true, true, false, true, false, true, false, false, false, false, false, false, false, false, false, false, false] rfl rfl (any_of HT_.out (by kernel_rfl)) (fun _ _ _ h => h) (Or.inl ⟨by rfl, ?_⟩) ?_ ?_
                  rotate_left
                  · intro w'
                    go_simp
                    with_reducible rfl
                  rotate_left
                  · simp only [Act.put, List.setIfInBounds_toArray, List.set_cons_zero, List.set_cons_succ, i64_w, i32_w]
                    rfl
                  refine pure_ (i := 17) (N := some 138) (v := ?_) (a' := ?_) #[true, true, true, true, true, true, true, true, true, true, false, true, false, true, false, false, false, true, false, false, false, false, false, false, false] rfl rfl (any_of HT_.out (by kernel_rfl)) (fun _ _ _ h => h) (Or.inl ⟨by rfl, ?_⟩) ?_ ?_
                  rotate_left
                  · intro w'
                    go_simp
                    with_reducible rfl
                  rotate_left
                  · simp only [Act.put, List.setIfInBounds_toArray, List.set_cons_zero, List.set_cons_succ, i64_w, i32_w]
                    rfl
                  refine pure_ (i := 19) (N := some 140) (v := ?_) (a' := ?_) #[true, true, true, true, true, true, true, true, true, true, false, true, false, true, false, false, false, true, false, true, false, false, false, false, false] rfl rfl (any_of HT_.out (by kernel_rfl)) (fun _ _ _ h => h) (Or.inl ⟨by rfl, ?_⟩) ?_ ?_
                  rotate_left
                  · intro w'
                    go_simp
                    with_reducible rfl
                  rotate_left
                  · simp only [Act.put, List.setIfInBounds_toArray, List.set_cons_zero, List.set_cons_succ, i64_w, i32_w]
                    rfl
                  refine take_ (i := 10) (N := some 131) (v := ?_) (a' := ?_) #[true, true, true, true, true, true, true, true, true, true, true, true, false, true, false, false, false, true, false, true, false, false, false, false, false] rfl rfl (take_ofW HT_.out HW_.out (by kernel_rfl)) (fun _ _ _ h => h) (Or.inl ⟨by rfl, ?_⟩) hHeld ?_ ?_
                  rotate_left
                  · rintro w' ⟨s0, s1, s2, s3, s4, s5, s6, s7, s8⟩
                    go_simp
                    with_reducible rfl
                  rotate_left
                  · simp only [Act.put, List.setIfInBounds_toArray, List.set_cons_zero, List.set_cons_succ, i64_w, i32_w]
                    rfl
                  refine take_ (i := 12) (N := some 133) (v := ?_) (a' := ?_) #[true, true, true, true, true, true, true, true, true, true, true, true, true, true, false, false, false, true, false, true, false, false, false, false, false] rfl rfl (take_ofW HT_.out HW_.out (by kernel_rfl)) (fun _ _ _ h => h) (Or.inl ⟨by rfl, ?_⟩) hHeld ?_ ?_
                  rotate_left
                  · rintro w' ⟨s0, s1, s2, s3, s4, s5, s6, s7, s8⟩
                    go_simp
                    with_reducible rfl
                  rotate_left
                  · simp only [Act.put, List.setIfInBounds_toArray, List.set_cons_zero, List.set_cons_succ, i64_w, i32_w]
                    rfl
                  refine pure_ (i := 14) (N := some 135) (v := ?_) (a' := ?_) #[true, true, true, true, true, true, true, true, true, true, true, true, true, true, true, false, false, true, false, true, false, false, false, false, false] rfl rfl (any_of HT_.out (by kernel_rfl)) (fun _ _ _ h => h) (Or.inl ⟨by rfl, ?_⟩) ?_ ?_
                  rotate_left
                  · intro w'
                    go_simp
                    with_reducible rfl
                  rotate_left
                  · simp only [Act.put, List.setIfInBounds_toArray, List.set_cons_zero, List.set_cons_succ, i64_w, i32_w]
                    rfl
                  refine take_ (i := 15) (N := some 136) (v := ?_) (a' := ?_) #[true, true, true, true, true, true, true, true, true, true, true, true, true, true, true, true, false, true, false, true, false, false, false, false, false] rfl rfl (take_ofW HT_.out HW_.out (by kernel_rfl)) (fun _ _ _ h => h) (Or.inl ⟨by rfl, ?_⟩) hHeld ?_ ?_
                  rotate_left
                  · rintro w' ⟨s0, s1, s2, s3, s4, s5, s6, s7, s8⟩
                    refine load_elem_run (p := .tmp 135) ?_ ?_ s8 <;> rfl
                  rotate_left
                  · simp only [Act.put, List.setIfInBounds_toArray, List.set_cons_zero, List.set_cons_succ, i64_w, i32_w]
                    rfl
                  refine take_ (i := 18) (N := some 139) (v := ?_) (a' := ?_) #[true, true, true, true, true, true, true, true, true, true, true, true, true, true, true, true, false, true, true, true, false, false, false, false, false] rfl rfl (take_ofW HT_.out HW_.out (by kernel_rfl)) (fun _ _ _ h => h) (Or.inl ⟨by rfl, ?_⟩) hHeld ?_ ?_
                  rotate_left
                  · rintro w' ⟨s0, s1, s2, s3, s4, s5, s6, s7, s8⟩
                    go_simp
                    with_reducible rfl
                  rotate_left
                  · simp only [Act.put, List.setIfInBounds_toArray, List.set_cons_zero, List.set_cons_succ, i64_w, i32_w]
                    rfl
                  refine pure_ (i := 20) (N := some 141) (v := ?_) (a' := ?_) #[true, true, true, true, true, true, true, true, true, true, true, true, true, true, true, true, false, true, true, true, true, false, false, false, false] rfl rfl (any_of HT_.out (by kernel_rfl)) (fun _ _ _ h => h) (Or.inl ⟨by rfl, ?_⟩) ?_ ?_
                  rotate_left
                  · intro w'
                    go_simp
                    with_reducible rfl
                  rotate_left
                  · simp only [Act.put, List.setIfInBounds_toArray, List.set_cons_zero, List.set_cons_succ, i64_w, i32_w]
                    rfl
                  refine pure_ (i := 21) (N := some 142) (v := ?_) (a' := ?_) #[true, true, true, true, true, true, true, true, true, true, true, true, true, true, true, true, false, true, true, true, true, true, false, false, false] rfl rfl (any_of HT_.out (by kernel_rfl)) (fun _ _ _ h => h) (Or.inl ⟨by rfl, ?_⟩) ?_ ?_
                  rotate_left
                  · intro w'
                    go_simp
                    with_reducible rfl
                  rotate_left
                  · simp only [Act.put, List.setIfInBounds_toArray, List.set_cons_zero, List.set_cons_succ, i64_w, i32_w]
                    rfl
                  refine take_ (i := 22) (N := some 143) (v := ?_) (a' := ?_) #[true, true, true, true, true, true, true, true, true, true, true, true, true, true, true, true, false, true, true, true, true, true, true, false, false] rfl rfl (take_ofW HT_.out HW_.out (by kernel_rfl)) (fun _ _ _ h => h) (Or.inl ⟨by rfl, ?_⟩) hHeld ?_ ?_
                  rotate_left
                  · rintro w' ⟨s0, s1, s2, s3, s4, s5, s6, s7, s8⟩
                    go_simp
                    with_reducible rfl
                  rotate_left
                  · simp only [Act.put, List.setIfInBounds_toArray, List.set_cons_zero, List.set_cons_succ, i64_w, i32_w]
                    rfl
                  refine one_ (i := 16) (N := some 137) #[true, true, true, true, true, true, true, true, true, true, true, true, true, true, true, true, true, true, true, true, true, true, true, false, false] rfl rfl (one_of HT_.out (by kernel_rfl)) (by decide) (fun K hK => ?_)
                  refine goes_ Try.func40 (by kernel_rfl) rfl #[.agg #[.slice B0 l0.length d0, .slice (some ⟨go, 0, none⟩) l1.length d1, .slice B2 l2.length d2, .slice (some bd3) l3.length d3], .agg (cO y q4 q27)] (by rfl) rfl rfl (by (try simp only [List.map_toArray, List.map_cons, List.map_nil]); first | done | rfl | (simp only [List.length_drop, List.length_take]; rfl)) ?_
                  refine (HGDC.out _ HB34.out).mono ?_
                  rintro e w33_ ⟨rfl, hb⟩
                  refine ⟨_, rfl, ?_⟩
                  have HB35 := Aside0.mk (below_step HB34.out hb)
                  clear hb HB34
                  refine hK.out _ _ ⟨(blk_cell (blk_below HXgg.out HB35.out) 0).trans rfl, (blk_cell (blk_below HXgg.out HB35.out) 1).trans rfl, (blk_cell (blk_below HXgg.out HB35.out) 2).trans rfl, (blk_cell (blk_below HXgg.out HB35.out) 3).trans rfl, (blk_cell (blk_below HXG.out HB35.out) 3).trans rfl, (blk_cell (blk_below HXX.out HB35.out) 4).trans rfl, (HB35.out.cell (World.block_lt_of_cell? w13_ _ HY27.out)).trans HY27.out, (HB35.out.cell (World.block_lt_of_cell? w13_ _ HY28.out)).trans HY28.out, (fun j v hj => (HB35.out.cell (World.block_lt_of_cell? w13_ _ (HQA.out j v hj))).trans (HQA.out j v hj))⟩ (fun hHeld => ?_)
                  clear hK K
                  refine norm_ (a' := ?_) ?_ ?_
                  rotate_left
                  · show Act.put _ (some 137) _ = _
                    simp only [Act.put, List.setIfInBounds_toArray, List.set_cons_zero, List.set_cons_succ, i64_w, i32_w]
                    rfl
                  rw [← HQ.out]
                  have hql : ¬ q < y.f26 := by have := HQL.out; omega
                  refine pure_ (i := 23) (N := some 144) (v := ?_) (a' := ?_) #[true, true, true, true, true, true, true, true, true, true, true, true, true, true, true, true, true, true, true, true, true, true, true, true, false] rfl rfl (any_of HT_.out (by kernel_rfl)) (fun _ _ _ h => h) (Or.inl ⟨by rfl, ?_⟩) ?_ ?_
                  rotate_left
                  · intro w'
                    go_simp
                    with_reducible rfl
                  rotate_left
                  · simp only [Act.put, List.setIfInBounds_toArray, List.set_cons_zero, List.set_cons_succ, i64_w, i32_w]
                    rfl
                  refine pure_ (i := 24) (N := some 145) (v := ?_) (a' := ?_) #[true, true, true, true, true, true, true, true, true, true, true, true, true, true, true, true, true, true, true, true, true, true, true, true, true] rfl rfl (any_of HT_.out (by kernel_rfl)) (fun _ _ _ h => h) (Or.inl ⟨by rfl, ?_⟩) ?_ ?_
                  rotate_left
                  · intro w'
                    go_simp
                    with_reducible rfl
                  rotate_left
                  · simp only [Act.put, List.setIfInBounds_toArray, List.set_cons_zero, List.set_cons_succ, i64_w, i32_w]
                    rfl
                  refine done_ (done_of HT_.out (by kernel_rfl)) ?_
                  go_wp2
                  go_roundw
                  case rel => exact ⟨k + 1, by have := HLT.out; omega, by simp, HB35⟩
                  case measure => have := HLT.out; simp [intOf]; omega
              · obtain rfl : k = l3.length := by omega
                have hc_g_3 : wr.cell? ⟨gb, 3, none⟩ = some (.slice A3 l3.length c3) := (blk_cell (blk_below HXG.out HB.out) 3).trans rfl
                go_wp2
                go_ret
                exact ⟨rfl, (below_step HW.out HB.out)⟩
end Go.Proofs.Ytamjjeakkkdfhaa.G
end
