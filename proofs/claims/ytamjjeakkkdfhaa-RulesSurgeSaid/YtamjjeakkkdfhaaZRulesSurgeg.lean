/- Parts of the proof of RulesSurge: lemmas, put together by a program of this session (pack.py) out of the kit's words, printed contracts and texts of its own. -/
import Derived.Test.YtamjjeakkkdfhaaProg
import Derived.Below
import Derived.Deep.Draws
import Derived.Deep.AppendLies
import Derived.Maps.AppendAt
import Derived.OwnWalk
import Derived.Laws.BytesArg
import Derived.Laws.MakeOwn
import Derived.Laws.OwnMore
import Derived.Deep.OwnRows
import Derived.Tactics
import Derived.Lib.ConvBytes
import Derived.Laws.Slices
import Derived.WalkKit
import Derived.KernelRfl
import Derived.RowKit3
import Derived.Deep.LoopGhost
import Derived.Deep.QuietTactic
import Derived.BigQuiet
import Derived.WideLaws
import Derived.Deep.DeepCutAuto
import Derived.Deep.CutBlock
import Derived.Deep.RegionHeld3
import Derived.Laws.Rows
import Derived.Lib.AppendStr
import Derived.ArgAppend
import Derived.Laws.IdiomCopy
import Derived.OrdersHeld
import Derived.Laws.BitsLemmas
import Derived.RowKit
import Derived.Laws.StructEq
import Derived.RangeFuncNested
import Derived.RangeFuncBound
import Derived.RangeFuncCalls
import Derived.RangeFuncLeaves
import Derived.Shelf.Abstract
import Derived.Shelf.RegionOpen
import Derived.OwnWalkIn
import Derived.TacticsInMore
import Derived.LoopNIn
import Derived.LoopIn
import Derived.Maps.Own
import Derived.Maps.OwnOps
import Derived.Maps.Views
import Derived.StringKeys
import Derived.ChangeArms
import Derived.SizedLaws
import Derived.SliceStrings
import Derived.Test.YtamjjeakkkdfhaaZRulesSurgea
import Derived.Test.YtamjjeakkkdfhaaZRulesSurgeb
import Derived.Test.YtamjjeakkkdfhaaZRulesSurgec
import Derived.Test.YtamjjeakkkdfhaaZRulesSurged
import Derived.Test.YtamjjeakkkdfhaaZRulesSurgee
import Derived.Test.YtamjjeakkkdfhaaZRulesSurgef
namespace Foot
end Foot
namespace Go.Proofs.Ytamjjeakkkdfhaa
end Go.Proofs.Ytamjjeakkkdfhaa
namespace Go.Proofs.Ytamjjeakkkdfhaa.G
end Go.Proofs.Ytamjjeakkkdfhaa.G
namespace Go.Proofs.Ytamjjeakkkdfhaa.K
end Go.Proofs.Ytamjjeakkkdfhaa.K
namespace Go.Proofs.Ytamjjeakkkdfhaa.OP
end Go.Proofs.Ytamjjeakkkdfhaa.OP
namespace Go.Proofs.Ytamjjeakkkdfhaa.PB
end Go.Proofs.Ytamjjeakkkdfhaa.PB
namespace Go.Proofs.Ytamjjeakkkdfhaa.PC
end Go.Proofs.Ytamjjeakkkdfhaa.PC
namespace Go.Proofs.Ytamjjeakkkdfhaa.PD
end Go.Proofs.Ytamjjeakkkdfhaa.PD
namespace Go.Proofs.Ytamjjeakkkdfhaa.rulesSurge
end Go.Proofs.Ytamjjeakkkdfhaa.rulesSurge
namespace Go.Proofs.YtamjjeakkkdfhaaE
end Go.Proofs.YtamjjeakkkdfhaaE
namespace Go.Proofs.YtamjjeakkkdfhaaRF
end Go.Proofs.YtamjjeakkkdfhaaRF
namespace Go.Proofs.YtamjjeakkkdfhaaW.PrintLast
end Go.Proofs.YtamjjeakkkdfhaaW.PrintLast
namespace Go.Proofs.YtamjjeakkkdfhaaW.PrintMore
end Go.Proofs.YtamjjeakkkdfhaaW.PrintMore
namespace Go.Proofs.YtamjjeakkkdfhaaW.PrintWords
end Go.Proofs.YtamjjeakkkdfhaaW.PrintWords
namespace Kd
end Kd
section
namespace Go.Proofs.Ytamjjeakkkdfhaa.G
open Go.RowKit Go.Proofs.YtamjjeakkkdfhaaW.PrintWords Go.Proofs.YtamjjeakkkdfhaaW.PrintLast Go.Proofs.YtamjjeakkkdfhaaW.PrintMore
open Go.Proofs.Ytamjjeakkkdfhaa.K Go.Proofs.YtamjjeakkkdfhaaE Go.Proofs.Ytamjjeakkkdfhaa.PB Go.Proofs.Ytamjjeakkkdfhaa.PC Go.Proofs.Ytamjjeakkkdfhaa.PD
set_option linter.unusedVariables false
set_option linter.unusedSimpArgs false
def surge_T10 : Bool × List (List Nat × List Nat) := (true, [([], []), ([], []), ([1], [1]), ([0, 2], [0, 2]), ([], []), ([], []), ([5], [5]), ([4, 6, 3], [4, 6]), ([7], [7]), ([3, 8], [3, 8]), ([9, 7], [9]), ([10], [10]), ([10], [10]), ([12, 10], [10, 12]), ([11, 13, 10, 10], [10, 11, 13]), ([10], [10]), ([15, 10], [10, 15]), ([10], [10]), ([16, 17, 10], [10, 16, 17]), ([18, 10], [10, 18]), ([19, 10], [10, 19]), ([20, 14, 10], [10, 20]), ([10], [10]), ([22, 10], [10, 22]), ([10], [10]), ([23, 24, 10], [10, 23, 24]), ([25, 10], [10, 25]), ([26, 10], [10, 26]), ([27, 21, 10], [10, 27]), ([21, 28, 10], [10, 21, 28]), ([14, 29, 10], [10, 14, 29]), ([10, 30], [10, 30]), ([31, 28, 0, 1, 2, 3, 4, 5, 6, 7, 8, 9, 10, 11, 12, 13, 14, 15, 16, 17, 18, 19, 20, 21, 22, 23, 24, 25, 26, 27, 28, 29, 30, 31], [31])])
def surge_B10 : List Nat := [0, 0, 2, 7, 0, 0, 32, 127, 255, 511, 1023, 2047, 2047, 6143, 16383, 2047, 34815, 2047, 231423, 493567, 1017855, 2097151, 2047, 4196351, 2047, 29362175, 62916607, 130025471, 268435455, 536870911, 1073741823, 2147483647, 4294967295]
theorem surge_tab10 : rtab .any (opsOf Try.f10 10) = surge_T10 := by kernel_rfl
theorem surge_bits10 : waitsOk surge_T10.2 surge_B10 = true := by kernel_rfl
theorem count_snoc (p : S68 → Bool) (l : List S68) (y : S68) : countL p (l ++ [y]) = countL p l + if p y = true then 1 else 0 := by
  unfold countL; rw [List.filter_append, List.length_append]; by_cases hp : p y = true <;> simp [hp]
set_option maxRecDepth 100000 in
set_option maxHeartbeats 8000000 in
theorem surge_walk (A0 : Option Addr) (c0 : Nat) (l0 : List S68) (A1 : Option Addr) (c1 : Nat) (l1 : List S68) (A2 : Option Addr) (c2 : Nat) (l2 : List S68) (A3 : Option Addr) (c3 : Nat) (l3 : List S68) (x : S68) (v4 v27 : Value) (w : World) (hr0 : k68.C w A0 l0.length l0) (hc0 : l0.length ≤ c0) (hr1 : k68.C w A1 l1.length l1) (hc1 : l1.length ≤ c1) (hr2 : k68.C w A2 l2.length l2) (hc2 : l2.length ≤ c2) (hr3 : k68.C w A3 l3.length l3) (hc3 : l3.length ≤ c3) (hx : kO w x v4 v27) (o0 : okRow l0) (o1 : okRow l1) (o2 : okRow l2) (o3 : okRow l3) (ox : okR x) :
    Calls Try.prog 10 #[.agg #[.slice A0 l0.length c0, .slice A1 l1.length c1, .slice A2 l2.length c2, .slice A3 l3.length c3], .agg (cO x v4 v27)] w fun e w' => e = .returned (.bool true) ∧ Below w.heap.size w w' := by
  have HR0 := Aside0.mk hr0
  have HC0 := Aside0.mk hc0
  have HR1 := Aside0.mk hr1
  have HC1 := Aside0.mk hc1
  have HR2 := Aside0.mk hr2
  have HC2 := Aside0.mk hc2
  have HR3 := Aside0.mk hr3
  have HC3 := Aside0.mk hc3
  have HK := Aside0.mk hx
  have HO := Aside0.mk (show okRow l0 ∧ okRow l1 ∧ okRow l2 ∧ okRow l3 from ⟨o0, o1, o2, o3⟩)
  have HOX := Aside0.mk ox
  clear hr0 hr1 hr2 hr3 hc0 hc1 hc2 hc3 hx o0 o1 o2 o3 ox
  have hu59 := Try.underlying59
  have hu57 := Try.underlying57
  have hu68 := Try.underlying68
  go_enter Try.func10, Try.ntmps10
  go_wp2_with ((with_reducible refine gate_dst (N := 2) rfl ?_); refine hold ?_)
  refine Hold.intro ?_
  refine box_event (N := 2) (cs := #[.slice A0 l0.length c0, .slice A1 l1.length c1, .slice A2 l2.length c2, .slice A3 l3.length c3]) (t := 59) rfl rfl ?hr ?_
  case hr => first | (go_simp; done) | (go_simp; rfl)
  intro gb hg wa hbox hb
  have HBa := Aside0.mk hb
  have HXa := Aside0.mk hbox
  have HGE := Aside0.mk (show w.heap.size ≤ gb by rw [hg]; exact Nat.le_refl _)
  clear hb hbox hg
  go_wp2_with ((with_reducible refine gate_dst (N := 3) rfl ?_); refine hold ?_)
  refine Hold.intro ?_
  refine box_event (N := 3) (cs := cO x v4 v27) (t := 68) rfl rfl ?hs ?_
  case hs => unfold cO; first | (go_simp; done) | (go_simp; rfl)
  intro gp hg wb hbox hb
  have HW := Aside0.mk (below_step HBa.out hb)
  have HXG := Aside0.mk (blk_below HXa.out hb)
  have HXP := Aside0.mk hbox
  have HGP := Aside0.mk (show wa.heap.size ≤ gp by rw [hg]; exact Nat.le_refl _)
  clear hb hbox hg HBa HXa
  replace HR0 := Aside0.mk (Kd.C_below HR0.out HW.out)
  replace HR1 := Aside0.mk (Kd.C_below HR1.out HW.out)
  replace HR2 := Aside0.mk (Kd.C_below HR2.out HW.out)
  replace HR3 := Aside0.mk (Kd.C_below HR3.out HW.out)
  replace HK := Aside0.mk (kO_below HK.out HW.out)
  have HB0 := Aside0.mk (Below.refl wb.heap.size wb)
  go_wp2_with (go_at_call 54; refine hold ?_)
  refine Hold.intro ((law16_works.calls _).mono ?_)
  rintro e w1_ ⟨rfl, hb⟩
  have HB1 := Aside0.mk (below_step HB0.out hb)
  clear HB0 hb
  have hc_g_0 : w1_.cell? ⟨gb, 0, none⟩ = some (.slice A0 l0.length c0) := (blk_cell (blk_below HXG.out HB1.out) 0).trans rfl
  have hc_g_1 : w1_.cell? ⟨gb, 1, none⟩ = some (.slice A1 l1.length c1) := (blk_cell (blk_below HXG.out HB1.out) 1).trans rfl
  have hc_g_2 : w1_.cell? ⟨gb, 2, none⟩ = some (.slice A2 l2.length c2) := (blk_cell (blk_below HXG.out HB1.out) 2).trans rfl
  have hc_g_3 : w1_.cell? ⟨gb, 3, none⟩ = some (.slice A3 l3.length c3) := (blk_cell (blk_below HXG.out HB1.out) 3).trans rfl
  go_wp2_with (go_at_call 32; refine hold ?_)
  refine Hold.intro ((flotillalaw16_big.calls _ _ l0 _ _ l1 _ _ l2 _ _ l3 (bigF l0 l1 l2 l3) _ (Kd.C_below HR0.out HB1.out) HC0.out (Kd.C_below HR1.out HB1.out) HC1.out (Kd.C_below HR2.out HB1.out) HC2.out (Kd.C_below HR3.out HB1.out) HC3.out (bigF_is l0 l1 l2 l3)).mono ?_)
  rintro e w2_ ⟨rfl, hb⟩
  clear hc_g_0 hc_g_1 hc_g_2 hc_g_3
  have HB2 := Aside0.mk (below_step HB1.out hb)
  clear HB1 hb
  cases hbig : bigF l0 l1 l2 l3 with
  | true =>
    clear hbig
    go_wp2_with (go_at_call 54; refine hold ?_)
    refine Hold.intro ((law16_works.calls _).mono ?_)
    rintro e w91_ ⟨rfl, hb⟩
    have HB91 := Aside0.mk (below_step HB2.out hb)
    clear HB2 hb
    go_wp2
    go_ret
    exact ⟨rfl, (below_step HW.out HB91.out)⟩
  | false =>
    have HLN := Aside0.mk (show l0.length ≤ 300 ∧ l1.length ≤ 300 ∧ l2.length ≤ 300 ∧ l3.length ≤ 300 by
      unfold bigF at hbig
      simp only [Bool.or_eq_false_iff, decide_eq_false_iff_not] at hbig
      omega)
    clear hbig
    obtain ⟨b, hbi, hbn⟩ := spawn_is l0 l1 l2 l3 x
    have HBI := Aside0.mk hbi
    have HBN := Aside0.mk hbn
    clear hbi hbn
    have hc_g_0 : w2_.cell? ⟨gb, 0, none⟩ = some (.slice A0 l0.length c0) := (blk_cell (blk_below HXG.out HB2.out) 0).trans rfl
    have hc_g_1 : w2_.cell? ⟨gb, 1, none⟩ = some (.slice A1 l1.length c1) := (blk_cell (blk_below HXG.out HB2.out) 1).trans rfl
    have hc_g_2 : w2_.cell? ⟨gb, 2, none⟩ = some (.slice A2 l2.length c2) := (blk_cell (blk_below HXG.out HB2.out) 2).trans rfl
    have hc_g_3 : w2_.cell? ⟨gb, 3, none⟩ = some (.slice A3 l3.length c3) := (blk_cell (blk_below HXG.out HB2.out) 3).trans rfl
    go_wp2_with (first | ((with_reducible refine gate_load (t := 68) rfl ?_); first | refine load_obj rfl rfl rfl (blk_below HXP.out HB2.out) rfl ?_ | (refine gate_guard (by rfl) ?_; refine load_obj rfl rfl rfl (blk_below HXP.out HB2.out) rfl ?_)) | (go_at_call 60; refine hold ?_))
    refine Hold.intro ((spawn_co _ _ l0 _ _ l1 _ _ l2 _ _ l3 x v4 v27 b _ (Kd.C_below HR0.out HB2.out) HC0.out (Kd.C_below HR1.out HB2.out) HC1.out (Kd.C_below HR2.out HB2.out) HC2.out (Kd.C_below HR3.out HB2.out) HC3.out (kO_below HK.out HB2.out) HBI.out).mono ?_)
    rintro e w3_ ⟨rfl, hb⟩
    clear hc_g_0 hc_g_1 hc_g_2 hc_g_3
    have HB3 := Aside0.mk (below_step HB2.out hb)
    clear HB2 hb
    cases b with
    | some cc =>
      rw [errW_some]
      go_wp2_with (go_at_call 54; refine hold ?_)
      refine Hold.intro ((law16_works.calls _).mono ?_)
      rintro e w91_ ⟨rfl, hb⟩
      have HB91 := Aside0.mk (below_step HB3.out hb)
      clear HB3 hb
      go_wp2
      go_ret
      exact ⟨rfl, (below_step HW.out HB91.out)⟩
    | none =>
      rw [errW_none]
      obtain ⟨d, hd, hlt⟩ := HBN.out rfl
      obtain ⟨i, hi, hidx, hdi⟩ := idx_find hd
      have HAT := Aside0.mk (show flotillalaw16_at.f (l2.length + 1) l2 x.f10 = some (i : Int) by rw [at_is l2 x.f10 (by have := HLN.out.2.2.1; omega) _ (by omega), hidx])
      have HD := Aside0.mk (show rd_T68 l2 (i : Int) = d by rw [rd_get hi]; exact hdi)
      have HLT := Aside0.mk hlt
      have HI := Aside0.mk hi
      clear hd hlt hi hidx hdi HBN HBI
      have hc_g_2 : w3_.cell? ⟨gb, 2, none⟩ = some (.slice A2 l2.length c2) := (blk_cell (blk_below HXG.out HB3.out) 2).trans rfl
      have hc_p_11 : w3_.cell? ⟨gp, 11, none⟩ = some (.string x.f10) := (blk_cell (blk_below HXP.out HB3.out) 11).trans rfl
      go_wp2_with (go_at_call 59; refine hold ?_)
      refine Hold.intro ((flotillalaw16_at.calls (l2.length + 1) _ _ l2 x.f10 (i : Int) _ (Kd.C_below HR2.out HB3.out) HC2.out HAT.out).mono ?_)
      rintro e w4_ ⟨rfl, hd⟩
      have hb : Below w3_.heap.size w3_ w4_ := hd.below
      clear hd
      clear hc_g_2 hc_p_11
      have HB4 := Aside0.mk (below_step HB3.out hb)
      clear HB3 hb
      replace HR0 := Aside0.mk (Kd.C_below HR0.out HB4.out)
      replace HR1 := Aside0.mk (Kd.C_below HR1.out HB4.out)
      replace HR2 := Aside0.mk (Kd.C_below HR2.out HB4.out)
      replace HR3 := Aside0.mk (Kd.C_below HR3.out HB4.out)
      replace HXG := Aside0.mk (blk_below HXG.out HB4.out)
      replace HXP := Aside0.mk (blk_below HXP.out HB4.out)
      replace HK := Aside0.mk (kO_below HK.out HB4.out)
      replace HW := Aside0.mk (below_step HW.out HB4.out)
      clear HB4
      have HB5 := Aside0.mk (Below.refl w4_.heap.size w4_)
      have hc_g_0 : w4_.cell? ⟨gb, 0, none⟩ = some (.slice A0 l0.length c0) := (blk_cell (blk_below HXG.out HB5.out) 0).trans rfl
      have hc_g_1 : w4_.cell? ⟨gb, 1, none⟩ = some (.slice A1 l1.length c1) := (blk_cell (blk_below HXG.out HB5.out) 1).trans rfl
      have hc_g_2 : w4_.cell? ⟨gb, 2, none⟩ = some (.slice A2 l2.length c2) := (blk_cell (blk_below HXG.out HB5.out) 2).trans rfl
      have hc_g_3 : w4_.cell? ⟨gb, 3, none⟩ = some (.slice A3 l3.length c3) := (blk_cell (blk_below HXG.out HB5.out) 3).trans rfl
      have HCF := Aside0.mk (show flotillaref0_CopyFleet.f l0 l1 l2 l3 = some (l0, l1, l2, l3) by
        unfold flotillaref0_CopyFleet.f
        rw [copy_row HO.out.1 HLN.out.1, copy_row HO.out.2.1 HLN.out.2.1, copy_row HO.out.2.2.1 HLN.out.2.2.1, copy_row HO.out.2.2.2 HLN.out.2.2.2]; rfl)
      go_wp2_with (go_at_call 58; refine hold ?_)
      refine Hold.intro ((flotillaref0_CopyFleet.calls _ _ l0 _ _ l1 _ _ l2 _ _ l3 l0 l1 l2 l3 _ (Kd.C_below HR0.out HB5.out) HC0.out (Kd.C_below HR1.out HB5.out) HC1.out (Kd.C_below HR2.out HB5.out) HC2.out (Kd.C_below HR3.out HB5.out) HC3.out HCF.out).mono ?_)
      rintro e w5_ ⟨u0, u1, u2, u3, rfl, s0, s1, s2, s3, hb⟩
      clear hc_g_0 hc_g_1 hc_g_2 hc_g_3
      have HB6 := Aside0.mk (below_step HB5.out hb)
      clear HB5 hb
      have HBc := HB6
      obtain ⟨B0, d0, rfl, e0, -⟩ := Kd.S_reads s0
      obtain ⟨B1, d1, rfl, e1, -⟩ := Kd.S_reads s1
      obtain ⟨B2, d2, rfl, e2, -⟩ := Kd.S_reads s2
      obtain ⟨B3, d3, rfl, e3, -⟩ := Kd.S_reads s3
      have HE := Aside0.mk (show l0.length ≤ d0 ∧ l1.length ≤ d1 ∧ l2.length ≤ d2 ∧ l3.length ≤ d3 from ⟨e0, e1, e2, e3⟩)
      clear e0 e1 e2 e3
      have HS0 := Aside0.mk (Kd.S_mono (ok' := fun k_ => k_ < w5_.heap.size ∧ some k_ ≠ (Value.slice B1 l1.length d1).ownBlock) (Kd.S_bound s0) (fun _ h_ => ⟨h_.2.2.1, h_.1.1⟩))
      have HS1 := Aside0.mk (Kd.S_mono (ok' := fun k_ => k_ < w5_.heap.size) (Kd.S_bound s1) (fun _ h_ => h_.2.2.1))
      have HS2 := Aside0.mk (Kd.S_mono (ok' := fun k_ => k_ < w5_.heap.size ∧ some k_ ≠ (Value.slice B1 l1.length d1).ownBlock) (Kd.S_bound s2) (fun _ h_ => ⟨h_.2.2.1, h_.1.2.1⟩))
      have HS3 := Aside0.mk (Kd.S_mono (ok' := fun k_ => k_ < w5_.heap.size ∧ some k_ ≠ (Value.slice B1 l1.length d1).ownBlock) (Kd.S_bound s3) (fun _ h_ => ⟨h_.2.2.1, h_.1.2.1⟩))
      clear s0 s1 s2 s3 HCF
      go_wp2_with ((with_reducible refine gate_dst (N := 6) rfl ?_); refine hold ?_)
      refine Hold.intro ?_
      refine box_event (N := 6) (t := 59) (cs := #[.slice none 0 0, .slice none 0 0, .slice none 0 0, .slice none 0 0]) rfl rfl ?hr6 ?_
      case hr6 => first | (go_simp; done) | (go_simp; rfl)
      intro gg hgq w6_ hbox hb
      have HQgg := Aside0.mk hgq
      replace HS0 := Aside0.mk (Kd.S_below HS0.out hb)
      replace HS1 := Aside0.mk (Kd.S_below HS1.out hb)
      replace HS2 := Aside0.mk (Kd.S_below HS2.out hb)
      replace HS3 := Aside0.mk (Kd.S_below HS3.out hb)
      have HXgg := Aside0.mk hbox
      clear hbox hgq
      have HB7 := Aside0.mk (below_step HB6.out hb)
      clear HB6 hb
      have HZ8o := Aside0.mk (show w5_.heap.size ≤ w6_.heap.size by have h1 := HQgg.out; have h2 := blk_lt HXgg.out; omega)
      go_wp2_with ((with_reducible refine gate_store (t := 59) (p := 6) rfl ?_); refine hold ?_)
      refine Hold.intro (box_store_event (t := 59) (ty := 59) (p := 6) (x := .tmp 29) (g := gg) (cs := #[.slice none 0 0, .slice none 0 0, .slice none 0 0, .slice none 0 0]) (cs' := #[.slice B0 l0.length d0, .slice B1 l1.length d1, .slice B2 l2.length d2, .slice B3 l3.length d3]) rfl rfl rfl rfl rfl size59 HXgg.out rfl rfl ?_)
      intro w7_ hbox hg
      have HGG := Aside0.mk (show w5_.heap.size ≤ gg ∧ w4_.heap.size ≤ gg by have h1 := HQgg.out; have h2 := HBc.out.size; omega)
      replace HS0 := Aside0.mk (Kd.S_grown HS0.out hg (fun k_ hk_ e_ => by have h1 := HGG.out.1; injection e_ with e_; have h2 : k_ < w5_.heap.size := hk_.1; omega))
      replace HS1 := Aside0.mk (Kd.S_grown HS1.out hg (fun k_ hk_ e_ => by have h1 := HGG.out.1; injection e_ with e_; have h2 : k_ < w5_.heap.size := hk_; omega))
      replace HS2 := Aside0.mk (Kd.S_grown HS2.out hg (fun k_ hk_ e_ => by have h1 := HGG.out.1; injection e_ with e_; have h2 : k_ < w5_.heap.size := hk_.1; omega))
      replace HS3 := Aside0.mk (Kd.S_grown HS3.out hg (fun k_ hk_ e_ => by have h1 := HGG.out.1; injection e_ with e_; have h2 : k_ < w5_.heap.size := hk_.1; omega))
      have HG6 := Aside0.mk hg.size
      have HBz := Aside0.mk (Below.grown HB7.out hg HB7.out.size (fun k_ e_ => by injection e_ with e_; subst e_; exact HGG.out.2))
      replace HXgg := Aside0.mk hbox
      clear hbox hg HB7
      have HB8 := HBz
      clear HBz
      have HZ8 := Aside0.mk (show w5_.heap.size ≤ w7_.heap.size by have h1 := HZ8o.out; have h2 := HG6.out; omega)
      have HGLo := Aside0.mk (show gg < w7_.heap.size from blk_lt HXgg.out)
      obtain ⟨-, hq4, hq25⟩ := HOX.out
      have HQ4 := Aside0.mk (show x.f4.length * 32 ≤ 140737488351232 from hq4)
      have HQ25 := Aside0.mk (show x.f25.length * 32 ≤ 140737488351232 from hq25)
      clear hq4 hq25
      go_wp2_with (first | ((with_reducible refine gate_load (t := 68) rfl ?_); refine load_obj rfl rfl rfl (blk_below HXP.out HB8.out) rfl ?_) | (go_at_call 61; refine hold ?_))
      refine Hold.intro ((copy_co x v4 v27 _ (kO_below HK.out HB8.out) HQ4.out HQ25.out).mono ?_)
      rintro e w8_ ⟨u4, u27, rfl, r4, r27, hb⟩
      replace HS0 := Aside0.mk (Kd.S_below HS0.out hb)
      replace HS1 := Aside0.mk (Kd.S_below HS1.out hb)
      replace HS2 := Aside0.mk (Kd.S_below HS2.out hb)
      replace HS3 := Aside0.mk (Kd.S_below HS3.out hb)
      replace HXgg := Aside0.mk (blk_below HXgg.out hb)
      have HZo := Aside0.mk (show w4_.heap.size ≤ w7_.heap.size from (HB8.out).size)
      have HZp := Aside0.mk hb.size
      have HB9 := Aside0.mk (below_step HB8.out hb)
      clear HB8 hb
      have H4 := Aside0.mk (Kd.R_mono (ok' := fun k_ => w7_.heap.size ≤ k_) (Kd.R_bound r4) (fun _ h_ => h_.2.1))
      have H27 := Aside0.mk (Kd.R_mono (ok' := fun k_ => w7_.heap.size ≤ k_) (Kd.R_bound r27) (fun _ h_ => h_.2.1))
      obtain ⟨A5, c5, e5⟩ := Kd.R_slice H4.out
      obtain ⟨A28, c28, e28⟩ := Kd.R_slice H27.out
      have HE4 := Aside0.mk (show u4.oneCell' = true ∧ u27.oneCell' = true by rw [e5, e28]; exact ⟨rfl, rfl⟩)
      clear r4 r27 e5 e28
      go_wp2_with ((with_reducible refine gate_dst (N := 7) rfl ?_); refine hold ?_)
      refine Hold.intro ?_
      refine alloc_obj rfl rfl (N := 7) rfl ?_
      intro gx hgq w9_ hbox hb
      have HQgx := Aside0.mk hgq
      replace HS0 := Aside0.mk (Kd.S_below HS0.out hb)
      replace HS1 := Aside0.mk (Kd.S_below HS1.out hb)
      replace HS2 := Aside0.mk (Kd.S_below HS2.out hb)
      replace HS3 := Aside0.mk (Kd.S_below HS3.out hb)
      replace HXgg := Aside0.mk (blk_below HXgg.out hb)
      replace H4 := Aside0.mk (Kd.R_below H4.out hb)
      replace H27 := Aside0.mk (Kd.R_below H27.out hb)
      have HXgx := Aside0.mk hbox
      clear hbox hgq
      have HB10 := Aside0.mk (below_step HB9.out hb)
      clear HB9 hb
      have HGL := Aside0.mk (show gg < gx by have h1 := HQgx.out; have h2 := HGLo.out; have h3 := HZp.out; omega)
      go_wp2_with ((with_reducible refine gate_store (t := 68) (p := 7) rfl ?_); refine hold ?_)
      refine Hold.intro (box_store_event (t := 68) (ty := 68) (p := 7) (x := .tmp 31) (g := gx) (cs := zcObj) (cs' := cO x u4 u27) rfl rfl rfl rfl rfl size68 HXgx.out rfl (cO_one HE4.out.1 HE4.out.2) ?_)
      intro w10_ hbox hg
      have HNw10_ := Aside0.mk (show w7_.heap.size ≤ gx ∧ w4_.heap.size ≤ gx by have h1 := HQgx.out; have h2 := HZo.out; have h3 := HZp.out; omega)
      replace HS0 := Aside0.mk (Kd.S_grown HS0.out hg (fun k_ hk_ e_ => by have h1 := HNw10_.out.1; have h3 := HZ8.out; injection e_ with e_; have h2 : k_ < w5_.heap.size := hk_.1; omega))
      replace HS1 := Aside0.mk (Kd.S_grown HS1.out hg (fun k_ hk_ e_ => by have h1 := HNw10_.out.1; have h3 := HZ8.out; injection e_ with e_; have h2 : k_ < w5_.heap.size := hk_; omega))
      replace HS2 := Aside0.mk (Kd.S_grown HS2.out hg (fun k_ hk_ e_ => by have h1 := HNw10_.out.1; have h3 := HZ8.out; injection e_ with e_; have h2 : k_ < w5_.heap.size := hk_.1; omega))
      replace HS3 := Aside0.mk (Kd.S_grown HS3.out hg (fun k_ hk_ e_ => by have h1 := HNw10_.out.1; have h3 := HZ8.out; injection e_ with e_; have h2 : k_ < w5_.heap.size := hk_.1; omega))
      replace H4 := Aside0.mk (Kd.R_mono (Kd.R_grown (Kd.R_types H4.out HXgx.out (by decide)) hg (fun k_ hk_ e_ => hk_.2 (Option.some.inj e_))) (fun _ hk_ => hk_.1))
      replace H27 := Aside0.mk (Kd.R_mono (Kd.R_grown (Kd.R_types H27.out HXgx.out (by decide)) hg (fun k_ hk_ e_ => hk_.2 (Option.some.inj e_))) (fun _ hk_ => hk_.1))
      replace HXgg := Aside0.mk (blk_grown HXgg.out hg (fun e_ => by have h1 := HGL.out; injection e_ with e_; omega))
      have HBz := Aside0.mk (Below.grown HB10.out hg HB10.out.size (fun k_ e_ => by injection e_ with e_; subst e_; exact HNw10_.out.2))
      replace HXgx := Aside0.mk hbox
      clear hbox hg HB10
      have HB11 := HBz
      clear HBz
      go_wp2_with ((with_reducible refine gate_store (t := 4) (p := 32) rfl ?_); refine hold ?_)
      refine Hold.intro (cell_store_event (t := 4) (ty := 68) (p := 32) (g := gx) (j := 16) (cs := cO x u4 u27) (v := .bool false) rfl rfl rfl rfl rfl (by kernel_rfl) HXgx.out (by rw [cO_size]; decide) rfl rfl ?_)
      intro w11_ hbox hg
      have HNw11_ := Aside0.mk (show w7_.heap.size ≤ gx ∧ w4_.heap.size ≤ gx by have h1 := HQgx.out; have h2 := HZo.out; have h3 := HZp.out; omega)
      replace HS0 := Aside0.mk (Kd.S_grown HS0.out hg (fun k_ hk_ e_ => by have h1 := HNw11_.out.1; have h3 := HZ8.out; injection e_ with e_; have h2 : k_ < w5_.heap.size := hk_.1; omega))
      replace HS1 := Aside0.mk (Kd.S_grown HS1.out hg (fun k_ hk_ e_ => by have h1 := HNw11_.out.1; have h3 := HZ8.out; injection e_ with e_; have h2 : k_ < w5_.heap.size := hk_; omega))
      replace HS2 := Aside0.mk (Kd.S_grown HS2.out hg (fun k_ hk_ e_ => by have h1 := HNw11_.out.1; have h3 := HZ8.out; injection e_ with e_; have h2 : k_ < w5_.heap.size := hk_.1; omega))
      replace HS3 := Aside0.mk (Kd.S_grown HS3.out hg (fun k_ hk_ e_ => by have h1 := HNw11_.out.1; have h3 := HZ8.out; injection e_ with e_; have h2 : k_ < w5_.heap.size := hk_.1; omega))
      replace H4 := Aside0.mk (Kd.R_mono (Kd.R_grown (Kd.R_types H4.out HXgx.out (by decide)) hg (fun k_ hk_ e_ => hk_.2 (Option.some.inj e_))) (fun _ hk_ => hk_.1))
      replace H27 := Aside0.mk (Kd.R_mono (Kd.R_grown (Kd.R_types H27.out HXgx.out (by decide)) hg (fun k_ hk_ e_ => hk_.2 (Option.some.inj e_))) (fun _ hk_ => hk_.1))
      replace HXgg := Aside0.mk (blk_grown HXgg.out hg (fun e_ => by have h1 := HGL.out; injection e_ with e_; omega))
      have HBz := Aside0.mk (Below.grown HB11.out hg HB11.out.size (fun k_ e_ => by injection e_ with e_; subst e_; exact HNw11_.out.2))
      replace HXgx := Aside0.mk hbox
      clear hbox hg HB11
      have HB12 := HBz
      clear HBz
      obtain ⟨y, hy⟩ : ∃ y : S68, y = { x with f15 := false } := ⟨_, rfl⟩
      replace HXgx := Aside0.mk (show w11_.heap[gx]? = some (.cells (cO y u4 u27) 68 (0, 0)) by rw [hy]; exact HXgx.out)
      replace H4 := Aside0.mk (show k31.R 31 w11_ w7_.heap.size (fun k_ => w7_.heap.size ≤ k_) u4 y.f4 by rw [hy]; exact H4.out)
      replace H27 := Aside0.mk (show k31.R 31 w11_ w7_.heap.size (fun k_ => w7_.heap.size ≤ k_) u27 y.f25 by rw [hy]; exact H27.out)
      have HY := Aside0.mk hy
      clear hy
      have hcs := cO_size y u4 u27
      have hcg : w11_.cell? ⟨gg, 1, none⟩ = some (.slice B1 l1.length d1) := (blk_cell HXgg.out 1).trans rfl
      go_wp2_with (first | ((with_reducible refine gate_load (t := 68) rfl ?_); refine load_obj rfl rfl rfl HXgx.out rfl ?_) | ((with_reducible refine gate_builtin (b := .append) (xs := #[.tmp 34, .tmp 36]) rfl ?_); refine hold ?_))
      rw [build_cO]
      clear hcg hcs
      refine Hold.intro (Kd.R_append k68 (w0 := w4_) w4_.heap.size rfl (.tmp 34) (.tmp 36) 57 68 (.agg zcObj) 312 rfl Try.underlying57 info68 rfl (by decide) (by omega) (.slice B1 l1.length d1) l1 y (cO y u4 u27).toList (fun _ => True) (fun k_ => w7_.heap.size ≤ k_) rfl rfl
        (k68_mkM _ _ _ y (Kd.R_lower H4.out HZo.out) (Kd.R_lower H27.out HZo.out)) (fun k_ hk_ => ⟨trivial, fun e_ => by have h1_ : k_ < w5_.heap.size := (Kd.S_R HS1.out).1 k_ e_.symm; have h2_ := HZ8.out; omega⟩) (fun _ _ => trivial) (Kd.R_mono (Kd.S_R HS1.out) (fun _ _ => trivial)) HB12.out HB12.out.size (by have := HLN.out.2.1; omega) ?_)
      intro v1 w12_ ho hb2 hg hat
      have HOB := Aside0.mk (fun (k_ : Nat) (e_ : (Value.slice B1 l1.length d1).ownBlock = some k_) => (show k_ < w5_.heap.size from (Kd.S_R HS1.out).1 k_ e_))
      replace HS0 := Aside0.mk (Kd.S_grown HS0.out hg (fun k_ hk_ => hk_.2))
      replace HS2 := Aside0.mk (Kd.S_grown HS2.out hg (fun k_ hk_ => hk_.2))
      replace HS3 := Aside0.mk (Kd.S_grown HS3.out hg (fun k_ hk_ => hk_.2))
      replace HXgg := Aside0.mk (blk_grown HXgg.out hg (fun e_ => by have h1 := HOB.out _ e_.symm; have h2 := HGG.out.1; omega))
      obtain ⟨ly, hly⟩ : ∃ ly, ly = l1 ++ [y] := ⟨_, rfl⟩
      rw [← hly] at ho
      have HLY := Aside0.mk hly
      have HA := Aside0.mk ho
      clear ho hly HS1 HXgx H4 H27 hat hg HB12 HQgx HGL HGLo HE4 HQ4 HQ25
      have HB13 := Aside0.mk hb2
      clear hb2
      obtain ⟨A7, c7, rfl, e7, -⟩ := Kd.R_reads HA.out
      have HE7 := Aside0.mk e7
      clear e7
      go_wp2_with ((with_reducible refine gate_store (t := 57) (p := 38) rfl ?_); refine hold ?_)
      refine Hold.intro (cell_store_event (t := 57) (ty := 59) (p := 38) (g := gg) (j := 1) (cs := #[.slice B0 l0.length d0, .slice B1 l1.length d1, .slice B2 l2.length d2, .slice B3 l3.length d3]) (v := .slice A7 ly.length c7) rfl rfl rfl rfl rfl (by kernel_rfl) HXgg.out (by show 1 < 4; decide) rfl rfl ?_)
      intro w13_ hbox hg
      have HU0 := Aside0.mk (Kd.S_reads' (Kd.S_grown HS0.out hg (fun k_ hk_ e_ => by have h1 := HGG.out.1; injection e_ with e_; have h2 : k_ < w5_.heap.size := hk_.1; omega))).2.2
      have HU2 := Aside0.mk (Kd.S_reads' (Kd.S_grown HS2.out hg (fun k_ hk_ e_ => by have h1 := HGG.out.1; injection e_ with e_; have h2 : k_ < w5_.heap.size := hk_.1; omega))).2.2
      have HU3 := Aside0.mk (Kd.S_reads' (Kd.S_grown HS3.out hg (fun k_ hk_ e_ => by have h1 := HGG.out.1; injection e_ with e_; have h2 : k_ < w5_.heap.size := hk_.1; omega))).2.2
      have HU1 := Aside0.mk (Kd.R_reads' (Kd.R_grown (Kd.R_types HA.out HXgg.out (by decide)) hg (fun k_ hk_ e_ => hk_.2 (Option.some.inj e_)))).2.2
      replace HXgg := Aside0.mk (show w13_.heap[gg]? = some (.cells #[.slice B0 l0.length d0, .slice A7 ly.length c7, .slice B2 l2.length d2, .slice B3 l3.length d3] 59 (0, 0)) from hbox)
      have HBz := Aside0.mk (Below.grown HB13.out hg HB13.out.size (fun k_ e_ => by injection e_ with e_; subst e_; exact HGG.out.2))
      clear hbox hg HB13 HS0 HS2 HS3 HA
      have HB14 := HBz
      clear HBz
      replace HR0 := Aside0.mk (Kd.C_below HR0.out HB14.out)
      replace HR1 := Aside0.mk (Kd.C_below HR1.out HB14.out)
      replace HR2 := Aside0.mk (Kd.C_below HR2.out HB14.out)
      replace HR3 := Aside0.mk (Kd.C_below HR3.out HB14.out)
      replace HXG := Aside0.mk (blk_below HXG.out HB14.out)
      replace HXP := Aside0.mk (blk_below HXP.out HB14.out)
      replace HW := Aside0.mk (below_step HW.out HB14.out)
      clear HB14
      have HB15 := Aside0.mk (Below.refl w13_.heap.size w13_)
      obtain ⟨m, hm⟩ : ∃ m : Int, m = ((countL (isOwned x.f10) l1 : Nat) : Int) := ⟨_, rfl⟩
      obtain ⟨p, hp⟩ : ∃ p : Int, p = heldI d.f20 := ⟨_, rfl⟩
      obtain ⟨q, hq⟩ : ∃ q : Int, q = heldI d.f21 := ⟨_, rfl⟩
      have HM := Aside0.mk (show rules_Owned.f l0 l1 l2 l3 x.f10 = some m by rw [hm]; rfl)
      have HM1 := Aside0.mk (show rules_Owned.f l0 ly l2 l3 x.f10 = some (m + 1) by
        show some ((countL (isOwned x.f10) ly : Nat) : Int) = _
        rw [hm, HLY.out, HY.out, count_snoc, if_pos (by unfold isOwned; simp)]; rfl)
      have HP := Aside0.mk (show flotillalaw16_held.f d.f20 = some p by rw [hp]; rfl)
      have HQ := Aside0.mk (show flotillalaw16_held.f d.f21 = some q by rw [hq]; rfl)
      have hmq : m < p + q := by rw [hm, hp, hq]; exact HLT.out
      have hm0 : 0 ≤ m := by rw [hm]; omega
      have hm3 : m ≤ 300 := by rw [hm]; have h1 := count_le (isOwned x.f10) l1 l1.length; rw [List.take_length] at h1; have h2 := HLN.out.2.1; omega
      have hpq : wrap64 (p + q) = p + q := by rw [hp, hq]; exact held_sum _ _
      have hm1 : wrap64 (m + 1) = m + 1 := by unfold wrap64; omega
      have hmq1 : m + 1 ≤ p + q := by omega
      clear hm hp hq
      have HPB := Aside0.mk (And.intro hmq (And.intro hmq1 (And.intro hpq hm1)))
      clear hmq hmq1 hpq hm1
      obtain ⟨ad, z4, z27, hA2, -, hcz, hcells⟩ := at_cO HR2.out i HI.out
      rw [HD.out] at hcells
      have HZ22 := Aside0.mk (hcells 22 (.int .i64 d.f20) (by omega) rfl)
      have HZ23 := Aside0.mk (hcells 23 (.int .i64 d.f21) (by omega) rfl)
      clear hcells hcz
      cases hA2
      go_wp2
      go_wp2
      have HB16 := Aside0.mk (below_drew1 HB15.out)
      clear HB15
      refine start_ (n := 33) (S := fun w' => w'.cell? ⟨gg, 0, none⟩ = some (.slice B0 l0.length d0) ∧ w'.cell? ⟨gg, 1, none⟩ = some (.slice A7 ly.length c7) ∧ w'.cell? ⟨gg, 2, none⟩ = some (.slice B2 l2.length d2) ∧ w'.cell? ⟨gg, 3, none⟩ = some (.slice B3 l3.length d3) ∧ w'.cell? ⟨gb, 0, none⟩ = some (.slice A0 l0.length c0) ∧ w'.cell? ⟨gb, 1, none⟩ = some (.slice A1 l1.length c1) ∧ w'.cell? ⟨gb, 2, none⟩ = some (.slice (some ad) l2.length c2) ∧ w'.cell? ⟨gb, 3, none⟩ = some (.slice A3 l3.length c3) ∧ w'.cell? ⟨gp, 11, none⟩ = some (.string x.f10) ∧ w'.cell? ⟨(ad.add (i * 32)).block, (ad.add (i * 32)).off + 22, none⟩ = some (.int .i64 d.f20) ∧ w'.cell? ⟨(ad.add (i * 32)).block, (ad.add (i * 32)).off + 23, none⟩ = some (.int .i64 d.f21)) (ds := []) #[false, false, false, false, false, false, false, false, false, false, false, false, false, false, false, false, false, false, false, false, false, false, false, false, false, false, false, false, false, false, false, false, false] (by kernel_rfl) rfl rfl ⟨(blk_cell (blk_below HXgg.out HB16.out) 0).trans rfl, (blk_cell (blk_below HXgg.out HB16.out) 1).trans rfl, (blk_cell (blk_below HXgg.out HB16.out) 2).trans rfl, (blk_cell (blk_below HXgg.out HB16.out) 3).trans rfl, (blk_cell (blk_below HXG.out HB16.out) 0).trans rfl, (blk_cell (blk_below HXG.out HB16.out) 1).trans rfl, (blk_cell (blk_below HXG.out HB16.out) 2).trans rfl, (blk_cell (blk_below HXG.out HB16.out) 3).trans rfl, (blk_cell (blk_below HXP.out HB16.out) 11).trans rfl, (HB16.out.cell (World.block_lt_of_cell? w13_ _ HZ22.out)).trans HZ22.out, (HB16.out.cell (World.block_lt_of_cell? w13_ _ HZ23.out)).trans HZ23.out⟩ (fun hHeld => ?_); refine with_tabW surge_tab10 surge_bits10 (fun HT_ HW_ => ?_)
      generalize w13_.drew = w14_ at HB16 hHeld ⊢
      refine pure_ (i := 1) (N := some 40) (v := ?_) (a' := ?_) #[false, true, false, false, false, false, false, false, false, false, false, false, false, false, false, false, false, false, false, false, false, false, false, false, false, false, false, false, false, false, false, false, false] rfl rfl (any_of HT_.out (by kernel_rfl)) (fun _ _ _ h => h) (Or.inl ⟨by rfl, ?_⟩) ?_ ?_
      rotate_left
      · intro w'
        go_simp
        with_reducible rfl
      rotate_left
      · simp only [Act.put, List.setIfInBounds_toArray, List.set_cons_zero, List.set_cons_succ, i64_w, i32_w]
        rfl
      refine pure_ (i := 5) (N := some 44) (v := ?_) (a' := ?_) #[false, true, false, false, false, true, false, false, false, false, false, false, false, false, false, false, false, false, false, false, false, false, false, false, false, false, false, false, false, false, false, false, false] rfl rfl (any_of HT_.out (by kernel_rfl)) (fun _ _ _ h => h) (Or.inl ⟨by rfl, ?_⟩) ?_ ?_
      rotate_left
      · intro w'
        go_simp
        with_reducible rfl
      rotate_left
      · simp only [Act.put, List.setIfInBounds_toArray, List.set_cons_zero, List.set_cons_succ, i64_w, i32_w]
        rfl
      refine take_ (i := 0) (N := some 39) (v := ?_) (a' := ?_) #[true, true, false, false, false, true, false, false, false, false, false, false, false, false, false, false, false, false, false, false, false, false, false, false, false, false, false, false, false, false, false, false, false] rfl rfl (take_ofW HT_.out HW_.out (by kernel_rfl)) (fun _ _ _ h => h) (Or.inl ⟨by rfl, ?_⟩) hHeld ?_ ?_
      rotate_left
      · rintro w' ⟨s0, s1, s2, s3, s4, s5, s6, s7, s8, s9, s10⟩
        go_simp
        with_reducible rfl
      rotate_left
      · simp only [Act.put, List.setIfInBounds_toArray, List.set_cons_zero, List.set_cons_succ, i64_w, i32_w]
        rfl
      refine take_ (i := 2) (N := some 41) (v := ?_) (a' := ?_) #[true, true, true, false, false, true, false, false, false, false, false, false, false, false, false, false, false, false, false, false, false, false, false, false, false, false, false, false, false, false, false, false, false] rfl rfl (take_ofW HT_.out HW_.out (by kernel_rfl)) (fun _ _ _ h => h) (Or.inl ⟨by rfl, ?_⟩) hHeld ?_ ?_
      rotate_left
      · rintro w' ⟨s0, s1, s2, s3, s4, s5, s6, s7, s8, s9, s10⟩
        go_simp
        with_reducible rfl
      rotate_left
      · simp only [Act.put, List.setIfInBounds_toArray, List.set_cons_zero, List.set_cons_succ, i64_w, i32_w]
        rfl
      refine take_ (i := 4) (N := some 43) (v := ?_) (a' := ?_) #[true, true, true, false, true, true, false, false, false, false, false, false, false, false, false, false, false, false, false, false, false, false, false, false, false, false, false, false, false, false, false, false, false] rfl rfl (take_ofW HT_.out HW_.out (by kernel_rfl)) (fun _ _ _ h => h) (Or.inl ⟨by rfl, ?_⟩) hHeld ?_ ?_
      rotate_left
      · rintro w' ⟨s0, s1, s2, s3, s4, s5, s6, s7, s8, s9, s10⟩
        go_simp
        with_reducible rfl
      rotate_left
      · simp only [Act.put, List.setIfInBounds_toArray, List.set_cons_zero, List.set_cons_succ, i64_w, i32_w]
        rfl
      refine take_ (i := 6) (N := some 45) (v := ?_) (a' := ?_) #[true, true, true, false, true, true, true, false, false, false, false, false, false, false, false, false, false, false, false, false, false, false, false, false, false, false, false, false, false, false, false, false, false] rfl rfl (take_ofW HT_.out HW_.out (by kernel_rfl)) (fun _ _ _ h => h) (Or.inl ⟨by rfl, ?_⟩) hHeld ?_ ?_
      rotate_left
      · rintro w' ⟨s0, s1, s2, s3, s4, s5, s6, s7, s8, s9, s10⟩
        go_simp
        with_reducible rfl
      rotate_left
      · simp only [Act.put, List.setIfInBounds_toArray, List.set_cons_zero, List.set_cons_succ, i64_w, i32_w]
        rfl
      refine one_ (i := 3) (N := some 42) #[true, true, true, true, true, true, true, false, false, false, false, false, false, false, false, false, false, false, false, false, false, false, false, false, false, false, false, false, false, false, false, false, false] rfl rfl (one_of HT_.out (by kernel_rfl)) (by decide) (fun K hK => ?_)
      refine goes_ Try.func34 (by kernel_rfl) rfl #[.agg #[.slice B0 l0.length d0, .slice A7 ly.length c7, .slice B2 l2.length d2, .slice B3 l3.length d3], .string x.f10] (by rfl) rfl rfl (by (try simp only [List.map_toArray, List.map_cons, List.map_nil]); first | done | rfl | (simp only [List.length_drop, List.length_take]; rfl)) ?_
      refine (rules_Owned.calls _ _ l0 _ _ ly _ _ l2 _ _ l3 x.f10 (m + 1) _ (Kd.C_below HU0.out HB16.out) HE.out.1 (Kd.C_below HU1.out HB16.out) HE7.out (Kd.C_below HU2.out HB16.out) HE.out.2.2.1 (Kd.C_below HU3.out HB16.out) HE.out.2.2.2 HM1.out).mono ?_
      rintro e w15_ ⟨rfl, hb⟩
      refine ⟨_, rfl, ?_⟩
      have HB17 := Aside0.mk (below_step HB16.out hb)
      clear hb HB16
      refine hK.out _ _ ⟨(blk_cell (blk_below HXgg.out HB17.out) 0).trans rfl, (blk_cell (blk_below HXgg.out HB17.out) 1).trans rfl, (blk_cell (blk_below HXgg.out HB17.out) 2).trans rfl, (blk_cell (blk_below HXgg.out HB17.out) 3).trans rfl, (blk_cell (blk_below HXG.out HB17.out) 0).trans rfl, (blk_cell (blk_below HXG.out HB17.out) 1).trans rfl, (blk_cell (blk_below HXG.out HB17.out) 2).trans rfl, (blk_cell (blk_below HXG.out HB17.out) 3).trans rfl, (blk_cell (blk_below HXP.out HB17.out) 11).trans rfl, (HB17.out.cell (World.block_lt_of_cell? w13_ _ HZ22.out)).trans HZ22.out, (HB17.out.cell (World.block_lt_of_cell? w13_ _ HZ23.out)).trans HZ23.out⟩ (fun hHeld => ?_)
      clear hK K
      refine norm_ (a' := ?_) ?_ ?_
      rotate_left
      · show Act.put _ (some 42) _ = _
        simp only [Act.put, List.setIfInBounds_toArray, List.set_cons_zero, List.set_cons_succ, i64_w, i32_w]
        rfl
      refine one_ (i := 7) (N := some 46) #[true, true, true, true, true, true, true, true, false, false, false, false, false, false, false, false, false, false, false, false, false, false, false, false, false, false, false, false, false, false, false, false, false] rfl rfl (one_of HT_.out (by kernel_rfl)) (by decide) (fun K hK => ?_)
      refine goes_ Try.func34 (by kernel_rfl) rfl #[.agg #[.slice A0 l0.length c0, .slice A1 l1.length c1, .slice (some ad) l2.length c2, .slice A3 l3.length c3], .string x.f10] (by rfl) rfl rfl (by (try simp only [List.map_toArray, List.map_cons, List.map_nil]); first | done | rfl | (simp only [List.length_drop, List.length_take]; rfl)) ?_
      refine (rules_Owned.calls _ _ l0 _ _ l1 _ _ l2 _ _ l3 x.f10 m _ (Kd.C_below HR0.out HB17.out) HC0.out (Kd.C_below HR1.out HB17.out) HC1.out (Kd.C_below HR2.out HB17.out) HC2.out (Kd.C_below HR3.out HB17.out) HC3.out HM.out).mono ?_
      rintro e w16_ ⟨rfl, hb⟩
      refine ⟨_, rfl, ?_⟩
      have HB18 := Aside0.mk (below_step HB17.out hb)
      clear hb HB17
      refine hK.out _ _ ⟨(blk_cell (blk_below HXgg.out HB18.out) 0).trans rfl, (blk_cell (blk_below HXgg.out HB18.out) 1).trans rfl, (blk_cell (blk_below HXgg.out HB18.out) 2).trans rfl, (blk_cell (blk_below HXgg.out HB18.out) 3).trans rfl, (blk_cell (blk_below HXG.out HB18.out) 0).trans rfl, (blk_cell (blk_below HXG.out HB18.out) 1).trans rfl, (blk_cell (blk_below HXG.out HB18.out) 2).trans rfl, (blk_cell (blk_below HXG.out HB18.out) 3).trans rfl, (blk_cell (blk_below HXP.out HB18.out) 11).trans rfl, (HB18.out.cell (World.block_lt_of_cell? w13_ _ HZ22.out)).trans HZ22.out, (HB18.out.cell (World.block_lt_of_cell? w13_ _ HZ23.out)).trans HZ23.out⟩ (fun hHeld => ?_)
      clear hK K
      refine norm_ (a' := ?_) ?_ ?_
      rotate_left
      · show Act.put _ (some 46) _ = _
        simp only [Act.put, List.setIfInBounds_toArray, List.set_cons_zero, List.set_cons_succ, i64_w, i32_w]
        rfl
      obtain ⟨hmq, hmq1, hpq, hm1⟩ := HPB.out
      have hil := HI.out
      refine pure_ (i := 8) (N := some 47) (v := ?_) (a' := ?_) #[true, true, true, true, true, true, true, true, true, false, false, false, false, false, false, false, false, false, false, false, false, false, false, false, false, false, false, false, false, false, false, false, false] rfl rfl (any_of HT_.out (by kernel_rfl)) (fun _ _ _ h => h) (Or.inl ⟨by rfl, ?_⟩) ?_ ?_
      rotate_left
      · intro w'
        go_simp
        with_reducible rfl
      rotate_left
      · simp only [Act.put, List.setIfInBounds_toArray, List.set_cons_zero, List.set_cons_succ, i64_w, i32_w]
        rfl
      refine pure_ (i := 9) (N := some 48) (v := ?_) (a' := ?_) #[true, true, true, true, true, true, true, true, true, true, false, false, false, false, false, false, false, false, false, false, false, false, false, false, false, false, false, false, false, false, false, false, false] rfl rfl (any_of HT_.out (by kernel_rfl)) (fun _ _ _ h => h) (Or.inl ⟨by rfl, ?_⟩) ?_ ?_
      rotate_left
      · intro w'
        go_simp
        with_reducible rfl
      rotate_left
      · simp only [Act.put, List.setIfInBounds_toArray, List.set_cons_zero, List.set_cons_succ, i64_w, i32_w]
        rfl
      refine pure_ (i := 10) (N := some 49) (v := ?_) (a' := ?_) #[true, true, true, true, true, true, true, true, true, true, true, false, false, false, false, false, false, false, false, false, false, false, false, false, false, false, false, false, false, false, false, false, false] rfl rfl (any_of HT_.out (by kernel_rfl)) (fun _ _ _ h => h) (Or.inl ⟨by rfl, ?_⟩) ?_ ?_
      rotate_left
      · intro w'
        go_simp
        with_reducible rfl
      rotate_left
      · simp only [Act.put, List.setIfInBounds_toArray, List.set_cons_zero, List.set_cons_succ, i64_w, i32_w]
        rfl
      refine pure_ (i := 12) (N := some 51) (v := ?_) (a' := ?_) #[true, true, true, true, true, true, true, true, true, true, true, false, true, false, false, false, false, false, false, false, false, false, false, false, false, false, false, false, false, false, false, false, false] rfl rfl (any_of HT_.out (by kernel_rfl)) (fun _ _ _ h => h) (Or.inl ⟨by rfl, ?_⟩) ?_ ?_
      rotate_left
      · intro w'
        go_simp
        with_reducible rfl
      rotate_left
      · simp only [Act.put, List.setIfInBounds_toArray, List.set_cons_zero, List.set_cons_succ, i64_w, i32_w]
        rfl
      refine pure_ (i := 15) (N := some 54) (v := ?_) (a' := ?_) #[true, true, true, true, true, true, true, true, true, true, true, false, true, false, false, true, false, false, false, false, false, false, false, false, false, false, false, false, false, false, false, false, false] rfl rfl (any_of HT_.out (by kernel_rfl)) (fun _ _ _ h => h) (Or.inl ⟨by rfl, ?_⟩) ?_ ?_
      rotate_left
      · intro w'
        go_simp
        with_reducible rfl
      rotate_left
      · simp only [Act.put, List.setIfInBounds_toArray, List.set_cons_zero, List.set_cons_succ, i64_w, i32_w]
        rfl
      refine pure_ (i := 17) (N := some 56) (v := ?_) (a' := ?_) #[true, true, true, true, true, true, true, true, true, true, true, false, true, false, false, true, false, true, false, false, false, false, false, false, false, false, false, false, false, false, false, false, false] rfl rfl (any_of HT_.out (by kernel_rfl)) (fun _ _ _ h => h) (Or.inl ⟨by rfl, ?_⟩) ?_ ?_
      rotate_left
      · intro w'
        go_simp
        with_reducible rfl
      rotate_left
      · simp only [Act.put, List.setIfInBounds_toArray, List.set_cons_zero, List.set_cons_succ, i64_w, i32_w]
        rfl
      refine pure_ (i := 22) (N := some 61) (v := ?_) (a' := ?_) #[true, true, true, true, true, true, true, true, true, true, true, false, true, false, false, true, false, true, false, false, false, false, true, false, false, false, false, false, false, false, false, false, false] rfl rfl (any_of HT_.out (by kernel_rfl)) (fun _ _ _ h => h) (Or.inl ⟨by rfl, ?_⟩) ?_ ?_
      rotate_left
      · intro w'
        go_simp
        with_reducible rfl
      rotate_left
      · simp only [Act.put, List.setIfInBounds_toArray, List.set_cons_zero, List.set_cons_succ, i64_w, i32_w]
        rfl
      refine pure_ (i := 24) (N := some 63) (v := ?_) (a' := ?_) #[true, true, true, true, true, true, true, true, true, true, true, false, true, false, false, true, false, true, false, false, false, false, true, false, true, false, false, false, false, false, false, false, false] rfl rfl (any_of HT_.out (by kernel_rfl)) (fun _ _ _ h => h) (Or.inl ⟨by rfl, ?_⟩) ?_ ?_
      rotate_left
      · intro w'
        go_simp
        with_reducible rfl
      rotate_left
      · simp only [Act.put, List.setIfInBounds_toArray, List.set_cons_zero, List.set_cons_succ, i64_w, i32_w]
        rfl
      refine take_ (i := 11) (N := some 50) (v := ?_) (a' := ?_) #[true, true, true, true, true, true, true, true, true, true, true, true, true, false, false, true, false, true, false, false, false, false, true, false, true, false, false, false, false, false, false, false, false] rfl rfl (take_ofW HT_.out HW_.out (by kernel_rfl)) (fun _ _ _ h => h) (Or.inl ⟨by rfl, ?_⟩) hHeld ?_ ?_
      rotate_left
      · rintro w' ⟨s0, s1, s2, s3, s4, s5, s6, s7, s8, s9, s10⟩
        go_simp
        with_reducible rfl
      rotate_left
      · simp only [Act.put, List.setIfInBounds_toArray, List.set_cons_zero, List.set_cons_succ, i64_w, i32_w]
        rfl
      refine take_ (i := 13) (N := some 52) (v := ?_) (a' := ?_) #[true, true, true, true, true, true, true, true, true, true, true, true, true, true, false, true, false, true, false, false, false, false, true, false, true, false, false, false, false, false, false, false, false] rfl rfl (take_ofW HT_.out HW_.out (by kernel_rfl)) (fun _ _ _ h => h) (Or.inl ⟨by rfl, ?_⟩) hHeld ?_ ?_
      rotate_left
      · rintro w' ⟨s0, s1, s2, s3, s4, s5, s6, s7, s8, s9, s10⟩
        go_simp
        with_reducible rfl
      rotate_left
      · simp only [Act.put, List.setIfInBounds_toArray, List.set_cons_zero, List.set_cons_succ, i64_w, i32_w]
        rfl
      refine take_ (i := 16) (N := some 55) (v := ?_) (a' := ?_) #[true, true, true, true, true, true, true, true, true, true, true, true, true, true, false, true, true, true, false, false, false, false, true, false, true, false, false, false, false, false, false, false, false] rfl rfl (take_ofW HT_.out HW_.out (by kernel_rfl)) (fun _ _ _ h => h) (Or.inl ⟨by rfl, ?_⟩) hHeld ?_ ?_
      rotate_left
      · rintro w' ⟨s0, s1, s2, s3, s4, s5, s6, s7, s8, s9, s10⟩
        go_simp
        with_reducible rfl
      rotate_left
      · simp only [Act.put, List.setIfInBounds_toArray, List.set_cons_zero, List.set_cons_succ, i64_w, i32_w]
        rfl
      refine pure_ (i := 18) (N := some 57) (v := ?_) (a' := ?_) #[true, true, true, true, true, true, true, true, true, true, true, true, true, true, false, true, true, true, true, false, false, false, true, false, true, false, false, false, false, false, false, false, false] rfl rfl (any_of HT_.out (by kernel_rfl)) (fun _ _ _ h => h) (Or.inl ⟨by rfl, ?_⟩) ?_ ?_
      rotate_left
      · intro w'
        go_simp
        with_reducible rfl
      rotate_left
      · simp only [Act.put, List.setIfInBounds_toArray, List.set_cons_zero, List.set_cons_succ, i64_w, i32_w]
        rfl
      refine pure_ (i := 19) (N := some 58) (v := ?_) (a' := ?_) #[true, true, true, true, true, true, true, true, true, true, true, true, true, true, false, true, true, true, true, true, false, false, true, false, true, false, false, false, false, false, false, false, false] rfl rfl (any_of HT_.out (by kernel_rfl)) (fun _ _ _ h => h) (Or.inl ⟨by rfl, ?_⟩) ?_ ?_
      rotate_left
      · intro w'
        go_simp
        with_reducible rfl
      rotate_left
      · simp only [Act.put, List.setIfInBounds_toArray, List.set_cons_zero, List.set_cons_succ, i64_w, i32_w]
        rfl
      refine take_ (i := 20) (N := some 59) (v := ?_) (a' := ?_) #[true, true, true, true, true, true, true, true, true, true, true, true, true, true, false, true, true, true, true, true, true, false, true, false, true, false, false, false, false, false, false, false, false] rfl rfl (take_ofW HT_.out HW_.out (by kernel_rfl)) (fun _ _ _ h => h) (Or.inl ⟨by rfl, ?_⟩) hHeld ?_ ?_
      rotate_left
      · rintro w' ⟨s0, s1, s2, s3, s4, s5, s6, s7, s8, s9, s10⟩
        go_simp
        with_reducible rfl
      rotate_left
      · simp only [Act.put, List.setIfInBounds_toArray, List.set_cons_zero, List.set_cons_succ, i64_w, i32_w]
        rfl
      refine take_ (i := 23) (N := some 62) (v := ?_) (a' := ?_) #[true, true, true, true, true, true, true, true, true, true, true, true, true, true, false, true, true, true, true, true, true, false, true, true, true, false, false, false, false, false, false, false, false] rfl rfl (take_ofW HT_.out HW_.out (by kernel_rfl)) (fun _ _ _ h => h) (Or.inl ⟨by rfl, ?_⟩) hHeld ?_ ?_
      rotate_left
      · rintro w' ⟨s0, s1, s2, s3, s4, s5, s6, s7, s8, s9, s10⟩
        go_simp
        with_reducible rfl
      rotate_left
      · simp only [Act.put, List.setIfInBounds_toArray, List.set_cons_zero, List.set_cons_succ, i64_w, i32_w]
        rfl
      refine pure_ (i := 25) (N := some 64) (v := ?_) (a' := ?_) #[true, true, true, true, true, true, true, true, true, true, true, true, true, true, false, true, true, true, true, true, true, false, true, true, true, true, false, false, false, false, false, false, false] rfl rfl (any_of HT_.out (by kernel_rfl)) (fun _ _ _ h => h) (Or.inl ⟨by rfl, ?_⟩) ?_ ?_
      rotate_left
      · intro w'
        go_simp
        with_reducible rfl
      rotate_left
      · simp only [Act.put, List.setIfInBounds_toArray, List.set_cons_zero, List.set_cons_succ, i64_w, i32_w]
        rfl
      refine pure_ (i := 26) (N := some 65) (v := ?_) (a' := ?_) #[true, true, true, true, true, true, true, true, true, true, true, true, true, true, false, true, true, true, true, true, true, false, true, true, true, true, true, false, false, false, false, false, false] rfl rfl (any_of HT_.out (by kernel_rfl)) (fun _ _ _ h => h) (Or.inl ⟨by rfl, ?_⟩) ?_ ?_
      rotate_left
      · intro w'
        go_simp
        with_reducible rfl
      rotate_left
      · simp only [Act.put, List.setIfInBounds_toArray, List.set_cons_zero, List.set_cons_succ, i64_w, i32_w]
        rfl
      refine take_ (i := 27) (N := some 66) (v := ?_) (a' := ?_) #[true, true, true, true, true, true, true, true, true, true, true, true, true, true, false, true, true, true, true, true, true, false, true, true, true, true, true, true, false, false, false, false, false] rfl rfl (take_ofW HT_.out HW_.out (by kernel_rfl)) (fun _ _ _ h => h) (Or.inl ⟨by rfl, ?_⟩) hHeld ?_ ?_
      rotate_left
      · rintro w' ⟨s0, s1, s2, s3, s4, s5, s6, s7, s8, s9, s10⟩
        go_simp
        with_reducible rfl
      rotate_left
      · simp only [Act.put, List.setIfInBounds_toArray, List.set_cons_zero, List.set_cons_succ, i64_w, i32_w]
        rfl
      refine one_ (i := 14) (N := some 53) #[true, true, true, true, true, true, true, true, true, true, true, true, true, true, true, true, true, true, true, true, true, false, true, true, true, true, true, true, false, false, false, false, false] rfl rfl (one_of HT_.out (by kernel_rfl)) (by decide) (fun K hK => ?_)
      refine goes_ Try.func34 (by kernel_rfl) rfl #[.agg #[.slice B0 l0.length d0, .slice A7 ly.length c7, .slice B2 l2.length d2, .slice B3 l3.length d3], .string x.f10] (by rfl) rfl rfl (by (try simp only [List.map_toArray, List.map_cons, List.map_nil]); first | done | rfl | (simp only [List.length_drop, List.length_take]; rfl)) ?_
      refine (rules_Owned.calls _ _ l0 _ _ ly _ _ l2 _ _ l3 x.f10 (m + 1) _ (Kd.C_below HU0.out HB18.out) HE.out.1 (Kd.C_below HU1.out HB18.out) HE7.out (Kd.C_below HU2.out HB18.out) HE.out.2.2.1 (Kd.C_below HU3.out HB18.out) HE.out.2.2.2 HM1.out).mono ?_
      rintro e w17_ ⟨rfl, hb⟩
      refine ⟨_, rfl, ?_⟩
      have HB19 := Aside0.mk (below_step HB18.out hb)
      clear hb HB18
      refine hK.out _ _ ⟨(blk_cell (blk_below HXgg.out HB19.out) 0).trans rfl, (blk_cell (blk_below HXgg.out HB19.out) 1).trans rfl, (blk_cell (blk_below HXgg.out HB19.out) 2).trans rfl, (blk_cell (blk_below HXgg.out HB19.out) 3).trans rfl, (blk_cell (blk_below HXG.out HB19.out) 0).trans rfl, (blk_cell (blk_below HXG.out HB19.out) 1).trans rfl, (blk_cell (blk_below HXG.out HB19.out) 2).trans rfl, (blk_cell (blk_below HXG.out HB19.out) 3).trans rfl, (blk_cell (blk_below HXP.out HB19.out) 11).trans rfl, (HB19.out.cell (World.block_lt_of_cell? w13_ _ HZ22.out)).trans HZ22.out, (HB19.out.cell (World.block_lt_of_cell? w13_ _ HZ23.out)).trans HZ23.out⟩ (fun hHeld => ?_)
      clear hK K
      refine norm_ (a' := ?_) ?_ ?_
      rotate_left
      · show Act.put _ (some 53) _ = _
        simp only [Act.put, List.setIfInBounds_toArray, List.set_cons_zero, List.set_cons_succ, i64_w, i32_w]
        rfl
      refine one_ (i := 21) (N := some 60) #[true, true, true, true, true, true, true, true, true, true, true, true, true, true, true, true, true, true, true, true, true, true, true, true, true, true, true, true, false, false, false, false, false] rfl rfl (one_of HT_.out (by kernel_rfl)) (by decide) (fun K hK => ?_)
      refine goes_ Try.func62 (by kernel_rfl) rfl #[.int .i64 d.f20] (by rfl) rfl rfl (by (try simp only [List.map_toArray, List.map_cons, List.map_nil]); first | done | rfl | (simp only [List.length_drop, List.length_take]; rfl)) ?_
      refine (flotillalaw16_held.calls d.f20 p _ HP.out).mono ?_
      rintro e w18_ ⟨rfl, hb⟩
      refine ⟨_, rfl, ?_⟩
      have HB20 := Aside0.mk (below_step HB19.out hb)
      clear hb HB19
      refine hK.out _ _ ⟨(blk_cell (blk_below HXgg.out HB20.out) 0).trans rfl, (blk_cell (blk_below HXgg.out HB20.out) 1).trans rfl, (blk_cell (blk_below HXgg.out HB20.out) 2).trans rfl, (blk_cell (blk_below HXgg.out HB20.out) 3).trans rfl, (blk_cell (blk_below HXG.out HB20.out) 0).trans rfl, (blk_cell (blk_below HXG.out HB20.out) 1).trans rfl, (blk_cell (blk_below HXG.out HB20.out) 2).trans rfl, (blk_cell (blk_below HXG.out HB20.out) 3).trans rfl, (blk_cell (blk_below HXP.out HB20.out) 11).trans rfl, (HB20.out.cell (World.block_lt_of_cell? w13_ _ HZ22.out)).trans HZ22.out, (HB20.out.cell (World.block_lt_of_cell? w13_ _ HZ23.out)).trans HZ23.out⟩ (fun hHeld => ?_)
      clear hK K
      refine norm_ (a' := ?_) ?_ ?_
      rotate_left
      · show Act.put _ (some 60) _ = _
        simp only [Act.put, List.setIfInBounds_toArray, List.set_cons_zero, List.set_cons_succ, i64_w, i32_w]
        rfl
      refine one_ (i := 28) (N := some 67) #[true, true, true, true, true, true, true, true, true, true, true, true, true, true, true, true, true, true, true, true, true, true, true, true, true, true, true, true, true, false, false, false, false] rfl rfl (one_of HT_.out (by kernel_rfl)) (by decide) (fun K hK => ?_)
      refine goes_ Try.func62 (by kernel_rfl) rfl #[.int .i64 d.f21] (by rfl) rfl rfl (by (try simp only [List.map_toArray, List.map_cons, List.map_nil]); first | done | rfl | (simp only [List.length_drop, List.length_take]; rfl)) ?_
      refine (flotillalaw16_held.calls d.f21 q _ HQ.out).mono ?_
      rintro e w19_ ⟨rfl, hb⟩
      refine ⟨_, rfl, ?_⟩
      have HB21 := Aside0.mk (below_step HB20.out hb)
      clear hb HB20
      refine hK.out _ _ ⟨(blk_cell (blk_below HXgg.out HB21.out) 0).trans rfl, (blk_cell (blk_below HXgg.out HB21.out) 1).trans rfl, (blk_cell (blk_below HXgg.out HB21.out) 2).trans rfl, (blk_cell (blk_below HXgg.out HB21.out) 3).trans rfl, (blk_cell (blk_below HXG.out HB21.out) 0).trans rfl, (blk_cell (blk_below HXG.out HB21.out) 1).trans rfl, (blk_cell (blk_below HXG.out HB21.out) 2).trans rfl, (blk_cell (blk_below HXG.out HB21.out) 3).trans rfl, (blk_cell (blk_below HXP.out HB21.out) 11).trans rfl, (HB21.out.cell (World.block_lt_of_cell? w13_ _ HZ22.out)).trans HZ22.out, (HB21.out.cell (World.block_lt_of_cell? w13_ _ HZ23.out)).trans HZ23.out⟩ (fun hHeld => ?_)
      clear hK K
      refine norm_ (a' := ?_) ?_ ?_
      rotate_left
      · show Act.put _ (some 67) _ = _
        simp only [Act.put, List.setIfInBounds_toArray, List.set_cons_zero, List.set_cons_succ, i64_w, i32_w]
        rfl
      refine pure_ (i := 29) (N := some 68) (v := ?_) (a' := ?_) #[true, true, true, true, true, true, true, true, true, true, true, true, true, true, true, true, true, true, true, true, true, true, true, true, true, true, true, true, true, true, false, false, false] rfl rfl (any_of HT_.out (by kernel_rfl)) (fun _ _ _ h => h) (Or.inl ⟨by rfl, ?_⟩) ?_ ?_
      rotate_left
      · intro w'
        go_simp
        with_reducible rfl
      rotate_left
      · simp only [Act.put, List.setIfInBounds_toArray, List.set_cons_zero, List.set_cons_succ, i64_w, i32_w]
        rfl
      refine pure_ (i := 30) (N := some 69) (v := ?_) (a' := ?_) #[true, true, true, true, true, true, true, true, true, true, true, true, true, true, true, true, true, true, true, true, true, true, true, true, true, true, true, true, true, true, true, false, false] rfl rfl (any_of HT_.out (by kernel_rfl)) (fun _ _ _ h => h) (Or.inl ⟨by rfl, ?_⟩) ?_ ?_
      rotate_left
      · intro w'
        go_simp
        with_reducible rfl
      rotate_left
      · simp only [Act.put, List.setIfInBounds_toArray, List.set_cons_zero, List.set_cons_succ, i64_w, i32_w]
        rfl
      refine pure_ (i := 31) (N := some 70) (v := ?_) (a' := ?_) #[true, true, true, true, true, true, true, true, true, true, true, true, true, true, true, true, true, true, true, true, true, true, true, true, true, true, true, true, true, true, true, true, false] rfl rfl (any_of HT_.out (by kernel_rfl)) (fun _ _ _ h => h) (Or.inl ⟨by rfl, ?_⟩) ?_ ?_
      rotate_left
      · intro w'
        go_simp
        with_reducible rfl
      rotate_left
      · simp only [Act.put, List.setIfInBounds_toArray, List.set_cons_zero, List.set_cons_succ, i64_w, i32_w]
        rfl
      refine pure_ (i := 32) (N := some 4) (v := ?_) (a' := ?_) #[true, true, true, true, true, true, true, true, true, true, true, true, true, true, true, true, true, true, true, true, true, true, true, true, true, true, true, true, true, true, true, true, true] rfl rfl (any_of HT_.out (by kernel_rfl)) (fun _ _ _ h => h) (Or.inl ⟨by rfl, ?_⟩) ?_ ?_
      rotate_left
      · intro w'
        go_simp
        with_reducible rfl
      rotate_left
      · simp only [Act.put, List.setIfInBounds_toArray, List.set_cons_zero, List.set_cons_succ, i64_w, i32_w]
        rfl
      refine done_ (done_of HT_.out (by kernel_rfl)) ?_
      go_wp2
      go_ret
      exact ⟨rfl, (below_step HW.out HB21.out)⟩
end Go.Proofs.Ytamjjeakkkdfhaa.G
end
