/- Parts of the proof of RulesCounted: lemmas, put together by a program of this session (pack.py) out of the kit's words, printed contracts and texts of its own. -/
import Derived.Test.YtamjjeakkkdfhaaProg
import Derived.Below
import Derived.Deep.Draws
import Derived.Deep.AppendLies
import Derived.Maps.AppendAt
import Derived.OwnWalk
import Derived.Laws.BytesArg
import Derived.Laws.MakeOwn
import Derived.Laws.OwnMore
import Derived.Deep.OwnRows
import Derived.Tactics
import Derived.Lib.ConvBytes
import Derived.Laws.Slices
import Derived.WalkKit
import Derived.KernelRfl
import Derived.RowKit3
import Derived.Deep.LoopGhost
import Derived.Deep.QuietTactic
import Derived.BigQuiet
import Derived.WideLaws
import Derived.Deep.DeepCutAuto
import Derived.Deep.CutBlock
import Derived.Deep.RegionHeld3
import Derived.Laws.Rows
import Derived.Lib.AppendStr
import Derived.ArgAppend
import Derived.Laws.IdiomCopy
import Derived.OrdersHeld
import Derived.Laws.BitsLemmas
import Derived.RowKit
import Derived.Laws.StructEq
import Derived.RangeFuncNested
import Derived.RangeFuncBound
import Derived.RangeFuncCalls
import Derived.RangeFuncLeaves
import Derived.Shelf.Abstract
import Derived.Shelf.RegionOpen
import Derived.OwnWalkIn
import Derived.TacticsInMore
import Derived.LoopNIn
import Derived.LoopIn
import Derived.Maps.Own
import Derived.Maps.OwnOps
import Derived.Maps.Views
import Derived.StringKeys
import Derived.ChangeArms
import Derived.SizedLaws
import Derived.SliceStrings
import Derived.Test.YtamjjeakkkdfhaaZRulesCounteda
import Derived.Test.YtamjjeakkkdfhaaZRulesCountedb
import Derived.Test.YtamjjeakkkdfhaaZRulesCountedc
import Derived.Test.YtamjjeakkkdfhaaZRulesCountedd
namespace Foot
end Foot
namespace Go.Proofs.Ytamjjeakkkdfhaa
end Go.Proofs.Ytamjjeakkkdfhaa
namespace Go.Proofs.Ytamjjeakkkdfhaa.G
end Go.Proofs.Ytamjjeakkkdfhaa.G
namespace Go.Proofs.Ytamjjeakkkdfhaa.K
end Go.Proofs.Ytamjjeakkkdfhaa.K
namespace Go.Proofs.Ytamjjeakkkdfhaa.OP
end Go.Proofs.Ytamjjeakkkdfhaa.OP
namespace Go.Proofs.Ytamjjeakkkdfhaa.PB
end Go.Proofs.Ytamjjeakkkdfhaa.PB
namespace Go.Proofs.Ytamjjeakkkdfhaa.PC
end Go.Proofs.Ytamjjeakkkdfhaa.PC
namespace Go.Proofs.Ytamjjeakkkdfhaa.PD
end Go.Proofs.Ytamjjeakkkdfhaa.PD
namespace Go.Proofs.Ytamjjeakkkdfhaa.rulesCounted
end Go.Proofs.Ytamjjeakkkdfhaa.rulesCounted
namespace Go.Proofs.YtamjjeakkkdfhaaE
end Go.Proofs.YtamjjeakkkdfhaaE
namespace Go.Proofs.YtamjjeakkkdfhaaRF
end Go.Proofs.YtamjjeakkkdfhaaRF
namespace Go.Proofs.YtamjjeakkkdfhaaW.PrintLast
end Go.Proofs.YtamjjeakkkdfhaaW.PrintLast
namespace Go.Proofs.YtamjjeakkkdfhaaW.PrintMore
end Go.Proofs.YtamjjeakkkdfhaaW.PrintMore
namespace Go.Proofs.YtamjjeakkkdfhaaW.PrintWords
end Go.Proofs.YtamjjeakkkdfhaaW.PrintWords
namespace Kd
end Kd
section
namespace Go.Proofs.Ytamjjeakkkdfhaa.G
open Go.RowKit Go.Proofs.YtamjjeakkkdfhaaW.PrintWords Go.Proofs.YtamjjeakkkdfhaaW.PrintLast Go.Proofs.YtamjjeakkkdfhaaW.PrintMore
open Go.Proofs.Ytamjjeakkkdfhaa.K Go.Proofs.YtamjjeakkkdfhaaE Go.Proofs.Ytamjjeakkkdfhaa.PB
set_option linter.unusedVariables false
set_option linter.unusedSimpArgs false
def kLO : Kd S68 where
  sz := 32
  E := kLent.E
  K := fun w x cs => ∃ v4 v27, cs = (cO x v4 v27).toList ∧ kLent.K w x.f4 [v4] ∧ kLent.K w x.f25 [v27]
  M := fun w base ok x cs => ∃ v4 v27, cs = (cO x v4 v27).toList ∧ kLent.M w base ok x.f4 [v4] ∧ kLent.M w base ok x.f25 [v27]
  K_len := by
    rintro w x cs ⟨v4, v27, rfl, _⟩
    rfl
  K_one := by
    rintro w x cs ⟨v4, v27, rfl, h4, h27⟩ u hu
    have e4 := kLent.K_one h4 v4 (List.mem_singleton_self _)
    have e27 := kLent.K_one h27 v27 (List.mem_singleton_self _)
    exact List.all_eq_true.1 (cO_one e4 e27) u hu
  K_below := by
    rintro w w1 x cs hb ⟨v4, v27, rfl, h4, h27⟩
    exact ⟨v4, v27, rfl, kLent.K_below hb h4, kLent.K_below hb h27⟩
  K_of_M := by
    rintro w base ok x cs ⟨v4, v27, rfl, h4, h27⟩
    exact ⟨v4, v27, rfl, kLent.K_of_M h4, kLent.K_of_M h27⟩
  M_mono := by
    rintro w base ok ok' x cs hok ⟨v4, v27, rfl, h4, h27⟩
    exact ⟨v4, v27, rfl, kLent.M_mono hok h4, kLent.M_mono hok h27⟩
  M_bound := by
    rintro w base ok x cs ⟨v4, v27, rfl, h4, h27⟩
    exact ⟨v4, v27, rfl, kLent.M_bound h4, kLent.M_bound h27⟩
  M_move := by
    rintro w w1 base ok x cs hm ⟨v4, v27, rfl, h4, h27⟩
    exact ⟨v4, v27, rfl, kLent.M_move hm h4, kLent.M_move hm h27⟩
  M_lower := by
    rintro w base base' ok x cs hb ⟨v4, v27, rfl, h4, h27⟩
    exact ⟨v4, v27, rfl, kLent.M_lower hb h4, kLent.M_lower hb h27⟩
theorem kLent_kO {w : World} {x : S68} {v4 v27 : Value} (h4 : kLent.K w x.f4 [v4]) (h27 : kLent.K w x.f25 [v27]) : kO w x v4 v27 := by
  obtain ⟨A4, c4, e4, l4, g4⟩ := h4
  obtain ⟨A27, c27, e27, l27, g27⟩ := h27
  simp only [List.cons.injEq, and_true] at e4 e27
  exact ⟨A4, c4, A27, c27, e4, e27, by omega, C_front g4, by omega, C_front g27⟩
theorem kLent_one {w : World} {l : List S31} {v : Value} (h : kLent.K w l [v]) : v.cells.toList = [v] := by
  obtain ⟨A, c, e, -⟩ := h
  simp only [List.cons.injEq, and_true] at e
  rw [e]; rfl
theorem kLO_K {w : World} {x : S68} {cs : List Value} (h : kLO.K w x cs) : k68.K w x cs := by
  obtain ⟨v4, v27, rfl, h4, h27⟩ := h
  exact kO_K (kLent_kO h4 h27)
theorem kLO_C {w : World} {A : Option Addr} {n : Nat} {xs : List S68} (h : kLO.C w A n xs) : k68.C w A n xs := ReadsRow.imp_ h (Below.refl _ _) (fun _ _ hp => kLO_K hp)
theorem at_lent {w : World} {A : Option Addr} {n : Nat} {xs : List S68} (h : kLO.C w A n xs) (i : Nat) (hi : i < n) : ∃ ad v4 v27, A = some ad ∧ kLent.K w (rd_T68 xs (i : Int)).f4 [v4] ∧ kLent.K w (rd_T68 xs (i : Int)).f25 [v27] ∧ ∀ (j : Nat) (v : Value), (cO (rd_T68 xs (i : Int)) v4 v27).toList[j]? = some v → w.cell? ((ad.add (i * 32)).add j) = some v := by
  obtain ⟨ad, cs, e, hcl, hK, hcells⟩ := Kd.C_get h z68 (i : Int) (by omega) (by omega)
  obtain ⟨v4, v27, rfl, h4, h27⟩ := hK
  refine ⟨ad, v4, v27, e, h4, h27, fun j v hv => ?_⟩
  have := hcells j v hv
  rw [Int.toNat_natCast] at this
  rw [addr_add_add]; exact this
theorem okR_len {x : S68} (h : okR x) : x.f4.length ≤ 4398046511000 ∧ x.f25.length ≤ 4398046511000 := by
  obtain ⟨-, h4, h27⟩ := h
  have e : reachBytes = 140737488351232 := rfl
  omega
set_option maxRecDepth 100000 in
set_option maxHeartbeats 8000000 in
theorem kept_object (x : S68) (v4 v27 u4 u27 : Value) (w : World) (h4l : kLent.K w x.f4 [v4]) (h27l : kLent.K w x.f25 [v27]) (hy : kO w x u4 u27) (hok : okR x) :
    Calls Try.prog 119 #[.agg (cO x v4 v27), .agg (cO x u4 u27)] w fun e w' => e = .returned (.bool true) ∧ Below w.heap.size w w' := by
  obtain ⟨B4, d4, B27, d27, e4, e27, m4, h4, m27, h27⟩ := hy
  subst e4 e27
  have HK4 := Aside0.mk h4l
  have HK27 := Aside0.mk h27l
  have HH4 := Aside0.mk h4
  have HH27 := Aside0.mk h27
  have HM := Aside0.mk (And.intro m4 m27)
  have HO := Aside0.mk (okR_len hok)
  clear h4l h27l h4 h27 m4 m27 hok
  have hu68 := Try.underlying68
  go_enter Try.func119, Try.ntmps119
  go_wp2_with ((with_reducible refine gate_dst (N := 2) rfl ?_); refine hold ?_)
  refine Hold.intro ?_
  refine box_event (N := 2) (cs := cO x v4 v27) (t := 68) rfl rfl ?hsga ?_
  case hsga => unfold cO; first | (go_simp; done) | (go_simp; rfl)
  intro ga hg wa hbox hb
  have HXga := Aside0.mk hbox
  have HBA := Aside0.mk hb
  clear hbox hb hg
  go_wp2_with ((with_reducible refine gate_dst (N := 3) rfl ?_); refine hold ?_)
  refine Hold.intro ?_
  refine box_event (N := 3) (cs := cO x (.slice B4 x.f4.length d4) (.slice B27 x.f25.length d27)) (t := 68) rfl rfl ?hsgb ?_
  case hsgb => unfold cO; first | (go_simp; done) | (go_simp; rfl)
  intro gb hg wb hbox hb
  have HXgb := Aside0.mk hbox
  replace HXga := Aside0.mk (blk_below HXga.out hb)
  have HB0 := Aside0.mk (below_step HBA.out hb)
  clear hbox hb hg HBA
  go_wp2_with (first | ((with_reducible refine gate_load (t := 68) rfl ?_); refine load_obj rfl rfl rfl HXga.out rfl ?_) | ((with_reducible refine gate_load (t := 68) rfl ?_); refine load_obj rfl rfl rfl HXgb.out rfl ?_) | (go_at_call 131; refine hold ?_))
  refine Hold.intro ((same_object x _ _ _ _ _ (kO_below (kLent_kO HK4.out HK27.out) HB0.out) ⟨B4, d4, B27, d27, rfl, rfl, HM.out.1, Kd.C_below HH4.out HB0.out, HM.out.2, Kd.C_below HH27.out HB0.out⟩).mono ?_)
  rintro e w1_ ⟨rfl, hb⟩
  replace HXga := Aside0.mk (blk_below HXga.out hb)
  replace HXgb := Aside0.mk (blk_below HXgb.out hb)
  have HB1 := Aside0.mk (below_step HB0.out hb)
  clear hb HB0
  have hp : w1_.cell? ⟨ga, 4, none⟩ = some (v4) := (blk_cell HXga.out 4).trans rfl
  have hq : w1_.cell? ⟨gb, 4, none⟩ = some (.slice B4 x.f4.length d4) := (blk_cell HXgb.out 4).trans rfl
  go_wp2_with (first | (go_at_call 17; refine hold ?_))
  refine Hold.intro ((kept_labels x.f4 v4 _ _ _ (kLent.K_below HB1.out HK4.out) (Kd.C_below HH4.out HB1.out) HO.out.1).mono ?_)
  rintro e w2_ ⟨rfl, hb⟩
  replace HXga := Aside0.mk (blk_below HXga.out hb)
  replace HXgb := Aside0.mk (blk_below HXgb.out hb)
  have HB2 := Aside0.mk (below_step HB1.out hb)
  clear hb HB1 hp hq
  have hp : w2_.cell? ⟨ga, 27, none⟩ = some (v27) := (blk_cell HXga.out 27).trans rfl
  have hq : w2_.cell? ⟨gb, 27, none⟩ = some (.slice B27 x.f25.length d27) := (blk_cell HXgb.out 27).trans rfl
  go_wp2_with (first | (go_at_call 17; refine hold ?_))
  refine Hold.intro ((kept_labels x.f25 v27 _ _ _ (kLent.K_below HB2.out HK27.out) (Kd.C_below HH27.out HB2.out) HO.out.2).mono ?_)
  rintro e w3_ ⟨rfl, hb⟩
  replace HXga := Aside0.mk (blk_below HXga.out hb)
  replace HXgb := Aside0.mk (blk_below HXgb.out hb)
  have HB3 := Aside0.mk (below_step HB2.out hb)
  clear hb HB2 hp hq
  go_wp2
  go_ret
  exact ⟨rfl, HB3.out⟩
def kob.T6 : Bool × List (List Nat × List Nat) := (true, [([], []), ([], []), ([0, 1], [0, 1]), ([2], [2]), ([], []), ([], []), ([4, 5], [4, 5]), ([6], [6]), ([3, 7], [3, 7]), ([8], [8])])
def kob.B6 : List Nat := [0, 0, 3, 7, 0, 0, 48, 112, 255, 511]
theorem kob.tab6 : rtab .any (opsOf Try.f91 6) = kob.T6 := by kernel_rfl
theorem kob.bits6 : waitsOk kob.T6.2 kob.B6 = true := by kernel_rfl
set_option maxRecDepth 100000 in
set_option maxHeartbeats 4000000 in
theorem kept_objects (A0 : Option Addr) (c0 : Nat) (A1 : Option Addr) (c1 : Nat) (l : List S68) (w : World) (h0 : kLO.C w A0 l.length l) (h1 : k68.C w A1 l.length l) (hok : okRow l) :
    Calls Try.prog 91 #[.slice A0 l.length c0, .slice A1 l.length c1] w fun e w' => e = .returned (.bool true) ∧ Below w.heap.size w w' := by
  have hl := h0.2.1
  have HR0 := Aside0.mk h0
  have HR1 := Aside0.mk h1
  have HOK := Aside0.mk hok
  clear h0 h1 hok
  go_enter Try.func91, Try.ntmps91
  go_wp2
  go_loopw [5] (fun i wr => ∃ k : Nat, k ≤ l.length ∧ i = .int .i64 k ∧ Aside0 (Below w.heap.size w wr)) (fun i _ => l.length - (intOf i).toNat)
  case atStart => exact ⟨0, Nat.zero_le _, rfl, ⟨Below.refl _ _⟩⟩
  case round =>
    obtain ⟨k, hk, rfl, HB⟩ := hrel
    by_cases hlt : k < l.length
    · have HLT := Aside0.mk hlt
      obtain ⟨y, hy⟩ : ∃ y, y = l[k] := ⟨_, rfl⟩
      have hrd : rd_T68 l (k : Int) = y := by rw [rd_get hlt, hy]
      have HOY := Aside0.mk (show okR y from HOK.out.2 y (by rw [hy]; exact List.getElem_mem hlt))
      obtain ⟨ad0, v4, v27, hA0, q4, q27, hall0⟩ := at_lent HR0.out k hlt
      obtain ⟨ad1, u4, u27, hA1, hky, -, -, hall1⟩ := at_all HR1.out k hlt
      rw [hrd] at q4 q27 hall0 hky hall1
      have HK4 := Aside0.mk q4
      have HK27 := Aside0.mk q27
      have HKY := Aside0.mk hky
      have HA0 := Aside0.mk hall0
      have HA1 := Aside0.mk hall1
      cases hA0
      cases hA1
      clear hy hrd q4 q27 hky hall0 hall1
      go_wp2
      have HB1 := Aside0.mk (below_drew1 HB.out)
      clear HB
      refine start_ (n := 10) (S := fun w' => (∀ (j : Nat) (v : Value), (cO y v4 v27).toList[j]? = some v → w'.cell? ((ad0.add (k * 32)).add j) = some v) ∧ (∀ (j : Nat) (v : Value), (cO y u4 u27).toList[j]? = some v → w'.cell? ((ad1.add (k * 32)).add j) = some v)) (ds := []) #[false, false, false, false, false, false, false, false, false, false] (by kernel_rfl) rfl rfl ⟨(fun j v hj => (HB1.out.cell (World.block_lt_of_cell? w _ (HA0.out j v hj))).trans (HA0.out j v hj)), (fun j v hj => (HB1.out.cell (World.block_lt_of_cell? w _ (HA1.out j v hj))).trans (HA1.out j v hj))⟩ (fun hHeld => ?_); refine with_tabW kob.tab6 kob.bits6 (fun HT_ HW_ => ?_)
      generalize wr.drew = wd at HB1 hHeld ⊢
      refine pure_ (i := 0) (N := some 17) (v := ?_) (a' := ?_) #[true, false, false, false, false, false, false, false, false, false] rfl rfl (any_of HT_.out (by kernel_rfl)) (fun _ _ _ h => h) (Or.inl ⟨by rfl, ?_⟩) ?_ ?_
      rotate_left
      · intro w'
        go_simp
        with_reducible rfl
      rotate_left
      · simp only [Act.put, List.setIfInBounds_toArray, List.set_cons_zero, List.set_cons_succ, i64_w, i32_w]
        rfl
      refine pure_ (i := 1) (N := some 18) (v := ?_) (a' := ?_) #[true, true, false, false, false, false, false, false, false, false] rfl rfl (any_of HT_.out (by kernel_rfl)) (fun _ _ _ h => h) (Or.inl ⟨by rfl, ?_⟩) ?_ ?_
      rotate_left
      · intro w'
        go_simp
        with_reducible rfl
      rotate_left
      · simp only [Act.put, List.setIfInBounds_toArray, List.set_cons_zero, List.set_cons_succ, i64_w, i32_w]
        rfl
      refine pure_ (i := 2) (N := some 19) (v := ?_) (a' := ?_) #[true, true, true, false, false, false, false, false, false, false] rfl rfl (any_of HT_.out (by kernel_rfl)) (fun _ _ _ h => h) (Or.inl ⟨by rfl, ?_⟩) ?_ ?_
      rotate_left
      · intro w'
        go_simp
        with_reducible rfl
      rotate_left
      · simp only [Act.put, List.setIfInBounds_toArray, List.set_cons_zero, List.set_cons_succ, i64_w, i32_w]
        rfl
      refine pure_ (i := 4) (N := some 21) (v := ?_) (a' := ?_) #[true, true, true, false, true, false, false, false, false, false] rfl rfl (any_of HT_.out (by kernel_rfl)) (fun _ _ _ h => h) (Or.inl ⟨by rfl, ?_⟩) ?_ ?_
      rotate_left
      · intro w'
        go_simp
        with_reducible rfl
      rotate_left
      · simp only [Act.put, List.setIfInBounds_toArray, List.set_cons_zero, List.set_cons_succ, i64_w, i32_w]
        rfl
      refine pure_ (i := 5) (N := some 22) (v := ?_) (a' := ?_) #[true, true, true, false, true, true, false, false, false, false] rfl rfl (any_of HT_.out (by kernel_rfl)) (fun _ _ _ h => h) (Or.inl ⟨by rfl, ?_⟩) ?_ ?_
      rotate_left
      · intro w'
        go_simp
        with_reducible rfl
      rotate_left
      · simp only [Act.put, List.setIfInBounds_toArray, List.set_cons_zero, List.set_cons_succ, i64_w, i32_w]
        rfl
      refine pure_ (i := 6) (N := some 23) (v := ?_) (a' := ?_) #[true, true, true, false, true, true, true, false, false, false] rfl rfl (any_of HT_.out (by kernel_rfl)) (fun _ _ _ h => h) (Or.inl ⟨by rfl, ?_⟩) ?_ ?_
      rotate_left
      · intro w'
        go_simp
        with_reducible rfl
      rotate_left
      · simp only [Act.put, List.setIfInBounds_toArray, List.set_cons_zero, List.set_cons_succ, i64_w, i32_w]
        rfl
      refine take_ (i := 3) (N := some 20) (v := ?_) (a' := ?_) #[true, true, true, true, true, true, true, false, false, false] rfl rfl (take_ofW HT_.out HW_.out (by kernel_rfl)) (fun _ _ _ h => h) (Or.inl ⟨by rfl, ?_⟩) hHeld ?_ ?_
      rotate_left
      · rintro w' ⟨s0, s1⟩
        refine load_elem_run (p := .tmp 19) ?_ ?_ s0 <;> rfl
      rotate_left
      · simp only [Act.put, List.setIfInBounds_toArray, List.set_cons_zero, List.set_cons_succ, i64_w, i32_w]
        rfl
      refine take_ (i := 7) (N := some 24) (v := ?_) (a' := ?_) #[true, true, true, true, true, true, true, true, false, false] rfl rfl (take_ofW HT_.out HW_.out (by kernel_rfl)) (fun _ _ _ h => h) (Or.inl ⟨by rfl, ?_⟩) hHeld ?_ ?_
      rotate_left
      · rintro w' ⟨s0, s1⟩
        refine load_elem_run (p := .tmp 23) ?_ ?_ s1 <;> rfl
      rotate_left
      · simp only [Act.put, List.setIfInBounds_toArray, List.set_cons_zero, List.set_cons_succ, i64_w, i32_w]
        rfl
      refine one_ (i := 8) (N := some 25) #[true, true, true, true, true, true, true, true, true, false] rfl rfl (one_of HT_.out (by kernel_rfl)) (by decide) (fun K hK => ?_)
      refine goes_ Try.func119 (by kernel_rfl) rfl #[.agg (cO y v4 v27), .agg (cO y u4 u27)] (by rfl) rfl rfl (by (try simp only [List.map_toArray, List.map_cons, List.map_nil]); first | done | rfl | (simp only [List.length_drop, List.length_take]; rfl)) ?_
      refine (kept_object y _ _ _ _ _ (kLent.K_below HB1.out HK4.out) (kLent.K_below HB1.out HK27.out) (kO_below HKY.out HB1.out) HOY.out).mono ?_
      rintro e w3 ⟨rfl, hb⟩
      refine ⟨_, rfl, ?_⟩
      have HB2 := Aside0.mk (below_step HB1.out hb)
      clear hb HB1
      refine hK.out _ _ ⟨(fun j v hj => (HB2.out.cell (World.block_lt_of_cell? w _ (HA0.out j v hj))).trans (HA0.out j v hj)), (fun j v hj => (HB2.out.cell (World.block_lt_of_cell? w _ (HA1.out j v hj))).trans (HA1.out j v hj))⟩ (fun hHeld => ?_)
      clear hK K
      refine norm_ (a' := ?_) ?_ ?_
      rotate_left
      · show Act.put _ (some 25) _ = _
        simp only [Act.put, List.setIfInBounds_toArray, List.set_cons_zero, List.set_cons_succ, i64_w, i32_w]
        rfl
      refine pure_ (i := 9) (N := some 26) (v := ?_) (a' := ?_) #[true, true, true, true, true, true, true, true, true, true] rfl rfl (any_of HT_.out (by kernel_rfl)) (fun _ _ _ h => h) (Or.inl ⟨by rfl, ?_⟩) ?_ ?_
      rotate_left
      · intro w'
        go_simp
        with_reducible rfl
      rotate_left
      · simp only [Act.put, List.setIfInBounds_toArray, List.set_cons_zero, List.set_cons_succ, i64_w, i32_w]
        rfl
      refine done_ (done_of HT_.out (by kernel_rfl)) ?_
      go_wp2
      go_roundw
      case rel => exact ⟨k + 1, by have := HLT.out; omega, by simp, HB2⟩
      case measure => have := HLT.out; simp [intOf]; omega
    · obtain rfl : k = l.length := by omega
      go_wp2
      go_ret
      exact ⟨rfl, HB.out⟩
set_option maxRecDepth 100000 in
set_option maxHeartbeats 4000000 in
theorem lent_object (x : S68) (v4 v27 : Value) (w : World) (hx : kO w x v4 v27) (hok : okR x) :
    Calls Try.prog 118 #[.agg (cO x v4 v27)] w fun e w' => ∃ u4 u27, e = .returned (.agg (cO x u4 u27)) ∧ kLent.M w' w.heap.size (fun _ => True) x.f4 [u4] ∧ kLent.M w' w.heap.size (fun _ => True) x.f25 [u27] ∧ Below w.heap.size w w' := by
  have HO := Aside0.mk (okR_len hok)
  have HKO := Aside0.mk hx
  obtain ⟨A4, c4, A27, c27, e4, e27, l4, g4, l27, g27⟩ := hx
  subst e4 e27
  have HG4 := Aside0.mk g4
  have HG27 := Aside0.mk g27
  have HL := Aside0.mk (And.intro l4 l27)
  clear g4 g27 l4 l27 hok
  have hu68 := Try.underlying68
  go_enter Try.func118, Try.ntmps118
  go_wp2_with ((with_reducible refine gate_dst (N := 1) rfl ?_); refine hold ?_)
  refine Hold.intro ?_
  refine box_event (N := 1) (cs := cO x (.slice A4 x.f4.length c4) (.slice A27 x.f25.length c27)) (t := 68) rfl rfl ?hsgs ?_
  case hsgs => unfold cO; first | (go_simp; done) | (go_simp; rfl)
  intro gs hg w1 hbox hb
  have HXgs := Aside0.mk hbox
  have HB1 := Aside0.mk hb
  clear hbox hb hg
  go_wp2_with ((with_reducible refine gate_dst (N := 2) rfl ?_); refine hold ?_)
  refine Hold.intro (alloc_obj rfl rfl (N := 2) rfl ?_)
  intro gr hg w2 hbox hb
  have HXr := Aside0.mk hbox
  have HGR := Aside0.mk (show w.heap.size ≤ gr ∧ gr < w2.heap.size from ⟨by rw [hg]; exact HB1.out.size, blk_lt hbox⟩)
  replace HXgs := Aside0.mk (blk_below HXgs.out hb)
  have HGS := Aside0.mk (blk_lt HXgs.out)
  have HB2 := Aside0.mk (below_step HB1.out hb)
  clear hbox hb hg HB1
  go_wp2_with (first | ((with_reducible refine gate_load (t := 68) rfl ?_); refine load_obj rfl rfl rfl HXgs.out rfl ?_) | ((with_reducible refine gate_dst (N := 3) rfl ?_); refine hold ?_))
  refine Hold.intro (alloc_obj rfl rfl (N := 3) rfl ?_)
  intro gx hg w3 hbox hb
  have HXx := Aside0.mk hbox
  have HGX := Aside0.mk (show w2.heap.size ≤ gx by rw [hg]; exact Nat.le_refl _)
  replace HXgs := Aside0.mk (blk_below HXgs.out hb)
  replace HXr := Aside0.mk (blk_below HXr.out hb)
  have HB3 := Aside0.mk (below_step HB2.out hb)
  have HZ3 := Aside0.mk hb.size
  clear hbox hb hg HB2
  go_wp2_with ((with_reducible refine gate_store (t := 68) (p := 3) rfl ?_); refine hold ?_)
  refine Hold.intro (box_store_event (t := 68) (ty := 68) (p := 3) (x := .tmp 4) (g := gx) (cs := zcObj) (cs' := cO x (.slice A4 x.f4.length c4) (.slice A27 x.f25.length c27)) rfl rfl rfl rfl rfl size68 HXx.out rfl (cO_one rfl rfl) ?_)
  intro w4 hbox hg
  replace HXx := Aside0.mk hbox
  have HWX := Aside0.mk (show w.heap.size ≤ gx by have h1 := HGX.out; have h2 := HGR.out; omega)
  replace HXgs := Aside0.mk (blk_grown HXgs.out hg (fun e => by injection e with e; have h1 := HGX.out; have h2 := HGS.out; omega))
  replace HXr := Aside0.mk (blk_grown HXr.out hg (fun e => by injection e with e; have h1 := HGX.out; have h2 := HGR.out; omega))
  have HB4 := Aside0.mk (Below.grown HB3.out hg HB3.out.size (fun k e => by injection e with e; rw [← e]; exact HWX.out))
  have hsz4 := hg.size
  clear hbox hg HB3
  have HZ4 := Aside0.mk (show w2.heap.size ≤ w4.heap.size from Nat.le_trans HZ3.out hsz4)
  have hp : w4.cell? ⟨gs, 4, none⟩ = some (.slice A4 x.f4.length c4) := (blk_cell HXgs.out 4).trans rfl
  go_wp2_with (go_at_call 13; refine hold ?_)
  refine Hold.intro ((lent_labels _ _ x.f4 _ (Kd.C_below HG4.out HB4.out) HL.out.1 HO.out.1).mono ?_)
  rintro e w5 ⟨u4, rfl, hm, hb⟩
  have H4 := Aside0.mk (kLent.M_mono (ok' := fun k_ => w2.heap.size ≤ k_ ∧ k_ ≠ gx ∧ k_ < w5.heap.size) (fun k_ h_ => ⟨h_.2.1, fun e_ => by obtain ⟨q, hq, cells, hc⟩ := h_.2.2.2; have h1 := blk_below HXx.out hb; rw [e_, h1] at hc; injection hc with hc; injection hc with hc1 hc2; rw [← hc2] at hq; revert hq; decide, h_.2.2.1⟩) (kLent.M_bound (kLent.M_lower (show w2.heap.size ≤ w4.heap.size from HZ4.out) hm)))
  replace HXgs := Aside0.mk (blk_below HXgs.out hb)
  replace HXr := Aside0.mk (blk_below HXr.out hb)
  replace HXx := Aside0.mk (blk_below HXx.out hb)
  have HB5 := Aside0.mk (below_step HB4.out hb)
  have HZa5 := Aside0.mk hb.size
  clear hb hm hp HB4
  go_wp2_with ((with_reducible refine gate_store (t := 22) (p := 8) rfl ?_); refine hold ?_)
  refine Hold.intro (cell_store_event (t := 22) (ty := 68) (p := 8) (g := gx) (j := 4) (cs := cO x (.slice A4 x.f4.length c4) (.slice A27 x.f25.length c27)) (v := u4) rfl rfl rfl rfl rfl (by kernel_rfl) HXx.out (by rw [cO_size]; decide) (kLent_one (kLent.K_of_M H4.out)) (kLent.K_one (kLent.K_of_M H4.out) u4 (List.mem_singleton_self _)) ?_)
  intro w6 hbox hg
  replace H4 := Aside0.mk (kLent.M_mono (ok' := fun k_ => w2.heap.size ≤ k_ ∧ k_ ≠ gx ∧ k_ < w6.heap.size) (fun k_ h_ => ⟨h_.1, h_.2.1, Nat.lt_of_lt_of_le h_.2.2 hg.size⟩) (kLent.M_move (fun k_ hk_ => hg.block k_ hk_.2.2 (fun e => by injection e with e; exact hk_.2.1 e)) H4.out))
  replace HXx := Aside0.mk (show w6.heap[gx]? = some (.cells (cO x u4 (.slice A27 x.f25.length c27)) 68 (0, 0)) from hbox)
  replace HXgs := Aside0.mk (blk_grown HXgs.out hg (fun e => by injection e with e; have h1 := HGX.out; have h2 := HGS.out; omega))
  replace HXr := Aside0.mk (blk_grown HXr.out hg (fun e => by injection e with e; have h1 := HGX.out; have h2 := HGR.out; omega))
  have HB6 := Aside0.mk (Below.grown HB5.out hg HB5.out.size (fun k e => by injection e with e; rw [← e]; exact HWX.out))
  have HZ6 := Aside0.mk (show w2.heap.size ≤ w6.heap.size from Nat.le_trans (Nat.le_trans HZ4.out HZa5.out) hg.size)
  clear hbox hg HB5
  have hp : w6.cell? ⟨gs, 27, none⟩ = some (.slice A27 x.f25.length c27) := (blk_cell HXgs.out 27).trans rfl
  go_wp2_with (go_at_call 13; refine hold ?_)
  refine Hold.intro ((lent_labels _ _ x.f25 _ (Kd.C_below HG27.out HB6.out) HL.out.2 HO.out.2).mono ?_)
  rintro e w7 ⟨u27, rfl, hm, hb⟩
  have H27 := Aside0.mk (kLent.M_mono (ok' := fun k_ => w2.heap.size ≤ k_ ∧ k_ ≠ gx ∧ k_ < w7.heap.size) (fun k_ h_ => ⟨h_.2.1, fun e_ => by obtain ⟨q, hq, cells, hc⟩ := h_.2.2.2; have h1 := blk_below HXx.out hb; rw [e_, h1] at hc; injection hc with hc; injection hc with hc1 hc2; rw [← hc2] at hq; revert hq; decide, h_.2.2.1⟩) (kLent.M_bound (kLent.M_lower (show w2.heap.size ≤ w6.heap.size from HZ6.out) hm)))
  replace H4 := Aside0.mk (kLent.M_mono (ok' := fun k_ => w2.heap.size ≤ k_ ∧ k_ ≠ gx ∧ k_ < w7.heap.size) (fun k_ h_ => ⟨h_.1, h_.2.1, Nat.lt_of_lt_of_le h_.2.2 hb.size⟩) (kLent.M_move (fun k_ hk_ => hb.block k_ hk_.2.2) H4.out))
  replace HXgs := Aside0.mk (blk_below HXgs.out hb)
  replace HXr := Aside0.mk (blk_below HXr.out hb)
  replace HXx := Aside0.mk (blk_below HXx.out hb)
  have HB7 := Aside0.mk (below_step HB6.out hb)
  have HZa7 := Aside0.mk hb.size
  clear hb hm hp HB6
  go_wp2_with ((with_reducible refine gate_store (t := 22) (p := 12) rfl ?_); refine hold ?_)
  refine Hold.intro (cell_store_event (t := 22) (ty := 68) (p := 12) (g := gx) (j := 27) (cs := cO x u4 (.slice A27 x.f25.length c27)) (v := u27) rfl rfl rfl rfl rfl (by kernel_rfl) HXx.out (by rw [cO_size]; decide) (kLent_one (kLent.K_of_M H27.out)) (kLent.K_one (kLent.K_of_M H27.out) u27 (List.mem_singleton_self _)) ?_)
  intro w8 hbox hg
  replace H27 := Aside0.mk (kLent.M_mono (ok' := fun k_ => w2.heap.size ≤ k_ ∧ k_ ≠ gx ∧ k_ < w8.heap.size) (fun k_ h_ => ⟨h_.1, h_.2.1, Nat.lt_of_lt_of_le h_.2.2 hg.size⟩) (kLent.M_move (fun k_ hk_ => hg.block k_ hk_.2.2 (fun e => by injection e with e; exact hk_.2.1 e)) H27.out))
  replace H4 := Aside0.mk (kLent.M_mono (ok' := fun k_ => w2.heap.size ≤ k_ ∧ k_ ≠ gx ∧ k_ < w8.heap.size) (fun k_ h_ => ⟨h_.1, h_.2.1, Nat.lt_of_lt_of_le h_.2.2 hg.size⟩) (kLent.M_move (fun k_ hk_ => hg.block k_ hk_.2.2 (fun e => by injection e with e; exact hk_.2.1 e)) H4.out))
  replace HXx := Aside0.mk (show w8.heap[gx]? = some (.cells (cO x u4 u27) 68 (0, 0)) from hbox)
  replace HXgs := Aside0.mk (blk_grown HXgs.out hg (fun e => by injection e with e; have h1 := HGX.out; have h2 := HGS.out; omega))
  replace HXr := Aside0.mk (blk_grown HXr.out hg (fun e => by injection e with e; have h1 := HGX.out; have h2 := HGR.out; omega))
  have HB8 := Aside0.mk (Below.grown HB7.out hg HB7.out.size (fun k e => by injection e with e; rw [← e]; exact HWX.out))
  have HZ8 := Aside0.mk (show w2.heap.size ≤ w8.heap.size from Nat.le_trans (Nat.le_trans HZ6.out HZa7.out) hg.size)
  clear hbox hg HB7
  have HLOW := Aside0.mk (show w.heap.size ≤ w2.heap.size by have := HGR.out; omega)
  replace H4 := Aside0.mk (kLent.M_mono (ok' := fun k_ => w2.heap.size ≤ k_ ∧ k_ < w8.heap.size) (fun k_ h_ => ⟨h_.1, h_.2.2⟩) H4.out)
  replace H27 := Aside0.mk (kLent.M_mono (ok' := fun k_ => w2.heap.size ≤ k_ ∧ k_ < w8.heap.size) (fun k_ h_ => ⟨h_.1, h_.2.2⟩) H27.out)
  go_wp2_with (first | ((with_reducible refine gate_load (t := 68) rfl ?_); refine load_obj rfl rfl rfl HXx.out rfl ?_) | ((with_reducible refine gate_store (t := 68) (p := 2) rfl ?_); refine hold ?_))
  refine Hold.intro (box_store_event (t := 68) (ty := 68) (p := 2) (x := .tmp 13) (g := gr) (cs := zcObj) (cs' := cO x u4 u27) rfl rfl rfl rfl rfl size68 HXr.out rfl (cO_one (kLent.K_one (kLent.K_of_M H4.out) u4 (List.mem_singleton_self _)) (kLent.K_one (kLent.K_of_M H27.out) u27 (List.mem_singleton_self _))) ?_)
  intro w9 hbox hg
  replace HXr := Aside0.mk hbox
  have HB9 := Aside0.mk (Below.grown HB8.out hg HB8.out.size (fun k e => by injection e with e; rw [← e]; exact HGR.out.1))
  have hm : ∀ k, w2.heap.size ≤ k ∧ k < w8.heap.size → w9.heap[k]? = w8.heap[k]? := fun k hk => hg.block k hk.2 (fun e => by injection e with e; have h2 := HGR.out.2; omega)
  have H4' := Aside0.mk (kLent.M_move (fun k hk => hm k hk) H4.out)
  have H27' := Aside0.mk (kLent.M_move (fun k hk => hm k hk) H27.out)
  clear hbox hg hm
  go_wp2
  refine bodyPost_ret (results_cell_row rfl _ _ gr 68 (cO x u4 u27) (0, 0) _ rfl HXr.out Try.underlying68 rfl (by kernel_rfl)) rfl ⟨u4, u27, rfl, kLent.M_mono (fun _ _ => trivial) (kLent.M_lower HLOW.out H4'.out), kLent.M_mono (fun _ _ => trivial) (kLent.M_lower HLOW.out H27'.out), HB9.out⟩
set_option maxRecDepth 100000 in
set_option maxHeartbeats 4000000 in
theorem lent_objects (A0 : Option Addr) (c0 : Nat) (l : List S68) (w : World) (hr0 : k68.C w A0 l.length l) (hok : okRow l) (hl : l.length ≤ 300) :
    Calls Try.prog 84 #[.slice A0 l.length c0] w fun e w' => ∃ A c, e = .returned (.slice A l.length l.length) ∧ kLO.R 68 w' w.heap.size (fun _ => True) (.slice A l.length c) l ∧ Below w.heap.size w w' := by
  have HR := Aside0.mk hr0
  have HOK := Aside0.mk hok
  clear hr0 hok
  have hu68 := Try.underlying68
  go_enter Try.func84, Try.ntmps84
  go_wp2
  go_loopw [3, 4] (fun v i wr => ∃ k : Nat, k ≤ l.length ∧ i = .int .i64 k ∧ Aside0 (kLO.R 68 wr w.heap.size (fun _ => True) v (l.take k)) ∧ Aside0 (Below w.heap.size w wr)) (fun _ i _ => l.length - (intOf i).toNat)
  case atStart => exact ⟨0, Nat.zero_le _, rfl, ⟨Kd.R_nil _ _ _ _ _⟩, ⟨Below.refl _ _⟩⟩
  case round =>
    obtain ⟨k, hk, rfl, HV, HB⟩ := hrel
    by_cases hlt : k < l.length
    · have HLT := Aside0.mk hlt
      obtain ⟨y, hy⟩ : ∃ y, y = l[k] := ⟨_, rfl⟩
      have hrd : rd_T68 l (k : Int) = y := by rw [rd_get hlt, hy]
      have HOY := Aside0.mk (show okR y from HOK.out.2 y (by rw [hy]; exact List.getElem_mem hlt))
      have HT := Aside0.mk (show l.take (k + 1) = l.take k ++ [y] by rw [hy]; exact List.take_succ_eq_append_getElem hlt)
      obtain ⟨ad, v4, v27, hA, hky, -, -, hall⟩ := at_all HR.out k hlt
      rw [hrd] at hky hall
      have HKY := Aside0.mk (kO_below hky HB.out)
      have HAL := Aside0.mk hall
      cases hA
      clear hy hrd hky hall
      have HVL := Aside0.mk (Kd.R_lt HV.out)
      go_wp2_with (first | ((with_reducible refine gate_load (t := 68) rfl ?_); refine load_elem (x := y) (v4 := v4) (v27 := v27) rfl rfl rfl (fun j v hj => (HB.out.cell (World.block_lt_of_cell? w _ (HAL.out j v hj))).trans (HAL.out j v hj)) ?_) | (go_at_call 118; refine hold ?_))
      refine Hold.intro ((lent_object y v4 v27 _ HKY.out HOY.out).mono ?_)
      rintro e w1 ⟨u4, u27, rfl, h4, h27, hb⟩
      have HZ := Aside0.mk hb.size
      have HZB := Aside0.mk HB.out.size
      have H4 := Aside0.mk (kLent.M_mono (ok' := fun k_ => wr.heap.size ≤ k_ ∧ k_ < w1.heap.size) (fun k_ h_ => ⟨h_.2.1, h_.2.2.1⟩) (kLent.M_bound h4))
      have H27 := Aside0.mk (kLent.M_mono (ok' := fun k_ => wr.heap.size ≤ k_ ∧ k_ < w1.heap.size) (fun k_ h_ => ⟨h_.2.1, h_.2.2.1⟩) (kLent.M_bound h27))
      have HV1 := Aside0.mk (Kd.R_mono (ok' := fun k_ => k_ < wr.heap.size) (Kd.R_below (Kd.R_mono (ok' := fun k_ => k_ < wr.heap.size) (Kd.R_bound HV.out) (fun _ h_ => h_.2.2.1)) hb) (fun _ h_ => h_))
      have HB1 := Aside0.mk (below_step HB.out hb)
      clear h4 h27 hb HV HB HKY HAL
      go_wp2_with ((with_reducible refine gate_dst (N := 5) rfl ?_); refine hold ?_)
      refine Hold.intro (alloc_obj rfl rfl (N := 5) rfl ?_)
      intro gx hg w2 hbox hb
      have HGX := Aside0.mk (show w1.heap.size ≤ gx by rw [hg]; exact Nat.le_refl _)
      have HXX := Aside0.mk hbox
      have HB2 := Aside0.mk (below_step HB1.out hb)
      replace H4 := Aside0.mk (kLent.M_move (fun k_ hk_ => hb.block k_ hk_.2) H4.out)
      replace H27 := Aside0.mk (kLent.M_move (fun k_ hk_ => hb.block k_ hk_.2) H27.out)
      replace HV1 := Aside0.mk (Kd.R_below HV1.out hb)
      have HSZ2 := Aside0.mk hb.size
      clear hbox hg hb HB1
      go_wp2_with ((with_reducible refine gate_store (t := 68) (p := 5) rfl ?_); refine hold ?_)
      refine Hold.intro (box_store_event (t := 68) (ty := 68) (p := 5) (x := .tmp 16) (g := gx) (cs := zcObj) (cs' := cO y u4 u27) rfl rfl rfl rfl rfl size68 HXX.out rfl (cO_one (kLent.K_one (kLent.K_of_M H4.out) u4 (List.mem_singleton_self _)) (kLent.K_one (kLent.K_of_M H27.out) u27 (List.mem_singleton_self _))) ?_)
      intro w3 hbox hg
      replace HXX := Aside0.mk hbox
      have HM3 := Aside0.mk (fun (k_ : Nat) (h_ : k_ < w1.heap.size) => (show w3.heap[k_]? = w2.heap[k_]? from hg.block k_ (by have h1 := blk_lt HXX.out; have h2 := HGX.out; have h3 := hg.size; have h4 := HSZ2.out; omega) (fun e => by injection e with e; have h2 := HGX.out; omega)))
      have HB3 := Aside0.mk (Below.grown HB2.out hg HB2.out.size (fun k e => by injection e with e; rw [← e]; have h1 := HGX.out; have h2 := HZ.out; have h3 := HZB.out; omega))
      replace H4 := Aside0.mk (kLent.M_move (fun k_ hk_ => HM3.out k_ hk_.2) H4.out)
      replace H27 := Aside0.mk (kLent.M_move (fun k_ hk_ => HM3.out k_ hk_.2) H27.out)
      replace HV1 := Aside0.mk (Kd.R_grown HV1.out hg (fun k_ hk_ e => by injection e with e; have h1 := HGX.out; have h2 := HZ.out; omega))
      clear hbox hg HB2 HM3
      have hcs := cO_size y u4 u27
      have hlen := List.length_take_le k l
      go_wp2_with (first | ((with_reducible refine gate_load (t := 68) rfl ?_); refine load_obj rfl rfl rfl HXX.out rfl ?_) | ((with_reducible refine gate_builtin (b := .append) (xs := #[.tmp 17, .tmp 19]) rfl ?_); refine hold ?_))
      rw [build_cO]
      clear hcs
      refine Hold.intro (Kd.R_append kLO (w0 := w) w.heap.size rfl (.tmp 17) (.tmp 19) 57 68 (.agg zcObj) 312 rfl Try.underlying57 info68 rfl (by decide) (by omega) u3 (l.take k) y (cO y u4 u27).toList (fun _ => True) (fun k_ => wr.heap.size ≤ k_) rfl rfl
        ⟨u4, u27, rfl, kLent.M_mono (fun _ h_ => h_.1) (kLent.M_lower (Nat.le_trans HZB.out (Nat.le_refl _)) H4.out), kLent.M_mono (fun _ h_ => h_.1) (kLent.M_lower (Nat.le_trans HZB.out (Nat.le_refl _)) H27.out)⟩ (fun k_ hk_ => ⟨trivial, fun e_ => by have h1_ := HVL.out k_ e_.symm; omega⟩) (fun _ _ => trivial) (Kd.R_mono HV1.out (fun _ _ => trivial)) HB3.out HB3.out.size (by omega) ?_)
      intro v2 w9 ho hb9 hg hat
      have HS9 := Aside0.mk (show kLO.R 68 w9 w.heap.size (fun _ => True) v2 (l.take (k + 1)) by rw [HT.out]; exact ho)
      have HB9 := Aside0.mk hb9
      clear ho hb9 hg hat HV1 H4 H27 HXX HB3 HT HVL
      go_wp2
      go_roundw
      case rel => exact ⟨k + 1, by have := HLT.out; omega, by simp, HS9, HB9⟩
      case measure => have := HLT.out; simp [intOf]; omega
    · obtain rfl : k = l.length := by omega
      have hv := HV.out
      rw [List.take_length] at hv
      obtain ⟨A, c, rfl, hc, -⟩ := Kd.R_reads hv
      have HV' := Aside0.mk hv
      clear hv HV
      go_wp2
      go_ret
      exact ⟨A, c, rfl, HV'.out, HB.out⟩
theorem R_kLO_C {w : World} {base n c : Nat} {ok : Nat → Prop} {A : Option Addr} {l : List S68} (h : kLO.R 68 w base ok (.slice A n c) l) : kLO.C w A l.length l := (Kd.R_reads' h).2.2
set_option maxRecDepth 100000 in
set_option maxHeartbeats 4000000 in
theorem lent_fleet (A0 : Option Addr) (c0 : Nat) (l0 : List S68) (A1 : Option Addr) (c1 : Nat) (l1 : List S68) (A2 : Option Addr) (c2 : Nat) (l2 : List S68) (A3 : Option Addr) (c3 : Nat) (l3 : List S68) (w : World) (hr0 : k68.C w A0 l0.length l0) (hc0 : l0.length ≤ c0) (hr1 : k68.C w A1 l1.length l1) (hc1 : l1.length ≤ c1) (hr2 : k68.C w A2 l2.length l2) (hc2 : l2.length ≤ c2) (hr3 : k68.C w A3 l3.length l3) (hc3 : l3.length ≤ c3) (o0 : okRow l0) (o1 : okRow l1) (o2 : okRow l2) (o3 : okRow l3) (hn : l0.length ≤ 300 ∧ l1.length ≤ 300 ∧ l2.length ≤ 300 ∧ l3.length ≤ 300) :
    Calls Try.prog 33 #[.agg #[.slice A0 l0.length c0, .slice A1 l1.length c1, .slice A2 l2.length c2, .slice A3 l3.length c3]] w fun e w' => ∃ B0 B1 B2 B3, e = .returned (.agg #[.slice B0 l0.length l0.length, .slice B1 l1.length l1.length, .slice B2 l2.length l2.length, .slice B3 l3.length l3.length]) ∧ kLO.C w' B0 l0.length l0 ∧ kLO.C w' B1 l1.length l1 ∧ kLO.C w' B2 l2.length l2 ∧ kLO.C w' B3 l3.length l3 ∧ Below w.heap.size w w' := by
  have HR0 := Aside0.mk hr0
  have HC0 := Aside0.mk hc0
  have HR1 := Aside0.mk hr1
  have HC1 := Aside0.mk hc1
  have HR2 := Aside0.mk hr2
  have HC2 := Aside0.mk hc2
  have HR3 := Aside0.mk hr3
  have HC3 := Aside0.mk hc3
  have HO := Aside0.mk (show okRow l0 ∧ okRow l1 ∧ okRow l2 ∧ okRow l3 from ⟨o0, o1, o2, o3⟩)
  have HLN := Aside0.mk hn
  clear hr0 hr1 hr2 hr3 hc0 hc1 hc2 hc3 o0 o1 o2 o3 hn
  have hu59 := Try.underlying59
  go_enter Try.func33, Try.ntmps33
  go_wp2_with ((with_reducible refine gate_dst (N := 1) rfl ?_); refine hold ?_)
  refine Hold.intro ?_
  refine box_event (N := 1) (cs := #[.slice A0 l0.length c0, .slice A1 l1.length c1, .slice A2 l2.length c2, .slice A3 l3.length c3]) (t := 59) rfl rfl ?hsgs ?_
  case hsgs => first | (go_simp; done) | (go_simp; rfl)
  intro gs hg w1 hbox hb
  have HXgs := Aside0.mk hbox
  have HB1 := Aside0.mk hb
  clear hbox hb hg
  go_wp2_with ((with_reducible refine gate_dst (N := 2) rfl ?_); refine hold ?_)
  refine Hold.intro ?_
  refine box_event (N := 2) (cs := #[.slice none 0 0, .slice none 0 0, .slice none 0 0, .slice none 0 0]) (t := 59) rfl rfl ?hsgr ?_
  case hsgr => first | (go_simp; done) | (go_simp; rfl)
  intro gr hg w2 hbox hb
  have HXgr := Aside0.mk hbox
  have HGR := Aside0.mk (show w.heap.size ≤ gr ∧ gr < w2.heap.size from ⟨by rw [hg]; exact HB1.out.size, blk_lt hbox⟩)
  replace HXgs := Aside0.mk (blk_below HXgs.out hb)
  have HB2 := Aside0.mk (below_step HB1.out hb)
  clear hbox hb hg HB1
  go_wp2_with ((with_reducible refine gate_dst (N := 3) rfl ?_); refine hold ?_)
  refine Hold.intro ?_
  refine box_event (N := 3) (cs := #[.slice none 0 0, .slice none 0 0, .slice none 0 0, .slice none 0 0]) (t := 59) rfl rfl ?hsgx ?_
  case hsgx => first | (go_simp; done) | (go_simp; rfl)
  intro gx hg w3 hbox hb
  have HXgx := Aside0.mk hbox
  have HGX := Aside0.mk (show w2.heap.size ≤ gx ∧ gx < w3.heap.size from ⟨by rw [hg]; exact Nat.le_refl _, blk_lt hbox⟩)
  have HGS := Aside0.mk (blk_lt HXgs.out)
  replace HXgs := Aside0.mk (blk_below HXgs.out hb)
  replace HXgr := Aside0.mk (blk_below HXgr.out hb)
  have HB3 := Aside0.mk (below_step HB2.out hb)
  have HZ3 := Aside0.mk (show w3.heap.size ≤ w3.heap.size from Nat.le_refl _)
  clear hbox hb hg HB2
  have hp : w3.cell? ⟨gs, 0, none⟩ = some (.slice A0 l0.length c0) := (blk_cell HXgs.out 0).trans rfl
  go_wp2_with (go_at_call 84; refine hold ?_)
  refine Hold.intro ((lent_objects _ _ l0 _ (Kd.C_below HR0.out HB3.out) HO.out.1 HLN.out.1).mono ?_)
  rintro e w4 ⟨B0, e0, rfl, hm, hb⟩
  have HV0 := Aside0.mk (Kd.R_mono (ok' := fun k_ => w3.heap.size ≤ k_ ∧ k_ < w4.heap.size) (Kd.R_bound (Kd.R_lower hm HZ3.out)) (fun k_ h_ => ⟨h_.2.1, h_.2.2.1⟩))
  replace HXgs := Aside0.mk (blk_below HXgs.out hb)
  replace HXgr := Aside0.mk (blk_below HXgr.out hb)
  replace HXgx := Aside0.mk (blk_below HXgx.out hb)
  have HB4 := Aside0.mk (below_step HB3.out hb)
  have HZ4 := Aside0.mk (show w3.heap.size ≤ w4.heap.size from Nat.le_trans HZ3.out hb.size)
  clear hb hm hp HB3
  go_wp2_with ((with_reducible refine gate_store (t := 57) (p := 7) rfl ?_); refine hold ?_)
  refine Hold.intro (cell_store_event (t := 57) (ty := 59) (p := 7) (g := gx) (j := 0) (cs := #[.slice none 0 0, .slice none 0 0, .slice none 0 0, .slice none 0 0]) (v := .slice B0 l0.length l0.length) rfl rfl rfl rfl rfl (by kernel_rfl) HXgx.out (by show 0 < 4; decide) rfl rfl ?_)
  intro w5 hbox hg
  replace HV0 := Aside0.mk (Kd.R_mono (ok' := fun k_ => w3.heap.size ≤ k_ ∧ k_ < w5.heap.size) (Kd.R_grown HV0.out hg (fun k_ h_ e => by injection e with e; have h1 := HGX.out.2; have h2 := h_.1; omega)) (fun k_ h_ => ⟨h_.1, Nat.lt_of_lt_of_le h_.2 hg.size⟩))
  replace HXgx := Aside0.mk (show w5.heap[gx]? = some (.cells #[.slice B0 l0.length l0.length, .slice none 0 0, .slice none 0 0, .slice none 0 0] 59 (0, 0)) from hbox)
  replace HXgs := Aside0.mk (blk_grown HXgs.out hg (fun e => by injection e with e; have h1 := HGX.out; have h2 := HGS.out; omega))
  replace HXgr := Aside0.mk (blk_grown HXgr.out hg (fun e => by injection e with e; have h1 := HGX.out; have h2 := HGR.out; omega))
  have HB5 := Aside0.mk (Below.grown HB4.out hg HB4.out.size (fun k e => by injection e with e; rw [← e]; have h1 := HGX.out; have h2 := HGR.out; omega))
  have HZ5 := Aside0.mk (show w3.heap.size ≤ w5.heap.size from Nat.le_trans HZ4.out hg.size)
  clear hbox hg HB4
  have hp : w5.cell? ⟨gs, 1, none⟩ = some (.slice A1 l1.length c1) := (blk_cell HXgs.out 1).trans rfl
  go_wp2_with (go_at_call 84; refine hold ?_)
  refine Hold.intro ((lent_objects _ _ l1 _ (Kd.C_below HR1.out HB5.out) HO.out.2.1 HLN.out.2.1).mono ?_)
  rintro e w6 ⟨B1, e1, rfl, hm, hb⟩
  have HV1 := Aside0.mk (Kd.R_mono (ok' := fun k_ => w3.heap.size ≤ k_ ∧ k_ < w6.heap.size) (Kd.R_bound (Kd.R_lower hm HZ5.out)) (fun k_ h_ => ⟨h_.2.1, h_.2.2.1⟩))
  replace HV0 := Aside0.mk (Kd.R_mono (ok' := fun k_ => w3.heap.size ≤ k_ ∧ k_ < w6.heap.size) (Kd.R_below HV0.out hb) (fun k_ h_ => ⟨h_.1, Nat.lt_of_lt_of_le h_.2 hb.size⟩))
  replace HXgs := Aside0.mk (blk_below HXgs.out hb)
  replace HXgr := Aside0.mk (blk_below HXgr.out hb)
  replace HXgx := Aside0.mk (blk_below HXgx.out hb)
  have HB6 := Aside0.mk (below_step HB5.out hb)
  have HZ6 := Aside0.mk (show w3.heap.size ≤ w6.heap.size from Nat.le_trans HZ5.out hb.size)
  clear hb hm hp HB5
  go_wp2_with ((with_reducible refine gate_store (t := 57) (p := 11) rfl ?_); refine hold ?_)
  refine Hold.intro (cell_store_event (t := 57) (ty := 59) (p := 11) (g := gx) (j := 1) (cs := #[.slice B0 l0.length l0.length, .slice none 0 0, .slice none 0 0, .slice none 0 0]) (v := .slice B1 l1.length l1.length) rfl rfl rfl rfl rfl (by kernel_rfl) HXgx.out (by show 1 < 4; decide) rfl rfl ?_)
  intro w7 hbox hg
  replace HV0 := Aside0.mk (Kd.R_mono (ok' := fun k_ => w3.heap.size ≤ k_ ∧ k_ < w7.heap.size) (Kd.R_grown HV0.out hg (fun k_ h_ e => by injection e with e; have h1 := HGX.out.2; have h2 := h_.1; omega)) (fun k_ h_ => ⟨h_.1, Nat.lt_of_lt_of_le h_.2 hg.size⟩))
  replace HV1 := Aside0.mk (Kd.R_mono (ok' := fun k_ => w3.heap.size ≤ k_ ∧ k_ < w7.heap.size) (Kd.R_grown HV1.out hg (fun k_ h_ e => by injection e with e; have h1 := HGX.out.2; have h2 := h_.1; omega)) (fun k_ h_ => ⟨h_.1, Nat.lt_of_lt_of_le h_.2 hg.size⟩))
  replace HXgx := Aside0.mk (show w7.heap[gx]? = some (.cells #[.slice B0 l0.length l0.length, .slice B1 l1.length l1.length, .slice none 0 0, .slice none 0 0] 59 (0, 0)) from hbox)
  replace HXgs := Aside0.mk (blk_grown HXgs.out hg (fun e => by injection e with e; have h1 := HGX.out; have h2 := HGS.out; omega))
  replace HXgr := Aside0.mk (blk_grown HXgr.out hg (fun e => by injection e with e; have h1 := HGX.out; have h2 := HGR.out; omega))
  have HB7 := Aside0.mk (Below.grown HB6.out hg HB6.out.size (fun k e => by injection e with e; rw [← e]; have h1 := HGX.out; have h2 := HGR.out; omega))
  have HZ7 := Aside0.mk (show w3.heap.size ≤ w7.heap.size from Nat.le_trans HZ6.out hg.size)
  clear hbox hg HB6
  have hp : w7.cell? ⟨gs, 2, none⟩ = some (.slice A2 l2.length c2) := (blk_cell HXgs.out 2).trans rfl
  go_wp2_with (go_at_call 84; refine hold ?_)
  refine Hold.intro ((lent_objects _ _ l2 _ (Kd.C_below HR2.out HB7.out) HO.out.2.2.1 HLN.out.2.2.1).mono ?_)
  rintro e w8 ⟨B2, e2, rfl, hm, hb⟩
  have HV2 := Aside0.mk (Kd.R_mono (ok' := fun k_ => w3.heap.size ≤ k_ ∧ k_ < w8.heap.size) (Kd.R_bound (Kd.R_lower hm HZ7.out)) (fun k_ h_ => ⟨h_.2.1, h_.2.2.1⟩))
  replace HV0 := Aside0.mk (Kd.R_mono (ok' := fun k_ => w3.heap.size ≤ k_ ∧ k_ < w8.heap.size) (Kd.R_below HV0.out hb) (fun k_ h_ => ⟨h_.1, Nat.lt_of_lt_of_le h_.2 hb.size⟩))
  replace HV1 := Aside0.mk (Kd.R_mono (ok' := fun k_ => w3.heap.size ≤ k_ ∧ k_ < w8.heap.size) (Kd.R_below HV1.out hb) (fun k_ h_ => ⟨h_.1, Nat.lt_of_lt_of_le h_.2 hb.size⟩))
  replace HXgs := Aside0.mk (blk_below HXgs.out hb)
  replace HXgr := Aside0.mk (blk_below HXgr.out hb)
  replace HXgx := Aside0.mk (blk_below HXgx.out hb)
  have HB8 := Aside0.mk (below_step HB7.out hb)
  have HZ8 := Aside0.mk (show w3.heap.size ≤ w8.heap.size from Nat.le_trans HZ7.out hb.size)
  clear hb hm hp HB7
  go_wp2_with ((with_reducible refine gate_store (t := 57) (p := 15) rfl ?_); refine hold ?_)
  refine Hold.intro (cell_store_event (t := 57) (ty := 59) (p := 15) (g := gx) (j := 2) (cs := #[.slice B0 l0.length l0.length, .slice B1 l1.length l1.length, .slice none 0 0, .slice none 0 0]) (v := .slice B2 l2.length l2.length) rfl rfl rfl rfl rfl (by kernel_rfl) HXgx.out (by show 2 < 4; decide) rfl rfl ?_)
  intro w9 hbox hg
  replace HV0 := Aside0.mk (Kd.R_mono (ok' := fun k_ => w3.heap.size ≤ k_ ∧ k_ < w9.heap.size) (Kd.R_grown HV0.out hg (fun k_ h_ e => by injection e with e; have h1 := HGX.out.2; have h2 := h_.1; omega)) (fun k_ h_ => ⟨h_.1, Nat.lt_of_lt_of_le h_.2 hg.size⟩))
  replace HV1 := Aside0.mk (Kd.R_mono (ok' := fun k_ => w3.heap.size ≤ k_ ∧ k_ < w9.heap.size) (Kd.R_grown HV1.out hg (fun k_ h_ e => by injection e with e; have h1 := HGX.out.2; have h2 := h_.1; omega)) (fun k_ h_ => ⟨h_.1, Nat.lt_of_lt_of_le h_.2 hg.size⟩))
  replace HV2 := Aside0.mk (Kd.R_mono (ok' := fun k_ => w3.heap.size ≤ k_ ∧ k_ < w9.heap.size) (Kd.R_grown HV2.out hg (fun k_ h_ e => by injection e with e; have h1 := HGX.out.2; have h2 := h_.1; omega)) (fun k_ h_ => ⟨h_.1, Nat.lt_of_lt_of_le h_.2 hg.size⟩))
  replace HXgx := Aside0.mk (show w9.heap[gx]? = some (.cells #[.slice B0 l0.length l0.length, .slice B1 l1.length l1.length, .slice B2 l2.length l2.length, .slice none 0 0] 59 (0, 0)) from hbox)
  replace HXgs := Aside0.mk (blk_grown HXgs.out hg (fun e => by injection e with e; have h1 := HGX.out; have h2 := HGS.out; omega))
  replace HXgr := Aside0.mk (blk_grown HXgr.out hg (fun e => by injection e with e; have h1 := HGX.out; have h2 := HGR.out; omega))
  have HB9 := Aside0.mk (Below.grown HB8.out hg HB8.out.size (fun k e => by injection e with e; rw [← e]; have h1 := HGX.out; have h2 := HGR.out; omega))
  have HZ9 := Aside0.mk (show w3.heap.size ≤ w9.heap.size from Nat.le_trans HZ8.out hg.size)
  clear hbox hg HB8
  have hp : w9.cell? ⟨gs, 3, none⟩ = some (.slice A3 l3.length c3) := (blk_cell HXgs.out 3).trans rfl
  go_wp2_with (go_at_call 84; refine hold ?_)
  refine Hold.intro ((lent_objects _ _ l3 _ (Kd.C_below HR3.out HB9.out) HO.out.2.2.2 HLN.out.2.2.2).mono ?_)
  rintro e w10 ⟨B3, e3, rfl, hm, hb⟩
  have HV3 := Aside0.mk (Kd.R_mono (ok' := fun k_ => w3.heap.size ≤ k_ ∧ k_ < w10.heap.size) (Kd.R_bound (Kd.R_lower hm HZ9.out)) (fun k_ h_ => ⟨h_.2.1, h_.2.2.1⟩))
  replace HV0 := Aside0.mk (Kd.R_mono (ok' := fun k_ => w3.heap.size ≤ k_ ∧ k_ < w10.heap.size) (Kd.R_below HV0.out hb) (fun k_ h_ => ⟨h_.1, Nat.lt_of_lt_of_le h_.2 hb.size⟩))
  replace HV1 := Aside0.mk (Kd.R_mono (ok' := fun k_ => w3.heap.size ≤ k_ ∧ k_ < w10.heap.size) (Kd.R_below HV1.out hb) (fun k_ h_ => ⟨h_.1, Nat.lt_of_lt_of_le h_.2 hb.size⟩))
  replace HV2 := Aside0.mk (Kd.R_mono (ok' := fun k_ => w3.heap.size ≤ k_ ∧ k_ < w10.heap.size) (Kd.R_below HV2.out hb) (fun k_ h_ => ⟨h_.1, Nat.lt_of_lt_of_le h_.2 hb.size⟩))
  replace HXgs := Aside0.mk (blk_below HXgs.out hb)
  replace HXgr := Aside0.mk (blk_below HXgr.out hb)
  replace HXgx := Aside0.mk (blk_below HXgx.out hb)
  have HB10 := Aside0.mk (below_step HB9.out hb)
  have HZ10 := Aside0.mk (show w3.heap.size ≤ w10.heap.size from Nat.le_trans HZ9.out hb.size)
  clear hb hm hp HB9
  go_wp2_with ((with_reducible refine gate_store (t := 57) (p := 19) rfl ?_); refine hold ?_)
  refine Hold.intro (cell_store_event (t := 57) (ty := 59) (p := 19) (g := gx) (j := 3) (cs := #[.slice B0 l0.length l0.length, .slice B1 l1.length l1.length, .slice B2 l2.length l2.length, .slice none 0 0]) (v := .slice B3 l3.length l3.length) rfl rfl rfl rfl rfl (by kernel_rfl) HXgx.out (by show 3 < 4; decide) rfl rfl ?_)
  intro w11 hbox hg
  replace HV0 := Aside0.mk (Kd.R_mono (ok' := fun k_ => w3.heap.size ≤ k_ ∧ k_ < w11.heap.size) (Kd.R_grown HV0.out hg (fun k_ h_ e => by injection e with e; have h1 := HGX.out.2; have h2 := h_.1; omega)) (fun k_ h_ => ⟨h_.1, Nat.lt_of_lt_of_le h_.2 hg.size⟩))
  replace HV1 := Aside0.mk (Kd.R_mono (ok' := fun k_ => w3.heap.size ≤ k_ ∧ k_ < w11.heap.size) (Kd.R_grown HV1.out hg (fun k_ h_ e => by injection e with e; have h1 := HGX.out.2; have h2 := h_.1; omega)) (fun k_ h_ => ⟨h_.1, Nat.lt_of_lt_of_le h_.2 hg.size⟩))
  replace HV2 := Aside0.mk (Kd.R_mono (ok' := fun k_ => w3.heap.size ≤ k_ ∧ k_ < w11.heap.size) (Kd.R_grown HV2.out hg (fun k_ h_ e => by injection e with e; have h1 := HGX.out.2; have h2 := h_.1; omega)) (fun k_ h_ => ⟨h_.1, Nat.lt_of_lt_of_le h_.2 hg.size⟩))
  replace HV3 := Aside0.mk (Kd.R_mono (ok' := fun k_ => w3.heap.size ≤ k_ ∧ k_ < w11.heap.size) (Kd.R_grown HV3.out hg (fun k_ h_ e => by injection e with e; have h1 := HGX.out.2; have h2 := h_.1; omega)) (fun k_ h_ => ⟨h_.1, Nat.lt_of_lt_of_le h_.2 hg.size⟩))
  replace HXgx := Aside0.mk (show w11.heap[gx]? = some (.cells #[.slice B0 l0.length l0.length, .slice B1 l1.length l1.length, .slice B2 l2.length l2.length, .slice B3 l3.length l3.length] 59 (0, 0)) from hbox)
  replace HXgs := Aside0.mk (blk_grown HXgs.out hg (fun e => by injection e with e; have h1 := HGX.out; have h2 := HGS.out; omega))
  replace HXgr := Aside0.mk (blk_grown HXgr.out hg (fun e => by injection e with e; have h1 := HGX.out; have h2 := HGR.out; omega))
  have HB11 := Aside0.mk (Below.grown HB10.out hg HB10.out.size (fun k e => by injection e with e; rw [← e]; have h1 := HGX.out; have h2 := HGR.out; omega))
  have HZ11 := Aside0.mk (show w3.heap.size ≤ w11.heap.size from Nat.le_trans HZ10.out hg.size)
  clear hbox hg HB10
  have hx0 : w11.cell? ⟨gx, 0, none⟩ = some (.slice B0 l0.length l0.length) := (blk_cell HXgx.out 0).trans rfl
  have hx1 : w11.cell? ⟨gx, 1, none⟩ = some (.slice B1 l1.length l1.length) := (blk_cell HXgx.out 1).trans rfl
  have hx2 : w11.cell? ⟨gx, 2, none⟩ = some (.slice B2 l2.length l2.length) := (blk_cell HXgx.out 2).trans rfl
  have hx3 : w11.cell? ⟨gx, 3, none⟩ = some (.slice B3 l3.length l3.length) := (blk_cell HXgx.out 3).trans rfl
  go_wp2_with ((with_reducible refine gate_store (t := 59) (p := 2) rfl ?_); refine hold ?_)
  refine Hold.intro (box_store_event (t := 59) (ty := 59) (p := 2) (x := .tmp 20) (g := gr) (cs := #[.slice none 0 0, .slice none 0 0, .slice none 0 0, .slice none 0 0]) (cs' := #[.slice B0 l0.length l0.length, .slice B1 l1.length l1.length, .slice B2 l2.length l2.length, .slice B3 l3.length l3.length]) rfl rfl rfl rfl rfl size59 HXgr.out rfl rfl ?_)
  intro w12 hbox hg
  have HXr := Aside0.mk hbox
  have HB12 := Aside0.mk (Below.grown HB11.out hg HB11.out.size (fun k e => by injection e with e; rw [← e]; exact HGR.out.1))
  replace HV0 := Aside0.mk (Kd.R_grown HV0.out hg (fun k_ h_ e => by injection e with e; have h1 := HGX.out; have h2 := h_.1; have h3 := HGR.out; omega))
  replace HV1 := Aside0.mk (Kd.R_grown HV1.out hg (fun k_ h_ e => by injection e with e; have h1 := HGX.out; have h2 := h_.1; have h3 := HGR.out; omega))
  replace HV2 := Aside0.mk (Kd.R_grown HV2.out hg (fun k_ h_ e => by injection e with e; have h1 := HGX.out; have h2 := h_.1; have h3 := HGR.out; omega))
  replace HV3 := Aside0.mk (Kd.R_grown HV3.out hg (fun k_ h_ e => by injection e with e; have h1 := HGX.out; have h2 := h_.1; have h3 := HGR.out; omega))
  clear hbox hg hx0 hx1 hx2 hx3
  go_wp2
  refine bodyPost_ret (results_cell_row rfl _ _ gr 59 #[.slice B0 l0.length l0.length, .slice B1 l1.length l1.length, .slice B2 l2.length l2.length, .slice B3 l3.length l3.length] (0, 0) _ rfl HXr.out Try.underlying59 rfl (by kernel_rfl)) rfl ⟨B0, B1, B2, B3, rfl, R_kLO_C HV0.out, R_kLO_C HV1.out, R_kLO_C HV2.out, R_kLO_C HV3.out, HB12.out⟩
set_option maxRecDepth 100000 in
set_option maxHeartbeats 4000000 in
theorem kept_fleet (B0 : Option Addr) (d0 : Nat) (B1 : Option Addr) (d1 : Nat) (B2 : Option Addr) (d2 : Nat) (B3 : Option Addr) (d3 : Nat) (A0 : Option Addr) (c0 : Nat) (l0 : List S68) (A1 : Option Addr) (c1 : Nat) (l1 : List S68) (A2 : Option Addr) (c2 : Nat) (l2 : List S68) (A3 : Option Addr) (c3 : Nat) (l3 : List S68) (w : World) (hb0 : kLO.C w B0 l0.length l0) (hb1 : kLO.C w B1 l1.length l1) (hb2 : kLO.C w B2 l2.length l2) (hb3 : kLO.C w B3 l3.length l3) (hr0 : k68.C w A0 l0.length l0) (hc0 : l0.length ≤ c0) (hr1 : k68.C w A1 l1.length l1) (hc1 : l1.length ≤ c1) (hr2 : k68.C w A2 l2.length l2) (hc2 : l2.length ≤ c2) (hr3 : k68.C w A3 l3.length l3) (hc3 : l3.length ≤ c3) (o0 : okRow l0) (o1 : okRow l1) (o2 : okRow l2) (o3 : okRow l3) :
    Calls Try.prog 42 #[.agg #[.slice B0 l0.length d0, .slice B1 l1.length d1, .slice B2 l2.length d2, .slice B3 l3.length d3], .agg #[.slice A0 l0.length c0, .slice A1 l1.length c1, .slice A2 l2.length c2, .slice A3 l3.length c3]] w fun e w' => e = .returned (.bool true) ∧ Below w.heap.size w w' := by
  have HR0 := Aside0.mk hr0
  have HC0 := Aside0.mk hc0
  have HR1 := Aside0.mk hr1
  have HC1 := Aside0.mk hc1
  have HR2 := Aside0.mk hr2
  have HC2 := Aside0.mk hc2
  have HR3 := Aside0.mk hr3
  have HC3 := Aside0.mk hc3
  have HD0 := Aside0.mk hb0
  have HD1 := Aside0.mk hb1
  have HD2 := Aside0.mk hb2
  have HD3 := Aside0.mk hb3
  have HO := Aside0.mk (show okRow l0 ∧ okRow l1 ∧ okRow l2 ∧ okRow l3 from ⟨o0, o1, o2, o3⟩)
  clear hr0 hr1 hr2 hr3 hc0 hc1 hc2 hc3 hb0 hb1 hb2 hb3 o0 o1 o2 o3
  have hu59 := Try.underlying59
  go_enter Try.func42, Try.ntmps42
  go_wp2_with ((with_reducible refine gate_dst (N := 2) rfl ?_); refine hold ?_)
  refine Hold.intro ?_
  refine box_event (N := 2) (cs := #[.slice B0 l0.length d0, .slice B1 l1.length d1, .slice B2 l2.length d2, .slice B3 l3.length d3]) (t := 59) rfl rfl ?hsga ?_
  case hsga => first | (go_simp; done) | (go_simp; rfl)
  intro ga hg wa hbox hb
  have HXga := Aside0.mk hbox
  have HBA := Aside0.mk hb
  clear hbox hb hg
  go_wp2_with ((with_reducible refine gate_dst (N := 3) rfl ?_); refine hold ?_)
  refine Hold.intro ?_
  refine box_event (N := 3) (cs := #[.slice A0 l0.length c0, .slice A1 l1.length c1, .slice A2 l2.length c2, .slice A3 l3.length c3]) (t := 59) rfl rfl ?hsgb ?_
  case hsgb => first | (go_simp; done) | (go_simp; rfl)
  intro gb hg wb hbox hb
  have HXgb := Aside0.mk hbox
  replace HXga := Aside0.mk (blk_below HXga.out hb)
  have HB0 := Aside0.mk (below_step HBA.out hb)
  clear hbox hb hg HBA
  have hp : wb.cell? ⟨ga, 0, none⟩ = some (.slice B0 l0.length d0) := (blk_cell HXga.out 0).trans rfl
  have hq : wb.cell? ⟨gb, 0, none⟩ = some (.slice A0 l0.length c0) := (blk_cell HXgb.out 0).trans rfl
  go_wp2_with (go_at_call 91; refine hold ?_)
  refine Hold.intro ((kept_objects _ _ _ _ l0 _ (Kd.C_below HD0.out HB0.out) (Kd.C_below HR0.out HB0.out) HO.out.1).mono ?_)
  rintro e w0_ ⟨rfl, hb⟩
  replace HXga := Aside0.mk (blk_below HXga.out hb)
  replace HXgb := Aside0.mk (blk_below HXgb.out hb)
  have HB1 := Aside0.mk (below_step HB0.out hb)
  clear hb HB0 hp hq
  have hp : w0_.cell? ⟨ga, 1, none⟩ = some (.slice B1 l1.length d1) := (blk_cell HXga.out 1).trans rfl
  have hq : w0_.cell? ⟨gb, 1, none⟩ = some (.slice A1 l1.length c1) := (blk_cell HXgb.out 1).trans rfl
  go_wp2_with (go_at_call 91; refine hold ?_)
  refine Hold.intro ((kept_objects _ _ _ _ l1 _ (Kd.C_below HD1.out HB1.out) (Kd.C_below HR1.out HB1.out) HO.out.2.1).mono ?_)
  rintro e w1_ ⟨rfl, hb⟩
  replace HXga := Aside0.mk (blk_below HXga.out hb)
  replace HXgb := Aside0.mk (blk_below HXgb.out hb)
  have HB2 := Aside0.mk (below_step HB1.out hb)
  clear hb HB1 hp hq
  have hp : w1_.cell? ⟨ga, 2, none⟩ = some (.slice B2 l2.length d2) := (blk_cell HXga.out 2).trans rfl
  have hq : w1_.cell? ⟨gb, 2, none⟩ = some (.slice A2 l2.length c2) := (blk_cell HXgb.out 2).trans rfl
  go_wp2_with (go_at_call 91; refine hold ?_)
  refine Hold.intro ((kept_objects _ _ _ _ l2 _ (Kd.C_below HD2.out HB2.out) (Kd.C_below HR2.out HB2.out) HO.out.2.2.1).mono ?_)
  rintro e w2_ ⟨rfl, hb⟩
  replace HXga := Aside0.mk (blk_below HXga.out hb)
  replace HXgb := Aside0.mk (blk_below HXgb.out hb)
  have HB3 := Aside0.mk (below_step HB2.out hb)
  clear hb HB2 hp hq
  have hp : w2_.cell? ⟨ga, 3, none⟩ = some (.slice B3 l3.length d3) := (blk_cell HXga.out 3).trans rfl
  have hq : w2_.cell? ⟨gb, 3, none⟩ = some (.slice A3 l3.length c3) := (blk_cell HXgb.out 3).trans rfl
  go_wp2_with (go_at_call 91; refine hold ?_)
  refine Hold.intro ((kept_objects _ _ _ _ l3 _ (Kd.C_below HD3.out HB3.out) (Kd.C_below HR3.out HB3.out) HO.out.2.2.2).mono ?_)
  rintro e w3_ ⟨rfl, hb⟩
  replace HXga := Aside0.mk (blk_below HXga.out hb)
  replace HXgb := Aside0.mk (blk_below HXgb.out hb)
  have HB4 := Aside0.mk (below_step HB3.out hb)
  clear hb HB3 hp hq
  go_wp2
  go_ret
  exact ⟨rfl, HB4.out⟩
end Go.Proofs.Ytamjjeakkkdfhaa.G
end
section
namespace Go.Proofs.Ytamjjeakkkdfhaa.G
open Go.RowKit Go.Proofs.YtamjjeakkkdfhaaW.PrintWords Go.Proofs.YtamjjeakkkdfhaaW.PrintLast Go.Proofs.YtamjjeakkkdfhaaW.PrintMore
open Go.Proofs.Ytamjjeakkkdfhaa.K Go.Proofs.YtamjjeakkkdfhaaE Go.Proofs.Ytamjjeakkkdfhaa.PB Go.Proofs.Ytamjjeakkkdfhaa.PC Go.Proofs.Ytamjjeakkkdfhaa.PD
set_option linter.unusedVariables false
set_option linter.unusedSimpArgs false
attribute [local go_sem high] eqA64
def cnt.T4 : Bool × List (List Nat × List Nat) := (true, [([], []), ([], []), ([0, 1], [0, 1]), ([], []), ([], []), ([3, 4, 2], [3, 4]), ([2, 5], [2, 5]), ([6, 5], [6]), ([7], [7]), ([7], [7]), ([8, 9, 7, 7], [7, 8, 9]), ([7], [7]), ([7], [7]), ([11, 12, 10, 7], [7, 11, 12]), ([10, 13, 7], [7, 10, 13]), ([7, 14], [7, 14]), ([15, 13], [15]), ([16], [16]), ([16], [16]), ([17, 18, 16, 16], [16, 17, 18]), ([16], [16]), ([16], [16]), ([20, 21, 19, 16], [16, 20, 21]), ([19, 22, 16], [16, 19, 22]), ([16, 23], [16, 23])])
def cnt.B4 : List Nat := [0, 0, 3, 0, 0, 31, 63, 127, 255, 255, 1023, 255, 255, 8191, 16383, 32767, 65535, 131071, 131071, 524287, 131071, 131071, 4194303, 8388607, 16777215]
theorem cnt.tab4 : rtab .any (opsOf Try.f6 4) = cnt.T4 := by kernel_rfl
theorem cnt.bits4 : waitsOk cnt.T4.2 cnt.B4 = true := by kernel_rfl
def cnt.T10 : Bool × List (List Nat × List Nat) := (true, [([], []), ([], []), ([0, 1], [0, 1]), ([], []), ([], []), ([3, 4, 2], [3, 4]), ([2, 5], [2, 5]), ([6, 5], [6]), ([7], [7]), ([7], [7]), ([8, 9, 7, 7], [7, 8, 9]), ([7], [7]), ([7], [7]), ([11, 12, 10, 7], [7, 11, 12]), ([10, 13, 7], [7, 10, 13]), ([7, 14], [7, 14])])
def cnt.B10 : List Nat := [0, 0, 3, 0, 0, 31, 63, 127, 255, 255, 1023, 255, 255, 8191, 16383, 32767]
theorem cnt.tab10 : rtab .any (opsOf Try.f6 10) = cnt.T10 := by kernel_rfl
theorem cnt.bits10 : waitsOk cnt.T10.2 cnt.B10 = true := by kernel_rfl
def cnt.T16 : Bool × List (List Nat × List Nat) := (true, [([], []), ([], []), ([0, 1], [0, 1]), ([], []), ([], []), ([3, 4, 2], [3, 4]), ([2, 5], [2, 5])])
def cnt.B16 : List Nat := [0, 0, 3, 0, 0, 31, 63]
theorem cnt.tab16 : rtab .any (opsOf Try.f6 16) = cnt.T16 := by kernel_rfl
theorem cnt.bits16 : waitsOk cnt.T16.2 cnt.B16 = true := by kernel_rfl
def cnt.T21 : Bool × List (List Nat × List Nat) := (true, [([], []), ([], []), ([1], [1]), ([], []), ([2, 3], [2, 3]), ([4], [4]), ([0, 5], [0, 5]), ([], []), ([], []), ([8], [8]), ([], []), ([9, 10], [9, 10]), ([11], [11]), ([7, 12, 6], [7, 12]), ([6, 13], [6, 13])])
def cnt.B21 : List Nat := [0, 0, 2, 0, 14, 30, 63, 0, 0, 256, 0, 1792, 3840, 8191, 16383]
theorem cnt.tab21 : rtab .any (opsOf Try.f6 21) = cnt.T21 := by kernel_rfl
theorem cnt.bits21 : waitsOk cnt.T21.2 cnt.B21 = true := by kernel_rfl
theorem ref_guarded_co (A0 : Option Addr) (c0 : Nat) (l0 : List S68) (A1 : Option Addr) (c1 : Nat) (l1 : List S68) (A2 : Option Addr) (c2 : Nat) (l2 : List S68) (A3 : Option Addr) (c3 : Nat) (l3 : List S68) (b : S68) (v4 v27 : Value) (w : World) (hr0 : k68.C w A0 l0.length l0) (hc0 : l0.length ≤ c0) (hr1 : k68.C w A1 l1.length l1) (hc1 : l1.length ≤ c1) (hr2 : k68.C w A2 l2.length l2) (hc2 : l2.length ≤ c2) (hr3 : k68.C w A3 l3.length l3) (hc3 : l3.length ≤ c3) (hk : kO w b v4 v27) (hb : b.f25.length ≤ 4398046511000) (hx : ∀ x ∈ l1, x.f4.length ≤ 4398046511000) (hl : l1.length ≤ 4398046511000) :
    Calls Try.prog 41 #[.agg #[.slice A0 l0.length c0, .slice A1 l1.length c1, .slice A2 l2.length c2, .slice A3 l3.length c3], .agg (cO b v4 v27)] w fun e w' => e = .returned (.int .i64 (countL (isGuard b.f25) l1)) ∧ Below w.heap.size w w' := by
  obtain ⟨A4, c4, A27, c27, rfl, rfl, h4, g4, h27, g27⟩ := hk
  obtain ⟨k, hk⟩ := guarded_ref l0 l1 l2 l3 b hb hx hl
  exact flotillaref16_Guarded.calls k A0 c0 l0 A1 c1 l1 A2 c2 l2 A3 c3 l3 b.f0 b.f1 b.f2 b.f3 A4 c4 b.f4 b.f5.f0 b.f5.f1 b.f6 b.f7 b.f8 b.f9 b.f10 b.f11 b.f12 b.f13 b.f14 b.f15 b.f16.f0 b.f16.f1 b.f17 b.f18 b.f19 b.f20 b.f21 b.f22 b.f23 b.f24 A27 c27 b.f25 b.f26 b.f27 b.f28 b.f29 _ w hr0 hc0 hr1 hc1 hr2 hc2 hr3 hc3 g4 h4 g27 h27 hk
set_option maxRecDepth 100000 in
set_option maxHeartbeats 16000000 in
theorem counted_walk (A0 : Option Addr) (c0 : Nat) (l0 : List S68) (A1 : Option Addr) (c1 : Nat) (l1 : List S68) (A2 : Option Addr) (c2 : Nat) (l2 : List S68) (A3 : Option Addr) (c3 : Nat) (l3 : List S68) (a1 : ByteArray) (w : World) (hr0 : k68.C w A0 l0.length l0) (hc0 : l0.length ≤ c0) (hr1 : k68.C w A1 l1.length l1) (hc1 : l1.length ≤ c1) (hr2 : k68.C w A2 l2.length l2) (hc2 : l2.length ≤ c2) (hr3 : k68.C w A3 l3.length l3) (hc3 : l3.length ≤ c3) (o0 : okRow l0) (o1 : okRow l1) (o2 : okRow l2) (o3 : okRow l3) (ha1 : a1.size ≤ maxLen) :
    Calls Try.prog 6 #[.agg #[.slice A0 l0.length c0, .slice A1 l1.length c1, .slice A2 l2.length c2, .slice A3 l3.length c3], .string a1] w fun e w' => e = .returned (.bool true) ∧ Below w.heap.size w w' := by
  have HR0 := Aside0.mk hr0
  have HC0 := Aside0.mk hc0
  have HR1 := Aside0.mk hr1
  have HC1 := Aside0.mk hc1
  have HR2 := Aside0.mk hr2
  have HC2 := Aside0.mk hc2
  have HR3 := Aside0.mk hr3
  have HC3 := Aside0.mk hc3
  have HO := Aside0.mk (show okRow l0 ∧ okRow l1 ∧ okRow l2 ∧ okRow l3 from ⟨o0, o1, o2, o3⟩)
  have HBZ := Aside0.mk (show ∀ b ∈ l3, b.f25.length * 32 ≤ 140737488351232 from fun b hb => (o3.2 b hb).2.2)
  have HXZ := Aside0.mk (show ∀ x ∈ l1, x.f4.length ≤ 4398046511000 from fun x hx => (okR_len (o1.2 x hx)).1)
  have HBY := Aside0.mk (show ∀ b ∈ l3, b.f25.length ≤ 4398046511000 from fun x hx => (okR_len (o3.2 x hx)).2)
  clear hr0 hr1 hr2 hr3 hc0 hc1 hc2 hc3 o0 o1 o2 o3
  have hu59 := Try.underlying59
  have hu57 := Try.underlying57
  have hu68 := Try.underlying68
  have hu64 := Try.underlying64
  go_enter Try.func6, Try.ntmps6
  go_wp2_with ((with_reducible refine gate_dst (N := 2) rfl ?_); refine hold ?_)
  refine Hold.intro ?_
  refine box_event (N := 2) (cs := #[.slice A0 l0.length c0, .slice A1 l1.length c1, .slice A2 l2.length c2, .slice A3 l3.length c3]) (t := 59) rfl rfl ?hr ?_
  case hr => first | (go_simp; done) | (go_simp; rfl)
  intro gb hg wb hbox hb
  have HW := Aside0.mk hb
  have HXG := Aside0.mk hbox
  clear hb hbox hg
  replace HR0 := Aside0.mk (Kd.C_below HR0.out HW.out)
  replace HR1 := Aside0.mk (Kd.C_below HR1.out HW.out)
  replace HR2 := Aside0.mk (Kd.C_below HR2.out HW.out)
  replace HR3 := Aside0.mk (Kd.C_below HR3.out HW.out)
  have HB0 := Aside0.mk (Below.refl wb.heap.size wb)
  have hc_g_0 : wb.cell? ⟨gb, 0, none⟩ = some (.slice A0 l0.length c0) := (blk_cell (blk_below HXG.out HB0.out) 0).trans rfl
  have hc_g_1 : wb.cell? ⟨gb, 1, none⟩ = some (.slice A1 l1.length c1) := (blk_cell (blk_below HXG.out HB0.out) 1).trans rfl
  have hc_g_2 : wb.cell? ⟨gb, 2, none⟩ = some (.slice A2 l2.length c2) := (blk_cell (blk_below HXG.out HB0.out) 2).trans rfl
  have hc_g_3 : wb.cell? ⟨gb, 3, none⟩ = some (.slice A3 l3.length c3) := (blk_cell (blk_below HXG.out HB0.out) 3).trans rfl
  go_wp2_with (go_at_call 32; refine hold ?_)
  refine Hold.intro ((flotillalaw16_big.calls _ _ l0 _ _ l1 _ _ l2 _ _ l3 (bigF l0 l1 l2 l3) _ (Kd.C_below HR0.out HB0.out) HC0.out (Kd.C_below HR1.out HB0.out) HC1.out (Kd.C_below HR2.out HB0.out) HC2.out (Kd.C_below HR3.out HB0.out) HC3.out (bigF_is l0 l1 l2 l3)).mono ?_)
  rintro e w1_ ⟨rfl, hb⟩
  clear hc_g_0 hc_g_1 hc_g_2 hc_g_3
  have HB1 := Aside0.mk (below_step HB0.out hb)
  clear HB0 hb
  cases hbig : bigF l0 l1 l2 l3 with
  | true =>
    clear hbig
    go_wp2
    go_ret
    exact ⟨rfl, (below_step HW.out HB1.out)⟩
  | false =>
    have HLN := Aside0.mk (show l0.length ≤ 300 ∧ l1.length ≤ 300 ∧ l2.length ≤ 300 ∧ l3.length ≤ 300 by
      unfold bigF at hbig
      simp only [Bool.or_eq_false_iff, decide_eq_false_iff_not] at hbig
      omega)
    clear hbig
    have hc_g_0 : w1_.cell? ⟨gb, 0, none⟩ = some (.slice A0 l0.length c0) := (blk_cell (blk_below HXG.out HB1.out) 0).trans rfl
    have hc_g_1 : w1_.cell? ⟨gb, 1, none⟩ = some (.slice A1 l1.length c1) := (blk_cell (blk_below HXG.out HB1.out) 1).trans rfl
    have hc_g_2 : w1_.cell? ⟨gb, 2, none⟩ = some (.slice A2 l2.length c2) := (blk_cell (blk_below HXG.out HB1.out) 2).trans rfl
    have hc_g_3 : w1_.cell? ⟨gb, 3, none⟩ = some (.slice A3 l3.length c3) := (blk_cell (blk_below HXG.out HB1.out) 3).trans rfl
    go_wp2_with (go_at_call 33; refine hold ?_)
    refine Hold.intro ((lent_fleet _ _ l0 _ _ l1 _ _ l2 _ _ l3 _ (Kd.C_below HR0.out HB1.out) HC0.out (Kd.C_below HR1.out HB1.out) HC1.out (Kd.C_below HR2.out HB1.out) HC2.out (Kd.C_below HR3.out HB1.out) HC3.out HO.out.1 HO.out.2.1 HO.out.2.2.1 HO.out.2.2.2 HLN.out).mono ?_)
    rintro e w2_ ⟨B0, B1, B2, B3, rfl, s0, s1, s2, s3, hb⟩
    clear hc_g_0 hc_g_1 hc_g_2 hc_g_3
    have HB2 := Aside0.mk (below_step HB1.out hb)
    clear HB1 hb
    have HL0 := Aside0.mk s0
    have HL1 := Aside0.mk s1
    have HL2 := Aside0.mk s2
    have HL3 := Aside0.mk s3
    clear s0 s1 s2 s3
    replace HR0 := Aside0.mk (Kd.C_below HR0.out HB2.out)
    replace HR1 := Aside0.mk (Kd.C_below HR1.out HB2.out)
    replace HR2 := Aside0.mk (Kd.C_below HR2.out HB2.out)
    replace HR3 := Aside0.mk (Kd.C_below HR3.out HB2.out)
    replace HXG := Aside0.mk (blk_below HXG.out HB2.out)
    replace HW := Aside0.mk (below_step HW.out HB2.out)
    clear HB2
    have HB3 := Aside0.mk (Below.refl w2_.heap.size w2_)
    go_wp2_with ((with_reducible refine gate_dst (N := 5) rfl ?_); refine hold ?_)
    refine Hold.intro ?_
    refine box_event (N := 5) (t := 59) (cs := #[.slice none 0 0, .slice none 0 0, .slice none 0 0, .slice none 0 0]) rfl rfl ?hr8 ?_
    case hr8 => first | (go_simp; done) | (go_simp; rfl)
    intro gx hg w3_ hbox hb
    have HGX := Aside0.mk (show w2_.heap.size ≤ gx by rw [hg]; exact Nat.le_refl _)
    have HXX := Aside0.mk hbox
    clear hbox hg
    have HB4 := Aside0.mk (below_step HB3.out hb)
    clear HB3 hb
    go_wp2_with ((with_reducible refine gate_store (t := 59) (p := 5) rfl ?_); refine hold ?_)
    refine Hold.intro (box_store_event (t := 59) (ty := 59) (p := 5) (x := .tmp 14) (g := gx) (cs := #[.slice none 0 0, .slice none 0 0, .slice none 0 0, .slice none 0 0]) (cs' := #[.slice B0 l0.length l0.length, .slice B1 l1.length l1.length, .slice B2 l2.length l2.length, .slice B3 l3.length l3.length]) rfl rfl rfl rfl rfl size59 HXX.out rfl rfl ?_)
    intro w4_ hbox hg
    replace HXX := Aside0.mk hbox
    clear hbox
    have HB5 := Aside0.mk (Below.grown HB4.out hg HB4.out.size (fun k_ e_ => by injection e_ with e_; rw [← e_]; exact HGX.out))
    clear hg HB4
    replace HR0 := Aside0.mk (Kd.C_below HR0.out HB5.out)
    replace HL0 := Aside0.mk (Kd.C_below HL0.out HB5.out)
    replace HR1 := Aside0.mk (Kd.C_below HR1.out HB5.out)
    replace HL1 := Aside0.mk (Kd.C_below HL1.out HB5.out)
    replace HR2 := Aside0.mk (Kd.C_below HR2.out HB5.out)
    replace HL2 := Aside0.mk (Kd.C_below HL2.out HB5.out)
    replace HR3 := Aside0.mk (Kd.C_below HR3.out HB5.out)
    replace HL3 := Aside0.mk (Kd.C_below HL3.out HB5.out)
    replace HXG := Aside0.mk (blk_below HXG.out HB5.out)
    replace HW := Aside0.mk (below_step HW.out HB5.out)
    clear HGX HB5
    have HB6 := Aside0.mk (Below.refl w4_.heap.size w4_)
    obtain ⟨m, hm⟩ : ∃ m : Int, m = ((countL (isOwned a1) l1 : Nat) : Int) := ⟨_, rfl⟩
    have HO1 := Aside0.mk (show rules_Owned.f l0 l1 l2 l3 a1 = some m by rw [hm]; rfl)
    have HO2 := Aside0.mk (show flotillaref16_Owned.f (l1.length + 1) l0 l1 l2 l3 a1 = some m by rw [hm]; exact owned_ref l0 l1 l2 l3 a1 (by have := HLN.out.2.1; omega))
    clear hm
    obtain ⟨n, hn⟩ : ∃ n : Int, n = ((countL (isReady a1) l1 : Nat) : Int) := ⟨_, rfl⟩
    have HY1 := Aside0.mk (show rules_Ready.f l0 l1 l2 l3 a1 = some n by rw [hn]; rfl)
    have HY2 := Aside0.mk (show flotillaref16_Ready.f (l1.length + 1) l0 l1 l2 l3 a1 = some n by rw [hn]; exact ready_ref l0 l1 l2 l3 a1 (by have := HLN.out.2.1; omega))
    clear hn
    obtain ⟨u, v, huv⟩ : ∃ u v, usedL l1 a1 = (u, v) := ⟨_, _, rfl⟩
    have HU1 := Aside0.mk (show rules_Used.f (l1.length + 1) l0 l1 l2 l3 a1 = some (u, v) by rw [← huv]; exact used_is l0 l1 l2 l3 a1 (by have := HLN.out.2.1; omega))
    have HU2 := Aside0.mk (show flotillaref16_Used.f (l1.length + 1) l0 l1 l2 l3 a1 = some (u, v) by rw [← huv]; exact used_ref l0 l1 l2 l3 a1 (by have := HLN.out.2.1; omega))
    clear huv
    go_wp2
    have HB7 := Aside0.mk (below_drew1 HB6.out)
    clear HB6
    refine start_ (n := 25) (S := fun w' => w'.cell? ⟨gx, 0, none⟩ = some (.slice B0 l0.length l0.length) ∧ w'.cell? ⟨gx, 1, none⟩ = some (.slice B1 l1.length l1.length) ∧ w'.cell? ⟨gx, 2, none⟩ = some (.slice B2 l2.length l2.length) ∧ w'.cell? ⟨gx, 3, none⟩ = some (.slice B3 l3.length l3.length) ∧ w'.cell? ⟨gb, 0, none⟩ = some (.slice A0 l0.length c0) ∧ w'.cell? ⟨gb, 1, none⟩ = some (.slice A1 l1.length c1) ∧ w'.cell? ⟨gb, 2, none⟩ = some (.slice A2 l2.length c2) ∧ w'.cell? ⟨gb, 3, none⟩ = some (.slice A3 l3.length c3)) (ds := []) #[false, false, false, false, false, false, false, false, false, false, false, false, false, false, false, false, false, false, false, false, false, false, false, false, false] (by kernel_rfl) rfl rfl ⟨(blk_cell (blk_below HXX.out HB7.out) 0).trans rfl, (blk_cell (blk_below HXX.out HB7.out) 1).trans rfl, (blk_cell (blk_below HXX.out HB7.out) 2).trans rfl, (blk_cell (blk_below HXX.out HB7.out) 3).trans rfl, (blk_cell (blk_below HXG.out HB7.out) 0).trans rfl, (blk_cell (blk_below HXG.out HB7.out) 1).trans rfl, (blk_cell (blk_below HXG.out HB7.out) 2).trans rfl, (blk_cell (blk_below HXG.out HB7.out) 3).trans rfl⟩ (fun hHeld => ?_); refine with_tabW cnt.tab4 cnt.bits4 (fun HT_ HW_ => ?_)
    generalize w4_.drew = w5_ at HB7 hHeld ⊢
    refine pure_ (i := 1) (N := some 16) (v := ?_) (a' := ?_) #[false, true, false, false, false, false, false, false, false, false, false, false, false, false, false, false, false, false, false, false, false, false, false, false, false] rfl rfl (any_of HT_.out (by kernel_rfl)) (fun _ _ _ h => h) (Or.inl ⟨by rfl, ?_⟩) ?_ ?_
    rotate_left
    · intro w'
      go_simp
      with_reducible rfl
    rotate_left
    · simp only [Act.put, List.setIfInBounds_toArray, List.set_cons_zero, List.set_cons_succ, i64_w, i32_w]
      rfl
    refine pure_ (i := 4) (N := some 19) (v := ?_) (a' := ?_) #[false, true, false, false, true, false, false, false, false, false, false, false, false, false, false, false, false, false, false, false, false, false, false, false, false] rfl rfl (any_of HT_.out (by kernel_rfl)) (fun _ _ _ h => h) (Or.inl ⟨by rfl, ?_⟩) ?_ ?_
    rotate_left
    · intro w'
      go_simp
      with_reducible rfl
    rotate_left
    · simp only [Act.put, List.setIfInBounds_toArray, List.set_cons_zero, List.set_cons_succ, i64_w, i32_w]
      rfl
    refine take_ (i := 0) (N := some 15) (v := ?_) (a' := ?_) #[true, true, false, false, true, false, false, false, false, false, false, false, false, false, false, false, false, false, false, false, false, false, false, false, false] rfl rfl (take_ofW HT_.out HW_.out (by kernel_rfl)) (fun _ _ _ h => h) (Or.inl ⟨by rfl, ?_⟩) hHeld ?_ ?_
    rotate_left
    · rintro w' ⟨s0, s1, s2, s3, s4, s5, s6, s7⟩
      go_simp
      with_reducible rfl
    rotate_left
    · simp only [Act.put, List.setIfInBounds_toArray, List.set_cons_zero, List.set_cons_succ, i64_w, i32_w]
      rfl
    refine take_ (i := 3) (N := some 18) (v := ?_) (a' := ?_) #[true, true, false, true, true, false, false, false, false, false, false, false, false, false, false, false, false, false, false, false, false, false, false, false, false] rfl rfl (take_ofW HT_.out HW_.out (by kernel_rfl)) (fun _ _ _ h => h) (Or.inl ⟨by rfl, ?_⟩) hHeld ?_ ?_
    rotate_left
    · rintro w' ⟨s0, s1, s2, s3, s4, s5, s6, s7⟩
      go_simp
      with_reducible rfl
    rotate_left
    · simp only [Act.put, List.setIfInBounds_toArray, List.set_cons_zero, List.set_cons_succ, i64_w, i32_w]
      rfl
    refine one_ (i := 2) (N := some 17) #[true, true, true, true, true, false, false, false, false, false, false, false, false, false, false, false, false, false, false, false, false, false, false, false, false] rfl rfl (one_of HT_.out (by kernel_rfl)) (by decide) (fun K hK => ?_)
    refine goes_ Try.func34 (by kernel_rfl) rfl #[.agg #[.slice B0 l0.length l0.length, .slice B1 l1.length l1.length, .slice B2 l2.length l2.length, .slice B3 l3.length l3.length], .string a1] (by rfl) rfl rfl (by (try simp only [List.map_toArray, List.map_cons, List.map_nil]); first | done | rfl | (simp only [List.length_drop, List.length_take]; rfl)) ?_
    refine (rules_Owned.calls _ _ l0 _ _ l1 _ _ l2 _ _ l3 a1 m _ (kLO_C (Kd.C_below HL0.out HB7.out)) (Nat.le_refl _) (kLO_C (Kd.C_below HL1.out HB7.out)) (Nat.le_refl _) (kLO_C (Kd.C_below HL2.out HB7.out)) (Nat.le_refl _) (kLO_C (Kd.C_below HL3.out HB7.out)) (Nat.le_refl _) HO1.out).mono ?_
    rintro e w6_ ⟨rfl, hb⟩
    refine ⟨_, rfl, ?_⟩
    have HB8 := Aside0.mk (below_step HB7.out hb)
    clear hb HB7
    refine hK.out _ _ ⟨(blk_cell (blk_below HXX.out HB8.out) 0).trans rfl, (blk_cell (blk_below HXX.out HB8.out) 1).trans rfl, (blk_cell (blk_below HXX.out HB8.out) 2).trans rfl, (blk_cell (blk_below HXX.out HB8.out) 3).trans rfl, (blk_cell (blk_below HXG.out HB8.out) 0).trans rfl, (blk_cell (blk_below HXG.out HB8.out) 1).trans rfl, (blk_cell (blk_below HXG.out HB8.out) 2).trans rfl, (blk_cell (blk_below HXG.out HB8.out) 3).trans rfl⟩ (fun hHeld => ?_)
    clear hK K
    refine norm_ (a' := ?_) ?_ ?_
    rotate_left
    · show Act.put _ (some 17) _ = _
      simp only [Act.put, List.setIfInBounds_toArray, List.set_cons_zero, List.set_cons_succ, i64_w, i32_w]
      rfl
    refine one_ (i := 5) (N := some 20) #[true, true, true, true, true, true, false, false, false, false, false, false, false, false, false, false, false, false, false, false, false, false, false, false, false] rfl rfl (one_of HT_.out (by kernel_rfl)) (by decide) (fun K hK => ?_)
    refine goes_ Try.func35 (by kernel_rfl) rfl #[.agg #[.slice A0 l0.length c0, .slice A1 l1.length c1, .slice A2 l2.length c2, .slice A3 l3.length c3], .string a1] (by rfl) rfl rfl (by (try simp only [List.map_toArray, List.map_cons, List.map_nil]); first | done | rfl | (simp only [List.length_drop, List.length_take]; rfl)) ?_
    refine (flotillaref16_Owned.calls (l1.length + 1) _ _ l0 _ _ l1 _ _ l2 _ _ l3 a1 m _ (Kd.C_below HR0.out HB8.out) HC0.out (Kd.C_below HR1.out HB8.out) HC1.out (Kd.C_below HR2.out HB8.out) HC2.out (Kd.C_below HR3.out HB8.out) HC3.out HO2.out).mono ?_
    rintro e w7_ ⟨rfl, hb⟩
    refine ⟨_, rfl, ?_⟩
    have HB9 := Aside0.mk (below_step HB8.out hb)
    clear hb HB8
    refine hK.out _ _ ⟨(blk_cell (blk_below HXX.out HB9.out) 0).trans rfl, (blk_cell (blk_below HXX.out HB9.out) 1).trans rfl, (blk_cell (blk_below HXX.out HB9.out) 2).trans rfl, (blk_cell (blk_below HXX.out HB9.out) 3).trans rfl, (blk_cell (blk_below HXG.out HB9.out) 0).trans rfl, (blk_cell (blk_below HXG.out HB9.out) 1).trans rfl, (blk_cell (blk_below HXG.out HB9.out) 2).trans rfl, (blk_cell (blk_below HXG.out HB9.out) 3).trans rfl⟩ (fun hHeld => ?_)
    clear hK K
    refine norm_ (a' := ?_) ?_ ?_
    rotate_left
    · show Act.put _ (some 20) _ = _
      simp only [Act.put, List.setIfInBounds_toArray, List.set_cons_zero, List.set_cons_succ, i64_w, i32_w]
      rfl
    refine pure_ (i := 6) (N := some 21) (v := ?_) (a' := ?_) #[true, true, true, true, true, true, true, false, false, false, false, false, false, false, false, false, false, false, false, false, false, false, false, false, false] rfl rfl (any_of HT_.out (by kernel_rfl)) (fun _ _ _ h => h) (Or.inl ⟨by rfl, ?_⟩) ?_ ?_
    rotate_left
    · intro w'
      go_simp
      with_reducible rfl
    rotate_left
    · simp only [Act.put, List.setIfInBounds_toArray, List.set_cons_zero, List.set_cons_succ, i64_w, i32_w]
      rfl
    refine pure_ (i := 7) (N := some 22) (v := ?_) (a' := ?_) #[true, true, true, true, true, true, true, true, false, false, false, false, false, false, false, false, false, false, false, false, false, false, false, false, false] rfl rfl (any_of HT_.out (by kernel_rfl)) (fun _ _ _ h => h) (Or.inl ⟨by rfl, ?_⟩) ?_ ?_
    rotate_left
    · intro w'
      go_simp
      with_reducible rfl
    rotate_left
    · simp only [Act.put, List.setIfInBounds_toArray, List.set_cons_zero, List.set_cons_succ, i64_w, i32_w]
      rfl
    refine pure_ (i := 9) (N := some 24) (v := ?_) (a' := ?_) #[true, true, true, true, true, true, true, true, false, true, false, false, false, false, false, false, false, false, false, false, false, false, false, false, false] rfl rfl (any_of HT_.out (by kernel_rfl)) (fun _ _ _ h => h) (Or.inl ⟨by rfl, ?_⟩) ?_ ?_
    rotate_left
    · intro w'
      go_simp
      with_reducible rfl
    rotate_left
    · simp only [Act.put, List.setIfInBounds_toArray, List.set_cons_zero, List.set_cons_succ, i64_w, i32_w]
      rfl
    refine pure_ (i := 12) (N := some 27) (v := ?_) (a' := ?_) #[true, true, true, true, true, true, true, true, false, true, false, false, true, false, false, false, false, false, false, false, false, false, false, false, false] rfl rfl (any_of HT_.out (by kernel_rfl)) (fun _ _ _ h => h) (Or.inl ⟨by rfl, ?_⟩) ?_ ?_
    rotate_left
    · intro w'
      go_simp
      with_reducible rfl
    rotate_left
    · simp only [Act.put, List.setIfInBounds_toArray, List.set_cons_zero, List.set_cons_succ, i64_w, i32_w]
      rfl
    refine take_ (i := 8) (N := some 23) (v := ?_) (a' := ?_) #[true, true, true, true, true, true, true, true, true, true, false, false, true, false, false, false, false, false, false, false, false, false, false, false, false] rfl rfl (take_ofW HT_.out HW_.out (by kernel_rfl)) (fun _ _ _ h => h) (Or.inl ⟨by rfl, ?_⟩) hHeld ?_ ?_
    rotate_left
    · rintro w' ⟨s0, s1, s2, s3, s4, s5, s6, s7⟩
      go_simp
      with_reducible rfl
    rotate_left
    · simp only [Act.put, List.setIfInBounds_toArray, List.set_cons_zero, List.set_cons_succ, i64_w, i32_w]
      rfl
    refine take_ (i := 11) (N := some 26) (v := ?_) (a' := ?_) #[true, true, true, true, true, true, true, true, true, true, false, true, true, false, false, false, false, false, false, false, false, false, false, false, false] rfl rfl (take_ofW HT_.out HW_.out (by kernel_rfl)) (fun _ _ _ h => h) (Or.inl ⟨by rfl, ?_⟩) hHeld ?_ ?_
    rotate_left
    · rintro w' ⟨s0, s1, s2, s3, s4, s5, s6, s7⟩
      go_simp
      with_reducible rfl
    rotate_left
    · simp only [Act.put, List.setIfInBounds_toArray, List.set_cons_zero, List.set_cons_succ, i64_w, i32_w]
      rfl
    refine one_ (i := 10) (N := some 25) #[true, true, true, true, true, true, true, true, true, true, true, true, true, false, false, false, false, false, false, false, false, false, false, false, false] rfl rfl (one_of HT_.out (by kernel_rfl)) (by decide) (fun K hK => ?_)
    refine goes_ Try.func36 (by kernel_rfl) rfl #[.agg #[.slice B0 l0.length l0.length, .slice B1 l1.length l1.length, .slice B2 l2.length l2.length, .slice B3 l3.length l3.length], .string a1] (by rfl) rfl rfl (by (try simp only [List.map_toArray, List.map_cons, List.map_nil]); first | done | rfl | (simp only [List.length_drop, List.length_take]; rfl)) ?_
    refine (rules_Ready.calls _ _ l0 _ _ l1 _ _ l2 _ _ l3 a1 n _ (kLO_C (Kd.C_below HL0.out HB9.out)) (Nat.le_refl _) (kLO_C (Kd.C_below HL1.out HB9.out)) (Nat.le_refl _) (kLO_C (Kd.C_below HL2.out HB9.out)) (Nat.le_refl _) (kLO_C (Kd.C_below HL3.out HB9.out)) (Nat.le_refl _) HY1.out).mono ?_
    rintro e w8_ ⟨rfl, hb⟩
    refine ⟨_, rfl, ?_⟩
    have HB10 := Aside0.mk (below_step HB9.out hb)
    clear hb HB9
    refine hK.out _ _ ⟨(blk_cell (blk_below HXX.out HB10.out) 0).trans rfl, (blk_cell (blk_below HXX.out HB10.out) 1).trans rfl, (blk_cell (blk_below HXX.out HB10.out) 2).trans rfl, (blk_cell (blk_below HXX.out HB10.out) 3).trans rfl, (blk_cell (blk_below HXG.out HB10.out) 0).trans rfl, (blk_cell (blk_below HXG.out HB10.out) 1).trans rfl, (blk_cell (blk_below HXG.out HB10.out) 2).trans rfl, (blk_cell (blk_below HXG.out HB10.out) 3).trans rfl⟩ (fun hHeld => ?_)
    clear hK K
    refine norm_ (a' := ?_) ?_ ?_
    rotate_left
    · show Act.put _ (some 25) _ = _
      simp only [Act.put, List.setIfInBounds_toArray, List.set_cons_zero, List.set_cons_succ, i64_w, i32_w]
      rfl
    refine one_ (i := 13) (N := some 28) #[true, true, true, true, true, true, true, true, true, true, true, true, true, true, false, false, false, false, false, false, false, false, false, false, false] rfl rfl (one_of HT_.out (by kernel_rfl)) (by decide) (fun K hK => ?_)
    refine goes_ Try.func37 (by kernel_rfl) rfl #[.agg #[.slice A0 l0.length c0, .slice A1 l1.length c1, .slice A2 l2.length c2, .slice A3 l3.length c3], .string a1] (by rfl) rfl rfl (by (try simp only [List.map_toArray, List.map_cons, List.map_nil]); first | done | rfl | (simp only [List.length_drop, List.length_take]; rfl)) ?_
    refine (flotillaref16_Ready.calls (l1.length + 1) _ _ l0 _ _ l1 _ _ l2 _ _ l3 a1 n _ (Kd.C_below HR0.out HB10.out) HC0.out (Kd.C_below HR1.out HB10.out) HC1.out (Kd.C_below HR2.out HB10.out) HC2.out (Kd.C_below HR3.out HB10.out) HC3.out HY2.out).mono ?_
    rintro e w9_ ⟨rfl, hb⟩
    refine ⟨_, rfl, ?_⟩
    have HB11 := Aside0.mk (below_step HB10.out hb)
    clear hb HB10
    refine hK.out _ _ ⟨(blk_cell (blk_below HXX.out HB11.out) 0).trans rfl, (blk_cell (blk_below HXX.out HB11.out) 1).trans rfl, (blk_cell (blk_below HXX.out HB11.out) 2).trans rfl, (blk_cell (blk_below HXX.out HB11.out) 3).trans rfl, (blk_cell (blk_below HXG.out HB11.out) 0).trans rfl, (blk_cell (blk_below HXG.out HB11.out) 1).trans rfl, (blk_cell (blk_below HXG.out HB11.out) 2).trans rfl, (blk_cell (blk_below HXG.out HB11.out) 3).trans rfl⟩ (fun hHeld => ?_)
    clear hK K
    refine norm_ (a' := ?_) ?_ ?_
    rotate_left
    · show Act.put _ (some 28) _ = _
      simp only [Act.put, List.setIfInBounds_toArray, List.set_cons_zero, List.set_cons_succ, i64_w, i32_w]
      rfl
    refine pure_ (i := 14) (N := some 29) (v := ?_) (a' := ?_) #[true, true, true, true, true, true, true, true, true, true, true, true, true, true, true, false, false, false, false, false, false, false, false, false, false] rfl rfl (any_of HT_.out (by kernel_rfl)) (fun _ _ _ h => h) (Or.inl ⟨by rfl, ?_⟩) ?_ ?_
    rotate_left
    · intro w'
      go_simp
      with_reducible rfl
    rotate_left
    · simp only [Act.put, List.setIfInBounds_toArray, List.set_cons_zero, List.set_cons_succ, i64_w, i32_w]
      rfl
    refine pure_ (i := 15) (N := some 30) (v := ?_) (a' := ?_) #[true, true, true, true, true, true, true, true, true, true, true, true, true, true, true, true, false, false, false, false, false, false, false, false, false] rfl rfl (any_of HT_.out (by kernel_rfl)) (fun _ _ _ h => h) (Or.inl ⟨by rfl, ?_⟩) ?_ ?_
    rotate_left
    · intro w'
      go_simp
      with_reducible rfl
    rotate_left
    · simp only [Act.put, List.setIfInBounds_toArray, List.set_cons_zero, List.set_cons_succ, i64_w, i32_w]
      rfl
    refine pure_ (i := 16) (N := some 31) (v := ?_) (a' := ?_) #[true, true, true, true, true, true, true, true, true, true, true, true, true, true, true, true, true, false, false, false, false, false, false, false, false] rfl rfl (any_of HT_.out (by kernel_rfl)) (fun _ _ _ h => h) (Or.inl ⟨by rfl, ?_⟩) ?_ ?_
    rotate_left
    · intro w'
      go_simp
      with_reducible rfl
    rotate_left
    · simp only [Act.put, List.setIfInBounds_toArray, List.set_cons_zero, List.set_cons_succ, i64_w, i32_w]
      rfl
    refine pure_ (i := 18) (N := some 33) (v := ?_) (a' := ?_) #[true, true, true, true, true, true, true, true, true, true, true, true, true, true, true, true, true, false, true, false, false, false, false, false, false] rfl rfl (any_of HT_.out (by kernel_rfl)) (fun _ _ _ h => h) (Or.inl ⟨by rfl, ?_⟩) ?_ ?_
    rotate_left
    · intro w'
      go_simp
      with_reducible rfl
    rotate_left
    · simp only [Act.put, List.setIfInBounds_toArray, List.set_cons_zero, List.set_cons_succ, i64_w, i32_w]
      rfl
    refine pure_ (i := 21) (N := some 36) (v := ?_) (a' := ?_) #[true, true, true, true, true, true, true, true, true, true, true, true, true, true, true, true, true, false, true, false, false, true, false, false, false] rfl rfl (any_of HT_.out (by kernel_rfl)) (fun _ _ _ h => h) (Or.inl ⟨by rfl, ?_⟩) ?_ ?_
    rotate_left
    · intro w'
      go_simp
      with_reducible rfl
    rotate_left
    · simp only [Act.put, List.setIfInBounds_toArray, List.set_cons_zero, List.set_cons_succ, i64_w, i32_w]
      rfl
    refine take_ (i := 17) (N := some 32) (v := ?_) (a' := ?_) #[true, true, true, true, true, true, true, true, true, true, true, true, true, true, true, true, true, true, true, false, false, true, false, false, false] rfl rfl (take_ofW HT_.out HW_.out (by kernel_rfl)) (fun _ _ _ h => h) (Or.inl ⟨by rfl, ?_⟩) hHeld ?_ ?_
    rotate_left
    · rintro w' ⟨s0, s1, s2, s3, s4, s5, s6, s7⟩
      go_simp
      with_reducible rfl
    rotate_left
    · simp only [Act.put, List.setIfInBounds_toArray, List.set_cons_zero, List.set_cons_succ, i64_w, i32_w]
      rfl
    refine take_ (i := 20) (N := some 35) (v := ?_) (a' := ?_) #[true, true, true, true, true, true, true, true, true, true, true, true, true, true, true, true, true, true, true, false, true, true, false, false, false] rfl rfl (take_ofW HT_.out HW_.out (by kernel_rfl)) (fun _ _ _ h => h) (Or.inl ⟨by rfl, ?_⟩) hHeld ?_ ?_
    rotate_left
    · rintro w' ⟨s0, s1, s2, s3, s4, s5, s6, s7⟩
      go_simp
      with_reducible rfl
    rotate_left
    · simp only [Act.put, List.setIfInBounds_toArray, List.set_cons_zero, List.set_cons_succ, i64_w, i32_w]
      rfl
    refine one_ (i := 19) (N := some 34) #[true, true, true, true, true, true, true, true, true, true, true, true, true, true, true, true, true, true, true, true, true, true, false, false, false] rfl rfl (one_of HT_.out (by kernel_rfl)) (by decide) (fun K hK => ?_)
    refine goes_ Try.func38 (by kernel_rfl) rfl #[.agg #[.slice B0 l0.length l0.length, .slice B1 l1.length l1.length, .slice B2 l2.length l2.length, .slice B3 l3.length l3.length], .string a1] (by rfl) rfl rfl (by (try simp only [List.map_toArray, List.map_cons, List.map_nil]); first | done | rfl | (simp only [List.length_drop, List.length_take]; rfl)) ?_
    refine (rules_Used.calls (l1.length + 1) _ _ l0 _ _ l1 _ _ l2 _ _ l3 a1 u v _ (kLO_C (Kd.C_below HL0.out HB11.out)) (Nat.le_refl _) (kLO_C (Kd.C_below HL1.out HB11.out)) (Nat.le_refl _) (kLO_C (Kd.C_below HL2.out HB11.out)) (Nat.le_refl _) (kLO_C (Kd.C_below HL3.out HB11.out)) (Nat.le_refl _) HU1.out).mono ?_
    rintro e w10_ ⟨rfl, hb⟩
    refine ⟨_, rfl, ?_⟩
    have HB12 := Aside0.mk (below_step HB11.out hb)
    clear hb HB11
    refine hK.out _ _ ⟨(blk_cell (blk_below HXX.out HB12.out) 0).trans rfl, (blk_cell (blk_below HXX.out HB12.out) 1).trans rfl, (blk_cell (blk_below HXX.out HB12.out) 2).trans rfl, (blk_cell (blk_below HXX.out HB12.out) 3).trans rfl, (blk_cell (blk_below HXG.out HB12.out) 0).trans rfl, (blk_cell (blk_below HXG.out HB12.out) 1).trans rfl, (blk_cell (blk_below HXG.out HB12.out) 2).trans rfl, (blk_cell (blk_below HXG.out HB12.out) 3).trans rfl⟩ (fun hHeld => ?_)
    clear hK K
    refine norm_ (a' := ?_) ?_ ?_
    rotate_left
    · show Act.put _ (some 34) _ = _
      simp only [Act.put, List.setIfInBounds_toArray, List.set_cons_zero, List.set_cons_succ, i64_w, i32_w]
      rfl
    refine one_ (i := 22) (N := some 37) #[true, true, true, true, true, true, true, true, true, true, true, true, true, true, true, true, true, true, true, true, true, true, true, false, false] rfl rfl (one_of HT_.out (by kernel_rfl)) (by decide) (fun K hK => ?_)
    refine goes_ Try.func39 (by kernel_rfl) rfl #[.agg #[.slice A0 l0.length c0, .slice A1 l1.length c1, .slice A2 l2.length c2, .slice A3 l3.length c3], .string a1] (by rfl) rfl rfl (by (try simp only [List.map_toArray, List.map_cons, List.map_nil]); first | done | rfl | (simp only [List.length_drop, List.length_take]; rfl)) ?_
    refine (flotillaref16_Used.calls (l1.length + 1) _ _ l0 _ _ l1 _ _ l2 _ _ l3 a1 u v _ (Kd.C_below HR0.out HB12.out) HC0.out (Kd.C_below HR1.out HB12.out) HC1.out (Kd.C_below HR2.out HB12.out) HC2.out (Kd.C_below HR3.out HB12.out) HC3.out HU2.out).mono ?_
    rintro e w11_ ⟨rfl, hb⟩
    refine ⟨_, rfl, ?_⟩
    have HB13 := Aside0.mk (below_step HB12.out hb)
    clear hb HB12
    refine hK.out _ _ ⟨(blk_cell (blk_below HXX.out HB13.out) 0).trans rfl, (blk_cell (blk_below HXX.out HB13.out) 1).trans rfl, (blk_cell (blk_below HXX.out HB13.out) 2).trans rfl, (blk_cell (blk_below HXX.out HB13.out) 3).trans rfl, (blk_cell (blk_below HXG.out HB13.out) 0).trans rfl, (blk_cell (blk_below HXG.out HB13.out) 1).trans rfl, (blk_cell (blk_below HXG.out HB13.out) 2).trans rfl, (blk_cell (blk_below HXG.out HB13.out) 3).trans rfl⟩ (fun hHeld => ?_)
    clear hK K
    refine norm_ (a' := ?_) ?_ ?_
    rotate_left
    · show Act.put _ (some 37) _ = _
      simp only [Act.put, List.setIfInBounds_toArray, List.set_cons_zero, List.set_cons_succ, i64_w, i32_w]
      rfl
    refine pure_ (i := 23) (N := some 38) (v := ?_) (a' := ?_) #[true, true, true, true, true, true, true, true, true, true, true, true, true, true, true, true, true, true, true, true, true, true, true, true, false] rfl rfl (any_of HT_.out (by kernel_rfl)) (fun _ _ _ h => h) (Or.inl ⟨by rfl, ?_⟩) ?_ ?_
    rotate_left
    · intro w'
      go_simp
      with_reducible rfl
    rotate_left
    · simp only [Act.put, List.setIfInBounds_toArray, List.set_cons_zero, List.set_cons_succ, i64_w, i32_w]
      rfl
    refine pure_ (i := 24) (N := some 39) (v := ?_) (a' := ?_) #[true, true, true, true, true, true, true, true, true, true, true, true, true, true, true, true, true, true, true, true, true, true, true, true, true] rfl rfl (any_of HT_.out (by kernel_rfl)) (fun _ _ _ h => h) (Or.inl ⟨by rfl, ?_⟩) ?_ ?_
    rotate_left
    · intro w'
      go_simp
      with_reducible rfl
    rotate_left
    · simp only [Act.put, List.setIfInBounds_toArray, List.set_cons_zero, List.set_cons_succ, i64_w, i32_w]
      rfl
    refine done_ (done_of HT_.out (by kernel_rfl)) ?_
    clear HO1 HO2 HY1 HY2 HU1 HU2
    go_wp2
    go_loopw [6] (fun v wr => ∃ k : Nat, k ≤ l2.length ∧ v = .int .i64 k ∧ Aside0 (Below w4_.heap.size w4_ wr)) (fun v _ => l2.length - (intOf v).toNat)
    case atStart => exact ⟨0, Nat.zero_le _, rfl, HB13⟩
    case round =>
      clear HB13
      obtain ⟨k, hk, rfl, HB⟩ := hrel
      have hln : l2.length ≤ 300 := by have := HLN.out; omega
      by_cases hlt : k < l2.length
      · skip
        obtain ⟨y, hy⟩ : ∃ y, y = l2[k] := ⟨_, rfl⟩
        have hry : rd_T68 l2 (k : Int) = y := by rw [rd_get hlt, hy]
        have HYM := Aside0.mk (show y ∈ l2 by rw [hy]; exact List.getElem_mem hlt)
        obtain ⟨ad, y4, y27, hA, hky, -, hyj, hyall⟩ := at_all HR2.out k hlt
        rw [hry] at hky hyj hyall
        cases hA
        have HLT := Aside0.mk hlt
        have HY1 := Aside0.mk (hyj 1 (.string y.f1) (by omega) rfl)
        have HKY := Aside0.mk hky
        have HYA := Aside0.mk hyall
        clear hy hry hyj hky hyall
        have hc_g_2 : wr.cell? ⟨gb, 2, none⟩ = some (.slice (some ad) l2.length c2) := (blk_cell (blk_below HXG.out HB.out) 2).trans rfl
        have hcn : wr.cell? ⟨(ad.add (k * 32)).block, (ad.add (k * 32)).off + 1, none⟩ = some (.string y.f1) := (HB.out.cell (World.block_lt_of_cell? w4_ _ HY1.out)).trans HY1.out
        clear HYA HKY
        clear HY1
        obtain ⟨m, hm⟩ : ∃ m : Int, m = ((countL (isOwned y.f1) l1 : Nat) : Int) := ⟨_, rfl⟩
        have HO1 := Aside0.mk (show rules_Owned.f l0 l1 l2 l3 y.f1 = some m by rw [hm]; rfl)
        have HO2 := Aside0.mk (show flotillaref16_Owned.f (l1.length + 1) l0 l1 l2 l3 y.f1 = some m by rw [hm]; exact owned_ref l0 l1 l2 l3 y.f1 (by have := HLN.out.2.1; omega))
        clear hm
        obtain ⟨n, hn⟩ : ∃ n : Int, n = ((countL (isReady y.f1) l1 : Nat) : Int) := ⟨_, rfl⟩
        have HY1 := Aside0.mk (show rules_Ready.f l0 l1 l2 l3 y.f1 = some n by rw [hn]; rfl)
        have HY2 := Aside0.mk (show flotillaref16_Ready.f (l1.length + 1) l0 l1 l2 l3 y.f1 = some n by rw [hn]; exact ready_ref l0 l1 l2 l3 y.f1 (by have := HLN.out.2.1; omega))
        clear hn
        go_wp2
        clear hcn
        clear hc_g_2
        have HB14 := Aside0.mk (below_drew1 HB.out)
        clear HB
        refine start_ (n := 16) (S := fun w' => w'.cell? ⟨gx, 0, none⟩ = some (.slice B0 l0.length l0.length) ∧ w'.cell? ⟨gx, 1, none⟩ = some (.slice B1 l1.length l1.length) ∧ w'.cell? ⟨gx, 2, none⟩ = some (.slice B2 l2.length l2.length) ∧ w'.cell? ⟨gx, 3, none⟩ = some (.slice B3 l3.length l3.length) ∧ w'.cell? ⟨gb, 0, none⟩ = some (.slice A0 l0.length c0) ∧ w'.cell? ⟨gb, 1, none⟩ = some (.slice A1 l1.length c1) ∧ w'.cell? ⟨gb, 2, none⟩ = some (.slice (some ad) l2.length c2) ∧ w'.cell? ⟨gb, 3, none⟩ = some (.slice A3 l3.length c3)) (ds := []) #[false, false, false, false, false, false, false, false, false, false, false, false, false, false, false, false] (by kernel_rfl) rfl rfl ⟨(blk_cell (blk_below HXX.out HB14.out) 0).trans rfl, (blk_cell (blk_below HXX.out HB14.out) 1).trans rfl, (blk_cell (blk_below HXX.out HB14.out) 2).trans rfl, (blk_cell (blk_below HXX.out HB14.out) 3).trans rfl, (blk_cell (blk_below HXG.out HB14.out) 0).trans rfl, (blk_cell (blk_below HXG.out HB14.out) 1).trans rfl, (blk_cell (blk_below HXG.out HB14.out) 2).trans rfl, (blk_cell (blk_below HXG.out HB14.out) 3).trans rfl⟩ (fun hHeld => ?_); refine with_tabW cnt.tab10 cnt.bits10 (fun HT_ HW_ => ?_)
        generalize wr.drew = w12_ at HB14 hHeld ⊢
        refine pure_ (i := 1) (N := some 54) (v := ?_) (a' := ?_) #[false, true, false, false, false, false, false, false, false, false, false, false, false, false, false, false] rfl rfl (any_of HT_.out (by kernel_rfl)) (fun _ _ _ h => h) (Or.inl ⟨by rfl, ?_⟩) ?_ ?_
        rotate_left
        · intro w'
          go_simp
          with_reducible rfl
        rotate_left
        · simp only [Act.put, List.setIfInBounds_toArray, List.set_cons_zero, List.set_cons_succ, i64_w, i32_w]
          rfl
        refine pure_ (i := 4) (N := some 57) (v := ?_) (a' := ?_) #[false, true, false, false, true, false, false, false, false, false, false, false, false, false, false, false] rfl rfl (any_of HT_.out (by kernel_rfl)) (fun _ _ _ h => h) (Or.inl ⟨by rfl, ?_⟩) ?_ ?_
        rotate_left
        · intro w'
          go_simp
          with_reducible rfl
        rotate_left
        · simp only [Act.put, List.setIfInBounds_toArray, List.set_cons_zero, List.set_cons_succ, i64_w, i32_w]
          rfl
        refine take_ (i := 0) (N := some 53) (v := ?_) (a' := ?_) #[true, true, false, false, true, false, false, false, false, false, false, false, false, false, false, false] rfl rfl (take_ofW HT_.out HW_.out (by kernel_rfl)) (fun _ _ _ h => h) (Or.inl ⟨by rfl, ?_⟩) hHeld ?_ ?_
        rotate_left
        · rintro w' ⟨s0, s1, s2, s3, s4, s5, s6, s7⟩
          go_simp
          with_reducible rfl
        rotate_left
        · simp only [Act.put, List.setIfInBounds_toArray, List.set_cons_zero, List.set_cons_succ, i64_w, i32_w]
          rfl
        refine take_ (i := 3) (N := some 56) (v := ?_) (a' := ?_) #[true, true, false, true, true, false, false, false, false, false, false, false, false, false, false, false] rfl rfl (take_ofW HT_.out HW_.out (by kernel_rfl)) (fun _ _ _ h => h) (Or.inl ⟨by rfl, ?_⟩) hHeld ?_ ?_
        rotate_left
        · rintro w' ⟨s0, s1, s2, s3, s4, s5, s6, s7⟩
          go_simp
          with_reducible rfl
        rotate_left
        · simp only [Act.put, List.setIfInBounds_toArray, List.set_cons_zero, List.set_cons_succ, i64_w, i32_w]
          rfl
        refine one_ (i := 2) (N := some 55) #[true, true, true, true, true, false, false, false, false, false, false, false, false, false, false, false] rfl rfl (one_of HT_.out (by kernel_rfl)) (by decide) (fun K hK => ?_)
        refine goes_ Try.func34 (by kernel_rfl) rfl #[.agg #[.slice B0 l0.length l0.length, .slice B1 l1.length l1.length, .slice B2 l2.length l2.length, .slice B3 l3.length l3.length], .string y.f1] (by rfl) rfl rfl (by (try simp only [List.map_toArray, List.map_cons, List.map_nil]); first | done | rfl | (simp only [List.length_drop, List.length_take]; rfl)) ?_
        refine (rules_Owned.calls _ _ l0 _ _ l1 _ _ l2 _ _ l3 y.f1 m _ (kLO_C (Kd.C_below HL0.out HB14.out)) (Nat.le_refl _) (kLO_C (Kd.C_below HL1.out HB14.out)) (Nat.le_refl _) (kLO_C (Kd.C_below HL2.out HB14.out)) (Nat.le_refl _) (kLO_C (Kd.C_below HL3.out HB14.out)) (Nat.le_refl _) HO1.out).mono ?_
        rintro e w13_ ⟨rfl, hb⟩
        refine ⟨_, rfl, ?_⟩
        have HB15 := Aside0.mk (below_step HB14.out hb)
        clear hb HB14
        refine hK.out _ _ ⟨(blk_cell (blk_below HXX.out HB15.out) 0).trans rfl, (blk_cell (blk_below HXX.out HB15.out) 1).trans rfl, (blk_cell (blk_below HXX.out HB15.out) 2).trans rfl, (blk_cell (blk_below HXX.out HB15.out) 3).trans rfl, (blk_cell (blk_below HXG.out HB15.out) 0).trans rfl, (blk_cell (blk_below HXG.out HB15.out) 1).trans rfl, (blk_cell (blk_below HXG.out HB15.out) 2).trans rfl, (blk_cell (blk_below HXG.out HB15.out) 3).trans rfl⟩ (fun hHeld => ?_)
        clear hK K
        refine norm_ (a' := ?_) ?_ ?_
        rotate_left
        · show Act.put _ (some 55) _ = _
          simp only [Act.put, List.setIfInBounds_toArray, List.set_cons_zero, List.set_cons_succ, i64_w, i32_w]
          rfl
        refine one_ (i := 5) (N := some 58) #[true, true, true, true, true, true, false, false, false, false, false, false, false, false, false, false] rfl rfl (one_of HT_.out (by kernel_rfl)) (by decide) (fun K hK => ?_)
        refine goes_ Try.func35 (by kernel_rfl) rfl #[.agg #[.slice A0 l0.length c0, .slice A1 l1.length c1, .slice (some ad) l2.length c2, .slice A3 l3.length c3], .string y.f1] (by rfl) rfl rfl (by (try simp only [List.map_toArray, List.map_cons, List.map_nil]); first | done | rfl | (simp only [List.length_drop, List.length_take]; rfl)) ?_
        refine (flotillaref16_Owned.calls (l1.length + 1) _ _ l0 _ _ l1 _ _ l2 _ _ l3 y.f1 m _ (Kd.C_below HR0.out HB15.out) HC0.out (Kd.C_below HR1.out HB15.out) HC1.out (Kd.C_below HR2.out HB15.out) HC2.out (Kd.C_below HR3.out HB15.out) HC3.out HO2.out).mono ?_
        rintro e w14_ ⟨rfl, hb⟩
        refine ⟨_, rfl, ?_⟩
        have HB16 := Aside0.mk (below_step HB15.out hb)
        clear hb HB15
        refine hK.out _ _ ⟨(blk_cell (blk_below HXX.out HB16.out) 0).trans rfl, (blk_cell (blk_below HXX.out HB16.out) 1).trans rfl, (blk_cell (blk_below HXX.out HB16.out) 2).trans rfl, (blk_cell (blk_below HXX.out HB16.out) 3).trans rfl, (blk_cell (blk_below HXG.out HB16.out) 0).trans rfl, (blk_cell (blk_below HXG.out HB16.out) 1).trans rfl, (blk_cell (blk_below HXG.out HB16.out) 2).trans rfl, (blk_cell (blk_below HXG.out HB16.out) 3).trans rfl⟩ (fun hHeld => ?_)
        clear hK K
        refine norm_ (a' := ?_) ?_ ?_
        rotate_left
        · show Act.put _ (some 58) _ = _
          simp only [Act.put, List.setIfInBounds_toArray, List.set_cons_zero, List.set_cons_succ, i64_w, i32_w]
          rfl
        refine pure_ (i := 6) (N := some 59) (v := ?_) (a' := ?_) #[true, true, true, true, true, true, true, false, false, false, false, false, false, false, false, false] rfl rfl (any_of HT_.out (by kernel_rfl)) (fun _ _ _ h => h) (Or.inl ⟨by rfl, ?_⟩) ?_ ?_
        rotate_left
        · intro w'
          go_simp
          with_reducible rfl
        rotate_left
        · simp only [Act.put, List.setIfInBounds_toArray, List.set_cons_zero, List.set_cons_succ, i64_w, i32_w]
          rfl
        refine pure_ (i := 7) (N := some 60) (v := ?_) (a' := ?_) #[true, true, true, true, true, true, true, true, false, false, false, false, false, false, false, false] rfl rfl (any_of HT_.out (by kernel_rfl)) (fun _ _ _ h => h) (Or.inl ⟨by rfl, ?_⟩) ?_ ?_
        rotate_left
        · intro w'
          go_simp
          with_reducible rfl
        rotate_left
        · simp only [Act.put, List.setIfInBounds_toArray, List.set_cons_zero, List.set_cons_succ, i64_w, i32_w]
          rfl
        refine pure_ (i := 9) (N := some 62) (v := ?_) (a' := ?_) #[true, true, true, true, true, true, true, true, false, true, false, false, false, false, false, false] rfl rfl (any_of HT_.out (by kernel_rfl)) (fun _ _ _ h => h) (Or.inl ⟨by rfl, ?_⟩) ?_ ?_
        rotate_left
        · intro w'
          go_simp
          with_reducible rfl
        rotate_left
        · simp only [Act.put, List.setIfInBounds_toArray, List.set_cons_zero, List.set_cons_succ, i64_w, i32_w]
          rfl
        refine pure_ (i := 12) (N := some 65) (v := ?_) (a' := ?_) #[true, true, true, true, true, true, true, true, false, true, false, false, true, false, false, false] rfl rfl (any_of HT_.out (by kernel_rfl)) (fun _ _ _ h => h) (Or.inl ⟨by rfl, ?_⟩) ?_ ?_
        rotate_left
        · intro w'
          go_simp
          with_reducible rfl
        rotate_left
        · simp only [Act.put, List.setIfInBounds_toArray, List.set_cons_zero, List.set_cons_succ, i64_w, i32_w]
          rfl
        refine take_ (i := 8) (N := some 61) (v := ?_) (a' := ?_) #[true, true, true, true, true, true, true, true, true, true, false, false, true, false, false, false] rfl rfl (take_ofW HT_.out HW_.out (by kernel_rfl)) (fun _ _ _ h => h) (Or.inl ⟨by rfl, ?_⟩) hHeld ?_ ?_
        rotate_left
        · rintro w' ⟨s0, s1, s2, s3, s4, s5, s6, s7⟩
          go_simp
          with_reducible rfl
        rotate_left
        · simp only [Act.put, List.setIfInBounds_toArray, List.set_cons_zero, List.set_cons_succ, i64_w, i32_w]
          rfl
        refine take_ (i := 11) (N := some 64) (v := ?_) (a' := ?_) #[true, true, true, true, true, true, true, true, true, true, false, true, true, false, false, false] rfl rfl (take_ofW HT_.out HW_.out (by kernel_rfl)) (fun _ _ _ h => h) (Or.inl ⟨by rfl, ?_⟩) hHeld ?_ ?_
        rotate_left
        · rintro w' ⟨s0, s1, s2, s3, s4, s5, s6, s7⟩
          go_simp
          with_reducible rfl
        rotate_left
        · simp only [Act.put, List.setIfInBounds_toArray, List.set_cons_zero, List.set_cons_succ, i64_w, i32_w]
          rfl
        refine one_ (i := 10) (N := some 63) #[true, true, true, true, true, true, true, true, true, true, true, true, true, false, false, false] rfl rfl (one_of HT_.out (by kernel_rfl)) (by decide) (fun K hK => ?_)
        refine goes_ Try.func36 (by kernel_rfl) rfl #[.agg #[.slice B0 l0.length l0.length, .slice B1 l1.length l1.length, .slice B2 l2.length l2.length, .slice B3 l3.length l3.length], .string y.f1] (by rfl) rfl rfl (by (try simp only [List.map_toArray, List.map_cons, List.map_nil]); first | done | rfl | (simp only [List.length_drop, List.length_take]; rfl)) ?_
        refine (rules_Ready.calls _ _ l0 _ _ l1 _ _ l2 _ _ l3 y.f1 n _ (kLO_C (Kd.C_below HL0.out HB16.out)) (Nat.le_refl _) (kLO_C (Kd.C_below HL1.out HB16.out)) (Nat.le_refl _) (kLO_C (Kd.C_below HL2.out HB16.out)) (Nat.le_refl _) (kLO_C (Kd.C_below HL3.out HB16.out)) (Nat.le_refl _) HY1.out).mono ?_
        rintro e w15_ ⟨rfl, hb⟩
        refine ⟨_, rfl, ?_⟩
        have HB17 := Aside0.mk (below_step HB16.out hb)
        clear hb HB16
        refine hK.out _ _ ⟨(blk_cell (blk_below HXX.out HB17.out) 0).trans rfl, (blk_cell (blk_below HXX.out HB17.out) 1).trans rfl, (blk_cell (blk_below HXX.out HB17.out) 2).trans rfl, (blk_cell (blk_below HXX.out HB17.out) 3).trans rfl, (blk_cell (blk_below HXG.out HB17.out) 0).trans rfl, (blk_cell (blk_below HXG.out HB17.out) 1).trans rfl, (blk_cell (blk_below HXG.out HB17.out) 2).trans rfl, (blk_cell (blk_below HXG.out HB17.out) 3).trans rfl⟩ (fun hHeld => ?_)
        clear hK K
        refine norm_ (a' := ?_) ?_ ?_
        rotate_left
        · show Act.put _ (some 63) _ = _
          simp only [Act.put, List.setIfInBounds_toArray, List.set_cons_zero, List.set_cons_succ, i64_w, i32_w]
          rfl
        refine one_ (i := 13) (N := some 66) #[true, true, true, true, true, true, true, true, true, true, true, true, true, true, false, false] rfl rfl (one_of HT_.out (by kernel_rfl)) (by decide) (fun K hK => ?_)
        refine goes_ Try.func37 (by kernel_rfl) rfl #[.agg #[.slice A0 l0.length c0, .slice A1 l1.length c1, .slice (some ad) l2.length c2, .slice A3 l3.length c3], .string y.f1] (by rfl) rfl rfl (by (try simp only [List.map_toArray, List.map_cons, List.map_nil]); first | done | rfl | (simp only [List.length_drop, List.length_take]; rfl)) ?_
        refine (flotillaref16_Ready.calls (l1.length + 1) _ _ l0 _ _ l1 _ _ l2 _ _ l3 y.f1 n _ (Kd.C_below HR0.out HB17.out) HC0.out (Kd.C_below HR1.out HB17.out) HC1.out (Kd.C_below HR2.out HB17.out) HC2.out (Kd.C_below HR3.out HB17.out) HC3.out HY2.out).mono ?_
        rintro e w16_ ⟨rfl, hb⟩
        refine ⟨_, rfl, ?_⟩
        have HB18 := Aside0.mk (below_step HB17.out hb)
        clear hb HB17
        refine hK.out _ _ ⟨(blk_cell (blk_below HXX.out HB18.out) 0).trans rfl, (blk_cell (blk_below HXX.out HB18.out) 1).trans rfl, (blk_cell (blk_below HXX.out HB18.out) 2).trans rfl, (blk_cell (blk_below HXX.out HB18.out) 3).trans rfl, (blk_cell (blk_below HXG.out HB18.out) 0).trans rfl, (blk_cell (blk_below HXG.out HB18.out) 1).trans rfl, (blk_cell (blk_below HXG.out HB18.out) 2).trans rfl, (blk_cell (blk_below HXG.out HB18.out) 3).trans rfl⟩ (fun hHeld => ?_)
        clear hK K
        refine norm_ (a' := ?_) ?_ ?_
        rotate_left
        · show Act.put _ (some 66) _ = _
          simp only [Act.put, List.setIfInBounds_toArray, List.set_cons_zero, List.set_cons_succ, i64_w, i32_w]
          rfl
        refine pure_ (i := 14) (N := some 67) (v := ?_) (a' := ?_) #[true, true, true, true, true, true, true, true, true, true, true, true, true, true, true, false] rfl rfl (any_of HT_.out (by kernel_rfl)) (fun _ _ _ h => h) (Or.inl ⟨by rfl, ?_⟩) ?_ ?_
        rotate_left
        · intro w'
          go_simp
          with_reducible rfl
        rotate_left
        · simp only [Act.put, List.setIfInBounds_toArray, List.set_cons_zero, List.set_cons_succ, i64_w, i32_w]
          rfl
        refine pure_ (i := 15) (N := some 68) (v := ?_) (a' := ?_) #[true, true, true, true, true, true, true, true, true, true, true, true, true, true, true, true] rfl rfl (any_of HT_.out (by kernel_rfl)) (fun _ _ _ h => h) (Or.inl ⟨by rfl, ?_⟩) ?_ ?_
        rotate_left
        · intro w'
          go_simp
          with_reducible rfl
        rotate_left
        · simp only [Act.put, List.setIfInBounds_toArray, List.set_cons_zero, List.set_cons_succ, i64_w, i32_w]
          rfl
        refine done_ (done_of HT_.out (by kernel_rfl)) ?_
        go_wp2
        go_roundw
        case rel => exact ⟨k + 1, by have := HLT.out; omega, by simp, HB18⟩
        case measure => have := HLT.out; simp [intOf]; omega
      · obtain rfl : k = l2.length := by omega
        clear hk hlt hln
        have hc_g_2 : wr.cell? ⟨gb, 2, none⟩ = some (.slice A2 l2.length c2) := (blk_cell (blk_below HXG.out HB.out) 2).trans rfl
        go_wp2
        clear hc_g_2
        go_wp2
        go_loopw [8] (fun v wr => ∃ k : Nat, k ≤ l0.length ∧ v = .int .i64 k ∧ Aside0 (Below w4_.heap.size w4_ wr)) (fun v _ => l0.length - (intOf v).toNat)
        case atStart => exact ⟨0, Nat.zero_le _, rfl, HB⟩
        case round =>
          clear HB
          obtain ⟨k, hk, rfl, HB⟩ := hrel
          have hln : l0.length ≤ 300 := by have := HLN.out; omega
          by_cases hlt : k < l0.length
          · skip
            obtain ⟨y, hy⟩ : ∃ y, y = l0[k] := ⟨_, rfl⟩
            have hry : rd_T68 l0 (k : Int) = y := by rw [rd_get hlt, hy]
            have HYM := Aside0.mk (show y ∈ l0 by rw [hy]; exact List.getElem_mem hlt)
            obtain ⟨ad, y4, y27, hA, hky, -, hyj, hyall⟩ := at_all HR0.out k hlt
            rw [hry] at hky hyj hyall
            cases hA
            have HLT := Aside0.mk hlt
            have HY1 := Aside0.mk (hyj 1 (.string y.f1) (by omega) rfl)
            have HKY := Aside0.mk hky
            have HYA := Aside0.mk hyall
            clear hy hry hyj hky hyall
            have hc_g_0 : wr.cell? ⟨gb, 0, none⟩ = some (.slice (some ad) l0.length c0) := (blk_cell (blk_below HXG.out HB.out) 0).trans rfl
            have hcn : wr.cell? ⟨(ad.add (k * 32)).block, (ad.add (k * 32)).off + 1, none⟩ = some (.string y.f1) := (HB.out.cell (World.block_lt_of_cell? w4_ _ HY1.out)).trans HY1.out
            clear HYA HKY
            obtain ⟨u, v, huv⟩ : ∃ u v, usedL l1 y.f1 = (u, v) := ⟨_, _, rfl⟩
            have HU1 := Aside0.mk (show rules_Used.f (l1.length + 1) l0 l1 l2 l3 y.f1 = some (u, v) by rw [← huv]; exact used_is l0 l1 l2 l3 y.f1 (by have := HLN.out.2.1; omega))
            have HU2 := Aside0.mk (show flotillaref16_Used.f (l1.length + 1) l0 l1 l2 l3 y.f1 = some (u, v) by rw [← huv]; exact used_ref l0 l1 l2 l3 y.f1 (by have := HLN.out.2.1; omega))
            clear huv
            go_wp2
            clear hcn
            clear hc_g_0
            have HB19 := Aside0.mk (below_drew1 HB.out)
            clear HB
            refine start_ (n := 7) (S := fun w' => w'.cell? ⟨gx, 0, none⟩ = some (.slice B0 l0.length l0.length) ∧ w'.cell? ⟨gx, 1, none⟩ = some (.slice B1 l1.length l1.length) ∧ w'.cell? ⟨gx, 2, none⟩ = some (.slice B2 l2.length l2.length) ∧ w'.cell? ⟨gx, 3, none⟩ = some (.slice B3 l3.length l3.length) ∧ w'.cell? ⟨gb, 0, none⟩ = some (.slice (some ad) l0.length c0) ∧ w'.cell? ⟨gb, 1, none⟩ = some (.slice A1 l1.length c1) ∧ w'.cell? ⟨gb, 2, none⟩ = some (.slice A2 l2.length c2) ∧ w'.cell? ⟨gb, 3, none⟩ = some (.slice A3 l3.length c3)) (ds := []) #[false, false, false, false, false, false, false] (by kernel_rfl) rfl rfl ⟨(blk_cell (blk_below HXX.out HB19.out) 0).trans rfl, (blk_cell (blk_below HXX.out HB19.out) 1).trans rfl, (blk_cell (blk_below HXX.out HB19.out) 2).trans rfl, (blk_cell (blk_below HXX.out HB19.out) 3).trans rfl, (blk_cell (blk_below HXG.out HB19.out) 0).trans rfl, (blk_cell (blk_below HXG.out HB19.out) 1).trans rfl, (blk_cell (blk_below HXG.out HB19.out) 2).trans rfl, (blk_cell (blk_below HXG.out HB19.out) 3).trans rfl⟩ (fun hHeld => ?_); refine with_tabW cnt.tab16 cnt.bits16 (fun HT_ HW_ => ?_)
            generalize wr.drew = w17_ at HB19 hHeld ⊢
            refine pure_ (i := 1) (N := some 83) (v := ?_) (a' := ?_) #[false, true, false, false, false, false, false] rfl rfl (any_of HT_.out (by kernel_rfl)) (fun _ _ _ h => h) (Or.inl ⟨by rfl, ?_⟩) ?_ ?_
            rotate_left
            · intro w'
              go_simp
              with_reducible rfl
            rotate_left
            · simp only [Act.put, List.setIfInBounds_toArray, List.set_cons_zero, List.set_cons_succ, i64_w, i32_w]
              rfl
            refine pure_ (i := 4) (N := some 86) (v := ?_) (a' := ?_) #[false, true, false, false, true, false, false] rfl rfl (any_of HT_.out (by kernel_rfl)) (fun _ _ _ h => h) (Or.inl ⟨by rfl, ?_⟩) ?_ ?_
            rotate_left
            · intro w'
              go_simp
              with_reducible rfl
            rotate_left
            · simp only [Act.put, List.setIfInBounds_toArray, List.set_cons_zero, List.set_cons_succ, i64_w, i32_w]
              rfl
            refine take_ (i := 0) (N := some 82) (v := ?_) (a' := ?_) #[true, true, false, false, true, false, false] rfl rfl (take_ofW HT_.out HW_.out (by kernel_rfl)) (fun _ _ _ h => h) (Or.inl ⟨by rfl, ?_⟩) hHeld ?_ ?_
            rotate_left
            · rintro w' ⟨s0, s1, s2, s3, s4, s5, s6, s7⟩
              go_simp
              with_reducible rfl
            rotate_left
            · simp only [Act.put, List.setIfInBounds_toArray, List.set_cons_zero, List.set_cons_succ, i64_w, i32_w]
              rfl
            refine take_ (i := 3) (N := some 85) (v := ?_) (a' := ?_) #[true, true, false, true, true, false, false] rfl rfl (take_ofW HT_.out HW_.out (by kernel_rfl)) (fun _ _ _ h => h) (Or.inl ⟨by rfl, ?_⟩) hHeld ?_ ?_
            rotate_left
            · rintro w' ⟨s0, s1, s2, s3, s4, s5, s6, s7⟩
              go_simp
              with_reducible rfl
            rotate_left
            · simp only [Act.put, List.setIfInBounds_toArray, List.set_cons_zero, List.set_cons_succ, i64_w, i32_w]
              rfl
            refine one_ (i := 2) (N := some 84) #[true, true, true, true, true, false, false] rfl rfl (one_of HT_.out (by kernel_rfl)) (by decide) (fun K hK => ?_)
            refine goes_ Try.func38 (by kernel_rfl) rfl #[.agg #[.slice B0 l0.length l0.length, .slice B1 l1.length l1.length, .slice B2 l2.length l2.length, .slice B3 l3.length l3.length], .string y.f1] (by rfl) rfl rfl (by (try simp only [List.map_toArray, List.map_cons, List.map_nil]); first | done | rfl | (simp only [List.length_drop, List.length_take]; rfl)) ?_
            refine (rules_Used.calls (l1.length + 1) _ _ l0 _ _ l1 _ _ l2 _ _ l3 y.f1 u v _ (kLO_C (Kd.C_below HL0.out HB19.out)) (Nat.le_refl _) (kLO_C (Kd.C_below HL1.out HB19.out)) (Nat.le_refl _) (kLO_C (Kd.C_below HL2.out HB19.out)) (Nat.le_refl _) (kLO_C (Kd.C_below HL3.out HB19.out)) (Nat.le_refl _) HU1.out).mono ?_
            rintro e w18_ ⟨rfl, hb⟩
            refine ⟨_, rfl, ?_⟩
            have HB20 := Aside0.mk (below_step HB19.out hb)
            clear hb HB19
            refine hK.out _ _ ⟨(blk_cell (blk_below HXX.out HB20.out) 0).trans rfl, (blk_cell (blk_below HXX.out HB20.out) 1).trans rfl, (blk_cell (blk_below HXX.out HB20.out) 2).trans rfl, (blk_cell (blk_below HXX.out HB20.out) 3).trans rfl, (blk_cell (blk_below HXG.out HB20.out) 0).trans rfl, (blk_cell (blk_below HXG.out HB20.out) 1).trans rfl, (blk_cell (blk_below HXG.out HB20.out) 2).trans rfl, (blk_cell (blk_below HXG.out HB20.out) 3).trans rfl⟩ (fun hHeld => ?_)
            clear hK K
            refine norm_ (a' := ?_) ?_ ?_
            rotate_left
            · show Act.put _ (some 84) _ = _
              simp only [Act.put, List.setIfInBounds_toArray, List.set_cons_zero, List.set_cons_succ, i64_w, i32_w]
              rfl
            refine one_ (i := 5) (N := some 87) #[true, true, true, true, true, true, false] rfl rfl (one_of HT_.out (by kernel_rfl)) (by decide) (fun K hK => ?_)
            refine goes_ Try.func39 (by kernel_rfl) rfl #[.agg #[.slice (some ad) l0.length c0, .slice A1 l1.length c1, .slice A2 l2.length c2, .slice A3 l3.length c3], .string y.f1] (by rfl) rfl rfl (by (try simp only [List.map_toArray, List.map_cons, List.map_nil]); first | done | rfl | (simp only [List.length_drop, List.length_take]; rfl)) ?_
            refine (flotillaref16_Used.calls (l1.length + 1) _ _ l0 _ _ l1 _ _ l2 _ _ l3 y.f1 u v _ (Kd.C_below HR0.out HB20.out) HC0.out (Kd.C_below HR1.out HB20.out) HC1.out (Kd.C_below HR2.out HB20.out) HC2.out (Kd.C_below HR3.out HB20.out) HC3.out HU2.out).mono ?_
            rintro e w19_ ⟨rfl, hb⟩
            refine ⟨_, rfl, ?_⟩
            have HB21 := Aside0.mk (below_step HB20.out hb)
            clear hb HB20
            refine hK.out _ _ ⟨(blk_cell (blk_below HXX.out HB21.out) 0).trans rfl, (blk_cell (blk_below HXX.out HB21.out) 1).trans rfl, (blk_cell (blk_below HXX.out HB21.out) 2).trans rfl, (blk_cell (blk_below HXX.out HB21.out) 3).trans rfl, (blk_cell (blk_below HXG.out HB21.out) 0).trans rfl, (blk_cell (blk_below HXG.out HB21.out) 1).trans rfl, (blk_cell (blk_below HXG.out HB21.out) 2).trans rfl, (blk_cell (blk_below HXG.out HB21.out) 3).trans rfl⟩ (fun hHeld => ?_)
            clear hK K
            refine norm_ (a' := ?_) ?_ ?_
            rotate_left
            · show Act.put _ (some 87) _ = _
              simp only [Act.put, List.setIfInBounds_toArray, List.set_cons_zero, List.set_cons_succ, i64_w, i32_w]
              rfl
            refine pure_ (i := 6) (N := some 88) (v := ?_) (a' := ?_) #[true, true, true, true, true, true, true] rfl rfl (any_of HT_.out (by kernel_rfl)) (fun _ _ _ h => h) (Or.inl ⟨by rfl, ?_⟩) ?_ ?_
            rotate_left
            · intro w'
              go_simp
              with_reducible rfl
            rotate_left
            · simp only [Act.put, List.setIfInBounds_toArray, List.set_cons_zero, List.set_cons_succ, i64_w, i32_w]
              rfl
            refine done_ (done_of HT_.out (by kernel_rfl)) ?_
            go_wp2
            go_roundw
            case rel => exact ⟨k + 1, by have := HLT.out; omega, by simp, HB21⟩
            case measure => have := HLT.out; simp [intOf]; omega
          · obtain rfl : k = l0.length := by omega
            clear hk hlt hln
            have hc_g_0 : wr.cell? ⟨gb, 0, none⟩ = some (.slice A0 l0.length c0) := (blk_cell (blk_below HXG.out HB.out) 0).trans rfl
            go_wp2
            clear hc_g_0
            go_wp2
            go_loopw [10] (fun v wr => ∃ k : Nat, k ≤ l3.length ∧ v = .int .i64 k ∧ Aside0 (Below w4_.heap.size w4_ wr)) (fun v _ => l3.length - (intOf v).toNat)
            case atStart => exact ⟨0, Nat.zero_le _, rfl, HB⟩
            case round =>
              clear HB
              obtain ⟨k, hk, rfl, HB⟩ := hrel
              have hln : l3.length ≤ 300 := by have := HLN.out; omega
              by_cases hlt : k < l3.length
              · skip
                obtain ⟨y, hy⟩ : ∃ y, y = l3[k] := ⟨_, rfl⟩
                have hry : rd_T68 l3 (k : Int) = y := by rw [rd_get hlt, hy]
                have HYM := Aside0.mk (show y ∈ l3 by rw [hy]; exact List.getElem_mem hlt)
                obtain ⟨ad, y4, y27, hA, hky, -, hyj, hyall⟩ := at_all HR3.out k hlt
                rw [hry] at hky hyj hyall
                cases hA
                have HLT := Aside0.mk hlt
                have HY1 := Aside0.mk (hyj 1 (.string y.f1) (by omega) rfl)
                have HKY := Aside0.mk hky
                have HYA := Aside0.mk hyall
                obtain ⟨bd, z4, z27, hB, hz4, hz27, hzall⟩ := at_lent HL3.out k hlt
                rw [hry] at hz4 hz27 hzall
                cases hB
                have HKZ := Aside0.mk (kLent_kO hz4 hz27)
                have HZA := Aside0.mk hzall
                clear hy hry hyj hky hyall hz4 hz27 hzall
                clear HY1
                have hc_g_3 : wr.cell? ⟨gb, 3, none⟩ = some (.slice (some ad) l3.length c3) := (blk_cell (blk_below HXG.out HB.out) 3).trans rfl
                go_wp2
                clear hc_g_3
                have hlt : k < l3.length := HLT.out
                have HB22 := Aside0.mk (below_drew1 HB.out)
                clear HB
                refine start_ (n := 15) (S := fun w' => w'.cell? ⟨gx, 0, none⟩ = some (.slice B0 l0.length l0.length) ∧ w'.cell? ⟨gx, 1, none⟩ = some (.slice B1 l1.length l1.length) ∧ w'.cell? ⟨gx, 2, none⟩ = some (.slice B2 l2.length l2.length) ∧ w'.cell? ⟨gx, 3, none⟩ = some (.slice (some bd) l3.length l3.length) ∧ w'.cell? ⟨gb, 0, none⟩ = some (.slice A0 l0.length c0) ∧ w'.cell? ⟨gb, 1, none⟩ = some (.slice A1 l1.length c1) ∧ w'.cell? ⟨gb, 2, none⟩ = some (.slice A2 l2.length c2) ∧ w'.cell? ⟨gb, 3, none⟩ = some (.slice (some ad) l3.length c3) ∧ (∀ (j : Nat) (v : Value), (cO y z4 z27).toList[j]? = some v → w'.cell? ((bd.add (k * 32)).add j) = some v) ∧ (∀ (j : Nat) (v : Value), (cO y y4 y27).toList[j]? = some v → w'.cell? ((ad.add (k * 32)).add j) = some v)) (ds := []) #[false, false, false, false, false, false, false, false, false, false, false, false, false, false, false] (by kernel_rfl) rfl rfl ⟨(blk_cell (blk_below HXX.out HB22.out) 0).trans rfl, (blk_cell (blk_below HXX.out HB22.out) 1).trans rfl, (blk_cell (blk_below HXX.out HB22.out) 2).trans rfl, (blk_cell (blk_below HXX.out HB22.out) 3).trans rfl, (blk_cell (blk_below HXG.out HB22.out) 0).trans rfl, (blk_cell (blk_below HXG.out HB22.out) 1).trans rfl, (blk_cell (blk_below HXG.out HB22.out) 2).trans rfl, (blk_cell (blk_below HXG.out HB22.out) 3).trans rfl, (fun j v hj => (HB22.out.cell (World.block_lt_of_cell? w4_ _ (HZA.out j v hj))).trans (HZA.out j v hj)), (fun j v hj => (HB22.out.cell (World.block_lt_of_cell? w4_ _ (HYA.out j v hj))).trans (HYA.out j v hj))⟩ (fun hHeld => ?_); refine with_tabW cnt.tab21 cnt.bits21 (fun HT_ HW_ => ?_)
                generalize wr.drew = w20_ at HB22 hHeld ⊢
                refine pure_ (i := 1) (N := some 97) (v := ?_) (a' := ?_) #[false, true, false, false, false, false, false, false, false, false, false, false, false, false, false] rfl rfl (any_of HT_.out (by kernel_rfl)) (fun _ _ _ h => h) (Or.inl ⟨by rfl, ?_⟩) ?_ ?_
                rotate_left
                · intro w'
                  go_simp
                  with_reducible rfl
                rotate_left
                · simp only [Act.put, List.setIfInBounds_toArray, List.set_cons_zero, List.set_cons_succ, i64_w, i32_w]
                  rfl
                refine pure_ (i := 3) (N := some 99) (v := ?_) (a' := ?_) #[false, true, false, true, false, false, false, false, false, false, false, false, false, false, false] rfl rfl (any_of HT_.out (by kernel_rfl)) (fun _ _ _ h => h) (Or.inl ⟨by rfl, ?_⟩) ?_ ?_
                rotate_left
                · intro w'
                  go_simp
                  with_reducible rfl
                rotate_left
                · simp only [Act.put, List.setIfInBounds_toArray, List.set_cons_zero, List.set_cons_succ, i64_w, i32_w]
                  rfl
                refine pure_ (i := 8) (N := some 104) (v := ?_) (a' := ?_) #[false, true, false, true, false, false, false, false, true, false, false, false, false, false, false] rfl rfl (any_of HT_.out (by kernel_rfl)) (fun _ _ _ h => h) (Or.inl ⟨by rfl, ?_⟩) ?_ ?_
                rotate_left
                · intro w'
                  go_simp
                  with_reducible rfl
                rotate_left
                · simp only [Act.put, List.setIfInBounds_toArray, List.set_cons_zero, List.set_cons_succ, i64_w, i32_w]
                  rfl
                refine pure_ (i := 10) (N := some 106) (v := ?_) (a' := ?_) #[false, true, false, true, false, false, false, false, true, false, true, false, false, false, false] rfl rfl (any_of HT_.out (by kernel_rfl)) (fun _ _ _ h => h) (Or.inl ⟨by rfl, ?_⟩) ?_ ?_
                rotate_left
                · intro w'
                  go_simp
                  with_reducible rfl
                rotate_left
                · simp only [Act.put, List.setIfInBounds_toArray, List.set_cons_zero, List.set_cons_succ, i64_w, i32_w]
                  rfl
                refine take_ (i := 0) (N := some 96) (v := ?_) (a' := ?_) #[true, true, false, true, false, false, false, false, true, false, true, false, false, false, false] rfl rfl (take_ofW HT_.out HW_.out (by kernel_rfl)) (fun _ _ _ h => h) (Or.inl ⟨by rfl, ?_⟩) hHeld ?_ ?_
                rotate_left
                · rintro w' ⟨s0, s1, s2, s3, s4, s5, s6, s7, s8, s9⟩
                  go_simp
                  with_reducible rfl
                rotate_left
                · simp only [Act.put, List.setIfInBounds_toArray, List.set_cons_zero, List.set_cons_succ, i64_w, i32_w]
                  rfl
                refine take_ (i := 2) (N := some 98) (v := ?_) (a' := ?_) #[true, true, true, true, false, false, false, false, true, false, true, false, false, false, false] rfl rfl (take_ofW HT_.out HW_.out (by kernel_rfl)) (fun _ _ _ h => h) (Or.inl ⟨by rfl, ?_⟩) hHeld ?_ ?_
                rotate_left
                · rintro w' ⟨s0, s1, s2, s3, s4, s5, s6, s7, s8, s9⟩
                  go_simp
                  with_reducible rfl
                rotate_left
                · simp only [Act.put, List.setIfInBounds_toArray, List.set_cons_zero, List.set_cons_succ, i64_w, i32_w]
                  rfl
                refine pure_ (i := 4) (N := some 100) (v := ?_) (a' := ?_) #[true, true, true, true, true, false, false, false, true, false, true, false, false, false, false] rfl rfl (any_of HT_.out (by kernel_rfl)) (fun _ _ _ h => h) (Or.inl ⟨by rfl, ?_⟩) ?_ ?_
                rotate_left
                · intro w'
                  go_simp
                  with_reducible rfl
                rotate_left
                · simp only [Act.put, List.setIfInBounds_toArray, List.set_cons_zero, List.set_cons_succ, i64_w, i32_w]
                  rfl
                refine take_ (i := 5) (N := some 101) (v := ?_) (a' := ?_) #[true, true, true, true, true, true, false, false, true, false, true, false, false, false, false] rfl rfl (take_ofW HT_.out HW_.out (by kernel_rfl)) (fun _ _ _ h => h) (Or.inl ⟨by rfl, ?_⟩) hHeld ?_ ?_
                rotate_left
                · rintro w' ⟨s0, s1, s2, s3, s4, s5, s6, s7, s8, s9⟩
                  refine load_elem_run (p := .tmp 100) ?_ ?_ s8 <;> rfl
                rotate_left
                · simp only [Act.put, List.setIfInBounds_toArray, List.set_cons_zero, List.set_cons_succ, i64_w, i32_w]
                  rfl
                refine take_ (i := 7) (N := some 103) (v := ?_) (a' := ?_) #[true, true, true, true, true, true, false, true, true, false, true, false, false, false, false] rfl rfl (take_ofW HT_.out HW_.out (by kernel_rfl)) (fun _ _ _ h => h) (Or.inl ⟨by rfl, ?_⟩) hHeld ?_ ?_
                rotate_left
                · rintro w' ⟨s0, s1, s2, s3, s4, s5, s6, s7, s8, s9⟩
                  go_simp
                  with_reducible rfl
                rotate_left
                · simp only [Act.put, List.setIfInBounds_toArray, List.set_cons_zero, List.set_cons_succ, i64_w, i32_w]
                  rfl
                refine take_ (i := 9) (N := some 105) (v := ?_) (a' := ?_) #[true, true, true, true, true, true, false, true, true, true, true, false, false, false, false] rfl rfl (take_ofW HT_.out HW_.out (by kernel_rfl)) (fun _ _ _ h => h) (Or.inl ⟨by rfl, ?_⟩) hHeld ?_ ?_
                rotate_left
                · rintro w' ⟨s0, s1, s2, s3, s4, s5, s6, s7, s8, s9⟩
                  go_simp
                  with_reducible rfl
                rotate_left
                · simp only [Act.put, List.setIfInBounds_toArray, List.set_cons_zero, List.set_cons_succ, i64_w, i32_w]
                  rfl
                refine pure_ (i := 11) (N := some 107) (v := ?_) (a' := ?_) #[true, true, true, true, true, true, false, true, true, true, true, true, false, false, false] rfl rfl (any_of HT_.out (by kernel_rfl)) (fun _ _ _ h => h) (Or.inl ⟨by rfl, ?_⟩) ?_ ?_
                rotate_left
                · intro w'
                  go_simp
                  with_reducible rfl
                rotate_left
                · simp only [Act.put, List.setIfInBounds_toArray, List.set_cons_zero, List.set_cons_succ, i64_w, i32_w]
                  rfl
                refine take_ (i := 12) (N := some 108) (v := ?_) (a' := ?_) #[true, true, true, true, true, true, false, true, true, true, true, true, true, false, false] rfl rfl (take_ofW HT_.out HW_.out (by kernel_rfl)) (fun _ _ _ h => h) (Or.inl ⟨by rfl, ?_⟩) hHeld ?_ ?_
                rotate_left
                · rintro w' ⟨s0, s1, s2, s3, s4, s5, s6, s7, s8, s9⟩
                  refine load_elem_run (p := .tmp 107) ?_ ?_ s9 <;> rfl
                rotate_left
                · simp only [Act.put, List.setIfInBounds_toArray, List.set_cons_zero, List.set_cons_succ, i64_w, i32_w]
                  rfl
                refine one_ (i := 6) (N := some 102) #[true, true, true, true, true, true, true, true, true, true, true, true, true, false, false] rfl rfl (one_of HT_.out (by kernel_rfl)) (by decide) (fun K hK => ?_)
                refine goes_ Try.func40 (by kernel_rfl) rfl #[.agg #[.slice B0 l0.length l0.length, .slice B1 l1.length l1.length, .slice B2 l2.length l2.length, .slice (some bd) l3.length l3.length], .agg (cO y z4 z27)] (by rfl) rfl rfl (by (try simp only [List.map_toArray, List.map_cons, List.map_nil]); first | done | rfl | (simp only [List.length_drop, List.length_take]; rfl)) ?_
                refine (guarded_co B0 l0.length l0 B1 l1.length l1 B2 l2.length l2 (some bd) l3.length l3 y z4 z27 _ (kLO_C (Kd.C_below HL1.out HB22.out)) (kO_below HKZ.out HB22.out) (HBZ.out y HYM.out)).mono ?_
                rintro e w21_ ⟨rfl, hb⟩
                refine ⟨_, rfl, ?_⟩
                have HB23 := Aside0.mk (below_step HB22.out hb)
                clear hb HB22
                refine hK.out _ _ ⟨(blk_cell (blk_below HXX.out HB23.out) 0).trans rfl, (blk_cell (blk_below HXX.out HB23.out) 1).trans rfl, (blk_cell (blk_below HXX.out HB23.out) 2).trans rfl, (blk_cell (blk_below HXX.out HB23.out) 3).trans rfl, (blk_cell (blk_below HXG.out HB23.out) 0).trans rfl, (blk_cell (blk_below HXG.out HB23.out) 1).trans rfl, (blk_cell (blk_below HXG.out HB23.out) 2).trans rfl, (blk_cell (blk_below HXG.out HB23.out) 3).trans rfl, (fun j v hj => (HB23.out.cell (World.block_lt_of_cell? w4_ _ (HZA.out j v hj))).trans (HZA.out j v hj)), (fun j v hj => (HB23.out.cell (World.block_lt_of_cell? w4_ _ (HYA.out j v hj))).trans (HYA.out j v hj))⟩ (fun hHeld => ?_)
                clear hK K
                refine norm_ (a' := ?_) ?_ ?_
                rotate_left
                · show Act.put _ (some 102) _ = _
                  simp only [Act.put, List.setIfInBounds_toArray, List.set_cons_zero, List.set_cons_succ, i64_w, i32_w]
                  rfl
                refine one_ (i := 13) (N := some 109) #[true, true, true, true, true, true, true, true, true, true, true, true, true, true, false] rfl rfl (one_of HT_.out (by kernel_rfl)) (by decide) (fun K hK => ?_)
                refine goes_ Try.func41 (by kernel_rfl) rfl #[.agg #[.slice A0 l0.length c0, .slice A1 l1.length c1, .slice A2 l2.length c2, .slice (some ad) l3.length c3], .agg (cO y y4 y27)] (by rfl) rfl rfl (by (try simp only [List.map_toArray, List.map_cons, List.map_nil]); first | done | rfl | (simp only [List.length_drop, List.length_take]; rfl)) ?_
                refine (ref_guarded_co _ _ l0 _ _ l1 _ _ l2 _ _ l3 y y4 y27 _ (Kd.C_below HR0.out HB23.out) HC0.out (Kd.C_below HR1.out HB23.out) HC1.out (Kd.C_below HR2.out HB23.out) HC2.out (Kd.C_below HR3.out HB23.out) HC3.out (kO_below HKY.out HB23.out) (HBY.out y HYM.out) HXZ.out (by have := HLN.out.2.1; omega)).mono ?_
                rintro e w22_ ⟨rfl, hb⟩
                refine ⟨_, rfl, ?_⟩
                have HB24 := Aside0.mk (below_step HB23.out hb)
                clear hb HB23
                refine hK.out _ _ ⟨(blk_cell (blk_below HXX.out HB24.out) 0).trans rfl, (blk_cell (blk_below HXX.out HB24.out) 1).trans rfl, (blk_cell (blk_below HXX.out HB24.out) 2).trans rfl, (blk_cell (blk_below HXX.out HB24.out) 3).trans rfl, (blk_cell (blk_below HXG.out HB24.out) 0).trans rfl, (blk_cell (blk_below HXG.out HB24.out) 1).trans rfl, (blk_cell (blk_below HXG.out HB24.out) 2).trans rfl, (blk_cell (blk_below HXG.out HB24.out) 3).trans rfl, (fun j v hj => (HB24.out.cell (World.block_lt_of_cell? w4_ _ (HZA.out j v hj))).trans (HZA.out j v hj)), (fun j v hj => (HB24.out.cell (World.block_lt_of_cell? w4_ _ (HYA.out j v hj))).trans (HYA.out j v hj))⟩ (fun hHeld => ?_)
                clear hK K
                refine norm_ (a' := ?_) ?_ ?_
                rotate_left
                · show Act.put _ (some 109) _ = _
                  simp only [Act.put, List.setIfInBounds_toArray, List.set_cons_zero, List.set_cons_succ, i64_w, i32_w]
                  rfl
                refine pure_ (i := 14) (N := some 110) (v := ?_) (a' := ?_) #[true, true, true, true, true, true, true, true, true, true, true, true, true, true, true] rfl rfl (any_of HT_.out (by kernel_rfl)) (fun _ _ _ h => h) (Or.inl ⟨by rfl, ?_⟩) ?_ ?_
                rotate_left
                · intro w'
                  go_simp
                  with_reducible rfl
                rotate_left
                · simp only [Act.put, List.setIfInBounds_toArray, List.set_cons_zero, List.set_cons_succ, i64_w, i32_w]
                  rfl
                refine done_ (done_of HT_.out (by kernel_rfl)) ?_
                go_wp2
                go_roundw
                case rel => exact ⟨k + 1, by have := HLT.out; omega, by simp, HB24⟩
                case measure => have := HLT.out; simp [intOf]; omega
              · obtain rfl : k = l3.length := by omega
                clear hk hlt hln
                have hc_g_3 : wr.cell? ⟨gb, 3, none⟩ = some (.slice A3 l3.length c3) := (blk_cell (blk_below HXG.out HB.out) 3).trans rfl
                clear hc_g_3
                have hc_g_0 : wr.cell? ⟨gb, 0, none⟩ = some (.slice A0 l0.length c0) := (blk_cell (blk_below HXG.out HB.out) 0).trans rfl
                have hc_g_1 : wr.cell? ⟨gb, 1, none⟩ = some (.slice A1 l1.length c1) := (blk_cell (blk_below HXG.out HB.out) 1).trans rfl
                have hc_g_2 : wr.cell? ⟨gb, 2, none⟩ = some (.slice A2 l2.length c2) := (blk_cell (blk_below HXG.out HB.out) 2).trans rfl
                have hc_g_3 : wr.cell? ⟨gb, 3, none⟩ = some (.slice A3 l3.length c3) := (blk_cell (blk_below HXG.out HB.out) 3).trans rfl
                have hc_x_0 : wr.cell? ⟨gx, 0, none⟩ = some (.slice B0 l0.length l0.length) := (blk_cell (blk_below HXX.out HB.out) 0).trans rfl
                have hc_x_1 : wr.cell? ⟨gx, 1, none⟩ = some (.slice B1 l1.length l1.length) := (blk_cell (blk_below HXX.out HB.out) 1).trans rfl
                have hc_x_2 : wr.cell? ⟨gx, 2, none⟩ = some (.slice B2 l2.length l2.length) := (blk_cell (blk_below HXX.out HB.out) 2).trans rfl
                have hc_x_3 : wr.cell? ⟨gx, 3, none⟩ = some (.slice B3 l3.length l3.length) := (blk_cell (blk_below HXX.out HB.out) 3).trans rfl
                go_wp2_with (go_at_call 42; refine hold ?_)
                refine Hold.intro ((kept_fleet B0 l0.length B1 l1.length B2 l2.length B3 l3.length _ _ l0 _ _ l1 _ _ l2 _ _ l3 _ (Kd.C_below HL0.out HB.out) (Kd.C_below HL1.out HB.out) (Kd.C_below HL2.out HB.out) (Kd.C_below HL3.out HB.out) (Kd.C_below HR0.out HB.out) HC0.out (Kd.C_below HR1.out HB.out) HC1.out (Kd.C_below HR2.out HB.out) HC2.out (Kd.C_below HR3.out HB.out) HC3.out HO.out.1 HO.out.2.1 HO.out.2.2.1 HO.out.2.2.2).mono ?_)
                rintro e w23_ ⟨rfl, hb⟩
                clear hc_g_0 hc_g_1 hc_g_2 hc_g_3 hc_x_0 hc_x_1 hc_x_2 hc_x_3
                have HB25 := Aside0.mk (below_step HB.out hb)
                clear HB hb
                go_wp2
                go_ret
                exact ⟨rfl, (below_step HW.out HB25.out)⟩
end Go.Proofs.Ytamjjeakkkdfhaa.G
end
