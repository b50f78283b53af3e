/- Parts of the proof of RulesKept: lemmas, put together by a program of this session (pack.py) out of the kit's words, printed contracts and texts of its own. -/
import Derived.Test.YtamjjeakkkdfhaaProg
import Derived.Below
import Derived.Deep.Draws
import Derived.Deep.AppendLies
import Derived.Maps.AppendAt
import Derived.OwnWalk
import Derived.Laws.BytesArg
import Derived.Laws.MakeOwn
import Derived.Laws.OwnMore
import Derived.Deep.OwnRows
import Derived.Tactics
import Derived.Lib.ConvBytes
import Derived.Laws.Slices
import Derived.WalkKit
import Derived.KernelRfl
import Derived.RowKit3
import Derived.Deep.LoopGhost
import Derived.Deep.QuietTactic
import Derived.BigQuiet
import Derived.WideLaws
import Derived.Deep.DeepCutAuto
import Derived.Deep.CutBlock
import Derived.Deep.RegionHeld3
import Derived.Laws.Rows
import Derived.Lib.AppendStr
import Derived.ArgAppend
import Derived.Laws.IdiomCopy
import Derived.OrdersHeld
import Derived.Laws.BitsLemmas
import Derived.RowKit
import Derived.Laws.StructEq
import Derived.RangeFuncNested
import Derived.RangeFuncBound
import Derived.RangeFuncCalls
import Derived.RangeFuncLeaves
import Derived.Shelf.Abstract
import Derived.Shelf.RegionOpen
import Derived.OwnWalkIn
import Derived.TacticsInMore
import Derived.LoopNIn
import Derived.LoopIn
import Derived.Maps.Own
import Derived.Maps.OwnOps
import Derived.Maps.Views
import Derived.StringKeys
import Derived.ChangeArms
import Derived.SizedLaws
import Derived.SliceStrings
import Derived.Laws.EntriesVeiled
import Derived.Test.YtamjjeakkkdfhaaZRulesKepta
import Derived.Test.YtamjjeakkkdfhaaZRulesKeptb
import Derived.Test.YtamjjeakkkdfhaaZRulesKeptc
import Derived.Test.YtamjjeakkkdfhaaZRulesKeptd
import Derived.Test.YtamjjeakkkdfhaaZRulesKepte
namespace Foot
end Foot
namespace Go.Proofs.Ytamjjeakkkdfhaa
end Go.Proofs.Ytamjjeakkkdfhaa
namespace Go.Proofs.Ytamjjeakkkdfhaa.G
end Go.Proofs.Ytamjjeakkkdfhaa.G
namespace Go.Proofs.Ytamjjeakkkdfhaa.K
end Go.Proofs.Ytamjjeakkkdfhaa.K
namespace Go.Proofs.Ytamjjeakkkdfhaa.OP
end Go.Proofs.Ytamjjeakkkdfhaa.OP
namespace Go.Proofs.Ytamjjeakkkdfhaa.PB
end Go.Proofs.Ytamjjeakkkdfhaa.PB
namespace Go.Proofs.Ytamjjeakkkdfhaa.PC
end Go.Proofs.Ytamjjeakkkdfhaa.PC
namespace Go.Proofs.Ytamjjeakkkdfhaa.PD
end Go.Proofs.Ytamjjeakkkdfhaa.PD
namespace Go.Proofs.Ytamjjeakkkdfhaa.rulesKept
end Go.Proofs.Ytamjjeakkkdfhaa.rulesKept
namespace Go.Proofs.YtamjjeakkkdfhaaE
end Go.Proofs.YtamjjeakkkdfhaaE
namespace Go.Proofs.YtamjjeakkkdfhaaRF
end Go.Proofs.YtamjjeakkkdfhaaRF
namespace Go.Proofs.YtamjjeakkkdfhaaW.PrintLast
end Go.Proofs.YtamjjeakkkdfhaaW.PrintLast
namespace Go.Proofs.YtamjjeakkkdfhaaW.PrintMore
end Go.Proofs.YtamjjeakkkdfhaaW.PrintMore
namespace Go.Proofs.YtamjjeakkkdfhaaW.PrintWords
end Go.Proofs.YtamjjeakkkdfhaaW.PrintWords
namespace Kd
end Kd
section
namespace Go.Proofs.Ytamjjeakkkdfhaa.G
open Go.RowKit Go.Proofs.YtamjjeakkkdfhaaW.PrintWords Go.Proofs.YtamjjeakkkdfhaaW.PrintLast Go.Proofs.YtamjjeakkkdfhaaW.PrintMore
open Go.Proofs.Ytamjjeakkkdfhaa.K Go.Proofs.YtamjjeakkkdfhaaE Go.Proofs.Ytamjjeakkkdfhaa.PB Go.Proofs.Ytamjjeakkkdfhaa.PC
set_option linter.unusedVariables false
set_option linter.unusedSimpArgs false
def PredOn (l : List S68) (g : Nat) (lb : Array Value) (p : S68 → Bool) (w0 : World) : Prop :=
  ∀ (W : World) (x : S68) (cs : List Value), x ∈ l → Below w0.heap.size w0 W → k68.K W x cs → Calls Try.prog g (#[.agg cs.toArray] ++ lb) W fun e w' => e = .returned (.bool (p x)) ∧ Below W.heap.size W w'
set_option maxRecDepth 100000 in
set_option maxHeartbeats 2000000 in
theorem slices_IndexFunc_on.calls (A0 : Option Addr) (c0 : Nat) (l0 : List S68) (g : Nat) (lb : Array Value) (p : S68 → Bool) (w : World) (hr0 : k68.C w A0 l0.length l0) (hp : PredOn l0 g lb p w) (eg : ∀ args w, (callFunc g args).run Try.prog w = .ok (.enter g args) w) :
    Calls Try.prog 125 #[.slice A0 l0.length c0, .func (.func g) #[] lb] w fun e w' => e = .returned (.int .i64 (idxOf p l0)) ∧ Below w.heap.size w w' := by
  have hl0 := hr0.2.1
  have HR0 := Aside0.mk hr0
  have HP := Aside0.mk hp
  clear hr0 hp
  go_enter Try.func125, Try.ntmps125
  go_wp2
  go_loopw [8] (fun i wr => ∃ k : Nat, k ≤ l0.length ∧ i = .int .i64 k ∧ Aside0 (∀ j (hj : j < l0.length), j < k → p l0[j] = false) ∧ Aside0 (Below w.heap.size w wr)) (fun i _ => l0.length - (intOf i).toNat)
  case atStart => exact ⟨0, Nat.zero_le _, rfl, ⟨fun _ _ h => absurd h (by omega)⟩, ⟨Below.refl _ _⟩⟩
  case round =>
    obtain ⟨k, hk, rfl, HN, HB⟩ := hrel
    by_cases hlt : k < l0.length
    · obtain ⟨ad, cs, e, hcl, hK, hcells⟩ := Kd.C_get (Kd.C_below HR0.out HB.out) z68 (k : Int) (by omega) (by omega)
      have HK := Aside0.mk hK
      have HC := Aside0.mk (fun (j : Nat) (v : Value) (h : cs[j]? = some v) => (show wr.cell? ((ad.add (k * 32)).add j) = some v by rw [addr_add_add]; have := hcells j v h; rwa [Int.toNat_natCast] at this))
      have HCL := Aside0.mk (show (Try.prog.info? 68).map (fun i => i.size) = some cs.length by rw [hcl]; exact size68)
      clear hcells hK hcl
      cases e
      go_wp2_with ((with_reducible refine gate_load (t := 68) rfl ?_); refine load_list rfl rfl rfl Try.underlying68 rfl HCL.out HC.out ?_)
      refine (HP.out wr (rd_T68 l0 (k : Int)) cs (by rw [rd_get hlt]; exact List.getElem_mem hlt) HB.out HK.out).mono ?_
      rintro e w1 ⟨rfl, hb⟩
      have HB1 := Aside0.mk (below_step HB.out hb)
      clear hb HC HCL HK
      by_cases hpk : p (rd_T68 l0 (k : Int)) = true
      · have HI := Aside0.mk (idx_at hlt HN.out hpk)
        rw [hpk]
        clear hpk
        go_wp2
        go_ret
        exact ⟨retI HI.out.symm, HB1.out⟩
      · have hpf : p (rd_T68 l0 (k : Int)) = false := Bool.eq_false_iff.mpr hpk
        have HN' := Aside0.mk (show ∀ j (hj : j < l0.length), j < k + 1 → p l0[j] = false from fun j hj hj' => by
          by_cases hjk : j = k
          · subst hjk; rw [← rd_get hj]; exact hpf
          · exact HN.out j hj (by omega))
        rw [hpf]
        clear hpk hpf HN
        go_wp2
        go_roundw
        case rel => exact ⟨k + 1, by omega, by simp, HN', HB1⟩
        case measure => simp [intOf]; omega
    · obtain rfl : k = l0.length := by omega
      have HI := Aside0.mk (idx_none HN.out)
      go_wp2
      go_ret
      exact ⟨retI HI.out.symm, HB.out⟩
theorem idx_any {p : S68 → Bool} {l : List S68} : decide (0 ≤ idxOf p l) = l.any p := by
  unfold idxOf
  cases h : l.findIdx? p with
  | none =>
    rw [List.findIdx?_eq_none_iff] at h
    have : l.any p = false := by rw [List.any_eq_false]; intro x hx; simp [h x hx]
    rw [this]; rfl
  | some i =>
    rw [List.findIdx?_eq_some_iff_getElem] at h
    obtain ⟨hi, hp, -⟩ := h
    have : l.any p = true := List.any_eq_true.2 ⟨l[i], List.getElem_mem hi, hp⟩
    rw [this]; simp
set_option maxRecDepth 100000 in
set_option maxHeartbeats 2000000 in
theorem contains_on.calls (A0 : Option Addr) (c0 : Nat) (l0 : List S68) (g : Nat) (lb : Array Value) (p : S68 → Bool) (w : World) (hr0 : k68.C w A0 l0.length l0) (hp : PredOn l0 g lb p w) (eg : ∀ args w, (callFunc g args).run Try.prog w = .ok (.enter g args) w) :
    Calls Try.prog 135 #[.slice A0 l0.length c0, .func (.func g) #[] lb] w fun e w' => e = .returned (.bool (l0.any p)) ∧ Below w.heap.size w w' := by
  have HR := Aside0.mk hr0
  have HP := Aside0.mk hp
  have HA := Aside0.mk (idx_any (p := p) (l := l0))
  clear hr0 hp
  go_enter Try.func135, Try.ntmps135
  go_wp2_with (go_at_call 125; refine hold ?_)
  refine Hold.intro ((slices_IndexFunc_on.calls A0 c0 l0 g lb p w HR.out HP.out eg).mono ?_)
  rintro e w1 ⟨rfl, hb⟩
  have HB := Aside0.mk hb
  clear hb
  generalize idxOf p l0 = i at HA ⊢
  go_wp2
  go_ret
  exact ⟨retB HA.out, HB.out⟩
def slackB (l1 l2 : List S68) (p : S68) : Bool := match findL p.f10 l2 with | some d => decide (((countL (isReady p.f10) l1 : Nat) : Int) - 1 < heldI d.f20 - heldI d.f22) | none => false
def budgetB (l1 : List S68) (p b : S68) : Bool := matchL b.f25 p.f4 && decide (((countL (isGuard b.f25) l1 : Nat) : Int) ≤ b.f26)
theorem heldI_range (n : Int) : -1125899906842624 ≤ heldI n ∧ heldI n ≤ 1125899906842624 := by unfold heldI mn mx; split <;> split <;> omega
def chk.T2 : Bool × List (List Nat × List Nat) := (true, [([], []), ([0], [0]), ([1], [1]), ([1], [1]), ([3, 1], [1, 3]), ([2, 4, 1, 1], [1, 2, 4]), ([5, 1], [1, 5]), ([1], [1]), ([7, 1], [1, 7]), ([8, 5, 1], [1, 8]), ([1], [1]), ([10, 1], [1, 10]), ([11, 9, 1], [1, 11]), ([9, 12, 1], [1, 9, 12]), ([6, 13, 1], [1, 6, 13]), ([1, 14], [1, 14]), ([15, 12, 0, 1, 2, 3, 4, 5, 6, 7, 8, 9, 10, 11, 12, 13, 14, 15], [15])])
def chk.B2 : List Nat := [0, 1, 3, 3, 11, 31, 63, 3, 131, 447, 3, 1027, 4031, 8127, 16383, 32767, 65535]
theorem chk.tab2 : rtab .any (opsOf Try.f133 2) = chk.T2 := by kernel_rfl
theorem chk.bits2 : waitsOk chk.T2.2 chk.B2 = true := by kernel_rfl
def chkb.T1 : Bool × List (List Nat × List Nat) := (true, [([], []), ([0], [0]), ([], []), ([2], [2]), ([1, 3], [1, 3]), ([4, 4], [4]), ([5], [5]), ([5], [5]), ([6, 7, 5, 5], [5, 6, 7]), ([5], [5]), ([9, 5], [5, 9]), ([8, 10, 5], [5, 8, 10]), ([5, 11], [5, 11]), ([12, 8, 0, 1, 2, 3, 4, 5, 6, 7, 8, 9, 10, 11, 12], [12])])
def chkb.B1 : List Nat := [0, 1, 0, 4, 15, 31, 63, 63, 255, 63, 575, 2047, 4095, 8191]
theorem chkb.tab1 : rtab .any (opsOf Try.f136 1) = chkb.T1 := by kernel_rfl
theorem chkb.bits1 : waitsOk chkb.T1.2 chkb.B1 = true := by kernel_rfl
set_option maxRecDepth 100000 in
set_option maxHeartbeats 4000000 in
theorem checks_1.calls (A0 : Option Addr) (c0 : Nat) (l0 : List S68) (A1 : Option Addr) (c1 : Nat) (l1 : List S68) (A2 : Option Addr) (c2 : Nat) (l2 : List S68) (A3 : Option Addr) (c3 : Nat) (l3 : List S68) (p : S68) (v4 v27 : Value) (w : World) (hr0 : k68.C w A0 l0.length l0) (hc0 : l0.length ≤ c0) (hr1 : k68.C w A1 l1.length l1) (hc1 : l1.length ≤ c1) (hr2 : k68.C w A2 l2.length l2) (hc2 : l2.length ≤ c2) (hr3 : k68.C w A3 l3.length l3) (hc3 : l3.length ≤ c3) (hk : kO w p v4 v27) :
    Calls Try.prog 133 #[.agg #[.slice A0 l0.length c0, .slice A1 l1.length c1, .slice A2 l2.length c2, .slice A3 l3.length c3], .agg (cO p v4 v27)] w fun e w' => e = .returned (.bool (slackB l1 l2 p)) ∧ Below w.heap.size w w' := by
  have HR0 := Aside0.mk hr0
  have HC0 := Aside0.mk hc0
  have HR1 := Aside0.mk hr1
  have HC1 := Aside0.mk hc1
  have HR2 := Aside0.mk hr2
  have HC2 := Aside0.mk hc2
  have HR3 := Aside0.mk hr3
  have HC3 := Aside0.mk hc3
  have HK := Aside0.mk hk
  clear hr0 hr1 hr2 hr3 hc0 hc1 hc2 hc3 hk
  have hu59 := Try.underlying59
  have hu57 := Try.underlying57
  have hu68 := Try.underlying68
  go_enter Try.func133, Try.ntmps133
  go_wp2_with ((with_reducible refine gate_dst (N := 2) rfl ?_); refine hold ?_)
  refine Hold.intro ?_
  refine box_event (N := 2) (cs := #[.slice A0 l0.length c0, .slice A1 l1.length c1, .slice A2 l2.length c2, .slice A3 l3.length c3]) (t := 59) rfl rfl ?hf ?_
  case hf => first | (go_simp; done) | (go_simp; rfl)
  intro gf hg wa hbox hb
  have HXF := Aside0.mk hbox
  have HBA := Aside0.mk hb
  clear hbox hb hg
  go_wp2_with ((with_reducible refine gate_dst (N := 3) rfl ?_); refine hold ?_)
  refine Hold.intro ?_
  refine box_event (N := 3) (cs := cO p v4 v27) (t := 68) rfl rfl ?hs ?_
  case hs => unfold cO; first | (go_simp; done) | (go_simp; rfl)
  intro gp hg wb hbox hb
  have HXP := Aside0.mk hbox
  replace HXF := Aside0.mk (blk_below HXF.out hb)
  have HW := Aside0.mk (below_step HBA.out hb)
  clear hbox hb hg HBA
  have hc2 : wb.cell? ⟨gf, 2, none⟩ = some (.slice A2 l2.length c2) := (blk_cell HXF.out 2).trans rfl
  have hcp : wb.cell? ⟨gp, 11, none⟩ = some (.string p.f10) := (blk_cell HXP.out 11).trans rfl
  cases hf : findL p.f10 l2 with
  | none =>
    have HS := Aside0.mk (show slackB l1 l2 p = false by unfold slackB; rw [hf])
    have HF := Aside0.mk hf
    clear hf
    go_wp2_with (go_at_call 103; refine hold ?_)
    refine Hold.intro ((rules_find.none_ A2 c2 l2 p.f10 _ (Kd.C_below HR2.out HW.out) HF.out).mono ?_)
    rintro e w1 ⟨rfl, hb⟩
    have HB1 := Aside0.mk hb
    clear hb hc2 hcp
    go_wp2_with ((with_reducible refine gate_dst (N := 5) rfl ?_); refine hold ?_)
    refine Hold.intro (alloc_obj rfl rfl (N := 5) rfl ?_)
    intro gd hg w2 hbox hb
    have HGD := Aside0.mk (show wb.heap.size ≤ gd by rw [hg]; exact HB1.out.size)
    have HXD := Aside0.mk hbox
    have HB2 := Aside0.mk (below_step HB1.out hb)
    clear hbox hb hg HB1
    go_wp2_with ((with_reducible refine gate_store (t := 68) (p := 5) rfl ?_); refine hold ?_)
    refine Hold.intro (box_store_event (t := 68) (ty := 68) (p := 5) (x := .tmp 13) (g := gd) (cs := zcObj) (cs' := zcObj) rfl rfl rfl rfl rfl size68 HXD.out rfl zc_one ?_)
    intro w3 hbox hg
    replace HXD := Aside0.mk hbox
    have HB3 := Aside0.mk (Below.grown HB2.out hg HB2.out.size (fun k e => by injection e with e; rw [← e]; exact HGD.out))
    clear hbox hg HB2
    go_wp2
    have HB4 := Aside0.mk (below_drew1 HB3.out)
    clear HB3
    refine start_ (n := 17) (S := fun w' => w'.heap[gf]? = some (.cells #[.slice A0 l0.length c0, .slice A1 l1.length c1, .slice A2 l2.length c2, .slice A3 l3.length c3] 59 (0, 0))) (ds := []) #[false, false, false, false, false, false, false, false, false, false, false, false, false, false, false, false, false] (by kernel_rfl) rfl rfl ((blk_below HXF.out HB4.out)) (fun hHeld => ?_); refine with_tabW chk.tab2 chk.bits2 (fun HT_ HW_ => ?_)
    generalize w3.drew = wd at HB4 hHeld ⊢
    refine pure_ (i := 0) (N := some 15) (v := ?_) (a' := ?_) #[true, false, false, false, false, false, false, false, false, false, false, false, false, false, false, false, false] rfl rfl (any_of HT_.out (by kernel_rfl)) (fun _ _ _ h => h) (Or.inl ⟨by rfl, ?_⟩) ?_ ?_
    rotate_left
    · intro w'
      go_simp
      with_reducible rfl
    rotate_left
    · simp only [Act.put, List.setIfInBounds_toArray, List.set_cons_zero, List.set_cons_succ, i64_w, i32_w]
      rfl
    refine pure_ (i := 1) (N := some 16) (v := ?_) (a' := ?_) #[true, true, false, false, false, false, false, false, false, false, false, false, false, false, false, false, false] rfl rfl (any_of HT_.out (by kernel_rfl)) (fun _ _ _ h => h) (Or.inl ⟨by rfl, ?_⟩) ?_ ?_
    rotate_left
    · intro w'
      go_simp
      with_reducible rfl
    rotate_left
    · simp only [Act.put, List.setIfInBounds_toArray, List.set_cons_zero, List.set_cons_succ, i64_w, i32_w]
      rfl
    refine pure_ (i := 2) (N := some 17) (v := undef) (a' := ?_) #[true, true, true, false, false, false, false, false, false, false, false, false, false, false, false, false, false] rfl rfl (any_of HT_.out (by kernel_rfl)) (fun _ _ _ h => h) (Or.inr ⟨by rfl, rfl⟩) ?_ ?_
    rotate_left
    · simp only [Act.put, List.setIfInBounds_toArray, List.set_cons_zero, List.set_cons_succ, i64_w, i32_w]
      rfl
    refine pure_ (i := 3) (N := some 18) (v := undef) (a' := ?_) #[true, true, true, true, false, false, false, false, false, false, false, false, false, false, false, false, false] rfl rfl (any_of HT_.out (by kernel_rfl)) (fun _ _ _ h => h) (Or.inr ⟨by rfl, rfl⟩) ?_ ?_
    rotate_left
    · simp only [Act.put, List.setIfInBounds_toArray, List.set_cons_zero, List.set_cons_succ, i64_w, i32_w]
      rfl
    refine pure_ (i := 4) (N := some 19) (v := undef) (a' := ?_) #[true, true, true, true, true, false, false, false, false, false, false, false, false, false, false, false, false] rfl rfl (any_of HT_.out (by kernel_rfl)) (fun _ _ _ h => h) (Or.inr ⟨by rfl, rfl⟩) ?_ ?_
    rotate_left
    · simp only [Act.put, List.setIfInBounds_toArray, List.set_cons_zero, List.set_cons_succ, i64_w, i32_w]
      rfl
    refine pure_ (i := 5) (N := some 20) (v := undef) (a' := ?_) #[true, true, true, true, true, true, false, false, false, false, false, false, false, false, false, false, false] rfl rfl (any_of HT_.out (by kernel_rfl)) (fun _ _ _ h => h) (Or.inr ⟨by rfl, rfl⟩) ?_ ?_
    rotate_left
    · simp only [Act.put, List.setIfInBounds_toArray, List.set_cons_zero, List.set_cons_succ, i64_w, i32_w]
      rfl
    refine pure_ (i := 6) (N := some 21) (v := undef) (a' := ?_) #[true, true, true, true, true, true, true, false, false, false, false, false, false, false, false, false, false] rfl rfl (any_of HT_.out (by kernel_rfl)) (fun _ _ _ h => h) (Or.inr ⟨by rfl, rfl⟩) ?_ ?_
    rotate_left
    · simp only [Act.put, List.setIfInBounds_toArray, List.set_cons_zero, List.set_cons_succ, i64_w, i32_w]
      rfl
    refine pure_ (i := 7) (N := some 22) (v := undef) (a' := ?_) #[true, true, true, true, true, true, true, true, false, false, false, false, false, false, false, false, false] rfl rfl (any_of HT_.out (by kernel_rfl)) (fun _ _ _ h => h) (Or.inr ⟨by rfl, rfl⟩) ?_ ?_
    rotate_left
    · simp only [Act.put, List.setIfInBounds_toArray, List.set_cons_zero, List.set_cons_succ, i64_w, i32_w]
      rfl
    refine pure_ (i := 8) (N := some 23) (v := undef) (a' := ?_) #[true, true, true, true, true, true, true, true, true, false, false, false, false, false, false, false, false] rfl rfl (any_of HT_.out (by kernel_rfl)) (fun _ _ _ h => h) (Or.inr ⟨by rfl, rfl⟩) ?_ ?_
    rotate_left
    · simp only [Act.put, List.setIfInBounds_toArray, List.set_cons_zero, List.set_cons_succ, i64_w, i32_w]
      rfl
    refine pure_ (i := 9) (N := some 24) (v := undef) (a' := ?_) #[true, true, true, true, true, true, true, true, true, true, false, false, false, false, false, false, false] rfl rfl (any_of HT_.out (by kernel_rfl)) (fun _ _ _ h => h) (Or.inr ⟨by rfl, rfl⟩) ?_ ?_
    rotate_left
    · simp only [Act.put, List.setIfInBounds_toArray, List.set_cons_zero, List.set_cons_succ, i64_w, i32_w]
      rfl
    refine pure_ (i := 10) (N := some 25) (v := undef) (a' := ?_) #[true, true, true, true, true, true, true, true, true, true, true, false, false, false, false, false, false] rfl rfl (any_of HT_.out (by kernel_rfl)) (fun _ _ _ h => h) (Or.inr ⟨by rfl, rfl⟩) ?_ ?_
    rotate_left
    · simp only [Act.put, List.setIfInBounds_toArray, List.set_cons_zero, List.set_cons_succ, i64_w, i32_w]
      rfl
    refine pure_ (i := 11) (N := some 26) (v := undef) (a' := ?_) #[true, true, true, true, true, true, true, true, true, true, true, true, false, false, false, false, false] rfl rfl (any_of HT_.out (by kernel_rfl)) (fun _ _ _ h => h) (Or.inr ⟨by rfl, rfl⟩) ?_ ?_
    rotate_left
    · simp only [Act.put, List.setIfInBounds_toArray, List.set_cons_zero, List.set_cons_succ, i64_w, i32_w]
      rfl
    refine pure_ (i := 12) (N := some 27) (v := undef) (a' := ?_) #[true, true, true, true, true, true, true, true, true, true, true, true, true, false, false, false, false] rfl rfl (any_of HT_.out (by kernel_rfl)) (fun _ _ _ h => h) (Or.inr ⟨by rfl, rfl⟩) ?_ ?_
    rotate_left
    · simp only [Act.put, List.setIfInBounds_toArray, List.set_cons_zero, List.set_cons_succ, i64_w, i32_w]
      rfl
    refine pure_ (i := 13) (N := some 28) (v := undef) (a' := ?_) #[true, true, true, true, true, true, true, true, true, true, true, true, true, true, false, false, false] rfl rfl (any_of HT_.out (by kernel_rfl)) (fun _ _ _ h => h) (Or.inr ⟨by rfl, rfl⟩) ?_ ?_
    rotate_left
    · simp only [Act.put, List.setIfInBounds_toArray, List.set_cons_zero, List.set_cons_succ, i64_w, i32_w]
      rfl
    refine pure_ (i := 14) (N := some 29) (v := undef) (a' := ?_) #[true, true, true, true, true, true, true, true, true, true, true, true, true, true, true, false, false] rfl rfl (any_of HT_.out (by kernel_rfl)) (fun _ _ _ h => h) (Or.inr ⟨by rfl, rfl⟩) ?_ ?_
    rotate_left
    · simp only [Act.put, List.setIfInBounds_toArray, List.set_cons_zero, List.set_cons_succ, i64_w, i32_w]
      rfl
    refine pure_ (i := 15) (N := some 30) (v := ?_) (a' := ?_) #[true, true, true, true, true, true, true, true, true, true, true, true, true, true, true, true, false] rfl rfl (any_of HT_.out (by kernel_rfl)) (fun _ _ _ h => h) (Or.inl ⟨by rfl, ?_⟩) ?_ ?_
    rotate_left
    · intro w'
      go_simp
      with_reducible rfl
    rotate_left
    · simp only [Act.put, List.setIfInBounds_toArray, List.set_cons_zero, List.set_cons_succ, i64_w, i32_w]
      rfl
    refine pure_ (i := 16) (N := some 4) (v := ?_) (a' := ?_) #[true, true, true, true, true, true, true, true, true, true, true, true, true, true, true, true, true] rfl rfl (any_of HT_.out (by kernel_rfl)) (fun _ _ _ h => h) (Or.inl ⟨by rfl, ?_⟩) ?_ ?_
    rotate_left
    · intro w'
      go_simp
      with_reducible rfl
    rotate_left
    · simp only [Act.put, List.setIfInBounds_toArray, List.set_cons_zero, List.set_cons_succ, i64_w, i32_w]
      rfl
    refine done_ (done_of HT_.out (by kernel_rfl)) ?_
    go_wp2
    go_ret
    exact ⟨retB HS.out.symm, below_step HW.out HB4.out⟩
  | some d =>
    obtain ⟨r, hr⟩ : ∃ r : Int, r = ((countL (isReady p.f10) l1 : Nat) : Int) := ⟨_, rfl⟩
    obtain ⟨a, ha⟩ : ∃ a : Int, a = heldI d.f20 := ⟨_, rfl⟩
    obtain ⟨b, hb_⟩ : ∃ b : Int, b = heldI d.f22 := ⟨_, rfl⟩
    have HS := Aside0.mk (show slackB l1 l2 p = decide (r - 1 < a - b) by unfold slackB; rw [hf, hr, ha, hb_])
    have HRD := Aside0.mk (show rules_Ready.f l0 l1 l2 l3 p.f10 = some r by rw [hr]; rfl)
    have HHA := Aside0.mk (show rules_held.f d.f20 = some a by rw [ha]; rfl)
    have HHB := Aside0.mk (show rules_held.f d.f22 = some b by rw [hb_]; rfl)
    have HBD := Aside0.mk (show (-1125899906842624 ≤ a ∧ a ≤ 1125899906842624) ∧ (-1125899906842624 ≤ b ∧ b ≤ 1125899906842624) ∧ 0 ≤ r ∧ r ≤ 9223372036854775807 by
      refine ⟨by rw [ha]; exact heldI_range _, by rw [hb_]; exact heldI_range _, by rw [hr]; omega, ?_⟩
      have h1 := count_le (isReady p.f10) l1 l1.length
      rw [List.take_length] at h1
      have h2 := HR1.out.2.1
      rw [hr]; omega)
    have HF := Aside0.mk hf
    clear hf hr ha hb_
    go_wp2_with (go_at_call 103; refine hold ?_)
    refine Hold.intro ((rules_find.some_ A2 c2 l2 p.f10 d _ (Kd.C_below HR2.out HW.out) HF.out).mono ?_)
    rintro e w1 ⟨⟨cs, rfl, hK⟩, hb⟩
    obtain ⟨z4, z27, rfl, hkd⟩ := K_kO hK
    have HB1 := Aside0.mk hb
    have HKD := Aside0.mk hkd
    rw [Array.toArray_toList]
    clear hb hc2 hcp hK hkd
    go_wp2_with ((with_reducible refine gate_dst (N := 5) rfl ?_); refine hold ?_)
    refine Hold.intro (alloc_obj rfl rfl (N := 5) rfl ?_)
    intro gd hg w2 hbox hb
    have HGD := Aside0.mk (show wb.heap.size ≤ gd by rw [hg]; exact HB1.out.size)
    have HXD := Aside0.mk hbox
    have HB2 := Aside0.mk (below_step HB1.out hb)
    clear hbox hb hg HB1
    go_wp2_with ((with_reducible refine gate_store (t := 68) (p := 5) rfl ?_); refine hold ?_)
    refine Hold.intro (box_store_event (t := 68) (ty := 68) (p := 5) (x := .tmp 13) (g := gd) (cs := zcObj) (cs' := cO d z4 z27) rfl rfl rfl rfl rfl size68 HXD.out rfl (kO_one HKD.out) ?_)
    intro w3 hbox hg
    replace HXD := Aside0.mk hbox
    have HB3 := Aside0.mk (Below.grown HB2.out hg HB2.out.size (fun k e => by injection e with e; rw [← e]; exact HGD.out))
    clear hbox hg HB2
    go_wp2
    have HB4 := Aside0.mk (below_drew1 HB3.out)
    clear HB3
    replace HXD := Aside0.mk (blk_drew HXD.out)
    refine start_ (n := 17) (S := fun w' => w'.cell? ⟨gf, 0, none⟩ = some (.slice A0 l0.length c0) ∧ w'.cell? ⟨gf, 1, none⟩ = some (.slice A1 l1.length c1) ∧ w'.cell? ⟨gf, 2, none⟩ = some (.slice A2 l2.length c2) ∧ w'.cell? ⟨gf, 3, none⟩ = some (.slice A3 l3.length c3) ∧ w'.cell? ⟨gp, 11, none⟩ = some (.string p.f10) ∧ w'.cell? ⟨gd, 22, none⟩ = some (.int .i64 d.f20) ∧ w'.cell? ⟨gd, 24, none⟩ = some (.int .i64 d.f22)) (ds := []) #[false, false, false, false, false, false, false, false, false, false, false, false, false, false, false, false, false] (by kernel_rfl) rfl rfl ⟨(blk_cell (blk_below HXF.out HB4.out) 0).trans rfl, (blk_cell (blk_below HXF.out HB4.out) 1).trans rfl, (blk_cell (blk_below HXF.out HB4.out) 2).trans rfl, (blk_cell (blk_below HXF.out HB4.out) 3).trans rfl, (blk_cell (blk_below HXP.out HB4.out) 11).trans rfl, (blk_cell HXD.out 22).trans rfl, (blk_cell HXD.out 24).trans rfl⟩ (fun hHeld => ?_); refine with_tabW chk.tab2 chk.bits2 (fun HT_ HW_ => ?_)
    generalize w3.drew = wd at HB4 HXD hHeld ⊢
    refine pure_ (i := 0) (N := some 15) (v := ?_) (a' := ?_) #[true, false, false, false, false, false, false, false, false, false, false, false, false, false, false, false, false] rfl rfl (any_of HT_.out (by kernel_rfl)) (fun _ _ _ h => h) (Or.inl ⟨by rfl, ?_⟩) ?_ ?_
    rotate_left
    · intro w'
      go_simp
      with_reducible rfl
    rotate_left
    · simp only [Act.put, List.setIfInBounds_toArray, List.set_cons_zero, List.set_cons_succ, i64_w, i32_w]
      rfl
    refine pure_ (i := 1) (N := some 16) (v := ?_) (a' := ?_) #[true, true, false, false, false, false, false, false, false, false, false, false, false, false, false, false, false] rfl rfl (any_of HT_.out (by kernel_rfl)) (fun _ _ _ h => h) (Or.inl ⟨by rfl, ?_⟩) ?_ ?_
    rotate_left
    · intro w'
      go_simp
      with_reducible rfl
    rotate_left
    · simp only [Act.put, List.setIfInBounds_toArray, List.set_cons_zero, List.set_cons_succ, i64_w, i32_w]
      rfl
    refine pure_ (i := 3) (N := some 18) (v := ?_) (a' := ?_) #[true, true, false, true, false, false, false, false, false, false, false, false, false, false, false, false, false] rfl rfl (any_of HT_.out (by kernel_rfl)) (fun _ _ _ h => h) (Or.inl ⟨by rfl, ?_⟩) ?_ ?_
    rotate_left
    · intro w'
      go_simp
      with_reducible rfl
    rotate_left
    · simp only [Act.put, List.setIfInBounds_toArray, List.set_cons_zero, List.set_cons_succ, i64_w, i32_w]
      rfl
    refine pure_ (i := 7) (N := some 22) (v := ?_) (a' := ?_) #[true, true, false, true, false, false, false, true, false, false, false, false, false, false, false, false, false] rfl rfl (any_of HT_.out (by kernel_rfl)) (fun _ _ _ h => h) (Or.inl ⟨by rfl, ?_⟩) ?_ ?_
    rotate_left
    · intro w'
      go_simp
      with_reducible rfl
    rotate_left
    · simp only [Act.put, List.setIfInBounds_toArray, List.set_cons_zero, List.set_cons_succ, i64_w, i32_w]
      rfl
    refine pure_ (i := 10) (N := some 25) (v := ?_) (a' := ?_) #[true, true, false, true, false, false, false, true, false, false, true, false, false, false, false, false, false] rfl rfl (any_of HT_.out (by kernel_rfl)) (fun _ _ _ h => h) (Or.inl ⟨by rfl, ?_⟩) ?_ ?_
    rotate_left
    · intro w'
      go_simp
      with_reducible rfl
    rotate_left
    · simp only [Act.put, List.setIfInBounds_toArray, List.set_cons_zero, List.set_cons_succ, i64_w, i32_w]
      rfl
    refine take_ (i := 2) (N := some 17) (v := ?_) (a' := ?_) #[true, true, true, true, false, false, false, true, false, false, true, false, false, false, false, false, false] rfl rfl (take_ofW HT_.out HW_.out (by kernel_rfl)) (fun _ _ _ h => h) (Or.inl ⟨by rfl, ?_⟩) hHeld ?_ ?_
    rotate_left
    · rintro w' ⟨s0, s1, s2, s3, s4, s5, s6⟩
      go_simp
      with_reducible rfl
    rotate_left
    · simp only [Act.put, List.setIfInBounds_toArray, List.set_cons_zero, List.set_cons_succ, i64_w, i32_w]
      rfl
    refine take_ (i := 4) (N := some 19) (v := ?_) (a' := ?_) #[true, true, true, true, true, false, false, true, false, false, true, false, false, false, false, false, false] rfl rfl (take_ofW HT_.out HW_.out (by kernel_rfl)) (fun _ _ _ h => h) (Or.inl ⟨by rfl, ?_⟩) hHeld ?_ ?_
    rotate_left
    · rintro w' ⟨s0, s1, s2, s3, s4, s5, s6⟩
      go_simp
      with_reducible rfl
    rotate_left
    · simp only [Act.put, List.setIfInBounds_toArray, List.set_cons_zero, List.set_cons_succ, i64_w, i32_w]
      rfl
    refine take_ (i := 8) (N := some 23) (v := ?_) (a' := ?_) #[true, true, true, true, true, false, false, true, true, false, true, false, false, false, false, false, false] rfl rfl (take_ofW HT_.out HW_.out (by kernel_rfl)) (fun _ _ _ h => h) (Or.inl ⟨by rfl, ?_⟩) hHeld ?_ ?_
    rotate_left
    · rintro w' ⟨s0, s1, s2, s3, s4, s5, s6⟩
      go_simp
      with_reducible rfl
    rotate_left
    · simp only [Act.put, List.setIfInBounds_toArray, List.set_cons_zero, List.set_cons_succ, i64_w, i32_w]
      rfl
    refine take_ (i := 11) (N := some 26) (v := ?_) (a' := ?_) #[true, true, true, true, true, false, false, true, true, false, true, true, false, false, false, false, false] rfl rfl (take_ofW HT_.out HW_.out (by kernel_rfl)) (fun _ _ _ h => h) (Or.inl ⟨by rfl, ?_⟩) hHeld ?_ ?_
    rotate_left
    · rintro w' ⟨s0, s1, s2, s3, s4, s5, s6⟩
      go_simp
      with_reducible rfl
    rotate_left
    · simp only [Act.put, List.setIfInBounds_toArray, List.set_cons_zero, List.set_cons_succ, i64_w, i32_w]
      rfl
    refine one_ (i := 5) (N := some 20) #[true, true, true, true, true, true, false, true, true, false, true, true, false, false, false, false, false] rfl rfl (one_of HT_.out (by kernel_rfl)) (by decide) (fun K hK => ?_)
    refine goes_ Try.func36 (by kernel_rfl) rfl #[.agg #[.slice A0 l0.length c0, .slice A1 l1.length c1, .slice A2 l2.length c2, .slice A3 l3.length c3], .string p.f10] (by rfl) rfl rfl (by (try simp only [List.map_toArray, List.map_cons, List.map_nil]); first | done | rfl | (simp only [List.length_drop, List.length_take]; rfl)) ?_
    refine (rules_Ready.calls _ _ l0 _ _ l1 _ _ l2 _ _ l3 p.f10 r _ (Kd.C_below HR0.out (below_step HW.out HB4.out)) HC0.out (Kd.C_below HR1.out (below_step HW.out HB4.out)) HC1.out (Kd.C_below HR2.out (below_step HW.out HB4.out)) HC2.out (Kd.C_below HR3.out (below_step HW.out HB4.out)) HC3.out HRD.out).mono ?_
    rintro e v5_ ⟨rfl, hb⟩
    refine ⟨_, rfl, ?_⟩
    have HB5 := Aside0.mk (below_step HB4.out hb)
    replace HXD := Aside0.mk (blk_below HXD.out hb)
    clear hb HB4
    refine hK.out _ _ ⟨(blk_cell (blk_below HXF.out HB5.out) 0).trans rfl, (blk_cell (blk_below HXF.out HB5.out) 1).trans rfl, (blk_cell (blk_below HXF.out HB5.out) 2).trans rfl, (blk_cell (blk_below HXF.out HB5.out) 3).trans rfl, (blk_cell (blk_below HXP.out HB5.out) 11).trans rfl, (blk_cell HXD.out 22).trans rfl, (blk_cell HXD.out 24).trans rfl⟩ (fun hHeld => ?_)
    clear hK K
    refine norm_ (a' := ?_) ?_ ?_
    rotate_left
    · show Act.put _ (some 20) _ = _
      simp only [Act.put, List.setIfInBounds_toArray, List.set_cons_zero, List.set_cons_succ, i64_w, i32_w]
      rfl
    obtain ⟨⟨ha0, ha1⟩, ⟨hb0, hb1⟩, hr0, hr1⟩ := HBD.out
    have hwr : wrap64 (r - 1) = r - 1 := by unfold wrap64; omega
    have hwab : wrap64 (a - b) = a - b := by unfold wrap64; omega
    refine pure_ (i := 6) (N := some 21) (v := ?_) (a' := ?_) #[true, true, true, true, true, true, true, true, true, false, true, true, false, false, false, false, false] rfl rfl (any_of HT_.out (by kernel_rfl)) (fun _ _ _ h => h) (Or.inl ⟨by rfl, ?_⟩) ?_ ?_
    rotate_left
    · intro w'
      go_simp
      with_reducible rfl
    rotate_left
    · simp only [Act.put, List.setIfInBounds_toArray, List.set_cons_zero, List.set_cons_succ, i64_w, i32_w]
      rfl
    refine one_ (i := 9) (N := some 24) #[true, true, true, true, true, true, true, true, true, true, true, true, false, false, false, false, false] rfl rfl (one_of HT_.out (by kernel_rfl)) (by decide) (fun K hK => ?_)
    refine goes_ Try.func105 (by kernel_rfl) rfl #[.int .i64 d.f20] (by rfl) rfl rfl (by (try simp only [List.map_toArray, List.map_cons, List.map_nil]); first | done | rfl | (simp only [List.length_drop, List.length_take]; rfl)) ?_
    refine (rules_held.calls d.f20 a _ HHA.out).mono ?_
    rintro e v6_ ⟨rfl, hb⟩
    refine ⟨_, rfl, ?_⟩
    have HB6 := Aside0.mk (below_step HB5.out hb)
    replace HXD := Aside0.mk (blk_below HXD.out hb)
    clear hb HB5
    refine hK.out _ _ ⟨(blk_cell (blk_below HXF.out HB6.out) 0).trans rfl, (blk_cell (blk_below HXF.out HB6.out) 1).trans rfl, (blk_cell (blk_below HXF.out HB6.out) 2).trans rfl, (blk_cell (blk_below HXF.out HB6.out) 3).trans rfl, (blk_cell (blk_below HXP.out HB6.out) 11).trans rfl, (blk_cell HXD.out 22).trans rfl, (blk_cell HXD.out 24).trans rfl⟩ (fun hHeld => ?_)
    clear hK K
    refine norm_ (a' := ?_) ?_ ?_
    rotate_left
    · show Act.put _ (some 24) _ = _
      simp only [Act.put, List.setIfInBounds_toArray, List.set_cons_zero, List.set_cons_succ, i64_w, i32_w]
      rfl
    refine one_ (i := 12) (N := some 27) #[true, true, true, true, true, true, true, true, true, true, true, true, true, false, false, false, false] rfl rfl (one_of HT_.out (by kernel_rfl)) (by decide) (fun K hK => ?_)
    refine goes_ Try.func105 (by kernel_rfl) rfl #[.int .i64 d.f22] (by rfl) rfl rfl (by (try simp only [List.map_toArray, List.map_cons, List.map_nil]); first | done | rfl | (simp only [List.length_drop, List.length_take]; rfl)) ?_
    refine (rules_held.calls d.f22 b _ HHB.out).mono ?_
    rintro e v7_ ⟨rfl, hb⟩
    refine ⟨_, rfl, ?_⟩
    have HB7 := Aside0.mk (below_step HB6.out hb)
    replace HXD := Aside0.mk (blk_below HXD.out hb)
    clear hb HB6
    refine hK.out _ _ ⟨(blk_cell (blk_below HXF.out HB7.out) 0).trans rfl, (blk_cell (blk_below HXF.out HB7.out) 1).trans rfl, (blk_cell (blk_below HXF.out HB7.out) 2).trans rfl, (blk_cell (blk_below HXF.out HB7.out) 3).trans rfl, (blk_cell (blk_below HXP.out HB7.out) 11).trans rfl, (blk_cell HXD.out 22).trans rfl, (blk_cell HXD.out 24).trans rfl⟩ (fun hHeld => ?_)
    clear hK K
    refine norm_ (a' := ?_) ?_ ?_
    rotate_left
    · show Act.put _ (some 27) _ = _
      simp only [Act.put, List.setIfInBounds_toArray, List.set_cons_zero, List.set_cons_succ, i64_w, i32_w]
      rfl
    refine pure_ (i := 13) (N := some 28) (v := ?_) (a' := ?_) #[true, true, true, true, true, true, true, true, true, true, true, true, true, true, false, false, false] rfl rfl (any_of HT_.out (by kernel_rfl)) (fun _ _ _ h => h) (Or.inl ⟨by rfl, ?_⟩) ?_ ?_
    rotate_left
    · intro w'
      go_simp
      with_reducible rfl
    rotate_left
    · simp only [Act.put, List.setIfInBounds_toArray, List.set_cons_zero, List.set_cons_succ, i64_w, i32_w]
      rfl
    refine pure_ (i := 14) (N := some 29) (v := ?_) (a' := ?_) #[true, true, true, true, true, true, true, true, true, true, true, true, true, true, true, false, false] rfl rfl (any_of HT_.out (by kernel_rfl)) (fun _ _ _ h => h) (Or.inl ⟨by rfl, ?_⟩) ?_ ?_
    rotate_left
    · intro w'
      go_simp
      with_reducible rfl
    rotate_left
    · simp only [Act.put, List.setIfInBounds_toArray, List.set_cons_zero, List.set_cons_succ, i64_w, i32_w]
      rfl
    refine pure_ (i := 15) (N := some 30) (v := ?_) (a' := ?_) #[true, true, true, true, true, true, true, true, true, true, true, true, true, true, true, true, false] rfl rfl (any_of HT_.out (by kernel_rfl)) (fun _ _ _ h => h) (Or.inl ⟨by rfl, ?_⟩) ?_ ?_
    rotate_left
    · intro w'
      go_simp
      with_reducible rfl
    rotate_left
    · simp only [Act.put, List.setIfInBounds_toArray, List.set_cons_zero, List.set_cons_succ, i64_w, i32_w]
      rfl
    refine pure_ (i := 16) (N := some 4) (v := ?_) (a' := ?_) #[true, true, true, true, true, true, true, true, true, true, true, true, true, true, true, true, true] rfl rfl (any_of HT_.out (by kernel_rfl)) (fun _ _ _ h => h) (Or.inl ⟨by rfl, ?_⟩) ?_ ?_
    rotate_left
    · intro w'
      go_simp
      with_reducible rfl
    rotate_left
    · simp only [Act.put, List.setIfInBounds_toArray, List.set_cons_zero, List.set_cons_succ, i64_w, i32_w]
      rfl
    refine done_ (done_of HT_.out (by kernel_rfl)) ?_
    go_wp2
    go_ret
    exact ⟨retB HS.out.symm, below_step HW.out HB7.out⟩
set_option maxRecDepth 100000 in
set_option maxHeartbeats 4000000 in
theorem checks_2_1 (A0 : Option Addr) (c0 : Nat) (l0 : List S68) (A1 : Option Addr) (c1 : Nat) (l1 : List S68) (A2 : Option Addr) (c2 : Nat) (l2 : List S68) (A3 : Option Addr) (c3 : Nat) (l3 : List S68) (p : S68) (p4 p27 : Value) (gp gf : Nat) (w0 : World) (hr0 : k68.C w0 A0 l0.length l0) (hc0 : l0.length ≤ c0) (hr1 : k68.C w0 A1 l1.length l1) (hc1 : l1.length ≤ c1) (hr2 : k68.C w0 A2 l2.length l2) (hc2 : l2.length ≤ c2) (hr3 : k68.C w0 A3 l3.length l3) (hc3 : l3.length ≤ c3) (hk : kO w0 p p4 p27) (hP : w0.heap[gp]? = some (.cells (cO p p4 p27) 68 (0, 0))) (hF : w0.heap[gf]? = some (.cells #[.slice A0 l0.length c0, .slice A1 l1.length c1, .slice A2 l2.length c2, .slice A3 l3.length c3] 59 (0, 0))) (hz : ∀ b ∈ l3, b.f25.length * 32 ≤ 140737488351232) :
    PredOn l3 136 #[.pointer (some ⟨gp, 0, none⟩), .pointer (some ⟨gf, 0, none⟩)] (budgetB l1 p) w0 := by
  intro W b cs hm hW hK
  obtain ⟨v4, v27, rfl, hx⟩ := K_kO hK
  have HZ := Aside0.mk (hz b hm)
  have HXP := Aside0.mk (blk_below hP hW)
  have HXF := Aside0.mk (blk_below hF hW)
  have HKP := Aside0.mk (kO_below hk hW)
  have HKB := Aside0.mk hx
  have HR1 := Aside0.mk (Kd.C_below hr1 hW)
  clear hr0 hr1 hr2 hr3 hc0 hc1 hc2 hc3 hK hx hk hP hF hz hm hW
  have hu59 := Try.underlying59
  have hu68 := Try.underlying68
  rw [Array.toArray_toList]
  go_enter Try.func136, Try.ntmps136
  go_wp2_with ((with_reducible refine gate_dst (N := 3) rfl ?_); refine hold ?_)
  refine Hold.intro ?_
  refine box_event (N := 3) (cs := cO b v4 v27) (t := 68) rfl rfl ?hs ?_
  case hs => unfold cO; first | (go_simp; done) | (go_simp; rfl)
  intro gb hg w2 hbox hb
  have HXB := Aside0.mk hbox
  have HB0 := Aside0.mk hb
  replace HXP := Aside0.mk (blk_below HXP.out hb)
  replace HXF := Aside0.mk (blk_below HXF.out hb)
  replace HKP := Aside0.mk (kO_below HKP.out hb)
  replace HKB := Aside0.mk (kO_below HKB.out hb)
  replace HR1 := Aside0.mk (Kd.C_below HR1.out hb)
  clear hbox hb hg
  obtain ⟨A4, c4, A27, c27, e4, -, l4, g4, -, -⟩ := HKP.out
  obtain ⟨D4, d4, D27, d27, -, e27, -, -, m27, h27⟩ := HKB.out
  subst e4 e27
  have HG4 := Aside0.mk g4
  have HL4 := Aside0.mk l4
  have HG27 := Aside0.mk h27
  have HL27 := Aside0.mk m27
  clear g4 l4 h27 m27
  go_wp2
  have HB1 := Aside0.mk (below_drew1 (Below.refl w2.heap.size w2))
  cases hm : matchL b.f25 p.f4 with
  | false =>
    have HS := Aside0.mk (show budgetB l1 p b = false by unfold budgetB; rw [hm]; rfl)
    have HM := Aside0.mk hm
    clear hm
    refine start_ (n := 14) (S := fun w' => w'.cell? ⟨gb, 27, none⟩ = some (.slice D27 b.f25.length d27) ∧ w'.cell? ⟨gb, 28, none⟩ = some (.int .i64 b.f26) ∧ w'.cell? ⟨gp, 4, none⟩ = some (.slice A4 p.f4.length c4) ∧ w'.cell? ⟨gf, 0, none⟩ = some (.slice A0 l0.length c0) ∧ w'.cell? ⟨gf, 1, none⟩ = some (.slice A1 l1.length c1) ∧ w'.cell? ⟨gf, 2, none⟩ = some (.slice A2 l2.length c2) ∧ w'.cell? ⟨gf, 3, none⟩ = some (.slice A3 l3.length c3) ∧ w'.heap[gb]? = some (.cells (cO b v4 (.slice D27 b.f25.length d27)) 68 (0, 0))) (ds := []) #[false, false, false, false, false, false, false, false, false, false, false, false, false, false] (by kernel_rfl) rfl rfl ⟨(blk_cell (blk_below HXB.out HB1.out) 27).trans rfl, (blk_cell (blk_below HXB.out HB1.out) 28).trans rfl, (blk_cell (blk_below HXP.out HB1.out) 4).trans rfl, (blk_cell (blk_below HXF.out HB1.out) 0).trans rfl, (blk_cell (blk_below HXF.out HB1.out) 1).trans rfl, (blk_cell (blk_below HXF.out HB1.out) 2).trans rfl, (blk_cell (blk_below HXF.out HB1.out) 3).trans rfl, blk_below HXB.out HB1.out⟩ (fun hHeld => ?_); refine with_tabW chkb.tab1 chkb.bits1 (fun HT_ HW_ => ?_)
    generalize w2.drew = wd at HB1 hHeld ⊢
    refine pure_ (i := 0) (N := some 5) (v := ?_) (a' := ?_) #[true, false, false, false, false, false, false, false, false, false, false, false, false, false] rfl rfl (any_of HT_.out (by kernel_rfl)) (fun _ _ _ h => h) (Or.inl ⟨by rfl, ?_⟩) ?_ ?_
    rotate_left
    · intro w'
      go_simp
      with_reducible rfl
    rotate_left
    · simp only [Act.put, List.setIfInBounds_toArray, List.set_cons_zero, List.set_cons_succ, i64_w, i32_w]
      rfl
    refine pure_ (i := 2) (N := some 7) (v := ?_) (a' := ?_) #[true, false, true, false, false, false, false, false, false, false, false, false, false, false] rfl rfl (any_of HT_.out (by kernel_rfl)) (fun _ _ _ h => h) (Or.inl ⟨by rfl, ?_⟩) ?_ ?_
    rotate_left
    · intro w'
      go_simp
      with_reducible rfl
    rotate_left
    · simp only [Act.put, List.setIfInBounds_toArray, List.set_cons_zero, List.set_cons_succ, i64_w, i32_w]
      rfl
    refine take_ (i := 1) (N := some 6) (v := ?_) (a' := ?_) #[true, true, true, false, false, false, false, false, false, false, false, false, false, false] rfl rfl (take_ofW HT_.out HW_.out (by kernel_rfl)) (fun _ _ _ h => h) (Or.inl ⟨by rfl, ?_⟩) hHeld ?_ ?_
    rotate_left
    · rintro w' ⟨s0, s1, s2, s3, s4, s5, s6, s7⟩
      go_simp
      with_reducible rfl
    rotate_left
    · simp only [Act.put, List.setIfInBounds_toArray, List.set_cons_zero, List.set_cons_succ, i64_w, i32_w]
      rfl
    refine take_ (i := 3) (N := some 8) (v := ?_) (a' := ?_) #[true, true, true, true, false, false, false, false, false, false, false, false, false, false] rfl rfl (take_ofW HT_.out HW_.out (by kernel_rfl)) (fun _ _ _ h => h) (Or.inl ⟨by rfl, ?_⟩) hHeld ?_ ?_
    rotate_left
    · rintro w' ⟨s0, s1, s2, s3, s4, s5, s6, s7⟩
      go_simp
      with_reducible rfl
    rotate_left
    · simp only [Act.put, List.setIfInBounds_toArray, List.set_cons_zero, List.set_cons_succ, i64_w, i32_w]
      rfl
    refine one_ (i := 4) (N := some 9) #[true, true, true, true, true, false, false, false, false, false, false, false, false, false] rfl rfl (one_of HT_.out (by kernel_rfl)) (by decide) (fun K hK => ?_)
    refine goes_ Try.func15 (by kernel_rfl) rfl #[.slice D27 b.f25.length d27, .slice A4 p.f4.length c4] (by rfl) rfl rfl (by (try simp only [List.map_toArray, List.map_cons, List.map_nil]); first | done | rfl | (simp only [List.length_drop, List.length_take]; rfl)) ?_
    refine (matches_co _ _ b.f25 _ _ p.f4 _ (Kd.C_below HG27.out HB1.out) HL27.out (Kd.C_below HG4.out HB1.out) HL4.out HZ.out).mono ?_
    rintro e v2_ ⟨rfl, hb⟩
    refine ⟨_, rfl, ?_⟩
    have HB2 := Aside0.mk (below_step HB1.out hb)
    clear hb HB1
    refine hK.out _ _ ⟨(blk_cell (blk_below HXB.out HB2.out) 27).trans rfl, (blk_cell (blk_below HXB.out HB2.out) 28).trans rfl, (blk_cell (blk_below HXP.out HB2.out) 4).trans rfl, (blk_cell (blk_below HXF.out HB2.out) 0).trans rfl, (blk_cell (blk_below HXF.out HB2.out) 1).trans rfl, (blk_cell (blk_below HXF.out HB2.out) 2).trans rfl, (blk_cell (blk_below HXF.out HB2.out) 3).trans rfl, blk_below HXB.out HB2.out⟩ (fun hHeld => ?_)
    clear hK K
    refine norm_ (a' := ?_) ?_ ?_
    rotate_left
    · show Act.put _ (some 9) _ = _
      simp only [Act.put, List.setIfInBounds_toArray, List.set_cons_zero, List.set_cons_succ, i64_w, i32_w]
      rfl
    rw [HM.out]
    refine pure_ (i := 5) (N := some 10) (v := ?_) (a' := ?_) #[true, true, true, true, true, true, false, false, false, false, false, false, false, false] rfl rfl (any_of HT_.out (by kernel_rfl)) (fun _ _ _ h => h) (Or.inl ⟨by rfl, ?_⟩) ?_ ?_
    rotate_left
    · intro w'
      go_simp
      with_reducible rfl
    rotate_left
    · simp only [Act.put, List.setIfInBounds_toArray, List.set_cons_zero, List.set_cons_succ, i64_w, i32_w]
      rfl
    refine pure_ (i := 6) (N := some 11) (v := undef) (a' := ?_) #[true, true, true, true, true, true, true, false, false, false, false, false, false, false] rfl rfl (any_of HT_.out (by kernel_rfl)) (fun _ _ _ h => h) (Or.inr ⟨by rfl, rfl⟩) ?_ ?_
    rotate_left
    · simp only [Act.put, List.setIfInBounds_toArray, List.set_cons_zero, List.set_cons_succ, i64_w, i32_w]
      rfl
    refine pure_ (i := 7) (N := some 12) (v := undef) (a' := ?_) #[true, true, true, true, true, true, true, true, false, false, false, false, false, false] rfl rfl (any_of HT_.out (by kernel_rfl)) (fun _ _ _ h => h) (Or.inr ⟨by rfl, rfl⟩) ?_ ?_
    rotate_left
    · simp only [Act.put, List.setIfInBounds_toArray, List.set_cons_zero, List.set_cons_succ, i64_w, i32_w]
      rfl
    refine pure_ (i := 8) (N := some 13) (v := undef) (a' := ?_) #[true, true, true, true, true, true, true, true, true, false, false, false, false, false] rfl rfl (any_of HT_.out (by kernel_rfl)) (fun _ _ _ h => h) (Or.inr ⟨by rfl, rfl⟩) ?_ ?_
    rotate_left
    · simp only [Act.put, List.setIfInBounds_toArray, List.set_cons_zero, List.set_cons_succ, i64_w, i32_w]
      rfl
    refine pure_ (i := 9) (N := some 14) (v := undef) (a' := ?_) #[true, true, true, true, true, true, true, true, true, true, false, false, false, false] rfl rfl (any_of HT_.out (by kernel_rfl)) (fun _ _ _ h => h) (Or.inr ⟨by rfl, rfl⟩) ?_ ?_
    rotate_left
    · simp only [Act.put, List.setIfInBounds_toArray, List.set_cons_zero, List.set_cons_succ, i64_w, i32_w]
      rfl
    refine pure_ (i := 10) (N := some 15) (v := undef) (a' := ?_) #[true, true, true, true, true, true, true, true, true, true, true, false, false, false] rfl rfl (any_of HT_.out (by kernel_rfl)) (fun _ _ _ h => h) (Or.inr ⟨by rfl, rfl⟩) ?_ ?_
    rotate_left
    · simp only [Act.put, List.setIfInBounds_toArray, List.set_cons_zero, List.set_cons_succ, i64_w, i32_w]
      rfl
    refine pure_ (i := 11) (N := some 16) (v := undef) (a' := ?_) #[true, true, true, true, true, true, true, true, true, true, true, true, false, false] rfl rfl (any_of HT_.out (by kernel_rfl)) (fun _ _ _ h => h) (Or.inr ⟨by rfl, rfl⟩) ?_ ?_
    rotate_left
    · simp only [Act.put, List.setIfInBounds_toArray, List.set_cons_zero, List.set_cons_succ, i64_w, i32_w]
      rfl
    refine pure_ (i := 12) (N := some 17) (v := ?_) (a' := ?_) #[true, true, true, true, true, true, true, true, true, true, true, true, true, false] rfl rfl (any_of HT_.out (by kernel_rfl)) (fun _ _ _ h => h) (Or.inl ⟨by rfl, ?_⟩) ?_ ?_
    rotate_left
    · intro w'
      go_simp
      with_reducible rfl
    rotate_left
    · simp only [Act.put, List.setIfInBounds_toArray, List.set_cons_zero, List.set_cons_succ, i64_w, i32_w]
      rfl
    refine pure_ (i := 13) (N := some 4) (v := ?_) (a' := ?_) #[true, true, true, true, true, true, true, true, true, true, true, true, true, true] rfl rfl (any_of HT_.out (by kernel_rfl)) (fun _ _ _ h => h) (Or.inl ⟨by rfl, ?_⟩) ?_ ?_
    rotate_left
    · intro w'
      go_simp
      with_reducible rfl
    rotate_left
    · simp only [Act.put, List.setIfInBounds_toArray, List.set_cons_zero, List.set_cons_succ, i64_w, i32_w]
      rfl
    refine done_ (done_of HT_.out (by kernel_rfl)) ?_
    go_wp2
    go_ret
    exact ⟨retB HS.out.symm, below_step HB0.out HB2.out⟩
  | true =>
    obtain ⟨n, hn⟩ : ∃ n : Int, n = ((countL (isGuard b.f25) l1 : Nat) : Int) := ⟨_, rfl⟩
    have HS := Aside0.mk (show budgetB l1 p b = decide (n ≤ b.f26) by unfold budgetB; rw [hm, hn]; rfl)
    have HN := Aside0.mk hn
    have HM := Aside0.mk hm
    clear hm hn
    refine start_ (n := 14) (S := fun w' => w'.cell? ⟨gb, 27, none⟩ = some (.slice D27 b.f25.length d27) ∧ w'.cell? ⟨gb, 28, none⟩ = some (.int .i64 b.f26) ∧ w'.cell? ⟨gp, 4, none⟩ = some (.slice A4 p.f4.length c4) ∧ w'.cell? ⟨gf, 0, none⟩ = some (.slice A0 l0.length c0) ∧ w'.cell? ⟨gf, 1, none⟩ = some (.slice A1 l1.length c1) ∧ w'.cell? ⟨gf, 2, none⟩ = some (.slice A2 l2.length c2) ∧ w'.cell? ⟨gf, 3, none⟩ = some (.slice A3 l3.length c3) ∧ w'.heap[gb]? = some (.cells (cO b v4 (.slice D27 b.f25.length d27)) 68 (0, 0))) (ds := []) #[false, false, false, false, false, false, false, false, false, false, false, false, false, false] (by kernel_rfl) rfl rfl ⟨(blk_cell (blk_below HXB.out HB1.out) 27).trans rfl, (blk_cell (blk_below HXB.out HB1.out) 28).trans rfl, (blk_cell (blk_below HXP.out HB1.out) 4).trans rfl, (blk_cell (blk_below HXF.out HB1.out) 0).trans rfl, (blk_cell (blk_below HXF.out HB1.out) 1).trans rfl, (blk_cell (blk_below HXF.out HB1.out) 2).trans rfl, (blk_cell (blk_below HXF.out HB1.out) 3).trans rfl, blk_below HXB.out HB1.out⟩ (fun hHeld => ?_); refine with_tabW chkb.tab1 chkb.bits1 (fun HT_ HW_ => ?_)
    generalize w2.drew = wd at HB1 hHeld ⊢
    refine pure_ (i := 0) (N := some 5) (v := ?_) (a' := ?_) #[true, false, false, false, false, false, false, false, false, false, false, false, false, false] rfl rfl (any_of HT_.out (by kernel_rfl)) (fun _ _ _ h => h) (Or.inl ⟨by rfl, ?_⟩) ?_ ?_
    rotate_left
    · intro w'
      go_simp
      with_reducible rfl
    rotate_left
    · simp only [Act.put, List.setIfInBounds_toArray, List.set_cons_zero, List.set_cons_succ, i64_w, i32_w]
      rfl
    refine pure_ (i := 2) (N := some 7) (v := ?_) (a' := ?_) #[true, false, true, false, false, false, false, false, false, false, false, false, false, false] rfl rfl (any_of HT_.out (by kernel_rfl)) (fun _ _ _ h => h) (Or.inl ⟨by rfl, ?_⟩) ?_ ?_
    rotate_left
    · intro w'
      go_simp
      with_reducible rfl
    rotate_left
    · simp only [Act.put, List.setIfInBounds_toArray, List.set_cons_zero, List.set_cons_succ, i64_w, i32_w]
      rfl
    refine take_ (i := 1) (N := some 6) (v := ?_) (a' := ?_) #[true, true, true, false, false, false, false, false, false, false, false, false, false, false] rfl rfl (take_ofW HT_.out HW_.out (by kernel_rfl)) (fun _ _ _ h => h) (Or.inl ⟨by rfl, ?_⟩) hHeld ?_ ?_
    rotate_left
    · rintro w' ⟨s0, s1, s2, s3, s4, s5, s6, s7⟩
      go_simp
      with_reducible rfl
    rotate_left
    · simp only [Act.put, List.setIfInBounds_toArray, List.set_cons_zero, List.set_cons_succ, i64_w, i32_w]
      rfl
    refine take_ (i := 3) (N := some 8) (v := ?_) (a' := ?_) #[true, true, true, true, false, false, false, false, false, false, false, false, false, false] rfl rfl (take_ofW HT_.out HW_.out (by kernel_rfl)) (fun _ _ _ h => h) (Or.inl ⟨by rfl, ?_⟩) hHeld ?_ ?_
    rotate_left
    · rintro w' ⟨s0, s1, s2, s3, s4, s5, s6, s7⟩
      go_simp
      with_reducible rfl
    rotate_left
    · simp only [Act.put, List.setIfInBounds_toArray, List.set_cons_zero, List.set_cons_succ, i64_w, i32_w]
      rfl
    refine one_ (i := 4) (N := some 9) #[true, true, true, true, true, false, false, false, false, false, false, false, false, false] rfl rfl (one_of HT_.out (by kernel_rfl)) (by decide) (fun K hK => ?_)
    refine goes_ Try.func15 (by kernel_rfl) rfl #[.slice D27 b.f25.length d27, .slice A4 p.f4.length c4] (by rfl) rfl rfl (by (try simp only [List.map_toArray, List.map_cons, List.map_nil]); first | done | rfl | (simp only [List.length_drop, List.length_take]; rfl)) ?_
    refine (matches_co _ _ b.f25 _ _ p.f4 _ (Kd.C_below HG27.out HB1.out) HL27.out (Kd.C_below HG4.out HB1.out) HL4.out HZ.out).mono ?_
    rintro e v2_ ⟨rfl, hb⟩
    refine ⟨_, rfl, ?_⟩
    have HB2 := Aside0.mk (below_step HB1.out hb)
    clear hb HB1
    refine hK.out _ _ ⟨(blk_cell (blk_below HXB.out HB2.out) 27).trans rfl, (blk_cell (blk_below HXB.out HB2.out) 28).trans rfl, (blk_cell (blk_below HXP.out HB2.out) 4).trans rfl, (blk_cell (blk_below HXF.out HB2.out) 0).trans rfl, (blk_cell (blk_below HXF.out HB2.out) 1).trans rfl, (blk_cell (blk_below HXF.out HB2.out) 2).trans rfl, (blk_cell (blk_below HXF.out HB2.out) 3).trans rfl, blk_below HXB.out HB2.out⟩ (fun hHeld => ?_)
    clear hK K
    refine norm_ (a' := ?_) ?_ ?_
    rotate_left
    · show Act.put _ (some 9) _ = _
      simp only [Act.put, List.setIfInBounds_toArray, List.set_cons_zero, List.set_cons_succ, i64_w, i32_w]
      rfl
    rw [HM.out]
    refine pure_ (i := 5) (N := some 10) (v := ?_) (a' := ?_) #[true, true, true, true, true, true, false, false, false, false, false, false, false, false] rfl rfl (any_of HT_.out (by kernel_rfl)) (fun _ _ _ h => h) (Or.inl ⟨by rfl, ?_⟩) ?_ ?_
    rotate_left
    · intro w'
      go_simp
      with_reducible rfl
    rotate_left
    · simp only [Act.put, List.setIfInBounds_toArray, List.set_cons_zero, List.set_cons_succ, i64_w, i32_w]
      rfl
    refine pure_ (i := 9) (N := some 14) (v := ?_) (a' := ?_) #[true, true, true, true, true, true, false, false, false, true, false, false, false, false] rfl rfl (any_of HT_.out (by kernel_rfl)) (fun _ _ _ h => h) (Or.inl ⟨by rfl, ?_⟩) ?_ ?_
    rotate_left
    · intro w'
      go_simp
      with_reducible rfl
    rotate_left
    · simp only [Act.put, List.setIfInBounds_toArray, List.set_cons_zero, List.set_cons_succ, i64_w, i32_w]
      rfl
    refine take_ (i := 6) (N := some 11) (v := ?_) (a' := ?_) #[true, true, true, true, true, true, true, false, false, true, false, false, false, false] rfl rfl (take_ofW HT_.out HW_.out (by kernel_rfl)) (fun _ _ _ h => h) (Or.inl ⟨by rfl, ?_⟩) hHeld ?_ ?_
    rotate_left
    · rintro w' ⟨s0, s1, s2, s3, s4, s5, s6, s7⟩
      go_simp
      with_reducible rfl
    rotate_left
    · simp only [Act.put, List.setIfInBounds_toArray, List.set_cons_zero, List.set_cons_succ, i64_w, i32_w]
      rfl
    refine take_ (i := 7) (N := some 12) (v := ?_) (a' := ?_) #[true, true, true, true, true, true, true, true, false, true, false, false, false, false] rfl rfl (take_ofW HT_.out HW_.out (by kernel_rfl)) (fun _ _ _ h => h) (Or.inl ⟨by rfl, ?_⟩) hHeld ?_ ?_
    rotate_left
    · rintro w' ⟨s0, s1, s2, s3, s4, s5, s6, s7⟩
      refine load_obj_run (p := .tmp 3) ?_ ?_ s7 ?_ <;> rfl
    rotate_left
    · simp only [Act.put, List.setIfInBounds_toArray, List.set_cons_zero, List.set_cons_succ, i64_w, i32_w]
      rfl
    refine take_ (i := 10) (N := some 15) (v := ?_) (a' := ?_) #[true, true, true, true, true, true, true, true, false, true, true, false, false, false] rfl rfl (take_ofW HT_.out HW_.out (by kernel_rfl)) (fun _ _ _ h => h) (Or.inl ⟨by rfl, ?_⟩) hHeld ?_ ?_
    rotate_left
    · rintro w' ⟨s0, s1, s2, s3, s4, s5, s6, s7⟩
      go_simp
      with_reducible rfl
    rotate_left
    · simp only [Act.put, List.setIfInBounds_toArray, List.set_cons_zero, List.set_cons_succ, i64_w, i32_w]
      rfl
    refine one_ (i := 8) (N := some 13) #[true, true, true, true, true, true, true, true, true, true, true, false, false, false] rfl rfl (one_of HT_.out (by kernel_rfl)) (by decide) (fun K hK => ?_)
    refine goes_ Try.func40 (by kernel_rfl) rfl #[.agg #[.slice A0 l0.length c0, .slice A1 l1.length c1, .slice A2 l2.length c2, .slice A3 l3.length c3], .agg (cO b v4 (.slice D27 b.f25.length d27))] (by rfl) rfl rfl (by (try simp only [List.map_toArray, List.map_cons, List.map_nil]); first | done | rfl | (simp only [List.length_drop, List.length_take]; rfl)) ?_
    refine (guarded_co _ _ l0 _ _ l1 _ _ l2 _ _ l3 b v4 _ _ (Kd.C_below HR1.out HB2.out) (kO_below HKB.out HB2.out) HZ.out).mono ?_
    rintro e v3_ ⟨rfl, hb⟩
    refine ⟨_, rfl, ?_⟩
    have HB3 := Aside0.mk (below_step HB2.out hb)
    clear hb HB2
    refine hK.out _ _ ⟨(blk_cell (blk_below HXB.out HB3.out) 27).trans rfl, (blk_cell (blk_below HXB.out HB3.out) 28).trans rfl, (blk_cell (blk_below HXP.out HB3.out) 4).trans rfl, (blk_cell (blk_below HXF.out HB3.out) 0).trans rfl, (blk_cell (blk_below HXF.out HB3.out) 1).trans rfl, (blk_cell (blk_below HXF.out HB3.out) 2).trans rfl, (blk_cell (blk_below HXF.out HB3.out) 3).trans rfl, blk_below HXB.out HB3.out⟩ (fun hHeld => ?_)
    clear hK K
    refine norm_ (a' := ?_) ?_ ?_
    rotate_left
    · show Act.put _ (some 13) _ = _
      simp only [Act.put, List.setIfInBounds_toArray, List.set_cons_zero, List.set_cons_succ, i64_w, i32_w]
      rfl
    rw [← HN.out]
    refine pure_ (i := 11) (N := some 16) (v := ?_) (a' := ?_) #[true, true, true, true, true, true, true, true, true, true, true, true, false, false] rfl rfl (any_of HT_.out (by kernel_rfl)) (fun _ _ _ h => h) (Or.inl ⟨by rfl, ?_⟩) ?_ ?_
    rotate_left
    · intro w'
      go_simp
      with_reducible rfl
    rotate_left
    · simp only [Act.put, List.setIfInBounds_toArray, List.set_cons_zero, List.set_cons_succ, i64_w, i32_w]
      rfl
    refine pure_ (i := 12) (N := some 17) (v := ?_) (a' := ?_) #[true, true, true, true, true, true, true, true, true, true, true, true, true, false] rfl rfl (any_of HT_.out (by kernel_rfl)) (fun _ _ _ h => h) (Or.inl ⟨by rfl, ?_⟩) ?_ ?_
    rotate_left
    · intro w'
      go_simp
      with_reducible rfl
    rotate_left
    · simp only [Act.put, List.setIfInBounds_toArray, List.set_cons_zero, List.set_cons_succ, i64_w, i32_w]
      rfl
    refine pure_ (i := 13) (N := some 4) (v := ?_) (a' := ?_) #[true, true, true, true, true, true, true, true, true, true, true, true, true, true] rfl rfl (any_of HT_.out (by kernel_rfl)) (fun _ _ _ h => h) (Or.inl ⟨by rfl, ?_⟩) ?_ ?_
    rotate_left
    · intro w'
      go_simp
      with_reducible rfl
    rotate_left
    · simp only [Act.put, List.setIfInBounds_toArray, List.set_cons_zero, List.set_cons_succ, i64_w, i32_w]
      rfl
    refine done_ (done_of HT_.out (by kernel_rfl)) ?_
    go_wp2
    go_ret
    exact ⟨retB HS.out.symm, below_step HB0.out HB3.out⟩
set_option maxRecDepth 100000 in
set_option maxHeartbeats 4000000 in
theorem checks_2.calls (A0 : Option Addr) (c0 : Nat) (l0 : List S68) (A1 : Option Addr) (c1 : Nat) (l1 : List S68) (A2 : Option Addr) (c2 : Nat) (l2 : List S68) (A3 : Option Addr) (c3 : Nat) (l3 : List S68) (p : S68) (v4 v27 : Value) (w : World) (hr0 : k68.C w A0 l0.length l0) (hc0 : l0.length ≤ c0) (hr1 : k68.C w A1 l1.length l1) (hc1 : l1.length ≤ c1) (hr2 : k68.C w A2 l2.length l2) (hc2 : l2.length ≤ c2) (hr3 : k68.C w A3 l3.length l3) (hc3 : l3.length ≤ c3) (hk : kO w p v4 v27) (hz : ∀ b ∈ l3, b.f25.length * 32 ≤ 140737488351232) :
    Calls Try.prog 134 #[.agg #[.slice A0 l0.length c0, .slice A1 l1.length c1, .slice A2 l2.length c2, .slice A3 l3.length c3], .agg (cO p v4 v27)] w fun e w' => e = .returned (.bool (l3.any (budgetB l1 p))) ∧ Below w.heap.size w w' := by
  have HZ := Aside0.mk hz
  clear hz
  have HR0 := Aside0.mk hr0
  have HC0 := Aside0.mk hc0
  have HR1 := Aside0.mk hr1
  have HC1 := Aside0.mk hc1
  have HR2 := Aside0.mk hr2
  have HC2 := Aside0.mk hc2
  have HR3 := Aside0.mk hr3
  have HC3 := Aside0.mk hc3
  have HK := Aside0.mk hk
  clear hr0 hr1 hr2 hr3 hc0 hc1 hc2 hc3 hk
  have hu59 := Try.underlying59
  have hu57 := Try.underlying57
  have hu68 := Try.underlying68
  go_enter Try.func134, Try.ntmps134
  go_wp2_with ((with_reducible refine gate_dst (N := 2) rfl ?_); refine hold ?_)
  refine Hold.intro ?_
  refine box_event (N := 2) (cs := #[.slice A0 l0.length c0, .slice A1 l1.length c1, .slice A2 l2.length c2, .slice A3 l3.length c3]) (t := 59) rfl rfl ?hf ?_
  case hf => first | (go_simp; done) | (go_simp; rfl)
  intro gf hg wa hbox hb
  have HXF := Aside0.mk hbox
  have HBA := Aside0.mk hb
  clear hbox hb hg
  go_wp2_with ((with_reducible refine gate_dst (N := 3) rfl ?_); refine hold ?_)
  refine Hold.intro ?_
  refine box_event (N := 3) (cs := cO p v4 v27) (t := 68) rfl rfl ?hs ?_
  case hs => unfold cO; first | (go_simp; done) | (go_simp; rfl)
  intro gp hg wb hbox hb
  have HXP := Aside0.mk hbox
  replace HXF := Aside0.mk (blk_below HXF.out hb)
  have HW := Aside0.mk (below_step HBA.out hb)
  clear hbox hb hg HBA
  have hc3' : wb.cell? ⟨gf, 3, none⟩ = some (.slice A3 l3.length c3) := (blk_cell HXF.out 3).trans rfl
  go_wp2_with (go_at_call 135; refine hold ?_)
  refine Hold.intro ((contains_on.calls A3 c3 l3 136 #[.pointer (some ⟨gp, 0, none⟩), .pointer (some ⟨gf, 0, none⟩)] (budgetB l1 p) wb (Kd.C_below HR3.out HW.out) (checks_2_1 A0 c0 l0 A1 c1 l1 A2 c2 l2 A3 c3 l3 p v4 v27 gp gf wb (Kd.C_below HR0.out HW.out) HC0.out (Kd.C_below HR1.out HW.out) HC1.out (Kd.C_below HR2.out HW.out) HC2.out (Kd.C_below HR3.out HW.out) HC3.out (kO_below HK.out HW.out) HXP.out HXF.out HZ.out) (enters_of Try.func136 (by kernel_rfl) rfl)).mono ?_)
  rintro e w1 ⟨rfl, hb⟩
  have HB1 := Aside0.mk (below_step HW.out hb)
  clear hb hc3'
  go_wp2
  go_ret
  exact ⟨rfl, HB1.out⟩
def chkCells : Array Value := #[.int .i64 21, .func (.func 133) #[] #[], .int .i64 22, .func (.func 134) #[] #[]]
set_option maxRecDepth 100000 in
set_option maxHeartbeats 4000000 in
theorem checks.calls (w : World) : Calls Try.prog 112 #[] w fun e w' => ∃ g, e = .returned (.slice (some ⟨g, 0, none⟩) 2 2) ∧ w'.heap[g]? = some (.cells chkCells 158 (0, 0)) ∧ Below w.heap.size w w' := by
  go_enter Try.func112, Try.ntmps112
  go_wp2
  go_ret
  exact ⟨_, rfl, blk_new w _, below_alloc (Below.refl _ _) _⟩
def evictL (l0 l1 l2 l3 : List S68) (pod : ByteArray) : Option Int :=
  match findL pod l1 with
  | none => some 10
  | some p => if p.f15 = true then some 27 else if p.f14 = false then none else if slackB l1 l2 p = true then some 21 else if l3.any (budgetB l1 p) = true then some 22 else none
set_option maxRecDepth 100000 in
set_option maxHeartbeats 8000000 in
theorem evict.calls (A0 : Option Addr) (c0 : Nat) (l0 : List S68) (A1 : Option Addr) (c1 : Nat) (l1 : List S68) (A2 : Option Addr) (c2 : Nat) (l2 : List S68) (A3 : Option Addr) (c3 : Nat) (l3 : List S68) (pod : ByteArray) (w : World) (hr0 : k68.C w A0 l0.length l0) (hc0 : l0.length ≤ c0) (hr1 : k68.C w A1 l1.length l1) (hc1 : l1.length ≤ c1) (hr2 : k68.C w A2 l2.length l2) (hc2 : l2.length ≤ c2) (hr3 : k68.C w A3 l3.length l3) (hc3 : l3.length ≤ c3) (hz : ∀ b ∈ l3, b.f25.length * 32 ≤ 140737488351232) :
    Calls Try.prog 71 #[.agg #[.slice A0 l0.length c0, .slice A1 l1.length c1, .slice A2 l2.length c2, .slice A3 l3.length c3], .string pod] w fun e w' => e = .returned (errW (evictL l0 l1 l2 l3 pod)) ∧ Below w.heap.size w w' := by
  have HZ := Aside0.mk hz
  clear hz
  have HR0 := Aside0.mk hr0
  have HC0 := Aside0.mk hc0
  have HR1 := Aside0.mk hr1
  have HC1 := Aside0.mk hc1
  have HR2 := Aside0.mk hr2
  have HC2 := Aside0.mk hc2
  have HR3 := Aside0.mk hr3
  have HC3 := Aside0.mk hc3
  skip
  clear hr0 hr1 hr2 hr3 hc0 hc1 hc2 hc3
  have hu59 := Try.underlying59
  have hu57 := Try.underlying57
  have hu68 := Try.underlying68
  go_enter Try.func71, Try.ntmps71
  go_wp2_with ((with_reducible refine gate_dst (N := 2) rfl ?_); refine hold ?_)
  refine Hold.intro ?_
  refine box_event (N := 2) (cs := #[.slice A0 l0.length c0, .slice A1 l1.length c1, .slice A2 l2.length c2, .slice A3 l3.length c3]) (t := 59) rfl rfl ?hf ?_
  case hf => first | (go_simp; done) | (go_simp; rfl)
  intro gf hg wb hbox hb
  have HXF := Aside0.mk hbox
  have HW := Aside0.mk hb
  clear hbox hb hg
  have hc1' : wb.cell? ⟨gf, 1, none⟩ = some (.slice A1 l1.length c1) := (blk_cell HXF.out 1).trans rfl
  cases hf : findL pod l1 with
  | none =>
    have HS := Aside0.mk (show evictL l0 l1 l2 l3 pod = some 10 by unfold evictL; rw [hf])
    have HF := Aside0.mk hf
    clear hf
    go_wp2_with (go_at_call 103; refine hold ?_)
    refine Hold.intro ((rules_find.none_ A1 c1 l1 pod _ (Kd.C_below HR1.out HW.out) HF.out).mono ?_)
    rintro e w1 ⟨rfl, hb⟩
    have HB1 := Aside0.mk hb
    clear hb hc1'
    go_wp2_with ((with_reducible refine gate_dst (N := 5) rfl ?_); refine hold ?_)
    refine Hold.intro (alloc_obj rfl rfl (N := 5) rfl ?_)
    intro gd hg w2 hbox hb
    have HGD := Aside0.mk (show wb.heap.size ≤ gd by rw [hg]; exact HB1.out.size)
    have HXD := Aside0.mk hbox
    have HB2 := Aside0.mk (below_step HB1.out hb)
    clear hbox hb hg HB1
    go_wp2_with ((with_reducible refine gate_store (t := 68) (p := 5) rfl ?_); refine hold ?_)
    refine Hold.intro (box_store_event (t := 68) (ty := 68) (p := 5) (x := .tmp 14) (g := gd) (cs := zcObj) (cs' := zcObj) rfl rfl rfl rfl rfl size68 HXD.out rfl zc_one ?_)
    intro w3 hbox hg
    replace HXD := Aside0.mk hbox
    have HB3 := Aside0.mk (Below.grown HB2.out hg HB2.out.size (fun k e => by injection e with e; rw [← e]; exact HGD.out))
    clear hbox hg HB2
    go_wp2
    go_ret
    exact ⟨by rw [HS.out]; rfl, below_step HW.out HB3.out⟩
  | some p =>
    have HF := Aside0.mk hf
    go_wp2_with (go_at_call 103; refine hold ?_)
    refine Hold.intro ((rules_find.some_ A1 c1 l1 pod p _ (Kd.C_below HR1.out HW.out) HF.out).mono ?_)
    rintro e w1 ⟨⟨cs, rfl, hK⟩, hb⟩
    obtain ⟨z4, z27, rfl, hkd⟩ := K_kO hK
    have HB1 := Aside0.mk hb
    have HKD := Aside0.mk hkd
    rw [Array.toArray_toList]
    clear hb hc1' hK hkd HF
    go_wp2_with ((with_reducible refine gate_dst (N := 5) rfl ?_); refine hold ?_)
    refine Hold.intro (alloc_obj rfl rfl (N := 5) rfl ?_)
    intro gd hg w2 hbox hb
    have HGD := Aside0.mk (show wb.heap.size ≤ gd by rw [hg]; exact HB1.out.size)
    have HXD := Aside0.mk hbox
    have HB2 := Aside0.mk (below_step HB1.out hb)
    have HB12 := Aside0.mk hb
    have HGD1 := Aside0.mk (show w1.heap.size ≤ gd by rw [hg]; exact Nat.le_refl _)
    clear hbox hb hg HB1
    go_wp2_with ((with_reducible refine gate_store (t := 68) (p := 5) rfl ?_); refine hold ?_)
    refine Hold.intro (box_store_event (t := 68) (ty := 68) (p := 5) (x := .tmp 14) (g := gd) (cs := zcObj) (cs' := cO p z4 z27) rfl rfl rfl rfl rfl size68 HXD.out rfl (kO_one HKD.out) ?_)
    intro w3 hbox hg
    replace HXD := Aside0.mk hbox
    have HB13 := Aside0.mk (Below.grown (show Below w1.heap.size w1 w2 from HB12.out) hg HB12.out.size (fun k e => by injection e with e; rw [← e]; exact HGD1.out))
    have HB3 := Aside0.mk (Below.grown HB2.out hg HB2.out.size (fun k e => by injection e with e; rw [← e]; exact HGD.out))
    clear hbox hg HB2
    replace HKD := Aside0.mk (kO_below HKD.out (show Below w1.heap.size w1 w3 from HB13.out))
    have hcr : w3.cell? ⟨gd, 15, none⟩ = some (.bool p.f14) := (blk_cell HXD.out 15).trans rfl
    have hce : w3.cell? ⟨gd, 16, none⟩ = some (.bool p.f15) := (blk_cell HXD.out 16).trans rfl
    cases h15 : p.f15 with
    | true =>
      have HS := Aside0.mk (show evictL l0 l1 l2 l3 pod = some 27 by unfold evictL; rw [hf]; simp only [h15, if_true])
      rw [h15] at hce
      clear hf h15
      go_wp2
      go_ret
      exact ⟨by rw [HS.out]; rfl, below_step HW.out HB3.out⟩
    | false =>
      rw [h15] at hce
      cases h14 : p.f14 with
      | false =>
        have HS := Aside0.mk (show evictL l0 l1 l2 l3 pod = none by unfold evictL; rw [hf]; simp [h15, h14])
        rw [h14] at hcr
        clear hf h15 h14
        go_wp2
        go_ret
        exact ⟨by rw [HS.out]; rfl, below_step HW.out HB3.out⟩
      | true =>
        rw [h14] at hcr
        have HS := Aside0.mk (show evictL l0 l1 l2 l3 pod = if slackB l1 l2 p = true then some 21 else if l3.any (budgetB l1 p) = true then some 22 else none by unfold evictL; rw [hf]; simp [h15, h14])
        clear hf h15 h14
        go_wp2_with (go_at_call 112; refine hold ?_)
        refine Hold.intro ((checks.calls _).mono ?_)
        rintro e w4 ⟨gc, rfl, hxc, hb⟩
        have HXC := Aside0.mk hxc
        have HB4 := Aside0.mk (below_step HB3.out hb)
        replace HXD := Aside0.mk (blk_below HXD.out hb)
        replace HKD := Aside0.mk (kO_below HKD.out hb)
        clear hb hxc hcr hce HB3
        go_wp2
        go_loopw [30] (fun i wr => ∃ k : Nat, k ≤ 2 ∧ i = .int .i64 k ∧ Aside0 (1 ≤ k → slackB l1 l2 p = false) ∧ Aside0 (2 ≤ k → l3.any (budgetB l1 p) = false) ∧ Aside0 (Below w4.heap.size w4 wr)) (fun i _ => 2 - (intOf i).toNat)
        case atStart => exact ⟨0, by omega, rfl, ⟨fun h => absurd h (by omega)⟩, ⟨fun h => absurd h (by omega)⟩, ⟨Below.refl _ _⟩⟩
        case round =>
          obtain ⟨k, hk, rfl, H1, H2, HB⟩ := hrel
          by_cases hlt : k < 2
          · by_cases hk0 : k = 0
            · subst hk0
              have hq0 : wr.cell? ⟨gc, 0, none⟩ = some (.int .i64 21) := (blk_cell (blk_below HXC.out HB.out) 0).trans rfl
              have hq1 : wr.cell? ⟨gc, 1, none⟩ = some (.func (.func 133) #[] #[]) := (blk_cell (blk_below HXC.out HB.out) 1).trans rfl
              have hf0 : wr.cell? ⟨gf, 0, none⟩ = some (.slice A0 l0.length c0) := (blk_cell (blk_below HXF.out (below_step HB4.out HB.out)) 0).trans rfl
              have hf1 : wr.cell? ⟨gf, 1, none⟩ = some (.slice A1 l1.length c1) := (blk_cell (blk_below HXF.out (below_step HB4.out HB.out)) 1).trans rfl
              have hf2 : wr.cell? ⟨gf, 2, none⟩ = some (.slice A2 l2.length c2) := (blk_cell (blk_below HXF.out (below_step HB4.out HB.out)) 2).trans rfl
              have hf3 : wr.cell? ⟨gf, 3, none⟩ = some (.slice A3 l3.length c3) := (blk_cell (blk_below HXF.out (below_step HB4.out HB.out)) 3).trans rfl
              have hgc : gc < wr.heap.size := blk_lt (blk_below HXC.out HB.out)
              have hgf : gf < wr.heap.size := blk_lt (blk_below HXF.out (below_step HB4.out HB.out))
              go_wp2_with (first | ((with_reducible refine gate_load (t := 68) rfl ?_); refine load_obj rfl rfl rfl (blk_alloc (blk_below HXD.out HB.out) _) rfl ?_) | (go_at_call 133; refine hold ?_))
              refine Hold.intro ((checks_1.calls A0 c0 l0 A1 c1 l1 A2 c2 l2 A3 c3 l3 p z4 z27 _ (Kd.C_alloc (Kd.C_below HR0.out (below_step HW.out (below_step HB4.out HB.out))) _) HC0.out (Kd.C_alloc (Kd.C_below HR1.out (below_step HW.out (below_step HB4.out HB.out))) _) HC1.out (Kd.C_alloc (Kd.C_below HR2.out (below_step HW.out (below_step HB4.out HB.out))) _) HC2.out (Kd.C_alloc (Kd.C_below HR3.out (below_step HW.out (below_step HB4.out HB.out))) _) HC3.out (kO_below (kO_below HKD.out HB.out) (below_alloc (Below.refl _ _) _))).mono ?_)
              rintro e w5 ⟨rfl, hb⟩
              have hk8 : w5.cell? ⟨wr.heap.size, 0, none⟩ = some (.int .i64 21) := blk_cell (blk_below (blk_new wr _) hb) 0
              have HB5 := Aside0.mk (below_then (below_alloc HB.out _) (by have := HB.out.size; simp; omega) hb)
              clear hb hq0 hq1 hf0 hf1 hf2 hf3 hgc hgf HB
              cases hsl : slackB l1 l2 p with
              | true =>
                have HS2 := Aside0.mk (show evictL l0 l1 l2 l3 pod = some 21 by rw [HS.out, hsl]; rfl)
                clear hsl
                go_wp2
                go_ret
                exact ⟨by rw [HS2.out]; rfl, below_step HW.out (below_step HB4.out HB5.out)⟩
              | false =>
                have HS2 := Aside0.mk hsl
                clear hsl hk8
                go_wp2
                go_roundw
                case rel => exact ⟨1, by omega, by simp, ⟨fun _ => HS2.out⟩, ⟨fun h => absurd h (by omega)⟩, HB5⟩
                case measure => simp [intOf]
            · obtain rfl : k = 1 := by omega
              have hq0 : wr.cell? ⟨gc, 2, none⟩ = some (.int .i64 22) := (blk_cell (blk_below HXC.out HB.out) 2).trans rfl
              have hq1 : wr.cell? ⟨gc, 3, none⟩ = some (.func (.func 134) #[] #[]) := (blk_cell (blk_below HXC.out HB.out) 3).trans rfl
              have hf0 : wr.cell? ⟨gf, 0, none⟩ = some (.slice A0 l0.length c0) := (blk_cell (blk_below HXF.out (below_step HB4.out HB.out)) 0).trans rfl
              have hf1 : wr.cell? ⟨gf, 1, none⟩ = some (.slice A1 l1.length c1) := (blk_cell (blk_below HXF.out (below_step HB4.out HB.out)) 1).trans rfl
              have hf2 : wr.cell? ⟨gf, 2, none⟩ = some (.slice A2 l2.length c2) := (blk_cell (blk_below HXF.out (below_step HB4.out HB.out)) 2).trans rfl
              have hf3 : wr.cell? ⟨gf, 3, none⟩ = some (.slice A3 l3.length c3) := (blk_cell (blk_below HXF.out (below_step HB4.out HB.out)) 3).trans rfl
              have hgc : gc < wr.heap.size := blk_lt (blk_below HXC.out HB.out)
              have hgf : gf < wr.heap.size := blk_lt (blk_below HXF.out (below_step HB4.out HB.out))
              go_wp2_with (first | ((with_reducible refine gate_load (t := 68) rfl ?_); refine load_obj rfl rfl rfl (blk_alloc (blk_below HXD.out HB.out) _) rfl ?_) | (go_at_call 134; refine hold ?_))
              refine Hold.intro ((checks_2.calls A0 c0 l0 A1 c1 l1 A2 c2 l2 A3 c3 l3 p z4 z27 _ (Kd.C_alloc (Kd.C_below HR0.out (below_step HW.out (below_step HB4.out HB.out))) _) HC0.out (Kd.C_alloc (Kd.C_below HR1.out (below_step HW.out (below_step HB4.out HB.out))) _) HC1.out (Kd.C_alloc (Kd.C_below HR2.out (below_step HW.out (below_step HB4.out HB.out))) _) HC2.out (Kd.C_alloc (Kd.C_below HR3.out (below_step HW.out (below_step HB4.out HB.out))) _) HC3.out (kO_below (kO_below HKD.out HB.out) (below_alloc (Below.refl _ _) _)) HZ.out).mono ?_)
              rintro e w5 ⟨rfl, hb⟩
              have hk8 : w5.cell? ⟨wr.heap.size, 0, none⟩ = some (.int .i64 22) := blk_cell (blk_below (blk_new wr _) hb) 0
              have HB5 := Aside0.mk (below_then (below_alloc HB.out _) (by have := HB.out.size; simp; omega) hb)
              clear hb hq0 hq1 hf0 hf1 hf2 hf3 hgc hgf HB
              cases hsl : l3.any (budgetB l1 p) with
              | true =>
                have HS2 := Aside0.mk (show evictL l0 l1 l2 l3 pod = some 22 by rw [HS.out, H1.out (by omega), hsl]; rfl)
                clear hsl
                go_wp2
                go_ret
                exact ⟨by rw [HS2.out]; rfl, below_step HW.out (below_step HB4.out HB5.out)⟩
              | false =>
                have HS2 := Aside0.mk hsl
                clear hsl hk8
                go_wp2
                go_roundw
                case rel => exact ⟨2, by omega, by simp, ⟨fun _ => H1.out (by omega)⟩, ⟨fun _ => HS2.out⟩, HB5⟩
                case measure => simp [intOf]
          · obtain rfl : k = 2 := by omega
            have HS2 := Aside0.mk (show evictL l0 l1 l2 l3 pod = none by rw [HS.out, H1.out (by omega), H2.out (by omega)]; rfl)
            go_wp2
            go_ret
            exact ⟨by rw [HS2.out]; rfl, below_step HW.out (below_step HB4.out HB.out)⟩
end Go.Proofs.Ytamjjeakkkdfhaa.G
end
section
namespace Go.Proofs.Ytamjjeakkkdfhaa.G
open Go.RowKit Go.Proofs.YtamjjeakkkdfhaaW.PrintWords Go.Proofs.YtamjjeakkkdfhaaW.PrintLast Go.Proofs.YtamjjeakkkdfhaaW.PrintMore
open Go.Proofs.Ytamjjeakkkdfhaa.K Go.Proofs.YtamjjeakkkdfhaaE
set_option linter.unusedVariables false
def ended (x : S68) : S68 := { x with f15 := true, f14 := false }
theorem sound_evict {l0 l1 : List S68} {i : Nat} (hi : i < l1.length) (hs : soundL l0 l1 = none) : soundL l0 (l1.set i (ended l1[i])) = none := by
  obtain ⟨h0, h1, h2, h3⟩ := (soundL_none l0 l1).1 hs
  refine (soundL_none _ _).2 ⟨h0, by rw [namesL_set l1 i hi (ended l1[i]) rfl]; exact h1, ?_, ?_⟩
  · intro x hxm
    rcases List.mem_or_eq_of_mem_set hxm with hm | rfl
    · exact h2 x hm
    · have hw := h2 l1[i] (List.getElem_mem hi)
      show wrongL l0 (ended l1[i]) = 0
      unfold wrongL at hw ⊢
      show (if (false && (true || decide (l1[i].f13 ≠ 1))) || (decide (l1[i].f13 = 1) && decide (l1[i].f12.toList = ([] : List UInt8))) then (14 : Int) else if l1[i].f12.toList = ([] : List UInt8) then 0 else match findL l1[i].f12 l0 with | none => 28 | some n => if false && n.f8 then 25 else 0) = 0
      by_cases hA : (decide (l1[i].f13 = 1) && decide (l1[i].f12.toList = ([] : List UInt8))) = true
      · rw [hA, Bool.or_true, if_pos rfl] at hw; cases hw
      · have hA' := Bool.eq_false_iff.mpr hA
        rw [hA'] at hw ⊢
        simp only [Bool.false_and, Bool.or_false] at hw ⊢
        rw [if_neg (by simp)]
        by_cases hn : l1[i].f12.toList = ([] : List UInt8)
        · rw [if_pos hn]
        · rw [if_neg hn]
          cases hf : findL l1[i].f12 l0 with
          | none =>
            rw [if_neg hn, hf] at hw
            split at hw <;> cases hw
          | some n => simp
  · intro x hxm
    have hf := h3 x hxm
    rw [used_sum] at hf ⊢
    have s0 := usedSum_set x.f1 (fun x => x.f16.f0) (ended l1[i]) l1 i hi
    have s1 := usedSum_set x.f1 (fun x => x.f16.f1) (ended l1[i]) l1 i hi
    have e0 : partI x.f1 (fun x => x.f16.f0) (ended l1[i]) = partI x.f1 (fun x => x.f16.f0) l1[i] := rfl
    have e1 : partI x.f1 (fun x => x.f16.f1) (ended l1[i]) = partI x.f1 (fun x => x.f16.f1) l1[i] := rfl
    rw [show usedSum (l1.set i (ended l1[i])) x.f1 (fun x => x.f16.f0) = usedSum l1 x.f1 (fun x => x.f16.f0) by omega, show usedSum (l1.set i (ended l1[i])) x.f1 (fun x => x.f16.f1) = usedSum l1 x.f1 (fun x => x.f16.f1) by omega]
    exact hf
theorem count_set (p : S68 → Bool) (y : S68) : ∀ (l : List S68) (i : Nat) (h : i < l.length), countL p (l.set i y) + (if p l[i] = true then 1 else 0) = countL p l + (if p y = true then 1 else 0)
  | x :: l, 0, h => by
    simp only [List.set_cons_zero, List.getElem_cons_zero, countL, List.filter_cons]
    by_cases h1 : p y = true <;> by_cases h2 : p x = true <;> simp [h1, h2]
  | x :: l, i + 1, h => by
    have := count_set p y l i (by simpa using h)
    simp only [List.set_cons_succ, List.getElem_cons_succ, countL, List.filter_cons] at this ⊢
    by_cases h2 : p x = true <;> simp [h2] <;> omega
theorem ready_ended (d : ByteArray) (x : S68) : isReady d (ended x) = false := by simp [isReady, ended]
theorem guard_ended (sel : List S31) (x : S68) : isGuard sel (ended x) = false := by simp [isGuard, ended]
theorem evict_none {l0 l1 l2 l3 : List S68} {pod : ByteArray} (h : evictL l0 l1 l2 l3 pod = none) : ∃ p, findL pod l1 = some p ∧ p.f15 = false ∧ (p.f14 = true → slackB l1 l2 p = false ∧ l3.any (budgetB l1 p) = false) := by
  unfold evictL at h
  cases hf : findL pod l1 with
  | none => rw [hf] at h; cases h
  | some p =>
    rw [hf] at h
    refine ⟨p, rfl, ?_, ?_⟩
    · cases h15 : p.f15 with
      | false => rfl
      | true => simp [h15] at h
    · intro h14
      cases h15 : p.f15 with
      | true => simp [h15] at h
      | false =>
        simp only [h15, h14] at h
        cases hs : slackB l1 l2 p with
        | true => simp [hs] at h
        | false =>
          cases hb : l3.any (budgetB l1 p) with
          | true => simp [hs, hb] at h
          | false => exact ⟨rfl, rfl⟩
theorem evict_some {l0 l1 l2 l3 : List S68} {pod : ByteArray} {c : Int} (h : evictL l0 l1 l2 l3 pod = some c) : findL pod l1 = none ∨ ∃ p, findL pod l1 = some p ∧ (p.f15 = true ∨ p.f14 = true) := by
  unfold evictL at h
  cases hf : findL pod l1 with
  | none => exact .inl rfl
  | some p =>
    rw [hf] at h
    refine .inr ⟨p, rfl, ?_⟩
    cases h15 : p.f15 with
    | true => exact .inl rfl
    | false =>
      cases h14 : p.f14 with
      | true => exact .inr rfl
      | false => simp [h15, h14] at h
theorem ready_same {l1 : List S68} {i : Nat} (hi : i < l1.length) (h14 : l1[i].f14 = false) (d : ByteArray) : countL (isReady d) (l1.set i (ended l1[i])) = countL (isReady d) l1 := by
  have := count_set (isReady d) (ended l1[i]) l1 i hi
  rw [ready_ended, show isReady d l1[i] = false by unfold isReady; rw [h14]; simp] at this
  simpa using this
theorem ready_less {l1 : List S68} {i : Nat} (hi : i < l1.length) (h14 : l1[i].f14 = true) (h15 : l1[i].f15 = false) : countL (isReady l1[i].f10) (l1.set i (ended l1[i])) + 1 = countL (isReady l1[i].f10) l1 := by
  have := count_set (isReady l1[i].f10) (ended l1[i]) l1 i hi
  rw [ready_ended, show isReady l1[i].f10 l1[i] = true by unfold isReady; rw [h14, h15]; simp] at this
  simpa using this
theorem guard_less {l1 : List S68} {i : Nat} (hi : i < l1.length) (h14 : l1[i].f14 = true) (h15 : l1[i].f15 = false) {sel : List S31} (hm : matchL sel l1[i].f4 = true) : countL (isGuard sel) (l1.set i (ended l1[i])) + 1 = countL (isGuard sel) l1 := by
  have := count_set (isGuard sel) (ended l1[i]) l1 i hi
  rw [guard_ended, show isGuard sel l1[i] = true by unfold isGuard; rw [h14, h15, hm]; rfl] at this
  simpa using this
end Go.Proofs.Ytamjjeakkkdfhaa.G
end
section
namespace Go.Proofs.Ytamjjeakkkdfhaa.G
open Go.RowKit Go.Proofs.YtamjjeakkkdfhaaW.PrintWords Go.Proofs.YtamjjeakkkdfhaaW.PrintLast Go.Proofs.YtamjjeakkkdfhaaW.PrintMore
open Go.Proofs.Ytamjjeakkkdfhaa.K Go.Proofs.YtamjjeakkkdfhaaE Go.Proofs.Ytamjjeakkkdfhaa.PB Go.Proofs.Ytamjjeakkkdfhaa.PC
set_option linter.unusedVariables false
set_option linter.unusedSimpArgs false
def exLab : S31 := ⟨(⟨#[97, 112, 112]⟩ : ByteArray), (⟨#[119, 101, 98]⟩ : ByteArray)⟩
def exPod (nm nd : ByteArray) (ph : Int) (rd : Bool) : S68 := { z68 with f0 := 1, f1 := nm, f4 := [exLab], f10 := (⟨#[119, 101, 98]⟩ : ByteArray), f11 := (⟨#[119, 101, 98, 45, 97]⟩ : ByteArray), f12 := nd, f13 := ph, f14 := rd, f16 := ⟨400, 16⟩ }
def exNode : S68 := { z68 with f0 := 0, f1 := (⟨#[110, 49]⟩ : ByteArray), f5 := ⟨1000, 64⟩ }
def exDeploy : S68 := { z68 with f0 := 2, f1 := (⟨#[119, 101, 98]⟩ : ByteArray), f20 := 2, f21 := 1, f22 := 1 }
def exPods : List S68 := [exPod (⟨#[112, 48]⟩ : ByteArray) (⟨#[110, 49]⟩ : ByteArray) 1 true, exPod (⟨#[112, 49]⟩ : ByteArray) (⟨#[110, 49]⟩ : ByteArray) 1 true, exPod (⟨#[112, 50]⟩ : ByteArray) (⟨#[]⟩ : ByteArray) 0 false]
theorem lit_R {α : Type} (d : Kd α) (e : Nat) (W : World) (base : Nat) (ok : Nat → Prop) (x : α) (cs : List Value) (hM : ∀ (w : World) (ok : Nat → Prop), d.M w base ok x cs) (hb : base ≤ W.heap.size) (hok : ok W.heap.size) : d.R e (W.alloc (.cells cs.toArray e)) base ok (.slice (some ⟨W.heap.size, 0, none⟩) 1 1) [x] :=
  ⟨fun k hk => by simp [Value.ownBlock] at hk; subst hk; exact hok, OwnRow.lit W base (Reps.snoc (Reps.none _ _) (hM _ _) (d.K_len (d.K_of_M (hM W ok)))) hb (by simp)⟩
theorem gen_wp {prog : Program} {c : Code} {Q : Exit → Act → World → Prop} {a : Act} {W : World} (F : World → Prop) (hF : F W) (h : ∀ W', F W' → Code.wp prog c Q a W') : Code.wp prog c Q a W := h W hF
theorem gen_list {prog : Program} {ops : Array Oper} {rest : List Oper} {Q : Exit → Act → World → Prop} {a : Act} {W : World} (F : World → Prop) (hF : F W) (h : ∀ W', F W' → wpList prog ops Q rest a W') : wpList prog ops Q rest a W := h W hF
set_option maxRecDepth 100000 in
set_option maxHeartbeats 8000000 in
theorem law16_example.calls (w : World) :
    Calls Try.prog 99 #[] w fun e w' => ∃ (Ap : Option Addr) (cp gn gd : Nat), e = .returned (.agg #[.slice (some ⟨gn, 0, none⟩) 1 1, .slice Ap 3 cp, .slice (some ⟨gd, 0, none⟩) 1 1, .slice none 0 0]) ∧ 3 ≤ cp ∧ k68.C w' (some ⟨gn, 0, none⟩) 1 [exNode] ∧ k68.C w' Ap 3 exPods ∧ k68.C w' (some ⟨gd, 0, none⟩) 1 [exDeploy] ∧ Below w.heap.size w w' := by
  have hu59 := Try.underlying59
  have hu57 := Try.underlying57
  go_enter Try.func99, Try.ntmps99
  go_wp2_with ((with_reducible refine gate_dst (N := 3) rfl ?_); refine hold ?_)
  refine Hold.intro ?_
  refine gen_list (fun W => W.heap.size = w.heap.size + 3 ∧ W.heap[w.heap.size]? = some (.cells #[.slice none 0 0, .slice none 0 0, .slice none 0 0, .slice none 0 0] 59 (0, 0)) ∧ k31.R 31 W w.heap.size (fun k_ => k_ = w.heap.size + 1) (.slice (some ⟨w.heap.size + 1, 0, none⟩) 1 1) [exLab] ∧ Below w.heap.size w W) ⟨by simp [World.size_alloc], blk_alloc (blk_alloc (blk_new w _) _) _, ?_, below_alloc (below_alloc (below_alloc (Below.refl _ _) _) _) _⟩ ?_
  · refine Kd.R_below ?_ (below_alloc (Below.refl _ _) _)
    have h := lit_R k31 31 (w.alloc (.cells #[.slice none 0 0, .slice none 0 0, .slice none 0 0, .slice none 0 0] 59)) w.heap.size (fun k_ => k_ = w.heap.size + 1) exLab [.string exLab.f0, .string exLab.f1] (fun W ok => k31_mkM W _ ok exLab) (by simp [World.size_alloc]) (by simp [World.size_alloc])
    rw [World.size_alloc] at h
    exact h
  rintro w1 ⟨hs1, hF1, hL1, hB1⟩
  refine alloc_obj rfl rfl rfl ?_
  intro g3 hg3 w2 hbox hb
  have HB2 := Aside0.mk (below_step hB1 hb)
  have HF2 := Aside0.mk (blk_below hF1 hb)
  have HL2 := Aside0.mk (Kd.R_below hL1 hb)
  have HP2 := Aside0.mk hbox
  have HG3 := Aside0.mk (show g3 = w.heap.size + 3 by rw [hg3, hs1])
  have HS2 := Aside0.mk hb.size
  clear hbox hb hF1 hL1 hB1 hs1 hg3
  go_wp2_with ((with_reducible refine gate_store (t := 68) (p := 3) rfl ?_); refine hold ?_)
  refine Hold.intro (box_store_event (t := 68) (ty := 68) (p := 3) (x := .tmp 11) (g := g3) (cs := zcObj) (cs' := #[.int .i64 1, .string (⟨#[]⟩ : ByteArray), .int .i64 0, .int .i64 0, .slice (some ⟨(w.heap.size + 1), 0, none⟩) 1 1, .int .i64 0, .int .i64 0, .bool false, .bool false, .bool false, .int .i64 0, .string (⟨#[119, 101, 98]⟩ : ByteArray), .string (⟨#[119, 101, 98, 45, 97]⟩ : ByteArray), .string (⟨#[110, 49]⟩ : ByteArray), .int .i64 1, .bool true, .bool false, .int .i64 400, .int .i64 16, .string (⟨#[]⟩ : ByteArray), .int .i64 0, .int .i64 0, .int .i64 0, .int .i64 0, .int .i64 0, .bool false, .int .u64 0, .slice none 0 0, .int .i64 0, .string (⟨#[]⟩ : ByteArray), .int .i64 0, .int .i64 0]) rfl rfl rfl rfl rfl size68 HP2.out rfl rfl ?_)
  intro w3 hbox3 hg
  have HB3 := Aside0.mk (Below.grown HB2.out hg HB2.out.size (fun k_ e_ => by injection e_ with e_; subst e_; have := HG3.out; omega))
  have HF3 := Aside0.mk (blk_grown HF2.out hg (fun e_ => by have := HG3.out; injection e_ with e_; omega))
  have HL3 := Aside0.mk (Kd.R_grown HL2.out hg (fun k_ hk_ e_ => by have := HG3.out; injection e_ with e_; omega))
  have HP3 := Aside0.mk hbox3
  have HG4 := Aside0.mk (show g3 < w3.heap.size from blk_lt hbox3)
  clear hbox3 hg HB2 HF2 HL2 HP2 HS2
  go_wp2_with ((with_reducible refine gate_dst (N := 4) rfl ?_); refine hold ?_)
  refine Hold.intro ?_
  obtain ⟨gn, hgn⟩ : ∃ gn, gn = w3.heap.size := ⟨_, rfl⟩
  obtain ⟨gd, hgd⟩ : ∃ gd, gd = w3.heap.size + 1 := ⟨_, rfl⟩
  rw [← hgd, ← hgn]
  refine gen_list (fun W => W.heap.size = w3.heap.size + 2 ∧ k68.R 68 W w.heap.size (fun k_ => k_ = gn) (.slice (some ⟨gn, 0, none⟩) 1 1) [exNode] ∧ k68.R 68 W w.heap.size (fun k_ => k_ = gd) (.slice (some ⟨gd, 0, none⟩) 1 1) [exDeploy] ∧ Below w3.heap.size w3 W) ⟨by simp [World.size_alloc], ?_, ?_, below_alloc (below_alloc (Below.refl _ _) _) _⟩ ?_
  · refine Kd.R_below ?_ (below_alloc (Below.refl _ _) _)
    rw [hgn]
    exact lit_R k68 68 w3 w.heap.size _ exNode [.int .i64 0, .string (⟨#[110, 49]⟩ : ByteArray), .int .i64 0, .int .i64 0, .slice none 0 0, .int .i64 1000, .int .i64 64, .bool false, .bool false, .bool false, .int .i64 0, .string (⟨#[]⟩ : ByteArray), .string (⟨#[]⟩ : ByteArray), .string (⟨#[]⟩ : ByteArray), .int .i64 0, .bool false, .bool false, .int .i64 0, .int .i64 0, .string (⟨#[]⟩ : ByteArray), .int .i64 0, .int .i64 0, .int .i64 0, .int .i64 0, .int .i64 0, .bool false, .int .u64 0, .slice none 0 0, .int .i64 0, .string (⟨#[]⟩ : ByteArray), .int .i64 0, .int .i64 0] (fun W ok => k68_mkM W _ ok exNode (Kd.R_nil _ _ _ _ _) (Kd.R_nil _ _ _ _ _)) HB3.out.size rfl
  · have h := lit_R k68 68 (w3.alloc (.cells #[.int .i64 0, .string (⟨#[110, 49]⟩ : ByteArray), .int .i64 0, .int .i64 0, .slice none 0 0, .int .i64 1000, .int .i64 64, .bool false, .bool false, .bool false, .int .i64 0, .string (⟨#[]⟩ : ByteArray), .string (⟨#[]⟩ : ByteArray), .string (⟨#[]⟩ : ByteArray), .int .i64 0, .bool false, .bool false, .int .i64 0, .int .i64 0, .string (⟨#[]⟩ : ByteArray), .int .i64 0, .int .i64 0, .int .i64 0, .int .i64 0, .int .i64 0, .bool false, .int .u64 0, .slice none 0 0, .int .i64 0, .string (⟨#[]⟩ : ByteArray), .int .i64 0, .int .i64 0] 68)) w.heap.size (fun k_ => k_ = gd) exDeploy [.int .i64 2, .string (⟨#[119, 101, 98]⟩ : ByteArray), .int .i64 0, .int .i64 0, .slice none 0 0, .int .i64 0, .int .i64 0, .bool false, .bool false, .bool false, .int .i64 0, .string (⟨#[]⟩ : ByteArray), .string (⟨#[]⟩ : ByteArray), .string (⟨#[]⟩ : ByteArray), .int .i64 0, .bool false, .bool false, .int .i64 0, .int .i64 0, .string (⟨#[]⟩ : ByteArray), .int .i64 0, .int .i64 0, .int .i64 2, .int .i64 1, .int .i64 1, .bool false, .int .u64 0, .slice none 0 0, .int .i64 0, .string (⟨#[]⟩ : ByteArray), .int .i64 0, .int .i64 0] (fun W ok => k68_mkM W _ ok exDeploy (Kd.R_nil _ _ _ _ _) (Kd.R_nil _ _ _ _ _)) (by rw [World.size_alloc]; have := HB3.out.size; omega) (by rw [World.size_alloc, hgd])
    rw [World.size_alloc, ← hgd] at h
    exact h
  rintro w4 ⟨hs4, hN4, hD4, hb⟩
  refine box_event (N := 4) (t := 59) (cs := #[.slice none 0 0, .slice none 0 0, .slice none 0 0, .slice none 0 0]) rfl rfl ?hr ?_
  case hr => first | (go_simp; done) | (go_simp; rfl)
  intro gf hgf w5 hbox hb5
  have HB5 := Aside0.mk (below_step (below_step HB3.out hb) hb5)
  have HF5 := Aside0.mk (blk_below (blk_below HF3.out hb) hb5)
  have HL5 := Aside0.mk (Kd.R_below (Kd.R_below HL3.out hb) hb5)
  have HP5 := Aside0.mk (blk_below (blk_below HP3.out hb) hb5)
  have HN5 := Aside0.mk (Kd.R_below hN4 hb5)
  have HD5 := Aside0.mk (Kd.R_below hD4 hb5)
  have HX5 := Aside0.mk hbox
  have HGG := Aside0.mk (show g3 = w.heap.size + 3 ∧ g3 < gn ∧ gd = gn + 1 ∧ gf = gn + 2 from ⟨HG3.out, by rw [hgn]; exact HG4.out, by omega, by omega⟩)
  clear hbox hb5 hb hs4 hN4 hD4 hgf hgn hgd HB3 HF3 HL3 HP3 HG3 HG4
  go_wp2_with ((with_reducible refine gate_store (t := 59) (p := 4) rfl ?_); refine hold ?_)
  refine Hold.intro (box_store_event (t := 59) (ty := 59) (p := 4) (x := .tmp 17) (g := gf) (cs := #[.slice none 0 0, .slice none 0 0, .slice none 0 0, .slice none 0 0]) (cs' := #[.slice (some ⟨gn, 0, none⟩) 1 1, .slice none 0 0, .slice (some ⟨gd, 0, none⟩) 1 1, .slice none 0 0]) rfl rfl rfl rfl rfl size59 HX5.out rfl rfl ?_)
  intro w6 hbox6 hg
  obtain ⟨e1_, e2_, e3_, e4_⟩ := HGG.out
  have HB6 := Aside0.mk (Below.grown HB5.out hg HB5.out.size (fun k_ e_ => by injection e_ with e_; omega))
  have HF6 := Aside0.mk (blk_grown HF5.out hg (fun e_ => by injection e_ with e_; omega))
  have HP6 := Aside0.mk (blk_grown HP5.out hg (fun e_ => by injection e_ with e_; omega))
  have HL6 := Aside0.mk (Kd.R_grown HL5.out hg (fun k_ hk_ e_ => by injection e_ with e_; omega))
  have HN6 := Aside0.mk (Kd.R_grown HN5.out hg (fun k_ hk_ e_ => by injection e_ with e_; omega))
  have HD6 := Aside0.mk (Kd.R_grown HD5.out hg (fun k_ hk_ e_ => by injection e_ with e_; omega))
  have HX6 := Aside0.mk hbox6
  clear hbox6 hg e1_ e2_ e3_ e4_ HB5 HF5 HP5 HL5 HN5 HD5 HX5
  go_wp2
  go_loopw [5] (fun i wr => ∃ (k : Int) (nm nd : ByteArray) (ph : Int) (rd : Bool) (A : Option Addr) (c : Nat), (k = 0 ∨ k = 1 ∨ k = 2 ∨ k = 3) ∧ i = .int .i64 k ∧ Aside0 (k < 3 → nd = (⟨#[110, 49]⟩ : ByteArray) ∧ ph = 1 ∧ rd = true) ∧ Aside0 (k.toNat ≤ c) ∧ Aside0 (wr.heap[g3]? = some (.cells #[.int .i64 1, .string nm, .int .i64 0, .int .i64 0, .slice (some ⟨(w.heap.size + 1), 0, none⟩) 1 1, .int .i64 0, .int .i64 0, .bool false, .bool false, .bool false, .int .i64 0, .string (⟨#[119, 101, 98]⟩ : ByteArray), .string (⟨#[119, 101, 98, 45, 97]⟩ : ByteArray), .string nd, .int .i64 ph, .bool rd, .bool false, .int .i64 400, .int .i64 16, .string (⟨#[]⟩ : ByteArray), .int .i64 0, .int .i64 0, .int .i64 0, .int .i64 0, .int .i64 0, .bool false, .int .u64 0, .slice none 0 0, .int .i64 0, .string (⟨#[]⟩ : ByteArray), .int .i64 0, .int .i64 0] 68 (0, 0))) ∧ Aside0 (wr.heap[gf]? = some (.cells #[.slice (some ⟨gn, 0, none⟩) 1 1, .slice A k.toNat c, .slice (some ⟨gd, 0, none⟩) 1 1, .slice none 0 0] 59 (0, 0))) ∧ Aside0 (k31.R 31 wr w.heap.size (fun k_ => k_ = w.heap.size + 1) (.slice (some ⟨w.heap.size + 1, 0, none⟩) 1 1) [exLab]) ∧ Aside0 (k68.R 68 wr w.heap.size (fun k_ => k_ = gn) (.slice (some ⟨gn, 0, none⟩) 1 1) [exNode]) ∧ Aside0 (k68.R 68 wr w.heap.size (fun k_ => k_ = gd) (.slice (some ⟨gd, 0, none⟩) 1 1) [exDeploy]) ∧ Aside0 (k68.R 68 wr w.heap.size (fun k_ => k_ ≠ g3 ∧ k_ ≠ gf ∧ k_ ≠ gn ∧ k_ ≠ gd ∧ k_ ≠ w.heap.size) (.slice A k.toNat c) (exPods.take k.toNat)) ∧ Aside0 (wr.heap[w.heap.size]? = some (.cells #[.slice none 0 0, .slice none 0 0, .slice none 0 0, .slice none 0 0] 59 (0, 0))) ∧ Aside0 (Below w.heap.size w wr)) (fun i _ => 3 - (intOf i).toNat)
  case atStart => exact ⟨0, (⟨#[]⟩ : ByteArray), (⟨#[110, 49]⟩ : ByteArray), 1, true, none, 0, .inl rfl, rfl, ⟨fun _ => ⟨rfl, rfl, rfl⟩⟩, ⟨Nat.le_refl _⟩, HP6, HX6, HL6, HN6, HD6, ⟨Kd.R_nil _ _ _ _ _⟩, HF6, HB6⟩
  case round =>
    obtain ⟨k, nm, nd, ph, rd, A, c, hk, rfl, HK, HCC, HP, HX, HL, HN, HD, HS, HF, HB⟩ := hrel
    have hne1 : g3 ≠ gf := by have := HGG.out; omega
    have hne2 : gf ≠ g3 := fun e => hne1 e.symm
    have hx1 : wr.cell? ⟨gf, 1, none⟩ = some (.slice A k.toNat c) := (blk_cell HX.out 1).trans rfl
    have hp1 : wr.cell? ⟨g3, 1, none⟩ = some (.string nm) := (blk_cell HP.out 1).trans rfl
    have hp13 : wr.cell? ⟨g3, 13, none⟩ = some (.string nd) := (blk_cell HP.out 13).trans rfl
    have hp14 : wr.cell? ⟨g3, 14, none⟩ = some (.int .i64 ph) := (blk_cell HP.out 14).trans rfl
    have hp15 : wr.cell? ⟨g3, 15, none⟩ = some (.bool rd) := (blk_cell HP.out 15).trans rfl
    have hlt3 : g3 < wr.heap.size := blk_lt HP.out
    have hltf : gf < wr.heap.size := blk_lt HX.out
    have hfp1 := blk_frozen HP.out 1
    have hfp13 := blk_frozen HP.out 13
    have hfp14 := blk_frozen HP.out 14
    have hfp15 := blk_frozen HP.out 15
    rcases hk with rfl | rfl | rfl | rfl
    · obtain ⟨rfl, rfl, rfl⟩ := HK.out (by decide)
      clear HK
      have hcv : (convert 122 9 (.slice (some ⟨wr.heap.size, 0, none⟩) 2 2)).run Try.prog (wr.alloc (.cells #[.int .u8 112, .int .u8 48] 5)) = .ok (.string (⟨#[112, 48]⟩ : ByteArray)) (wr.alloc (.cells #[.int .u8 112, .int .u8 48] 5)) := own_string (P := Try.prog) Try.underlying122 Try.underlying5 Try.underlying9 (own_lit wr 0 5 .u8 [112, 48] (Nat.zero_le _) (by decide))
      go_upto_region 13 with (fail)
      obtain ⟨e1_, e2_, e3_, e4_⟩ := HGG.out
      have hB3 : w.heap.size ≤ g3 := by omega
      refine gen_wp (fun W => Aside0 (W.heap[g3]? = some (.cells #[.int .i64 1, .string (⟨#[112, 48]⟩ : ByteArray), .int .i64 0, .int .i64 0, .slice (some ⟨(w.heap.size + 1), 0, none⟩) 1 1, .int .i64 0, .int .i64 0, .bool false, .bool false, .bool false, .int .i64 0, .string (⟨#[119, 101, 98]⟩ : ByteArray), .string (⟨#[119, 101, 98, 45, 97]⟩ : ByteArray), .string (⟨#[110, 49]⟩ : ByteArray), .int .i64 1, .bool true, .bool false, .int .i64 400, .int .i64 16, .string (⟨#[]⟩ : ByteArray), .int .i64 0, .int .i64 0, .int .i64 0, .int .i64 0, .int .i64 0, .bool false, .int .u64 0, .slice none 0 0, .int .i64 0, .string (⟨#[]⟩ : ByteArray), .int .i64 0, .int .i64 0] 68 (0, 0))) ∧ Aside0 (W.heap[gf]? = some (.cells #[.slice (some ⟨gn, 0, none⟩) 1 1, .slice A 0 c, .slice (some ⟨gd, 0, none⟩) 1 1, .slice none 0 0] 59 (0, 0))) ∧ Aside0 (k31.R 31 W w.heap.size (fun k_ => k_ = w.heap.size + 1) (.slice (some ⟨w.heap.size + 1, 0, none⟩) 1 1) [exLab]) ∧ Aside0 (k68.R 68 W w.heap.size (fun k_ => k_ = gn) (.slice (some ⟨gn, 0, none⟩) 1 1) [exNode]) ∧ Aside0 (k68.R 68 W w.heap.size (fun k_ => k_ = gd) (.slice (some ⟨gd, 0, none⟩) 1 1) [exDeploy]) ∧ Aside0 (k68.R 68 W w.heap.size (fun k_ => k_ ≠ g3 ∧ k_ ≠ gf ∧ k_ ≠ gn ∧ k_ ≠ gd ∧ k_ ≠ w.heap.size) (.slice A 0 c) (exPods.take 0)) ∧ Aside0 (W.heap[w.heap.size]? = some (.cells #[.slice none 0 0, .slice none 0 0, .slice none 0 0, .slice none 0 0] 59 (0, 0))) ∧ Aside0 (Below w.heap.size w W)) ⟨⟨(blk_alloc (blk_set HP.out 1 _) _)⟩, ⟨(blk_alloc ((Below.heap_setCell _ ⟨g3, 1, none⟩ _ _ hne2).trans HX.out) _)⟩, ⟨(Kd.R_below (Kd.R_far HL.out (p := ⟨g3, 1, none⟩) (fun k_ hk_ => by show k_ ≠ g3; omega) _) (below_alloc (Below.refl _ _) _))⟩, ⟨(Kd.R_below (Kd.R_far HN.out (p := ⟨g3, 1, none⟩) (fun k_ hk_ => by show k_ ≠ g3; omega) _) (below_alloc (Below.refl _ _) _))⟩, ⟨(Kd.R_below (Kd.R_far HD.out (p := ⟨g3, 1, none⟩) (fun k_ hk_ => by show k_ ≠ g3; omega) _) (below_alloc (Below.refl _ _) _))⟩, ⟨(Kd.R_below (Kd.R_far HS.out (p := ⟨g3, 1, none⟩) (fun k_ hk_ => hk_.1) _) (below_alloc (Below.refl _ _) _))⟩, ⟨(blk_alloc ((Below.heap_setCell _ ⟨g3, 1, none⟩ _ _ (by show w.heap.size ≠ g3; omega)).trans HF.out) _)⟩, ⟨(below_alloc (below_set HB.out hB3) _)⟩⟩ ?_
      clear e1_ e2_ e3_ e4_ HP HX HL HN HD HS HF HB hcv hx1 hp1 hp13 hp14 hp15 hfp1 hfp13 hfp14 hfp15 hlt3 hltf
      rintro W ⟨HP, HX, HL, HN, HD, HS, HF, HB⟩
      have hx1 : W.cell? ⟨gf, 1, none⟩ = some (.slice A 0 c) := (blk_cell HX.out 1).trans rfl
      have hlt3 : g3 < W.heap.size := blk_lt HP.out
      have hltf : gf < W.heap.size := blk_lt HX.out
      have HC := Aside0.mk (fun (j : Nat) (v : Value) (h : ([.int .i64 1, .string (⟨#[112, 48]⟩ : ByteArray), .int .i64 0, .int .i64 0, .slice (some ⟨(w.heap.size + 1), 0, none⟩) 1 1, .int .i64 0, .int .i64 0, .bool false, .bool false, .bool false, .int .i64 0, .string (⟨#[119, 101, 98]⟩ : ByteArray), .string (⟨#[119, 101, 98, 45, 97]⟩ : ByteArray), .string (⟨#[110, 49]⟩ : ByteArray), .int .i64 1, .bool true, .bool false, .int .i64 400, .int .i64 16, .string (⟨#[]⟩ : ByteArray), .int .i64 0, .int .i64 0, .int .i64 0, .int .i64 0, .int .i64 0, .bool false, .int .u64 0, .slice none 0 0, .int .i64 0, .string (⟨#[]⟩ : ByteArray), .int .i64 0, .int .i64 0] : List Value)[j]? = some v) => (show W.cell? ((⟨g3, 0, none⟩ : Addr).add j) = some v by rw [add_plain, blk_cell HP.out j]; simpa using h))
      have HNL := Aside0.mk (show some (w.heap.size + 1) ≠ (Value.slice A 0 c).ownBlock by
        obtain ⟨i1, h1⟩ := Kd.R_own HL.out
        obtain ⟨i2, h2⟩ := Kd.R_own HS.out
        rcases own_type_ne h1 h2 (by decide) with h | h
        · exact absurd h (by simp [Value.ownBlock])
        · intro e; exact h e)
      go_wp2_with (first | ((with_reducible refine gate_load (t := 68) rfl ?_); refine load_list rfl rfl rfl Try.underlying68 rfl ?hi HC.out ?_; (case hi => exact size68)) | ((with_reducible refine gate_builtin (b := .append) (xs := #[.tmp 34, .tmp 36]) rfl ?_); refine hold ?_))
      refine Hold.intro (Kd.R_append k68 (w0 := w) w.heap.size rfl (.tmp 34) (.tmp 36) 57 68 (.agg zcObj) 312 rfl Try.underlying57 info68 rfl (by decide) (by omega) (.slice A 0 c) (exPods.take 0) (exPod (⟨#[112, 48]⟩ : ByteArray) (⟨#[110, 49]⟩ : ByteArray) 1 true) [.int .i64 1, .string (⟨#[112, 48]⟩ : ByteArray), .int .i64 0, .int .i64 0, .slice (some ⟨(w.heap.size + 1), 0, none⟩) 1 1, .int .i64 0, .int .i64 0, .bool false, .bool false, .bool false, .int .i64 0, .string (⟨#[119, 101, 98]⟩ : ByteArray), .string (⟨#[119, 101, 98, 45, 97]⟩ : ByteArray), .string (⟨#[110, 49]⟩ : ByteArray), .int .i64 1, .bool true, .bool false, .int .i64 400, .int .i64 16, .string (⟨#[]⟩ : ByteArray), .int .i64 0, .int .i64 0, .int .i64 0, .int .i64 0, .int .i64 0, .bool false, .int .u64 0, .slice none 0 0, .int .i64 0, .string (⟨#[]⟩ : ByteArray), .int .i64 0, .int .i64 0] (fun k_ => k_ ≠ g3 ∧ k_ ≠ gf ∧ k_ ≠ gn ∧ k_ ≠ gd ∧ k_ ≠ w.heap.size) (fun k_ => k_ = w.heap.size + 1) rfl rfl (k68_mkM W w.heap.size _ (exPod (⟨#[112, 48]⟩ : ByteArray) (⟨#[110, 49]⟩ : ByteArray) 1 true) HL.out (Kd.R_nil _ _ _ _ _)) (fun k_ hk_ => ⟨by have := HGG.out; omega, by rw [hk_]; exact HNL.out⟩) (fun k_ hk_ => by have := HGG.out; omega) HS.out HB.out HB.out.size (by decide) ?_)
      intro v1 w9 ho hb9 hg hat
      have ho' : k68.R 68 w9 w.heap.size (fun k_ => k_ ≠ g3 ∧ k_ ≠ gf ∧ k_ ≠ gn ∧ k_ ≠ gd ∧ k_ ≠ w.heap.size) v1 (exPods.take 1) := ho
      obtain ⟨A', c', e, hc', -⟩ := Kd.R_reads ho'
      rw [show (exPods.take 1).length = 1 from rfl] at e hc'
      subst e
      have HP9 := Aside0.mk (blk_grown HP.out hg (fun e => (HS.out.1 g3 e.symm).1 rfl))
      have HX9 := Aside0.mk (blk_grown HX.out hg (fun e => (HS.out.1 gf e.symm).2.1 rfl))
      have HF9 := Aside0.mk (blk_grown HF.out hg (fun e => (HS.out.1 _ e.symm).2.2.2.2 rfl))
      have HL9 := Aside0.mk (Kd.R_grown HL.out hg (fun k_ hk_ => by rw [hk_]; exact HNL.out))
      have HN9 := Aside0.mk (Kd.R_grown HN.out hg (fun k_ hk_ e => (HS.out.1 _ e.symm).2.2.1 hk_))
      have HD9 := Aside0.mk (Kd.R_grown HD.out hg (fun k_ hk_ e => (HS.out.1 _ e.symm).2.2.2.1 hk_))
      have HS9 := Aside0.mk ho'
      have HB9 := Aside0.mk hb9
      have HCC9 := Aside0.mk hc'
      have hx9 : w9.cell? ⟨gf, 1, none⟩ = some (.slice A 0 c) := (blk_cell HX9.out 1).trans rfl
      have hfx9 := blk_frozen HX9.out 1
      have hltf9 : gf < w9.heap.size := blk_lt HX9.out
      clear ho ho' hb9 hg hat hc' hlt3 hltf hx1 HP HX HL HN HD HS HF HB HC HNL HCC
      go_wp2
      go_roundw
      case rel => exact ⟨1, (⟨#[112, 48]⟩ : ByteArray), (⟨#[110, 49]⟩ : ByteArray), 1, true, A', c', by decide, rfl, ⟨fun _ => ⟨rfl, rfl, rfl⟩⟩, ⟨HCC9.out⟩, ⟨(Below.heap_setCell _ ⟨gf, 1, none⟩ _ g3 hne1).trans HP9.out⟩, ⟨blk_set HX9.out 1 _⟩, ⟨Kd.R_far HL9.out (p := ⟨gf, 1, none⟩) (fun k_ hk_ => by have := HGG.out; show k_ ≠ gf; omega) _⟩, ⟨Kd.R_far HN9.out (p := ⟨gf, 1, none⟩) (fun k_ hk_ => by have := HGG.out; show k_ ≠ gf; omega) _⟩, ⟨Kd.R_far HD9.out (p := ⟨gf, 1, none⟩) (fun k_ hk_ => by have := HGG.out; show k_ ≠ gf; omega) _⟩, ⟨Kd.R_far HS9.out (p := ⟨gf, 1, none⟩) (fun k_ hk_ => hk_.2.1) _⟩, ⟨(Below.heap_setCell _ ⟨gf, 1, none⟩ _ w.heap.size (by have := HGG.out; show w.heap.size ≠ gf; omega)).trans HF9.out⟩, ⟨below_set HB9.out (by have := HGG.out; omega)⟩⟩
      case measure => simp [intOf]
    · obtain ⟨rfl, rfl, rfl⟩ := HK.out (by decide)
      clear HK
      have hcv : (convert 122 9 (.slice (some ⟨wr.heap.size, 0, none⟩) 2 2)).run Try.prog (wr.alloc (.cells #[.int .u8 112, .int .u8 49] 5)) = .ok (.string (⟨#[112, 49]⟩ : ByteArray)) (wr.alloc (.cells #[.int .u8 112, .int .u8 49] 5)) := own_string (P := Try.prog) Try.underlying122 Try.underlying5 Try.underlying9 (own_lit wr 0 5 .u8 [112, 49] (Nat.zero_le _) (by decide))
      go_upto_region 13 with (fail)
      obtain ⟨e1_, e2_, e3_, e4_⟩ := HGG.out
      have hB3 : w.heap.size ≤ g3 := by omega
      refine gen_wp (fun W => Aside0 (W.heap[g3]? = some (.cells #[.int .i64 1, .string (⟨#[112, 49]⟩ : ByteArray), .int .i64 0, .int .i64 0, .slice (some ⟨(w.heap.size + 1), 0, none⟩) 1 1, .int .i64 0, .int .i64 0, .bool false, .bool false, .bool false, .int .i64 0, .string (⟨#[119, 101, 98]⟩ : ByteArray), .string (⟨#[119, 101, 98, 45, 97]⟩ : ByteArray), .string (⟨#[110, 49]⟩ : ByteArray), .int .i64 1, .bool true, .bool false, .int .i64 400, .int .i64 16, .string (⟨#[]⟩ : ByteArray), .int .i64 0, .int .i64 0, .int .i64 0, .int .i64 0, .int .i64 0, .bool false, .int .u64 0, .slice none 0 0, .int .i64 0, .string (⟨#[]⟩ : ByteArray), .int .i64 0, .int .i64 0] 68 (0, 0))) ∧ Aside0 (W.heap[gf]? = some (.cells #[.slice (some ⟨gn, 0, none⟩) 1 1, .slice A 1 c, .slice (some ⟨gd, 0, none⟩) 1 1, .slice none 0 0] 59 (0, 0))) ∧ Aside0 (k31.R 31 W w.heap.size (fun k_ => k_ = w.heap.size + 1) (.slice (some ⟨w.heap.size + 1, 0, none⟩) 1 1) [exLab]) ∧ Aside0 (k68.R 68 W w.heap.size (fun k_ => k_ = gn) (.slice (some ⟨gn, 0, none⟩) 1 1) [exNode]) ∧ Aside0 (k68.R 68 W w.heap.size (fun k_ => k_ = gd) (.slice (some ⟨gd, 0, none⟩) 1 1) [exDeploy]) ∧ Aside0 (k68.R 68 W w.heap.size (fun k_ => k_ ≠ g3 ∧ k_ ≠ gf ∧ k_ ≠ gn ∧ k_ ≠ gd ∧ k_ ≠ w.heap.size) (.slice A 1 c) (exPods.take 1)) ∧ Aside0 (W.heap[w.heap.size]? = some (.cells #[.slice none 0 0, .slice none 0 0, .slice none 0 0, .slice none 0 0] 59 (0, 0))) ∧ Aside0 (Below w.heap.size w W)) ⟨⟨(blk_alloc (blk_set HP.out 1 _) _)⟩, ⟨(blk_alloc ((Below.heap_setCell _ ⟨g3, 1, none⟩ _ _ hne2).trans HX.out) _)⟩, ⟨(Kd.R_below (Kd.R_far HL.out (p := ⟨g3, 1, none⟩) (fun k_ hk_ => by show k_ ≠ g3; omega) _) (below_alloc (Below.refl _ _) _))⟩, ⟨(Kd.R_below (Kd.R_far HN.out (p := ⟨g3, 1, none⟩) (fun k_ hk_ => by show k_ ≠ g3; omega) _) (below_alloc (Below.refl _ _) _))⟩, ⟨(Kd.R_below (Kd.R_far HD.out (p := ⟨g3, 1, none⟩) (fun k_ hk_ => by show k_ ≠ g3; omega) _) (below_alloc (Below.refl _ _) _))⟩, ⟨(Kd.R_below (Kd.R_far HS.out (p := ⟨g3, 1, none⟩) (fun k_ hk_ => hk_.1) _) (below_alloc (Below.refl _ _) _))⟩, ⟨(blk_alloc ((Below.heap_setCell _ ⟨g3, 1, none⟩ _ _ (by show w.heap.size ≠ g3; omega)).trans HF.out) _)⟩, ⟨(below_alloc (below_set HB.out hB3) _)⟩⟩ ?_
      clear e1_ e2_ e3_ e4_ HP HX HL HN HD HS HF HB hcv hx1 hp1 hp13 hp14 hp15 hfp1 hfp13 hfp14 hfp15 hlt3 hltf
      rintro W ⟨HP, HX, HL, HN, HD, HS, HF, HB⟩
      have hx1 : W.cell? ⟨gf, 1, none⟩ = some (.slice A 1 c) := (blk_cell HX.out 1).trans rfl
      have hlt3 : g3 < W.heap.size := blk_lt HP.out
      have hltf : gf < W.heap.size := blk_lt HX.out
      have HC := Aside0.mk (fun (j : Nat) (v : Value) (h : ([.int .i64 1, .string (⟨#[112, 49]⟩ : ByteArray), .int .i64 0, .int .i64 0, .slice (some ⟨(w.heap.size + 1), 0, none⟩) 1 1, .int .i64 0, .int .i64 0, .bool false, .bool false, .bool false, .int .i64 0, .string (⟨#[119, 101, 98]⟩ : ByteArray), .string (⟨#[119, 101, 98, 45, 97]⟩ : ByteArray), .string (⟨#[110, 49]⟩ : ByteArray), .int .i64 1, .bool true, .bool false, .int .i64 400, .int .i64 16, .string (⟨#[]⟩ : ByteArray), .int .i64 0, .int .i64 0, .int .i64 0, .int .i64 0, .int .i64 0, .bool false, .int .u64 0, .slice none 0 0, .int .i64 0, .string (⟨#[]⟩ : ByteArray), .int .i64 0, .int .i64 0] : List Value)[j]? = some v) => (show W.cell? ((⟨g3, 0, none⟩ : Addr).add j) = some v by rw [add_plain, blk_cell HP.out j]; simpa using h))
      have HNL := Aside0.mk (show some (w.heap.size + 1) ≠ (Value.slice A 1 c).ownBlock by
        obtain ⟨i1, h1⟩ := Kd.R_own HL.out
        obtain ⟨i2, h2⟩ := Kd.R_own HS.out
        rcases own_type_ne h1 h2 (by decide) with h | h
        · exact absurd h (by simp [Value.ownBlock])
        · intro e; exact h e)
      go_wp2_with (first | ((with_reducible refine gate_load (t := 68) rfl ?_); refine load_list rfl rfl rfl Try.underlying68 rfl ?hi HC.out ?_; (case hi => exact size68)) | ((with_reducible refine gate_builtin (b := .append) (xs := #[.tmp 34, .tmp 36]) rfl ?_); refine hold ?_))
      refine Hold.intro (Kd.R_append k68 (w0 := w) w.heap.size rfl (.tmp 34) (.tmp 36) 57 68 (.agg zcObj) 312 rfl Try.underlying57 info68 rfl (by decide) (by omega) (.slice A 1 c) (exPods.take 1) (exPod (⟨#[112, 49]⟩ : ByteArray) (⟨#[110, 49]⟩ : ByteArray) 1 true) [.int .i64 1, .string (⟨#[112, 49]⟩ : ByteArray), .int .i64 0, .int .i64 0, .slice (some ⟨(w.heap.size + 1), 0, none⟩) 1 1, .int .i64 0, .int .i64 0, .bool false, .bool false, .bool false, .int .i64 0, .string (⟨#[119, 101, 98]⟩ : ByteArray), .string (⟨#[119, 101, 98, 45, 97]⟩ : ByteArray), .string (⟨#[110, 49]⟩ : ByteArray), .int .i64 1, .bool true, .bool false, .int .i64 400, .int .i64 16, .string (⟨#[]⟩ : ByteArray), .int .i64 0, .int .i64 0, .int .i64 0, .int .i64 0, .int .i64 0, .bool false, .int .u64 0, .slice none 0 0, .int .i64 0, .string (⟨#[]⟩ : ByteArray), .int .i64 0, .int .i64 0] (fun k_ => k_ ≠ g3 ∧ k_ ≠ gf ∧ k_ ≠ gn ∧ k_ ≠ gd ∧ k_ ≠ w.heap.size) (fun k_ => k_ = w.heap.size + 1) rfl rfl (k68_mkM W w.heap.size _ (exPod (⟨#[112, 49]⟩ : ByteArray) (⟨#[110, 49]⟩ : ByteArray) 1 true) HL.out (Kd.R_nil _ _ _ _ _)) (fun k_ hk_ => ⟨by have := HGG.out; omega, by rw [hk_]; exact HNL.out⟩) (fun k_ hk_ => by have := HGG.out; omega) HS.out HB.out HB.out.size (by decide) ?_)
      intro v1 w9 ho hb9 hg hat
      have ho' : k68.R 68 w9 w.heap.size (fun k_ => k_ ≠ g3 ∧ k_ ≠ gf ∧ k_ ≠ gn ∧ k_ ≠ gd ∧ k_ ≠ w.heap.size) v1 (exPods.take 2) := ho
      obtain ⟨A', c', e, hc', -⟩ := Kd.R_reads ho'
      rw [show (exPods.take 2).length = 2 from rfl] at e hc'
      subst e
      have HP9 := Aside0.mk (blk_grown HP.out hg (fun e => (HS.out.1 g3 e.symm).1 rfl))
      have HX9 := Aside0.mk (blk_grown HX.out hg (fun e => (HS.out.1 gf e.symm).2.1 rfl))
      have HF9 := Aside0.mk (blk_grown HF.out hg (fun e => (HS.out.1 _ e.symm).2.2.2.2 rfl))
      have HL9 := Aside0.mk (Kd.R_grown HL.out hg (fun k_ hk_ => by rw [hk_]; exact HNL.out))
      have HN9 := Aside0.mk (Kd.R_grown HN.out hg (fun k_ hk_ e => (HS.out.1 _ e.symm).2.2.1 hk_))
      have HD9 := Aside0.mk (Kd.R_grown HD.out hg (fun k_ hk_ e => (HS.out.1 _ e.symm).2.2.2.1 hk_))
      have HS9 := Aside0.mk ho'
      have HB9 := Aside0.mk hb9
      have HCC9 := Aside0.mk hc'
      have hx9 : w9.cell? ⟨gf, 1, none⟩ = some (.slice A 1 c) := (blk_cell HX9.out 1).trans rfl
      have hfx9 := blk_frozen HX9.out 1
      have hltf9 : gf < w9.heap.size := blk_lt HX9.out
      clear ho ho' hb9 hg hat hc' hlt3 hltf hx1 HP HX HL HN HD HS HF HB HC HNL HCC
      go_wp2
      go_roundw
      case rel => exact ⟨2, (⟨#[112, 49]⟩ : ByteArray), (⟨#[110, 49]⟩ : ByteArray), 1, true, A', c', by decide, rfl, ⟨fun _ => ⟨rfl, rfl, rfl⟩⟩, ⟨HCC9.out⟩, ⟨(Below.heap_setCell _ ⟨gf, 1, none⟩ _ g3 hne1).trans HP9.out⟩, ⟨blk_set HX9.out 1 _⟩, ⟨Kd.R_far HL9.out (p := ⟨gf, 1, none⟩) (fun k_ hk_ => by have := HGG.out; show k_ ≠ gf; omega) _⟩, ⟨Kd.R_far HN9.out (p := ⟨gf, 1, none⟩) (fun k_ hk_ => by have := HGG.out; show k_ ≠ gf; omega) _⟩, ⟨Kd.R_far HD9.out (p := ⟨gf, 1, none⟩) (fun k_ hk_ => by have := HGG.out; show k_ ≠ gf; omega) _⟩, ⟨Kd.R_far HS9.out (p := ⟨gf, 1, none⟩) (fun k_ hk_ => hk_.2.1) _⟩, ⟨(Below.heap_setCell _ ⟨gf, 1, none⟩ _ w.heap.size (by have := HGG.out; show w.heap.size ≠ gf; omega)).trans HF9.out⟩, ⟨below_set HB9.out (by have := HGG.out; omega)⟩⟩
      case measure => simp [intOf]
    · obtain ⟨rfl, rfl, rfl⟩ := HK.out (by decide)
      clear HK
      have hcv : (convert 122 9 (.slice (some ⟨wr.heap.size, 0, none⟩) 2 2)).run Try.prog (wr.alloc (.cells #[.int .u8 112, .int .u8 50] 5)) = .ok (.string (⟨#[112, 50]⟩ : ByteArray)) (wr.alloc (.cells #[.int .u8 112, .int .u8 50] 5)) := own_string (P := Try.prog) Try.underlying122 Try.underlying5 Try.underlying9 (own_lit wr 0 5 .u8 [112, 50] (Nat.zero_le _) (by decide))
      go_upto_region 13 with (fail)
      obtain ⟨e1_, e2_, e3_, e4_⟩ := HGG.out
      have hB3 : w.heap.size ≤ g3 := by omega
      refine gen_wp (fun W => Aside0 (W.heap[g3]? = some (.cells #[.int .i64 1, .string (⟨#[112, 50]⟩ : ByteArray), .int .i64 0, .int .i64 0, .slice (some ⟨(w.heap.size + 1), 0, none⟩) 1 1, .int .i64 0, .int .i64 0, .bool false, .bool false, .bool false, .int .i64 0, .string (⟨#[119, 101, 98]⟩ : ByteArray), .string (⟨#[119, 101, 98, 45, 97]⟩ : ByteArray), .string (⟨#[]⟩ : ByteArray), .int .i64 0, .bool false, .bool false, .int .i64 400, .int .i64 16, .string (⟨#[]⟩ : ByteArray), .int .i64 0, .int .i64 0, .int .i64 0, .int .i64 0, .int .i64 0, .bool false, .int .u64 0, .slice none 0 0, .int .i64 0, .string (⟨#[]⟩ : ByteArray), .int .i64 0, .int .i64 0] 68 (0, 0))) ∧ Aside0 (W.heap[gf]? = some (.cells #[.slice (some ⟨gn, 0, none⟩) 1 1, .slice A 2 c, .slice (some ⟨gd, 0, none⟩) 1 1, .slice none 0 0] 59 (0, 0))) ∧ Aside0 (k31.R 31 W w.heap.size (fun k_ => k_ = w.heap.size + 1) (.slice (some ⟨w.heap.size + 1, 0, none⟩) 1 1) [exLab]) ∧ Aside0 (k68.R 68 W w.heap.size (fun k_ => k_ = gn) (.slice (some ⟨gn, 0, none⟩) 1 1) [exNode]) ∧ Aside0 (k68.R 68 W w.heap.size (fun k_ => k_ = gd) (.slice (some ⟨gd, 0, none⟩) 1 1) [exDeploy]) ∧ Aside0 (k68.R 68 W w.heap.size (fun k_ => k_ ≠ g3 ∧ k_ ≠ gf ∧ k_ ≠ gn ∧ k_ ≠ gd ∧ k_ ≠ w.heap.size) (.slice A 2 c) (exPods.take 2)) ∧ Aside0 (W.heap[w.heap.size]? = some (.cells #[.slice none 0 0, .slice none 0 0, .slice none 0 0, .slice none 0 0] 59 (0, 0))) ∧ Aside0 (Below w.heap.size w W)) ⟨⟨(blk_alloc (blk_set (blk_set (blk_set (blk_set HP.out 1 _) 13 _) 14 _) 15 _) _)⟩, ⟨(blk_alloc ((Below.heap_setCell _ ⟨g3, 15, none⟩ _ _ hne2).trans ((Below.heap_setCell _ ⟨g3, 14, none⟩ _ _ hne2).trans ((Below.heap_setCell _ ⟨g3, 13, none⟩ _ _ hne2).trans ((Below.heap_setCell _ ⟨g3, 1, none⟩ _ _ hne2).trans HX.out)))) _)⟩, ⟨(Kd.R_below (Kd.R_far (Kd.R_far (Kd.R_far (Kd.R_far HL.out (p := ⟨g3, 1, none⟩) (fun k_ hk_ => by show k_ ≠ g3; omega) _) (p := ⟨g3, 13, none⟩) (fun k_ hk_ => by show k_ ≠ g3; omega) _) (p := ⟨g3, 14, none⟩) (fun k_ hk_ => by show k_ ≠ g3; omega) _) (p := ⟨g3, 15, none⟩) (fun k_ hk_ => by show k_ ≠ g3; omega) _) (below_alloc (Below.refl _ _) _))⟩, ⟨(Kd.R_below (Kd.R_far (Kd.R_far (Kd.R_far (Kd.R_far HN.out (p := ⟨g3, 1, none⟩) (fun k_ hk_ => by show k_ ≠ g3; omega) _) (p := ⟨g3, 13, none⟩) (fun k_ hk_ => by show k_ ≠ g3; omega) _) (p := ⟨g3, 14, none⟩) (fun k_ hk_ => by show k_ ≠ g3; omega) _) (p := ⟨g3, 15, none⟩) (fun k_ hk_ => by show k_ ≠ g3; omega) _) (below_alloc (Below.refl _ _) _))⟩, ⟨(Kd.R_below (Kd.R_far (Kd.R_far (Kd.R_far (Kd.R_far HD.out (p := ⟨g3, 1, none⟩) (fun k_ hk_ => by show k_ ≠ g3; omega) _) (p := ⟨g3, 13, none⟩) (fun k_ hk_ => by show k_ ≠ g3; omega) _) (p := ⟨g3, 14, none⟩) (fun k_ hk_ => by show k_ ≠ g3; omega) _) (p := ⟨g3, 15, none⟩) (fun k_ hk_ => by show k_ ≠ g3; omega) _) (below_alloc (Below.refl _ _) _))⟩, ⟨(Kd.R_below (Kd.R_far (Kd.R_far (Kd.R_far (Kd.R_far HS.out (p := ⟨g3, 1, none⟩) (fun k_ hk_ => hk_.1) _) (p := ⟨g3, 13, none⟩) (fun k_ hk_ => hk_.1) _) (p := ⟨g3, 14, none⟩) (fun k_ hk_ => hk_.1) _) (p := ⟨g3, 15, none⟩) (fun k_ hk_ => hk_.1) _) (below_alloc (Below.refl _ _) _))⟩, ⟨(blk_alloc ((Below.heap_setCell _ ⟨g3, 15, none⟩ _ _ (by show w.heap.size ≠ g3; omega)).trans ((Below.heap_setCell _ ⟨g3, 14, none⟩ _ _ (by show w.heap.size ≠ g3; omega)).trans ((Below.heap_setCell _ ⟨g3, 13, none⟩ _ _ (by show w.heap.size ≠ g3; omega)).trans ((Below.heap_setCell _ ⟨g3, 1, none⟩ _ _ (by show w.heap.size ≠ g3; omega)).trans HF.out)))) _)⟩, ⟨(below_alloc (below_set (below_set (below_set (below_set HB.out hB3) hB3) hB3) hB3) _)⟩⟩ ?_
      clear e1_ e2_ e3_ e4_ HP HX HL HN HD HS HF HB hcv hx1 hp1 hp13 hp14 hp15 hfp1 hfp13 hfp14 hfp15 hlt3 hltf
      rintro W ⟨HP, HX, HL, HN, HD, HS, HF, HB⟩
      have hx1 : W.cell? ⟨gf, 1, none⟩ = some (.slice A 2 c) := (blk_cell HX.out 1).trans rfl
      have hlt3 : g3 < W.heap.size := blk_lt HP.out
      have hltf : gf < W.heap.size := blk_lt HX.out
      have HC := Aside0.mk (fun (j : Nat) (v : Value) (h : ([.int .i64 1, .string (⟨#[112, 50]⟩ : ByteArray), .int .i64 0, .int .i64 0, .slice (some ⟨(w.heap.size + 1), 0, none⟩) 1 1, .int .i64 0, .int .i64 0, .bool false, .bool false, .bool false, .int .i64 0, .string (⟨#[119, 101, 98]⟩ : ByteArray), .string (⟨#[119, 101, 98, 45, 97]⟩ : ByteArray), .string (⟨#[]⟩ : ByteArray), .int .i64 0, .bool false, .bool false, .int .i64 400, .int .i64 16, .string (⟨#[]⟩ : ByteArray), .int .i64 0, .int .i64 0, .int .i64 0, .int .i64 0, .int .i64 0, .bool false, .int .u64 0, .slice none 0 0, .int .i64 0, .string (⟨#[]⟩ : ByteArray), .int .i64 0, .int .i64 0] : List Value)[j]? = some v) => (show W.cell? ((⟨g3, 0, none⟩ : Addr).add j) = some v by rw [add_plain, blk_cell HP.out j]; simpa using h))
      have HNL := Aside0.mk (show some (w.heap.size + 1) ≠ (Value.slice A 2 c).ownBlock by
        obtain ⟨i1, h1⟩ := Kd.R_own HL.out
        obtain ⟨i2, h2⟩ := Kd.R_own HS.out
        rcases own_type_ne h1 h2 (by decide) with h | h
        · exact absurd h (by simp [Value.ownBlock])
        · intro e; exact h e)
      go_wp2_with (first | ((with_reducible refine gate_load (t := 68) rfl ?_); refine load_list rfl rfl rfl Try.underlying68 rfl ?hi HC.out ?_; (case hi => exact size68)) | ((with_reducible refine gate_builtin (b := .append) (xs := #[.tmp 34, .tmp 36]) rfl ?_); refine hold ?_))
      refine Hold.intro (Kd.R_append k68 (w0 := w) w.heap.size rfl (.tmp 34) (.tmp 36) 57 68 (.agg zcObj) 312 rfl Try.underlying57 info68 rfl (by decide) (by omega) (.slice A 2 c) (exPods.take 2) (exPod (⟨#[112, 50]⟩ : ByteArray) (⟨#[]⟩ : ByteArray) 0 false) [.int .i64 1, .string (⟨#[112, 50]⟩ : ByteArray), .int .i64 0, .int .i64 0, .slice (some ⟨(w.heap.size + 1), 0, none⟩) 1 1, .int .i64 0, .int .i64 0, .bool false, .bool false, .bool false, .int .i64 0, .string (⟨#[119, 101, 98]⟩ : ByteArray), .string (⟨#[119, 101, 98, 45, 97]⟩ : ByteArray), .string (⟨#[]⟩ : ByteArray), .int .i64 0, .bool false, .bool false, .int .i64 400, .int .i64 16, .string (⟨#[]⟩ : ByteArray), .int .i64 0, .int .i64 0, .int .i64 0, .int .i64 0, .int .i64 0, .bool false, .int .u64 0, .slice none 0 0, .int .i64 0, .string (⟨#[]⟩ : ByteArray), .int .i64 0, .int .i64 0] (fun k_ => k_ ≠ g3 ∧ k_ ≠ gf ∧ k_ ≠ gn ∧ k_ ≠ gd ∧ k_ ≠ w.heap.size) (fun k_ => k_ = w.heap.size + 1) rfl rfl (k68_mkM W w.heap.size _ (exPod (⟨#[112, 50]⟩ : ByteArray) (⟨#[]⟩ : ByteArray) 0 false) HL.out (Kd.R_nil _ _ _ _ _)) (fun k_ hk_ => ⟨by have := HGG.out; omega, by rw [hk_]; exact HNL.out⟩) (fun k_ hk_ => by have := HGG.out; omega) HS.out HB.out HB.out.size (by decide) ?_)
      intro v1 w9 ho hb9 hg hat
      have ho' : k68.R 68 w9 w.heap.size (fun k_ => k_ ≠ g3 ∧ k_ ≠ gf ∧ k_ ≠ gn ∧ k_ ≠ gd ∧ k_ ≠ w.heap.size) v1 (exPods.take 3) := ho
      obtain ⟨A', c', e, hc', -⟩ := Kd.R_reads ho'
      rw [show (exPods.take 3).length = 3 from rfl] at e hc'
      subst e
      have HP9 := Aside0.mk (blk_grown HP.out hg (fun e => (HS.out.1 g3 e.symm).1 rfl))
      have HX9 := Aside0.mk (blk_grown HX.out hg (fun e => (HS.out.1 gf e.symm).2.1 rfl))
      have HF9 := Aside0.mk (blk_grown HF.out hg (fun e => (HS.out.1 _ e.symm).2.2.2.2 rfl))
      have HL9 := Aside0.mk (Kd.R_grown HL.out hg (fun k_ hk_ => by rw [hk_]; exact HNL.out))
      have HN9 := Aside0.mk (Kd.R_grown HN.out hg (fun k_ hk_ e => (HS.out.1 _ e.symm).2.2.1 hk_))
      have HD9 := Aside0.mk (Kd.R_grown HD.out hg (fun k_ hk_ e => (HS.out.1 _ e.symm).2.2.2.1 hk_))
      have HS9 := Aside0.mk ho'
      have HB9 := Aside0.mk hb9
      have HCC9 := Aside0.mk hc'
      have hx9 : w9.cell? ⟨gf, 1, none⟩ = some (.slice A 2 c) := (blk_cell HX9.out 1).trans rfl
      have hfx9 := blk_frozen HX9.out 1
      have hltf9 : gf < w9.heap.size := blk_lt HX9.out
      clear ho ho' hb9 hg hat hc' hlt3 hltf hx1 HP HX HL HN HD HS HF HB HC HNL HCC
      go_wp2
      go_roundw
      case rel => exact ⟨3, (⟨#[112, 50]⟩ : ByteArray), (⟨#[]⟩ : ByteArray), 0, false, A', c', by decide, rfl, ⟨fun h => absurd h (by decide)⟩, ⟨HCC9.out⟩, ⟨(Below.heap_setCell _ ⟨gf, 1, none⟩ _ g3 hne1).trans HP9.out⟩, ⟨blk_set HX9.out 1 _⟩, ⟨Kd.R_far HL9.out (p := ⟨gf, 1, none⟩) (fun k_ hk_ => by have := HGG.out; show k_ ≠ gf; omega) _⟩, ⟨Kd.R_far HN9.out (p := ⟨gf, 1, none⟩) (fun k_ hk_ => by have := HGG.out; show k_ ≠ gf; omega) _⟩, ⟨Kd.R_far HD9.out (p := ⟨gf, 1, none⟩) (fun k_ hk_ => by have := HGG.out; show k_ ≠ gf; omega) _⟩, ⟨Kd.R_far HS9.out (p := ⟨gf, 1, none⟩) (fun k_ hk_ => hk_.2.1) _⟩, ⟨(Below.heap_setCell _ ⟨gf, 1, none⟩ _ w.heap.size (by have := HGG.out; show w.heap.size ≠ gf; omega)).trans HF9.out⟩, ⟨below_set HB9.out (by have := HGG.out; omega)⟩⟩
      case measure => simp [intOf]
    · have hx0 : wr.cell? ⟨gf, 0, none⟩ = some (.slice (some ⟨gn, 0, none⟩) 1 1) := (blk_cell HX.out 0).trans rfl
      have hx2 : wr.cell? ⟨gf, 2, none⟩ = some (.slice (some ⟨gd, 0, none⟩) 1 1) := (blk_cell HX.out 2).trans rfl
      have hx3 : wr.cell? ⟨gf, 3, none⟩ = some (.slice none 0 0) := (blk_cell HX.out 3).trans rfl
      have hx1' : wr.cell? ⟨gf, 1, none⟩ = some (.slice A 3 c) := hx1
      clear hx1 hp1 hp13 hp14 hp15 hfp1 hfp13 hfp14 hfp15
      go_wp2_with ((with_reducible refine gate_store (t := 59) (p := 0) rfl ?_); refine hold ?_)
      refine Hold.intro (box_store_event (t := 59) (ty := 59) (p := 0) (x := .tmp 39) (g := w.heap.size) (cs := #[.slice none 0 0, .slice none 0 0, .slice none 0 0, .slice none 0 0]) (cs' := #[.slice (some ⟨gn, 0, none⟩) 1 1, .slice A 3 c, .slice (some ⟨gd, 0, none⟩) 1 1, .slice none 0 0]) rfl rfl rfl rfl rfl size59 HF.out rfl rfl ?_)
      intro w7 hbox7 hg
      obtain ⟨e1_, e2_, e3_, e4_⟩ := HGG.out
      have HB7 := Aside0.mk (Below.grown HB.out hg HB.out.size (fun k_ e_ => by injection e_ with e_; omega))
      have HN7 := Aside0.mk (Kd.R_grown HN.out hg (fun k_ hk_ e_ => by injection e_ with e_; omega))
      have HD7 := Aside0.mk (Kd.R_grown HD.out hg (fun k_ hk_ e_ => by injection e_ with e_; omega))
      have HS7 := Aside0.mk (Kd.R_grown HS.out hg (fun k_ hk_ e_ => by injection e_ with e_; omega))
      have HX7 := Aside0.mk hbox7
      have hz0 : w7.cell? ⟨w.heap.size, 0, none⟩ = some (.slice (some ⟨gn, 0, none⟩) 1 1) := (blk_cell hbox7 0).trans rfl
      have hz1 : w7.cell? ⟨w.heap.size, 1, none⟩ = some (.slice A 3 c) := (blk_cell hbox7 1).trans rfl
      have hz2 : w7.cell? ⟨w.heap.size, 2, none⟩ = some (.slice (some ⟨gd, 0, none⟩) 1 1) := (blk_cell hbox7 2).trans rfl
      have hz3 : w7.cell? ⟨w.heap.size, 3, none⟩ = some (.slice none 0 0) := (blk_cell hbox7 3).trans rfl
      clear e1_ e2_ e3_ e4_ hbox7 hg hx0 hx1' hx2 hx3 HP HX HL HN HD HS HF HB
      go_wp2
      refine bodyPost_ret (results_cell_row rfl _ _ w.heap.size 59 #[.slice (some ⟨gn, 0, none⟩) 1 1, .slice A 3 c, .slice (some ⟨gd, 0, none⟩) 1 1, .slice none 0 0] (0, 0) _ rfl HX7.out Try.underlying59 rfl (by kernel_rfl)) rfl ?_
      exact ⟨A, c, gn, gd, rfl, HCC.out, (Kd.R_reads' HN7.out).2.2, (Kd.R_reads' HS7.out).2.2, (Kd.R_reads' HD7.out).2.2, HB7.out⟩
end Go.Proofs.Ytamjjeakkkdfhaa.G
end
section
namespace Go.Proofs.Ytamjjeakkkdfhaa.G
open Go.RowKit Go.Proofs.YtamjjeakkkdfhaaW.PrintWords Go.Proofs.YtamjjeakkkdfhaaW.PrintLast Go.Proofs.YtamjjeakkkdfhaaW.PrintMore
open Go.Proofs.Ytamjjeakkkdfhaa.K Go.Proofs.YtamjjeakkkdfhaaE Go.Proofs.Ytamjjeakkkdfhaa.PB Go.Proofs.Ytamjjeakkkdfhaa.PC
set_option linter.unusedVariables false
set_option linter.unusedSimpArgs false
theorem ex_owned : countL (isOwned (⟨#[119, 101, 98]⟩ : ByteArray)) exPods = 3 := by kernel_rfl
theorem ex_ready : countL (isReady (⟨#[119, 101, 98]⟩ : ByteArray)) exPods = 2 := by kernel_rfl
theorem ex_sound : soundL [exNode] exPods = none := by kernel_rfl
theorem ex_bind : rules_Bind.f 5 [exNode] exPods [exDeploy] [] ⟨#[112, 50]⟩ ⟨#[110, 49]⟩ = some (some 23) := by kernel_rfl
theorem ex_owned_calls (Ap : Option Addr) (cp gn gd : Nat) (w : World) (hc : 3 ≤ cp) (h0 : k68.C w (some ⟨gn, 0, none⟩) 1 [exNode]) (h1 : k68.C w Ap 3 exPods) (h2 : k68.C w (some ⟨gd, 0, none⟩) 1 [exDeploy]) :
    Calls Try.prog 34 #[.agg #[.slice (some ⟨gn, 0, none⟩) 1 1, .slice Ap 3 cp, .slice (some ⟨gd, 0, none⟩) 1 1, .slice none 0 0], .string (⟨#[119, 101, 98]⟩ : ByteArray)] w fun e w' => e = .returned (.int .i64 3) ∧ Below w.heap.size w w' :=
  rules_Owned.calls _ 1 [exNode] Ap cp exPods _ 1 [exDeploy] none 0 [] (⟨#[119, 101, 98]⟩ : ByteArray) 3 w h0 (Nat.le_refl _) h1 hc h2 (Nat.le_refl _) (Kd.C_nil _ _) (Nat.le_refl _) (by show some ((countL (isOwned (⟨#[119, 101, 98]⟩ : ByteArray)) exPods : Nat) : Int) = some 3; rw [ex_owned]; rfl)
theorem ex_ready_calls (Ap : Option Addr) (cp gn gd : Nat) (w : World) (hc : 3 ≤ cp) (h0 : k68.C w (some ⟨gn, 0, none⟩) 1 [exNode]) (h1 : k68.C w Ap 3 exPods) (h2 : k68.C w (some ⟨gd, 0, none⟩) 1 [exDeploy]) :
    Calls Try.prog 36 #[.agg #[.slice (some ⟨gn, 0, none⟩) 1 1, .slice Ap 3 cp, .slice (some ⟨gd, 0, none⟩) 1 1, .slice none 0 0], .string (⟨#[119, 101, 98]⟩ : ByteArray)] w fun e w' => e = .returned (.int .i64 2) ∧ Below w.heap.size w w' :=
  rules_Ready.calls _ 1 [exNode] Ap cp exPods _ 1 [exDeploy] none 0 [] (⟨#[119, 101, 98]⟩ : ByteArray) 2 w h0 (Nat.le_refl _) h1 hc h2 (Nat.le_refl _) (Kd.C_nil _ _) (Nat.le_refl _) (by show some ((countL (isReady (⟨#[119, 101, 98]⟩ : ByteArray)) exPods : Nat) : Int) = some 2; rw [ex_ready]; rfl)
theorem ex_sound_calls (Ap : Option Addr) (cp gn gd : Nat) (w : World) (hc : 3 ≤ cp) (h0 : k68.C w (some ⟨gn, 0, none⟩) 1 [exNode]) (h1 : k68.C w Ap 3 exPods) (h2 : k68.C w (some ⟨gd, 0, none⟩) 1 [exDeploy]) :
    Calls Try.prog 55 #[.agg #[.slice (some ⟨gn, 0, none⟩) 1 1, .slice Ap 3 cp, .slice (some ⟨gd, 0, none⟩) 1 1, .slice none 0 0]] w fun e w' => e = .returned (.nilIface) ∧ Below w.heap.size w w' :=
  by have h := rules_Sound.walked _ 1 [exNode] Ap cp exPods _ 1 [exDeploy] none 0 [] w h0 (Nat.le_refl _) h1 hc h2 (Nat.le_refl _) (Kd.C_nil _ _) (Nat.le_refl _) (by kernel_rfl) (by kernel_rfl); rw [ex_sound] at h; exact h
theorem ex_bind_calls (Ap : Option Addr) (cp gn gd : Nat) (w : World) (hc : 3 ≤ cp) (h0 : k68.C w (some ⟨gn, 0, none⟩) 1 [exNode]) (h1 : k68.C w Ap 3 exPods) (h2 : k68.C w (some ⟨gd, 0, none⟩) 1 [exDeploy]) :
    Calls Try.prog 57 #[.agg #[.slice (some ⟨gn, 0, none⟩) 1 1, .slice Ap 3 cp, .slice (some ⟨gd, 0, none⟩) 1 1, .slice none 0 0], .string (⟨#[112, 50]⟩ : ByteArray), .string (⟨#[110, 49]⟩ : ByteArray)] w fun e w' => e = .returned (errW (some 23)) ∧ Below w.heap.size w w' :=
  rules_Bind.calls 5 _ 1 [exNode] Ap cp exPods _ 1 [exDeploy] none 0 [] (⟨#[112, 50]⟩ : ByteArray) (⟨#[110, 49]⟩ : ByteArray) (some 23) w h0 (Nat.le_refl _) h1 hc h2 (Nat.le_refl _) (Kd.C_nil _ _) (Nat.le_refl _) ex_bind
set_option maxRecDepth 100000 in
set_option maxHeartbeats 4000000 in
theorem law16_works.calls (w : World) : Calls Try.prog 54 #[] w fun e w' => e = .returned (.bool true) ∧ Below w.heap.size w w' := by
  have HB := Aside0.mk (Below.refl w.heap.size w)
  go_enter Try.func54, Try.ntmps54
  go_wp2_with (go_at_call 99; refine hold ?_)
  refine Hold.intro ((law16_example.calls _).mono ?_)
  rintro e w1 ⟨Ap0, cp0, gn0, gd0, rfl, hc, h0, h1, h2, hb⟩
  have HB1 := Aside0.mk (below_step HB.out hb)
  have HC := Aside0.mk (ex_owned_calls _ _ _ _ _ hc h0 h1 h2)
  clear hb HB hc h0 h1 h2
  go_wp2_with (go_at_call 34; refine hold ?_)
  refine Hold.intro (HC.out.mono ?_)
  rintro e w2 ⟨rfl, hb⟩
  have HB2 := Aside0.mk (below_step HB1.out hb)
  clear hb HB1 HC
  go_wp2_with (go_at_call 99; refine hold ?_)
  refine Hold.intro ((law16_example.calls _).mono ?_)
  rintro e w3 ⟨Ap1, cp1, gn1, gd1, rfl, hc, h0, h1, h2, hb⟩
  have HB3 := Aside0.mk (below_step HB2.out hb)
  have HC := Aside0.mk (ex_ready_calls _ _ _ _ _ hc h0 h1 h2)
  clear hb HB2 hc h0 h1 h2
  go_wp2_with (go_at_call 36; refine hold ?_)
  refine Hold.intro (HC.out.mono ?_)
  rintro e w4 ⟨rfl, hb⟩
  have HB4 := Aside0.mk (below_step HB3.out hb)
  clear hb HB3 HC
  go_wp2_with (go_at_call 99; refine hold ?_)
  refine Hold.intro ((law16_example.calls _).mono ?_)
  rintro e w5 ⟨Ap2, cp2, gn2, gd2, rfl, hc, h0, h1, h2, hb⟩
  have HB5 := Aside0.mk (below_step HB4.out hb)
  have HC := Aside0.mk (ex_sound_calls _ _ _ _ _ hc h0 h1 h2)
  clear hb HB4 hc h0 h1 h2
  go_wp2_with (go_at_call 55; refine hold ?_)
  refine Hold.intro (HC.out.mono ?_)
  rintro e w6 ⟨rfl, hb⟩
  have HB6 := Aside0.mk (below_step HB5.out hb)
  clear hb HB5 HC
  go_wp2_with (go_at_call 99; refine hold ?_)
  refine Hold.intro ((law16_example.calls _).mono ?_)
  rintro e w7 ⟨Ap3, cp3, gn3, gd3, rfl, hc, h0, h1, h2, hb⟩
  have HB7 := Aside0.mk (below_step HB6.out hb)
  have HC := Aside0.mk (ex_bind_calls _ _ _ _ _ hc h0 h1 h2)
  clear hb HB6 hc h0 h1 h2
  go_wp2_with (go_at_call 57; refine hold ?_)
  refine Hold.intro (HC.out.mono ?_)
  rintro e w8 ⟨rfl, hb⟩
  have HB8 := Aside0.mk (below_step HB7.out hb)
  clear hb HB7 HC
  rw [errW_some]
  go_wp2
  go_ret
  exact ⟨rfl, HB8.out⟩
end Go.Proofs.Ytamjjeakkkdfhaa.G
end
