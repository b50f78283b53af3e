/- Parts of the proof of RulesCounted: lemmas, put together by a program of this session (pack.py) out of the kit's words, printed contracts and texts of its own. -/
import Derived.RangeFuncNested
import Derived.RangeFuncBound
import Derived.RangeFuncCalls
import Derived.RangeFuncLeaves
import Derived.Shelf.Abstract
import Derived.Shelf.RegionOpen
import Derived.WalkKit
import Derived.OwnWalkIn
import Derived.TacticsInMore
import Derived.LoopNIn
import Derived.LoopIn
import Derived.Test.YtamjjeakkkdfhaaProg
import Derived.Below
import Derived.Deep.Draws
import Derived.Deep.AppendLies
import Derived.Maps.AppendAt
import Derived.OwnWalk
import Derived.Laws.BytesArg
import Derived.Laws.MakeOwn
import Derived.Laws.OwnMore
import Derived.Deep.OwnRows
import Derived.Tactics
import Derived.Lib.ConvBytes
import Derived.Laws.Slices
import Derived.KernelRfl
import Derived.RowKit3
import Derived.Deep.LoopGhost
import Derived.Deep.QuietTactic
import Derived.BigQuiet
import Derived.WideLaws
import Derived.Deep.DeepCutAuto
import Derived.Deep.CutBlock
import Derived.Deep.RegionHeld3
import Derived.Laws.Rows
import Derived.Lib.AppendStr
import Derived.ArgAppend
import Derived.Laws.IdiomCopy
import Derived.OrdersHeld
import Derived.Laws.BitsLemmas
import Derived.RowKit
import Derived.Laws.StructEq
import Derived.Maps.Own
import Derived.Maps.OwnOps
import Derived.Maps.Views
import Derived.StringKeys
import Derived.ChangeArms
import Derived.SizedLaws
import Derived.SliceStrings
import Derived.Test.YtamjjeakkkdfhaaZRulesCounteda
import Derived.Test.YtamjjeakkkdfhaaZRulesCountedb
namespace Foot
end Foot
namespace Go.Proofs.Ytamjjeakkkdfhaa
end Go.Proofs.Ytamjjeakkkdfhaa
namespace Go.Proofs.Ytamjjeakkkdfhaa.G
end Go.Proofs.Ytamjjeakkkdfhaa.G
namespace Go.Proofs.Ytamjjeakkkdfhaa.K
end Go.Proofs.Ytamjjeakkkdfhaa.K
namespace Go.Proofs.Ytamjjeakkkdfhaa.OP
end Go.Proofs.Ytamjjeakkkdfhaa.OP
namespace Go.Proofs.Ytamjjeakkkdfhaa.PB
end Go.Proofs.Ytamjjeakkkdfhaa.PB
namespace Go.Proofs.Ytamjjeakkkdfhaa.PC
end Go.Proofs.Ytamjjeakkkdfhaa.PC
namespace Go.Proofs.Ytamjjeakkkdfhaa.PD
end Go.Proofs.Ytamjjeakkkdfhaa.PD
namespace Go.Proofs.Ytamjjeakkkdfhaa.rulesCounted
end Go.Proofs.Ytamjjeakkkdfhaa.rulesCounted
namespace Go.Proofs.YtamjjeakkkdfhaaE
end Go.Proofs.YtamjjeakkkdfhaaE
namespace Go.Proofs.YtamjjeakkkdfhaaRF
end Go.Proofs.YtamjjeakkkdfhaaRF
namespace Go.Proofs.YtamjjeakkkdfhaaW.PrintLast
end Go.Proofs.YtamjjeakkkdfhaaW.PrintLast
namespace Go.Proofs.YtamjjeakkkdfhaaW.PrintMore
end Go.Proofs.YtamjjeakkkdfhaaW.PrintMore
namespace Go.Proofs.YtamjjeakkkdfhaaW.PrintWords
end Go.Proofs.YtamjjeakkkdfhaaW.PrintWords
namespace Kd
end Kd
section
namespace Go.Proofs.Ytamjjeakkkdfhaa.G
open Go.RowKit Go.Shelf Go.Proofs.YtamjjeakkkdfhaaW.PrintWords Go.Proofs.YtamjjeakkkdfhaaW.PrintLast Go.Proofs.YtamjjeakkkdfhaaW.PrintMore
open Go.Proofs.YtamjjeakkkdfhaaRF Go.Proofs.Ytamjjeakkkdfhaa.K Go.Proofs.YtamjjeakkkdfhaaE
set_option linter.unusedVariables false
set_option linter.unusedSimpArgs false
section
attribute [local go_sem high] eqA31
def eqL (x y : S31) : Bool := x.f0.toList == y.f0.toList && (x.f1.toList == y.f1.toList)
def comm (a b : List S31) : List S31 := a.filter fun x => b.any (eqL x)
theorem take_snoc_rd {xs : List S31} {k : Nat} (h : k < xs.length) : xs.take (k + 1) = xs.take k ++ [rd_T31 xs (k : Int)] := by
  rw [List.take_succ_eq_append_getElem h]; simp [rd_T31, List.getD_eq_getElem?_getD, h]
theorem comm_yes {a b : List S31} {k : Nat} (h : k < a.length) (hx : b.any (eqL (rd_T31 a (k : Int))) = true) : comm (a.take (k + 1)) b = comm (a.take k) b ++ [rd_T31 a (k : Int)] := by
  rw [take_snoc_rd h]; simp [comm, List.filter_append, List.filter_cons, hx]
theorem comm_no {a b : List S31} {k : Nat} (h : k < a.length) (hx : b.any (eqL (rd_T31 a (k : Int))) = false) : comm (a.take (k + 1)) b = comm (a.take k) b := by
  rw [take_snoc_rd h]; simp [comm, List.filter_append, List.filter_cons, hx]
theorem any_yes {b : List S31} {x : S31} {j : Nat} (h : j < b.length) (hx : eqL x (rd_T31 b (j : Int)) = true) : b.any (eqL x) = true := by
  rw [List.any_eq_true]; exact ⟨b[j], List.getElem_mem h, by simpa [rd_T31, List.getD_eq_getElem?_getD, h] using hx⟩
theorem any_no {b : List S31} {x : S31} {j : Nat} (h : j < b.length) (h0 : (b.take j).any (eqL x) = false) (hx : eqL x (rd_T31 b (j : Int)) = false) : (b.take (j + 1)).any (eqL x) = false := by
  rw [take_snoc_rd h, List.any_append, h0]; simp [hx]
theorem R_slice_snoc {α : Type} {d : Kd α} {e base : Nat} {ok : Nat → Prop} {w : World} {v : Value} {xs : List α} {x : α} (h : d.R e w base ok v (xs ++ [x])) : ∃ A c, v = .slice A (xs.length + 1) c := by
  obtain ⟨A, c, e⟩ := Kd.R_slice h
  exact ⟨A, c, by rw [e]; simp⟩
def BoxRow (bl : Nat) (w : World) (acc : List S31) : Prop := ∃ v, w.heap[bl]? = some (.cells #[v] 22 (0, 0)) ∧ Kd.R k31 31 w bl (fun _ => True) v acc
theorem BoxRow.below {bl : Nat} {w w' : World} {acc : List S31} (h : BoxRow bl w acc) (hb : Below w.heap.size w w') : BoxRow bl w' acc := by
  obtain ⟨v, h1, h2⟩ := h; exact ⟨v, blk_below h1 hb, Kd.R_below h2 hb⟩
set_option maxRecDepth 100000 in
set_option maxHeartbeats 2000000 in
theorem labels_Common.calls (A0 : Option Addr) (c0 : Nat) (l0 : List S31) (A1 : Option Addr) (c1 : Nat) (l1 : List S31) (w : World) (hr0 : k31.C w A0 l0.length l0) (hr1 : k31.C w A1 l1.length l1) (hz : l0.length * 32 ≤ 140737488351232) :
    Calls Try.prog 14 #[.slice A0 l0.length c0, .slice A1 l1.length c1] w fun e w' => e = .returned (.func (.func 73) #[] #[.pointer (some ⟨w.heap.size, 0, none⟩)]) ∧ BoxRow w.heap.size w' (comm l0 l1) ∧ Below w.heap.size w w' := by
  have hu_label := Try.underlying31
  have HR0 := Aside0.mk hr0
  have HR1 := Aside0.mk hr1
  have hl1 := hr1.2.1
  clear hr0 hr1
  go_enter Try.func14, Try.ntmps14
  go_wp2
  go_loopw [12] (fun i wr => ∃ k : Nat, k ≤ l0.length ∧ i = .int .i64 k ∧ Aside0 (BoxRow w.heap.size wr (comm (l0.take k) l1)) ∧ Aside0 (Below w.heap.size w wr)) (fun i _ => l0.length - (intOf i).toNat)
  case atStart => exact ⟨0, Nat.zero_le _, rfl, ⟨_, blk_new _ _, Kd.R_nil _ _ _ _ _⟩, ⟨below_alloc (Below.refl _ _) _⟩⟩
  case round =>
    obtain ⟨k, hk, rfl, HX, HB⟩ := hrel
    obtain ⟨wo, rfl⟩ : ∃ wo : World, wo = wr := ⟨_, rfl⟩
    by_cases hlt : k < l0.length
    · obtain ⟨ad, e, hx0, hx1⟩ := at_T31 HR0.out (k : Int) (by omega) (by omega)
      cases e
      simp only [Int.toNat_natCast] at hx0 hx1
      replace hx0 := (HB.out.cell (World.block_lt_of_cell? w _ hx0)).trans hx0
      replace hx1 := (HB.out.cell (World.block_lt_of_cell? w _ hx1)).trans hx1
      have HX1 := Aside0.mk (HX.out.below (below_alloc (Below.refl _ wo) (.cells #[.string (rd_T31 l0 k).f0, .string (rd_T31 l0 k).f1] 31)))
      have HB1 := Aside0.mk (below_alloc HB.out (.cells #[.string (rd_T31 l0 k).f0, .string (rd_T31 l0 k).f1] 31))
      go_wp2
      clear hx0 hx1 HX
      go_loopw [18] (fun j w2 => ∃ q : Nat, q ≤ l1.length ∧ j = .int .i64 q ∧ Aside0 (w2.heap[wo.heap.size]? = some (.cells #[.string (rd_T31 l0 k).f0, .string (rd_T31 l0 k).f1] 31 (0, 0))) ∧ Aside0 (BoxRow w.heap.size w2 (comm (l0.take k) l1)) ∧ Aside0 (Below w.heap.size w w2) ∧ Aside0 ((l1.take q).any (eqL (rd_T31 l0 k)) = false)) (fun j _ => l1.length - (intOf j).toNat)
      case atStart => exact ⟨0, Nat.zero_le _, rfl, ⟨blk_new _ _⟩, HX1, HB1, ⟨by simp⟩⟩
      case round =>
        clear HX1 HB1
        obtain ⟨q, hq, rfl, HX, HA, HB2, HN⟩ := hrel
        by_cases hlq : q < l1.length
        · obtain ⟨ae, e, hy0, hy1⟩ := at_T31 HR1.out (q : Int) (by omega) (by omega)
          cases e
          simp only [Int.toNat_natCast] at hy0 hy1
          replace hy0 := (HB2.out.cell (World.block_lt_of_cell? w _ hy0)).trans hy0
          replace hy1 := (HB2.out.cell (World.block_lt_of_cell? w _ hy1)).trans hy1
          have hx0 : wr.cell? ⟨wo.heap.size, 0, none⟩ = some (.string (rd_T31 l0 k).f0) := blk_cell HX.out 0
          have hx1 : wr.cell? ⟨wo.heap.size, 1, none⟩ = some (.string (rd_T31 l0 k).f1) := blk_cell HX.out 1
          obtain ⟨v, hv, hrow⟩ := HA.out
          have hc5 : wr.cell? ⟨w.heap.size, 0, none⟩ = some v := blk_cell hv 0
          have hf5 : wr.frozen? ⟨w.heap.size, 0, none⟩ = false := blk_frozen hv 0
          have hbo : wo.heap.size < wr.heap.size := blk_lt HX.out
          have hbl : w.heap.size < wr.heap.size := blk_lt hv
          by_cases he : eqL (rd_T31 l0 k) (rd_T31 l1 q) = true
          · have hb : ((rd_T31 l0 k).f0.toList == (rd_T31 l1 q).f0.toList && ((rd_T31 l0 k).f1.toList == (rd_T31 l1 q).f1.toList)) = true := he
            have HE := Aside0.mk he
            clear he
            have HR := Aside0.mk hrow
            have HV := Aside0.mk hv
            clear hrow hv HX HA
            have hlen : (comm (l0.take k) l1).length ≤ k := Nat.le_trans (List.length_filter_le _ _) (List.length_take_le _ _)
            have hany := Aside0.mk (comm_yes hlt (any_yes hlq HE.out))
            have R8 := Aside0.mk (Kd.R_alloc HR.out (.cells #[.string (rd_T31 l1 q).f0, .string (rd_T31 l1 q).f1] 31))
            have V8 := Aside0.mk (blk_alloc HV.out (.cells #[.string (rd_T31 l1 q).f0, .string (rd_T31 l1 q).f1] 31))
            have N8 := Kd.R_ne R8.out V8.out (by decide)
            go_wp2_with (at_builtin; refine hold ?_)
            refine Hold.intro ?_
            refine Kd.R_append k31 (w0 := w) w.heap.size rfl (.tmp 25) (.tmp 27) 22 31 (.agg #[(.string ⟨#[]⟩), (.string ⟨#[]⟩)]) 32 rfl Try.underlying22 info31 rfl (by decide) (by omega) v (comm (l0.take k) l1) (rd_T31 l0 k) [.string (rd_T31 l0 k).f0, .string (rd_T31 l0 k).f1] (fun _ => True) (fun _ => False) rfl (by show Value.slice (some ⟨wr.heap.size + 1, 0, none⟩) 1 1 = _; rw [World.size_alloc]) (k31_mkM _ _ _ _) (fun _ hk => hk.elim) (fun _ _ => trivial) R8.out (below_alloc HB2.out _) (below_size (below_alloc HB2.out _)) (by omega) ?_
            intro v2 w9 ho hb2 hg hat
            obtain ⟨A2, c2, rfl⟩ := R_slice_snoc ho
            have n0_ := Aside0.mk ho
            have n1_ := Aside0.mk hb2
            have hv9 := blk_grown V8.out hg N8
            have hc9 : w9.cell? ⟨w.heap.size, 0, none⟩ = some v := blk_cell hv9 0
            have hf9 : w9.frozen? ⟨w.heap.size, 0, none⟩ = false := blk_frozen hv9 0
            have n2_ := Aside0.mk hv9
            clear ho hb2 hg hat hv9 hc5 hf5
            go_wp2
            go_roundw
            case rel => exact ⟨k + 1, by omega, by simp, ⟨_, blk_put n2_.out 0 _ rfl, by rw [hany.out]; exact Kd.R_set n0_.out n2_.out (by decide) 0 _⟩, ⟨n1_.out.setCell (Nat.le_refl _) _⟩⟩
            case measure => simp [intOf]; omega
          · have hb : ((rd_T31 l0 k).f0.toList == (rd_T31 l1 q).f0.toList && ((rd_T31 l0 k).f1.toList == (rd_T31 l1 q).f1.toList)) = false := Bool.eq_false_iff.mpr he
            have HE := Aside0.mk (show eqL (rd_T31 l0 k) (rd_T31 l1 q) = false from hb)
            clear he
            have HA' := Aside0.mk (HA.out.below (below_alloc (Below.refl _ wr) (.cells #[.string (rd_T31 l1 q).f0, .string (rd_T31 l1 q).f1] 31)))
            have HX' := Aside0.mk (blk_alloc HX.out (.cells #[.string (rd_T31 l1 q).f0, .string (rd_T31 l1 q).f1] 31))
            have HB' := Aside0.mk (below_alloc HB2.out (.cells #[.string (rd_T31 l1 q).f0, .string (rd_T31 l1 q).f1] 31))
            clear hrow hv HX HA HB2
            go_wp2
            clear hb
            go_roundw
            case rel => exact ⟨q + 1, by omega, by simp, HX', HA', HB', ⟨any_no hlq HN.out HE.out⟩⟩
            case measure => simp [intOf]; omega
        · obtain rfl : q = l1.length := by omega
          have HA' := Aside0.mk (show BoxRow w.heap.size wr (comm (l0.take (k + 1)) l1) by rw [comm_no hlt (by simpa using HN.out)]; exact HA.out)
          clear HA HX
          go_wp2
          go_roundw
          case rel => exact ⟨k + 1, by omega, by simp, HA', HB2⟩
          case measure => simp [intOf]; omega
    · obtain rfl : k = l0.length := by omega
      go_wp2
      go_ret
      exact ⟨rfl, by simpa using HX.out, HB.out⟩
end
section
attribute [local go_sem] Oper.semAt_some
theorem add_block (a : Addr) (k : Nat) : (a.add k).block = a.block := by unfold Addr.add; split <;> rfl
theorem C_same {α : Type} {d : Kd α} (hd : ∀ {w w' : World} {x : α} {cs : List Value}, d.K w x cs → d.K w' x cs) {w w1 : World} {A : Option Addr} {n : Nat} {xs : List α} (h : d.C w A n xs)
    (hb : ∀ ad, A = some ad → 0 < n → w1.heap[ad.block]? = w.heap[ad.block]?) : d.C w1 A n xs :=
  ⟨h.1, h.2.1, fun hn => by
    obtain ⟨ad, e, hc⟩ := h.2.2 hn
    refine ⟨ad, e, fun j p hj => ?_⟩
    obtain ⟨c, hs, hr, hcell⟩ := hc j p hj
    refine ⟨c, hs, hd hr, fun i u hu => ?_⟩
    rw [← hcell i u hu]
    exact World.cell?_of_block (by rw [add_block]; exact hb ad e hn)⟩
theorem k31_flat {w w' : World} {x : S31} {cs : List Value} (h : k31.K w x cs) : k31.K w' x cs := h
theorem w1 {k n : Nat} (h : k < n) (hn : Aside0 (n ≤ 9223372036854775807)) : wrap64 ((k : Int) + 1) = ((k + 1 : Nat) : Int) := by have := hn.out; unfold wrap64; omega
def lab (x : S31) : Array Value := #[.agg #[.string x.f0, .string x.f1]]
def comS (B : Nat) (A : Option Addr) (n : Nat) (k : Nat) : Prop := k = B ∨ ∃ ad, A = some ad ∧ 0 < n ∧ k = ad.block
set_option maxRecDepth 100000 in
set_option maxHeartbeats 2000000 in
theorem labels_Common_1.iter (B : Nat) (A : Option Addr) (c : Nat) (xs : List S31) (w0 : World) (hB : w0.heap[B]? = some (.cells #[.slice A xs.length c] 22 (0, 0))) (hr : k31.C w0 A xs.length xs) :
    IterAt Try.prog 73 #[.pointer (some ⟨B, 0, none⟩)] (xs.map lab) (comS B A xs.length) (fun _ => False) 0 w0 := by
  intro l J Jx W hW hJ hJx hY h0
  have hlt : B < w0.heap.size := (Array.getElem?_eq_some_iff.1 hB).1
  have hB1 : W.heap[B]? = some (.cells #[.slice A xs.length c] 22 (0, 0)) := (hW.2 B (.inl rfl) hlt).trans hB
  have hr1 : k31.C W A xs.length xs := C_same k31_flat hr (fun ad e hn => by
    obtain ⟨ad', e', hc⟩ := hr.2.2 hn
    obtain rfl : ad' = ad := by rw [e] at e'; injection e' with e'; exact e'.symm
    obtain ⟨c', hs, _, hcell⟩ := hc 0 (xs[0]'hn) (by simp)
    have := World.block_lt_of_cell? w0 _ (hcell 0 (c'[0]'(by rw [hs]; decide)) (by simp))
    rw [add_block] at this
    exact hW.2 _ (.inr ⟨_, e, hn, rfl⟩) this)
  have hin : ∀ ad, A = some ad → 0 < xs.length → ad.block < W.heap.size := fun ad e hn => by
    obtain ⟨ad', e', hc⟩ := hr1.2.2 hn
    obtain rfl : ad' = ad := by rw [e] at e'; injection e' with e'; exact e'.symm
    obtain ⟨c', hs, _, hcell⟩ := hc 0 (xs[0]'hn) (by simp)
    have := World.block_lt_of_cell? W _ (hcell 0 (c'[0]'(by rw [hs]; decide)) (by simp))
    rwa [add_block] at this
  have hlen := hr.2.1
  clear hB hr hW
  have hcell : W.cell? ⟨B, 0, none⟩ = some (.slice A xs.length c) := by simp [World.cell?, hB1]
  refine callsIn_of_wp Try.func73 rfl trivial ?_ rfl
  simp only [Try.ntmps73, List.size_toArray, List.length_cons, List.length_nil, Nat.reduceAdd, Nat.reduceSub, Array.replicate_succ, Array.replicate_zero, List.push_toArray, List.append_toArray, List.nil_append, List.cons_append]
  gi_wp2
  gi_loopw [7] (fun i wr => ∃ k : Nat, k ≤ xs.length ∧ i = .int .i64 k ∧ Aside0 (J k wr) ∧ Aside0 (Keep (comS B A xs.length) W wr)) (fun i _ => xs.length - (intOf i).toNat)
  case atStart => exact ⟨0, Nat.zero_le _, rfl, ⟨h0⟩, ⟨Keep.refl _ _⟩⟩
  case round =>
    obtain ⟨k, hk, rfl, HJ, HK⟩ := hrel
    by_cases hlt' : k < xs.length
    · have hr2 : k31.C wr A xs.length xs := C_same k31_flat hr1 (fun ad e hn => HK.out.2 _ (.inr ⟨_, e, hn, rfl⟩) (hin ad e hn))
      obtain ⟨ad, e, hx0, hx1⟩ := at_T31 hr2 (k : Int) (by omega) (by omega)
      have hy0 := hY k (wr.alloc (.cells #[.string (rd_T31 xs k).f0, .string (rd_T31 xs k).f1] 31)) (lab (rd_T31 xs k)) (by rw [List.getElem?_map, List.getElem?_eq_getElem hlt']; simp [rd_T31, List.getD_eq_getElem?_getD, hlt']) (firm_alloc (hJ k) _ HJ.out) (by have := HK.out.1; simp; omega)
      obtain ⟨fn, tmps, assign, body, hy, hR⟩ := hy0
      simp only [lab] at hy
      clear hr2 hr1 hY h0 hin
      cases e
      simp only [Int.toNat_natCast] at hx0 hx1
      gi_wp2
      refine ⟨rfl, hR.mono ?_⟩
      rintro e W3 (⟨rfl, hJ3, hk3⟩ | ⟨rfl, hJx3⟩)
      · have HJ3 := Aside0.mk hJ3
        have HK3 := Aside0.mk hk3
        clear hJ3 hk3 hy hR
        gi_wp2
        go_roundw
        case rel => exact ⟨k + 1, by omega, by simp, HJ3, ⟨HK.out.trans ((Keep.grown (World.grownBy_alloc wr _ none) (fun r e => by cases e)).trans (HK3.out.mono (fun k h => .inl h)))⟩⟩
        case measure => simp [intOf]; omega
      · have HJ3 := Aside0.mk hJx3
        clear hJx3 hy hR
        gi_wp2
        refine bodyPost_ret (results_none rfl _ _ _) rfl ?_
        exact ⟨⟨_, rfl⟩, .inr ⟨k + 1, by simp; omega, HJ3.out⟩⟩
    · obtain rfl : k = xs.length := by omega
      gi_wp2
      go_end0
      exact ⟨⟨_, rfl⟩, .inl (by rw [List.length_map]; exact HJ.out)⟩
theorem eqB (a b : Nat) : ((a : Int) == (b : Int)) = decide (a = b) := by rw [Bool.eq_iff_iff]; simp; omega
def labels_Matches.f (l0 l1 : List S31) : Option Bool := if l0.length * 32 ≤ 140737488351232 then some (decide ((comm l0 l1).length = l0.length)) else none
set_option maxRecDepth 100000 in
set_option maxHeartbeats 2000000 in
theorem labels_Matches.calls (A0 : Option Addr) (c0 : Nat) (l0 : List S31) (A1 : Option Addr) (c1 : Nat) (l1 : List S31) (r : Bool) (w : World) (hr0 : k31.C w A0 l0.length l0) (hc0 : l0.length ≤ c0) (hr1 : k31.C w A1 l1.length l1) (hc1 : l1.length ≤ c1) (h : labels_Matches.f l0 l1 = some r) :
    Calls Try.prog 15 #[.slice A0 l0.length c0, .slice A1 l1.length c1] w fun e w' => e = .returned (.bool r) ∧ Below w.heap.size w w' := by
  unfold labels_Matches.f at h
  by_cases hz : l0.length * 32 ≤ 140737488351232
  · rw [if_pos hz] at h
    have HR := Aside0.mk (Option.some.inj h)
    clear h hc0 hc1
    have HR0 := Aside0.mk hr0
    have HR1 := Aside0.mk hr1
    clear hr0 hr1
    refine (callsIn_wide (n := 0)).1 ?_
    refine callsIn_of_wp_marks Try.func15 rfl trivial ?_
    simp only [Try.ntmps15, List.size_toArray, List.length_cons, List.length_nil, Nat.reduceAdd, Nat.reduceSub, Array.replicate_succ, Array.replicate_zero, List.push_toArray, List.append_toArray, List.nil_append, List.cons_append]
    gi_wp2_with (gi_at_call 14; refine hold ?_)
    refine ⟨trivial, rfl, (callsIn_wide.2 (labels_Common.calls A0 c0 l0 A1 c1 l1 _ (Kd.C_alloc HR0.out _) (Kd.C_alloc HR1.out _) hz)).mono ?_⟩
    rintro e w1 ⟨rfl, hx, hb⟩
    have hbn : w1.heap[w.heap.size]? = some (.cells #[.int .i64 0] 3 (0, 0)) := blk_below (blk_new w _) hb
    have HB1 := Aside0.mk (below_step (below_alloc (Below.refl _ w) _) hb)
    obtain ⟨v, hv, hrow⟩ := hx
    rw [World.size_alloc] at hv hrow
    have hbase := Kd.R_base hrow
    obtain ⟨A, c, rfl, hlc, hC⟩ := Kd.R_reads hrow
    have it := labels_Common_1.iter (w.heap.size + 1) A c (comm l0 l1) w1 hv hC
    have hge : ∀ k, comS (w.heap.size + 1) A (comm l0 l1).length k → w.heap.size + 1 ≤ k ∧ k < w1.heap.size := fun k hk => by
      rcases hk with rfl | ⟨ad, rfl, hn, rfl⟩
      · exact ⟨Nat.le_refl _, blk_lt hv⟩
      · refine ⟨hbase _ rfl, Kd.R_lt hrow _ rfl⟩
    have hlen : (comm l0 l1).length ≤ l0.length := List.length_filter_le _ _
    have HV := Aside0.mk hv
    clear hrow hv hbase hb
    gi_wp2
    have hns : w.heap.size < w1.heap.size := blk_lt hbn
    have firm : ∀ i : Nat, Firm (Its (fun _ => False) w1.heap.size (0 + 2)) (fun W => W.heap[w.heap.size]? = some (.cells #[.int .i64 i] 3 (0, 0)) ∧ Below w.heap.size w W) := fun i A B h st => by
      obtain ⟨row, hg, hr⟩ := st
      have hr' : ∀ r, row = some r → w1.heap.size ≤ r := fun r e => by
        rcases hr r e with h | ⟨h, _⟩
        · exact h.elim
        · exact h
      exact ⟨blk_grown h.1 hg (fun e => by have := hr' _ e.symm; omega), h.2.grown hg h.2.size (fun r e => by have := hr' r e; omega)⟩
    refine wpIn_range (gf := 73) (lb := #[.pointer (some ⟨w.heap.size + 1, 0, none⟩)]) rfl (enters_of Try.func73 (by kernel_rfl) rfl) it (fun k hk => (hge k hk).2) (fun k hk => hk.elim) (fun i x hx => by
        rw [List.getElem?_map] at hx
        obtain ⟨y, _, rfl⟩ := Option.map_eq_some_iff.1 hx
        rfl)
      (fun i W => W.heap[w.heap.size]? = some (.cells #[.int .i64 i] 3 (0, 0)) ∧ Below w.heap.size w W) (fun _ _ _ => False)
      (fun i a' W => i < (comm l0 l1).length ∧ (W.heap[w.heap.size]? = some (.cells #[.int .i64 i] 3 (0, 0)) ∧ Below w.heap.size w W) ∧ ∃ x : Value, a' = { tmps := #[.slice A0 l0.length c0, .slice A1 l1.length c1, undef, undef, .bool false, .pointer (some ⟨w.heap.size, 0, none⟩), .slice A0 l0.length c0, .slice A1 l1.length c1, .func (.func 73) #[] #[.pointer (some ⟨w.heap.size + 1, 0, none⟩)], x, undef, undef, undef, undef, undef, undef], defers := [] })
      firm (fun _ _ _ _ h _ => h) (fun i a' A B h st => ⟨h.1, firm i A B h.2.1 st, h.2.2⟩) ⟨hbn, HB1.out⟩ ?assign ?body ?done (fun _ _ _ _ h => h.elim)
    case assign =>
      intro l i W x K hx hI hz2 hK
      rw [List.getElem?_map] at hx
      obtain ⟨y, hy, rfl⟩ := Option.map_eq_some_iff.1 hx
      have hil := (List.getElem?_eq_some_iff.1 hy).1
      gi_wp2
      exact hK _ _ (Books.refl _ _) (Keep.refl _ _) ⟨by simpa using hil, hI, .agg #[.string y.f0, .string y.f1], by simp [lab]⟩
    case body =>
      rintro l i a' W hi ⟨hil, ⟨h1, h2⟩, x, rfl⟩ hz2
      have hc1 : W.cell? ⟨w.heap.size, 0, none⟩ = some (.int .i64 i) := blk_cell h1 0
      have hf1 : W.frozen? ⟨w.heap.size, 0, none⟩ = false := blk_frozen h1 0
      have H1 := Aside0.mk h1
      have H2 := Aside0.mk h2
      have Hge := Aside0.mk hge
      clear h1 h2 it hge firm
      gi_wp2
      refine ⟨Books.grown (grownBy_setCell' _ _ _) (fun r e => by cases e; omega), Keep.grown (grownBy_setCell' _ _ _) (fun r e hs => ?_), blk_put H1.out 0 _ (by simp), H2.out.setCell (Nat.le_refl _) _⟩
      cases e
      rcases hs with hs | ⟨hs, _⟩
      · have := (Hge.out _ hs).1; omega
      · omega
    case done =>
      rintro W ⟨h1, h2⟩ hd hz2
      have hc1 : W.cell? ⟨w.heap.size, 0, none⟩ = some (.int .i64 ((comm l0 l1).map lab).length) := blk_cell h1 0
      have hz3 : w1.heap.size < W.heap.size := by omega
      have H2 := Aside0.mk h2
      clear h1 h2 it firm hge
      gi_wp2
      refine ⟨by simp, .inl ⟨_, _, rfl, run_takeDeferred hd, ?_⟩⟩
      refine ⟨_, results_tmp rfl _ _ _, ?_, H2.out.grown (grownBy_putObj' _ _ _) H2.out.size (fun k e => by cases e; omega)⟩
      rw [← HR.out]
      exact congrArg (fun b => Ending.returned (Value.bool b)) (eqB _ _)
  · rw [if_neg hz] at h; exact absurd h (by simp)
end
end Go.Proofs.Ytamjjeakkkdfhaa.G
end
section
namespace Go.Proofs.Ytamjjeakkkdfhaa.G
open Go.RowKit Go.Proofs.YtamjjeakkkdfhaaW.PrintWords Go.Proofs.YtamjjeakkkdfhaaW.PrintLast Go.Proofs.YtamjjeakkkdfhaaW.PrintMore
open Go.Proofs.Ytamjjeakkkdfhaa.K Go.Proofs.YtamjjeakkkdfhaaE
set_option linter.unusedVariables false
set_option linter.unusedSimpArgs false
def matchL (sel l : List S31) : Bool := decide ((comm sel l).length = sel.length)
theorem matches_co (A0 : Option Addr) (c0 : Nat) (l0 : List S31) (A1 : Option Addr) (c1 : Nat) (l1 : List S31) (w : World) (hr0 : k31.C w A0 l0.length l0) (hc0 : l0.length ≤ c0) (hr1 : k31.C w A1 l1.length l1) (hc1 : l1.length ≤ c1) (hz : l0.length * 32 ≤ 140737488351232) :
    Calls Try.prog 15 #[.slice A0 l0.length c0, .slice A1 l1.length c1] w fun e w' => e = .returned (.bool (matchL l0 l1)) ∧ Below w.heap.size w w' :=
  labels_Matches.calls A0 c0 l0 A1 c1 l1 _ w hr0 hc0 hr1 hc1 (by unfold labels_Matches.f; rw [if_pos hz]; rfl)
def isGuard (sel : List S31) (x : S68) : Bool := x.f14 && (!x.f15 && matchL sel x.f4)
set_option maxRecDepth 100000 in
set_option maxHeartbeats 2000000 in
theorem Guarded_1 (B : Nat) (b : S68) (v4 v27 : Value) (w0 : World) (hB : w0.heap[B]? = some (.cells (cO b v4 v27) 68 (0, 0))) (hk : kO w0 b v4 v27) (hz : b.f25.length * 32 ≤ 140737488351232) : PredK 90 #[.pointer (some ⟨B, 0, none⟩)] (isGuard b.f25) w0 := by
  intro W x cs hW hK
  obtain ⟨x4, x27, rfl, hx⟩ := K_kO hK
  have HB := Aside0.mk (blk_below hB hW)
  have HKB := Aside0.mk (kO_below hk hW)
  have HKX := Aside0.mk hx
  have HZ := Aside0.mk hz
  clear hB hW hK hk hx hz
  have hu68 := Try.underlying68
  rw [Array.toArray_toList]
  go_enter Try.func90, Try.ntmps90
  go_wp2_with ((with_reducible refine gate_dst (N := 2) rfl ?_); refine hold ?_)
  refine Hold.intro ?_
  refine box_event (N := 2) (cs := cO x x4 x27) (t := 68) rfl rfl ?hs ?_
  case hs => unfold cO; first | (go_simp; done) | (go_simp; rfl)
  intro gx hg w1 hbox hb
  have HX := Aside0.mk hbox
  have HB1 := Aside0.mk hb
  clear hbox hb hg
  have hc15 : w1.cell? ⟨gx, 15, none⟩ = some (.bool x.f14) := (blk_cell HX.out 15).trans rfl
  have hc16 : w1.cell? ⟨gx, 16, none⟩ = some (.bool x.f15) := (blk_cell HX.out 16).trans rfl
  cases h14 : x.f14 with
  | false =>
    rw [h14] at hc15
    have HE := Aside0.mk (show isGuard b.f25 x = false by unfold isGuard; rw [h14]; rfl)
    clear h14
    go_wp2
    go_ret
    exact ⟨retB HE.out.symm, HB1.out⟩
  | true =>
    rw [h14] at hc15
    cases h15 : x.f15 with
    | true =>
      rw [h15] at hc16
      have HE := Aside0.mk (show isGuard b.f25 x = false by unfold isGuard; rw [h14, h15]; rfl)
      clear h14 h15
      go_wp2
      go_ret
      exact ⟨retB HE.out.symm, HB1.out⟩
    | false =>
      rw [h15] at hc16
      have HE := Aside0.mk (show isGuard b.f25 x = matchL b.f25 x.f4 by unfold isGuard; rw [h14, h15]; rfl)
      clear h14 h15
      obtain ⟨A4, c4, A27, c27, rfl, rfl, l4, g4, l27, g27⟩ := HKX.out
      obtain ⟨D4, d4, D27, d27, e4, e27, m4, h4, m27, h27⟩ := HKB.out
      subst e4 e27
      have G4 := Aside0.mk (Kd.C_below g4 HB1.out)
      have G27 := Aside0.mk (Kd.C_below h27 HB1.out)
      have L4 := Aside0.mk l4
      have L27 := Aside0.mk m27
      have hcb : w1.cell? ⟨B, 27, none⟩ = some (.slice D27 b.f25.length d27) := (blk_cell (blk_below HB.out HB1.out) 27).trans rfl
      have hcx : w1.cell? ⟨gx, 4, none⟩ = some (.slice A4 x.f4.length c4) := (blk_cell HX.out 4).trans rfl
      clear g4 h27 l4 m27 l27 g27 m4 h4
      go_wp2_with (go_at_call 15; refine hold ?_)
      refine Hold.intro ((matches_co _ _ b.f25 _ _ x.f4 _ G27.out L27.out G4.out L4.out HZ.out).mono ?_)
      rintro e w2 ⟨rfl, hb⟩
      have HB2 := Aside0.mk (below_step HB1.out hb)
      rw [← HE.out]
      clear hb HE hcb hcx hc15 hc16
      go_wp2
      go_ret
      exact ⟨rfl, HB2.out⟩
set_option maxRecDepth 100000 in
set_option maxHeartbeats 2000000 in
theorem guarded_co (A0 : Option Addr) (c0 : Nat) (l0 : List S68) (A1 : Option Addr) (c1 : Nat) (l1 : List S68) (A2 : Option Addr) (c2 : Nat) (l2 : List S68) (A3 : Option Addr) (c3 : Nat) (l3 : List S68) (b : S68) (v4 v27 : Value) (w : World) (hr1 : k68.C w A1 l1.length l1) (hk : kO w b v4 v27) (hz : b.f25.length * 32 ≤ 140737488351232) :
    Calls Try.prog 40 #[.agg #[.slice A0 l0.length c0, .slice A1 l1.length c1, .slice A2 l2.length c2, .slice A3 l3.length c3], .agg (cO b v4 v27)] w fun e w' => e = .returned (.int .i64 (countL (isGuard b.f25) l1)) ∧ Below w.heap.size w w' := by
  have HR := Aside0.mk hr1
  have HK := Aside0.mk hk
  have HZ := Aside0.mk hz
  clear hr1 hk hz
  have hu59 := Try.underlying59
  go_enter Try.func40, Try.ntmps40
  go_wp2_with ((with_reducible refine gate_dst (N := 2) rfl ?_); refine hold ?_)
  refine Hold.intro ?_
  refine box_event (N := 2) (cs := #[.slice A0 l0.length c0, .slice A1 l1.length c1, .slice A2 l2.length c2, .slice A3 l3.length c3]) (t := 59) rfl rfl ?hf ?_
  case hf => first | (go_simp; done) | (go_simp; rfl)
  intro gf hg w1 hbox hb
  have HF := Aside0.mk hbox
  have HB1 := Aside0.mk hb
  clear hbox hb hg
  go_wp2_with ((with_reducible refine gate_dst (N := 3) rfl ?_); refine hold ?_)
  refine Hold.intro ?_
  refine box_event (N := 3) (cs := cO b v4 v27) (t := 68) rfl rfl ?hs ?_
  case hs => unfold cO; first | (go_simp; done) | (go_simp; rfl)
  intro gb hg w2 hbox hb
  have HX := Aside0.mk hbox
  replace HF := Aside0.mk (blk_below HF.out hb)
  have HB2 := Aside0.mk (below_step HB1.out hb)
  clear hbox hb hg HB1
  have hc1 : w2.cell? ⟨gf, 1, none⟩ = some (.slice A1 l1.length c1) := (blk_cell HF.out 1).trans rfl
  go_wp2_with (go_at_call 85; refine hold ?_)
  refine Hold.intro ((rules_count_obj.calls A1 c1 l1 90 #[.pointer (some ⟨gb, 0, none⟩)] (isGuard b.f25) w2 (Kd.C_below HR.out HB2.out) (Guarded_1 gb b v4 v27 w2 HX.out (kO_below HK.out HB2.out) HZ.out) (enters_of Try.func90 (by kernel_rfl) rfl)).mono ?_)
  rintro e w3 ⟨rfl, hb⟩
  have HB3 := Aside0.mk (below_step HB2.out hb)
  clear hb HB2 hc1
  go_wp2
  go_ret
  exact ⟨rfl, HB3.out⟩
end Go.Proofs.Ytamjjeakkkdfhaa.G
end
section
namespace Go.Proofs.Ytamjjeakkkdfhaa.PB
open Go.RowKit Go.Proofs.YtamjjeakkkdfhaaW.PrintWords Go.Proofs.YtamjjeakkkdfhaaW.PrintLast Go.Proofs.YtamjjeakkkdfhaaW.PrintMore
open Go.Proofs.Ytamjjeakkkdfhaa.K Go.Proofs.Ytamjjeakkkdfhaa.G Go.Proofs.YtamjjeakkkdfhaaE
attribute [local go_sem] max2_int min2_int max_two min_two max_three min_three max_four min_four
set_option linter.unusedVariables false
set_option linter.unusedSimpArgs false
def flotillaref16_Owned.l0 : Nat → ByteArray → Int → Int → List (S68) → List (S68) → List (S68) → List (S68) → Option (Int)
  | 0, _, _, _, _, _, _, _ => none
  | k + 1, x1, x5, x6, x262000, x262001, x262002, x262003 => if x6 < (x262001.length : Int) then (if 0 ≤ x6 then (if ((rd_T68 x262001 x6).f10).toList = x1.toList then (if ((rd_T68 x262001 x6).f15 = true) then (flotillaref16_Owned.l0 k x1 x5 (wrap64 (x6 + 1)) x262000 x262001 x262002 x262003) else (flotillaref16_Owned.l0 k x1 (wrap64 (x5 + 1)) (wrap64 (x6 + 1)) x262000 x262001 x262002 x262003)) else (flotillaref16_Owned.l0 k x1 x5 (wrap64 (x6 + 1)) x262000 x262001 x262002 x262003)) else (none)) else (some x5)
def flotillaref16_Owned.f (k : Nat) (l0_0 : List (S68)) (l0_1 : List (S68)) (l0_2 : List (S68)) (l0_3 : List (S68)) (a1 : ByteArray) : Option (Int) := flotillaref16_Owned.l0 k a1 0 0 l0_0 l0_1 l0_2 l0_3
set_option maxHeartbeats 8000000 in
set_option maxRecDepth 100000 in
theorem flotillaref16_Owned.calls (k : Nat) (A0_0 : Option Addr) (c0_0 : Nat) (l0_0 : List (S68)) (A0_1 : Option Addr) (c0_1 : Nat) (l0_1 : List (S68)) (A0_2 : Option Addr) (c0_2 : Nat) (l0_2 : List (S68)) (A0_3 : Option Addr) (c0_3 : Nat) (l0_3 : List (S68)) (a1 : ByteArray) (r : Int) (w : World) (hr0_0 : Kd.C k68 w A0_0 l0_0.length l0_0) (hc0_0 : l0_0.length ≤ c0_0) (hr0_1 : Kd.C k68 w A0_1 l0_1.length l0_1) (hc0_1 : l0_1.length ≤ c0_1) (hr0_2 : Kd.C k68 w A0_2 l0_2.length l0_2) (hc0_2 : l0_2.length ≤ c0_2) (hr0_3 : Kd.C k68 w A0_3 l0_3.length l0_3) (hc0_3 : l0_3.length ≤ c0_3) (h : flotillaref16_Owned.f k l0_0 l0_1 l0_2 l0_3 a1 = some r) :
    Calls Try.prog 35 #[.agg #[.slice A0_0 l0_0.length c0_0, .slice A0_1 l0_1.length c0_1, .slice A0_2 l0_2.length c0_2, .slice A0_3 l0_3.length c0_3], .string a1] w fun e w' => e = .returned (.int .i64 r) ∧ Below w.heap.size w w' := by
  have hu59 := Try.underlying59
  have HR0_0 := Aside0.mk hr0_0
  have HC0_0 := Aside0.mk hc0_0
  clear hr0_0 hc0_0
  have HR0_1 := Aside0.mk hr0_1
  have HC0_1 := Aside0.mk hc0_1
  clear hr0_1 hc0_1
  have HR0_2 := Aside0.mk hr0_2
  have HC0_2 := Aside0.mk hc0_2
  clear hr0_2 hc0_2
  have HR0_3 := Aside0.mk hr0_3
  have HC0_3 := Aside0.mk hc0_3
  clear hr0_3 hc0_3
  have HB := Aside0.mk (Below.refl w.heap.size w)
  have H : (flotillaref16_Owned.l0 k a1 0 0 l0_0 l0_1 l0_2 l0_3) = some r := h
  clear h
  have H' := Aside0.mk H
  clear H
  go_enter Try.func35, Try.ntmps35
  go_wp2_with (first | ((with_reducible refine gate_dst (N := 2) rfl ?_); refine box_event ?hg (N := 2) ?hd (cs := #[.slice A0_0 l0_0.length c0_0, .slice A0_1 l0_1.length c0_1, .slice A0_2 l0_2.length c0_2, .slice A0_3 l0_3.length c0_3]) (t := 59) ?hr ?_; (case hd => rfl); (case hg => rfl); (case hr => first | (go_simp; done) | (go_simp; rfl)); intro gb261 hg w3 hbox hb; have n0_ := Aside0.mk (below_step (by repeat (first | (with_reducible first | exact HB.out | apply below_alloc | apply pw_below_drewN | apply below_drew1) | exact HB.out)) hb); have n1_ := Aside0.mk (hbox); have n2_ := Aside0.mk ((by rw [hg]; exact (below_size (by repeat (first | (with_reducible first | exact HB.out | apply below_alloc | apply pw_below_drewN | apply below_drew1) | exact HB.out))) : w.heap.size ≤ gb261)); have n3_ := Aside0.mk ((by rw [hg]; exact (below_size (by repeat (first | (with_reducible first | exact HB.out | apply below_alloc | apply pw_below_drewN | apply below_drew1) | exact HB.out))) : w.heap.size ≤ gb261)); clear HB; have HB := n0_; have BK261 := n1_; have GW261 := n2_; have GE261 := n3_; clear n0_ n1_ n2_ n3_; clear hb hbox hg))
  go_loopg [5, 6] k (fun kq v5 v6 w' => ∃ (x5_1 : Int) (x6_1 : Int), v5 = .int .i64 x5_1 ∧ v6 = .int .i64 x6_1 ∧ Aside0 (flotillaref16_Owned.l0 kq a1 x5_1 x6_1 l0_0 l0_1 l0_2 l0_3 = some r) ∧ Aside0 (kq ≤ k) ∧ Aside0 (w'.heap[gb261]? = some (.cells #[(.slice A0_0 l0_0.length c0_0), (.slice A0_1 l0_1.length c0_1), (.slice A0_2 l0_2.length c0_2), (.slice A0_3 l0_3.length c0_3)] 59 (0, 0))) ∧ Aside0 (Below w.heap.size w w'))
  case atStart => exact ⟨(0), (0), (by first | rfl | (simp; done) | (simp [*]; done)), (by first | rfl | (simp; done) | (simp [*]; done)), H', ⟨Nat.le_refl _⟩, ⟨by (with_reducible repeat (first | refine blk_drewN ?_ _ | refine blk_drew ?_ | refine blk_alloc ?_ _)); exact BK261.out⟩, ⟨by repeat (first | (with_reducible first | exact HB.out | apply below_alloc | apply pw_below_drewN | apply below_drew1 | refine below_set ?_ GE261.out) | exact HB.out)⟩⟩
  case round =>
    clear H'
    try clear p2
    try clear c3
    obtain ⟨x5_1, x6_1, rfl, rfl, HA, HK1, BK261, HB⟩ := hrel
    cases gk with
    | zero => exact absurd HA.out (by simp [flotillaref16_Owned.l0])
    | succ k1 =>
      have H := HA.out
      clear HA
      simp only [flotillaref16_Owned.l0] at H
      by_cases c4 : x6_1 < (l0_1.length : Int)
      · rw [if_pos c4] at H
        have c4b0 : decide (x6_1 < (l0_1.length : Int)) = true := decide_eq_true c4
        clear c4
        by_cases c5 : 0 ≤ x6_1
        · rw [if_pos c5] at H
          have c5b0 : decide (0 ≤ x6_1) = true := decide_eq_true c5
          clear c5
          by_cases c6 : ((rd_T68 l0_1 x6_1).f10).toList = a1.toList
          · rw [if_pos c6] at H
            have c6b0 : (((rd_T68 l0_1 x6_1).f10).toList == a1.toList) = true := beq_iff_eq.mpr c6
            have c6b1 : (((rd_T68 l0_1 x6_1).f10).toList != a1.toList) = false := bne_eq_false_iff_eq.mpr c6
            clear c6
            obtain ⟨bq7, hbq7⟩ : ∃ b_ : Bool, b_ = ((rd_T68 l0_1 x6_1).f15) := ⟨_, rfl⟩
            replace H : (if (bq7 = true) then (flotillaref16_Owned.l0 k1 a1 x5_1 (wrap64 (x6_1 + 1)) l0_0 l0_1 l0_2 l0_3) else (flotillaref16_Owned.l0 k1 a1 (wrap64 (x5_1 + 1)) (wrap64 (x6_1 + 1)) l0_0 l0_1 l0_2 l0_3)) = some r := by rw [← hbq7] at H; exact H
            have Nbq7 := Aside0.mk hbq7
            clear hbq7
            by_cases c8 : (bq7 = true)
            · subst c8
              have H1 : (flotillaref16_Owned.l0 k1 a1 x5_1 (wrap64 (x6_1 + 1)) l0_0 l0_1 l0_2 l0_3) = some r := by rw [if_pos rfl] at H; exact H
              clear H
              have H := H1
              clear H1
              have H' := Aside0.mk H
              clear H
              have hcz9_0 : wr.cell? ⟨gb261, 0, none⟩ = some (.slice A0_0 l0_0.length c0_0) := (blk_cell BK261.out 0).trans rfl
              have hcz9_1 : wr.cell? ⟨gb261, 1, none⟩ = some (.slice A0_1 l0_1.length c0_1) := (blk_cell BK261.out 1).trans rfl
              have hcz9_2 : wr.cell? ⟨gb261, 2, none⟩ = some (.slice A0_2 l0_2.length c0_2) := (blk_cell BK261.out 2).trans rfl
              have hcz9_3 : wr.cell? ⟨gb261, 3, none⟩ = some (.slice A0_3 l0_3.length c0_3) := (blk_cell BK261.out 3).trans rfl
              have hfz9_0 := blk_frozen BK261.out 0
              have hfz9_1 := blk_frozen BK261.out 1
              have hfz9_2 := blk_frozen BK261.out 2
              have hfz9_3 := blk_frozen BK261.out 3
              have p262 : 0 ≤ (x6_1 : Int) := of_decide_eq_true (by first | (with_reducible assumption) | assumption)
              have q262 : x6_1 < (l0_1.length : Int) := of_decide_eq_true (by first | (with_reducible assumption) | assumption)
              obtain ⟨ad262, A262_4, c262_4, A262_27, c262_27, e262, hx262_0, hx262_1, hx262_2, hx262_3, hx262_4, hx262_5, hx262_6, hx262_7, hx262_8, hx262_9, hx262_10, hx262_11, hx262_12, hx262_13, hx262_14, hx262_15, hx262_16, hx262_17, hx262_18, hx262_19, hx262_20, hx262_21, hx262_22, hx262_23, hx262_24, hx262_25, hx262_26, hx262_27, hx262_28, hx262_29, hx262_30, hx262_31, hl262_4, hi262_4, hl262_27, hi262_27⟩ := at_T68 HR0_1.out x6_1 p262 q262
              (try rw [← Nbq7.out] at hx262_7)
              (try rw [← Nbq7.out] at hx262_8)
              (try rw [← Nbq7.out] at hx262_9)
              (try rw [← Nbq7.out] at hx262_15)
              (try rw [← Nbq7.out] at hx262_16)
              (try rw [← Nbq7.out] at hx262_25)
              cases e262
              replace hx262_0 := (HB.out.cell (World.block_lt_of_cell? w _ hx262_0)).trans hx262_0
              replace hx262_1 := (HB.out.cell (World.block_lt_of_cell? w _ hx262_1)).trans hx262_1
              replace hx262_2 := (HB.out.cell (World.block_lt_of_cell? w _ hx262_2)).trans hx262_2
              replace hx262_3 := (HB.out.cell (World.block_lt_of_cell? w _ hx262_3)).trans hx262_3
              replace hx262_4 := (HB.out.cell (World.block_lt_of_cell? w _ hx262_4)).trans hx262_4
              replace hx262_5 := (HB.out.cell (World.block_lt_of_cell? w _ hx262_5)).trans hx262_5
              replace hx262_6 := (HB.out.cell (World.block_lt_of_cell? w _ hx262_6)).trans hx262_6
              replace hx262_7 := (HB.out.cell (World.block_lt_of_cell? w _ hx262_7)).trans hx262_7
              replace hx262_8 := (HB.out.cell (World.block_lt_of_cell? w _ hx262_8)).trans hx262_8
              replace hx262_9 := (HB.out.cell (World.block_lt_of_cell? w _ hx262_9)).trans hx262_9
              replace hx262_10 := (HB.out.cell (World.block_lt_of_cell? w _ hx262_10)).trans hx262_10
              replace hx262_11 := (HB.out.cell (World.block_lt_of_cell? w _ hx262_11)).trans hx262_11
              replace hx262_12 := (HB.out.cell (World.block_lt_of_cell? w _ hx262_12)).trans hx262_12
              replace hx262_13 := (HB.out.cell (World.block_lt_of_cell? w _ hx262_13)).trans hx262_13
              replace hx262_14 := (HB.out.cell (World.block_lt_of_cell? w _ hx262_14)).trans hx262_14
              replace hx262_15 := (HB.out.cell (World.block_lt_of_cell? w _ hx262_15)).trans hx262_15
              replace hx262_16 := (HB.out.cell (World.block_lt_of_cell? w _ hx262_16)).trans hx262_16
              replace hx262_17 := (HB.out.cell (World.block_lt_of_cell? w _ hx262_17)).trans hx262_17
              replace hx262_18 := (HB.out.cell (World.block_lt_of_cell? w _ hx262_18)).trans hx262_18
              replace hx262_19 := (HB.out.cell (World.block_lt_of_cell? w _ hx262_19)).trans hx262_19
              replace hx262_20 := (HB.out.cell (World.block_lt_of_cell? w _ hx262_20)).trans hx262_20
              replace hx262_21 := (HB.out.cell (World.block_lt_of_cell? w _ hx262_21)).trans hx262_21
              replace hx262_22 := (HB.out.cell (World.block_lt_of_cell? w _ hx262_22)).trans hx262_22
              replace hx262_23 := (HB.out.cell (World.block_lt_of_cell? w _ hx262_23)).trans hx262_23
              replace hx262_24 := (HB.out.cell (World.block_lt_of_cell? w _ hx262_24)).trans hx262_24
              replace hx262_25 := (HB.out.cell (World.block_lt_of_cell? w _ hx262_25)).trans hx262_25
              replace hx262_26 := (HB.out.cell (World.block_lt_of_cell? w _ hx262_26)).trans hx262_26
              replace hx262_27 := (HB.out.cell (World.block_lt_of_cell? w _ hx262_27)).trans hx262_27
              replace hx262_28 := (HB.out.cell (World.block_lt_of_cell? w _ hx262_28)).trans hx262_28
              replace hx262_29 := (HB.out.cell (World.block_lt_of_cell? w _ hx262_29)).trans hx262_29
              replace hx262_30 := (HB.out.cell (World.block_lt_of_cell? w _ hx262_30)).trans hx262_30
              replace hx262_31 := (HB.out.cell (World.block_lt_of_cell? w _ hx262_31)).trans hx262_31
              have HR262_4 := Aside0.mk hi262_4
              have HC262_4 := Aside0.mk hl262_4
              clear hi262_4 hl262_4
              have HR262_27 := Aside0.mk hi262_27
              have HC262_27 := Aside0.mk hl262_27
              clear hi262_27 hl262_27
              replace p262 := eq_true p262
              replace q262 := eq_true q262
              have p263 : 0 ≤ (x6_1 : Int) := of_decide_eq_true (by first | (with_reducible assumption) | assumption)
              have q263 : x6_1 < (l0_1.length : Int) := of_decide_eq_true (by first | (with_reducible assumption) | assumption)
              obtain ⟨ad263, A263_4, c263_4, A263_27, c263_27, e263, hx263_0, hx263_1, hx263_2, hx263_3, hx263_4, hx263_5, hx263_6, hx263_7, hx263_8, hx263_9, hx263_10, hx263_11, hx263_12, hx263_13, hx263_14, hx263_15, hx263_16, hx263_17, hx263_18, hx263_19, hx263_20, hx263_21, hx263_22, hx263_23, hx263_24, hx263_25, hx263_26, hx263_27, hx263_28, hx263_29, hx263_30, hx263_31, hl263_4, hi263_4, hl263_27, hi263_27⟩ := at_T68 HR0_1.out x6_1 p263 q263
              (try rw [← Nbq7.out] at hx263_7)
              (try rw [← Nbq7.out] at hx263_8)
              (try rw [← Nbq7.out] at hx263_9)
              (try rw [← Nbq7.out] at hx263_15)
              (try rw [← Nbq7.out] at hx263_16)
              (try rw [← Nbq7.out] at hx263_25)
              obtain rfl : ad262 = ad263 := (by injection e263)
              replace hx263_0 := (HB.out.cell (World.block_lt_of_cell? w _ hx263_0)).trans hx263_0
              replace hx263_1 := (HB.out.cell (World.block_lt_of_cell? w _ hx263_1)).trans hx263_1
              replace hx263_2 := (HB.out.cell (World.block_lt_of_cell? w _ hx263_2)).trans hx263_2
              replace hx263_3 := (HB.out.cell (World.block_lt_of_cell? w _ hx263_3)).trans hx263_3
              replace hx263_4 := (HB.out.cell (World.block_lt_of_cell? w _ hx263_4)).trans hx263_4
              replace hx263_5 := (HB.out.cell (World.block_lt_of_cell? w _ hx263_5)).trans hx263_5
              replace hx263_6 := (HB.out.cell (World.block_lt_of_cell? w _ hx263_6)).trans hx263_6
              replace hx263_7 := (HB.out.cell (World.block_lt_of_cell? w _ hx263_7)).trans hx263_7
              replace hx263_8 := (HB.out.cell (World.block_lt_of_cell? w _ hx263_8)).trans hx263_8
              replace hx263_9 := (HB.out.cell (World.block_lt_of_cell? w _ hx263_9)).trans hx263_9
              replace hx263_10 := (HB.out.cell (World.block_lt_of_cell? w _ hx263_10)).trans hx263_10
              replace hx263_11 := (HB.out.cell (World.block_lt_of_cell? w _ hx263_11)).trans hx263_11
              replace hx263_12 := (HB.out.cell (World.block_lt_of_cell? w _ hx263_12)).trans hx263_12
              replace hx263_13 := (HB.out.cell (World.block_lt_of_cell? w _ hx263_13)).trans hx263_13
              replace hx263_14 := (HB.out.cell (World.block_lt_of_cell? w _ hx263_14)).trans hx263_14
              replace hx263_15 := (HB.out.cell (World.block_lt_of_cell? w _ hx263_15)).trans hx263_15
              replace hx263_16 := (HB.out.cell (World.block_lt_of_cell? w _ hx263_16)).trans hx263_16
              replace hx263_17 := (HB.out.cell (World.block_lt_of_cell? w _ hx263_17)).trans hx263_17
              replace hx263_18 := (HB.out.cell (World.block_lt_of_cell? w _ hx263_18)).trans hx263_18
              replace hx263_19 := (HB.out.cell (World.block_lt_of_cell? w _ hx263_19)).trans hx263_19
              replace hx263_20 := (HB.out.cell (World.block_lt_of_cell? w _ hx263_20)).trans hx263_20
              replace hx263_21 := (HB.out.cell (World.block_lt_of_cell? w _ hx263_21)).trans hx263_21
              replace hx263_22 := (HB.out.cell (World.block_lt_of_cell? w _ hx263_22)).trans hx263_22
              replace hx263_23 := (HB.out.cell (World.block_lt_of_cell? w _ hx263_23)).trans hx263_23
              replace hx263_24 := (HB.out.cell (World.block_lt_of_cell? w _ hx263_24)).trans hx263_24
              replace hx263_25 := (HB.out.cell (World.block_lt_of_cell? w _ hx263_25)).trans hx263_25
              replace hx263_26 := (HB.out.cell (World.block_lt_of_cell? w _ hx263_26)).trans hx263_26
              replace hx263_27 := (HB.out.cell (World.block_lt_of_cell? w _ hx263_27)).trans hx263_27
              replace hx263_28 := (HB.out.cell (World.block_lt_of_cell? w _ hx263_28)).trans hx263_28
              replace hx263_29 := (HB.out.cell (World.block_lt_of_cell? w _ hx263_29)).trans hx263_29
              replace hx263_30 := (HB.out.cell (World.block_lt_of_cell? w _ hx263_30)).trans hx263_30
              replace hx263_31 := (HB.out.cell (World.block_lt_of_cell? w _ hx263_31)).trans hx263_31
              have HR263_4 := Aside0.mk hi263_4
              have HC263_4 := Aside0.mk hl263_4
              clear hi263_4 hl263_4
              have HR263_27 := Aside0.mk hi263_27
              have HC263_27 := Aside0.mk hl263_27
              clear hi263_27 hl263_27
              replace p263 := eq_true p263
              replace q263 := eq_true q263
              have ea_ := Option.some.inj (hx262_4.symm.trans hx263_4)
              injection ea_ with ea_ en_ ec_
              subst ea_
              subst ec_
              clear en_
              have ea_ := Option.some.inj (hx262_27.symm.trans hx263_27)
              injection ea_ with ea_ en_ ec_
              subst ea_
              subst ec_
              clear en_
              go_wp2
              go_roundg k1
              case measure => have := HK1.out; omega
              case rel => exact ⟨(x5_1), (wrap64 (x6_1 + 1)), (by first | rfl | (simp; done) | (simp [*]; done)), (by first | rfl | (simp; done) | (simp [*]; done)), H', ⟨by have := HK1.out; omega⟩, ⟨by (with_reducible repeat (first | refine blk_drewN ?_ _ | refine blk_drew ?_ | refine blk_alloc ?_ _)); exact BK261.out⟩, ⟨by repeat (first | (with_reducible first | exact HB.out | apply below_alloc | apply pw_below_drewN | apply below_drew1 | refine below_set ?_ GE261.out) | exact HB.out)⟩⟩
            · replace c8 := Bool.eq_false_iff.mpr c8
              subst c8
              have H1 : (flotillaref16_Owned.l0 k1 a1 (wrap64 (x5_1 + 1)) (wrap64 (x6_1 + 1)) l0_0 l0_1 l0_2 l0_3) = some r := by rw [if_neg (show ¬ (false = true) by decide)] at H; exact H
              clear H
              have H := H1
              clear H1
              have H' := Aside0.mk H
              clear H
              have hcz10_0 : wr.cell? ⟨gb261, 0, none⟩ = some (.slice A0_0 l0_0.length c0_0) := (blk_cell BK261.out 0).trans rfl
              have hcz10_1 : wr.cell? ⟨gb261, 1, none⟩ = some (.slice A0_1 l0_1.length c0_1) := (blk_cell BK261.out 1).trans rfl
              have hcz10_2 : wr.cell? ⟨gb261, 2, none⟩ = some (.slice A0_2 l0_2.length c0_2) := (blk_cell BK261.out 2).trans rfl
              have hcz10_3 : wr.cell? ⟨gb261, 3, none⟩ = some (.slice A0_3 l0_3.length c0_3) := (blk_cell BK261.out 3).trans rfl
              have hfz10_0 := blk_frozen BK261.out 0
              have hfz10_1 := blk_frozen BK261.out 1
              have hfz10_2 := blk_frozen BK261.out 2
              have hfz10_3 := blk_frozen BK261.out 3
              have p262 : 0 ≤ (x6_1 : Int) := of_decide_eq_true (by first | (with_reducible assumption) | assumption)
              have q262 : x6_1 < (l0_1.length : Int) := of_decide_eq_true (by first | (with_reducible assumption) | assumption)
              obtain ⟨ad262, A262_4, c262_4, A262_27, c262_27, e262, hx262_0, hx262_1, hx262_2, hx262_3, hx262_4, hx262_5, hx262_6, hx262_7, hx262_8, hx262_9, hx262_10, hx262_11, hx262_12, hx262_13, hx262_14, hx262_15, hx262_16, hx262_17, hx262_18, hx262_19, hx262_20, hx262_21, hx262_22, hx262_23, hx262_24, hx262_25, hx262_26, hx262_27, hx262_28, hx262_29, hx262_30, hx262_31, hl262_4, hi262_4, hl262_27, hi262_27⟩ := at_T68 HR0_1.out x6_1 p262 q262
              (try rw [← Nbq7.out] at hx262_7)
              (try rw [← Nbq7.out] at hx262_8)
              (try rw [← Nbq7.out] at hx262_9)
              (try rw [← Nbq7.out] at hx262_15)
              (try rw [← Nbq7.out] at hx262_16)
              (try rw [← Nbq7.out] at hx262_25)
              cases e262
              replace hx262_0 := (HB.out.cell (World.block_lt_of_cell? w _ hx262_0)).trans hx262_0
              replace hx262_1 := (HB.out.cell (World.block_lt_of_cell? w _ hx262_1)).trans hx262_1
              replace hx262_2 := (HB.out.cell (World.block_lt_of_cell? w _ hx262_2)).trans hx262_2
              replace hx262_3 := (HB.out.cell (World.block_lt_of_cell? w _ hx262_3)).trans hx262_3
              replace hx262_4 := (HB.out.cell (World.block_lt_of_cell? w _ hx262_4)).trans hx262_4
              replace hx262_5 := (HB.out.cell (World.block_lt_of_cell? w _ hx262_5)).trans hx262_5
              replace hx262_6 := (HB.out.cell (World.block_lt_of_cell? w _ hx262_6)).trans hx262_6
              replace hx262_7 := (HB.out.cell (World.block_lt_of_cell? w _ hx262_7)).trans hx262_7
              replace hx262_8 := (HB.out.cell (World.block_lt_of_cell? w _ hx262_8)).trans hx262_8
              replace hx262_9 := (HB.out.cell (World.block_lt_of_cell? w _ hx262_9)).trans hx262_9
              replace hx262_10 := (HB.out.cell (World.block_lt_of_cell? w _ hx262_10)).trans hx262_10
              replace hx262_11 := (HB.out.cell (World.block_lt_of_cell? w _ hx262_11)).trans hx262_11
              replace hx262_12 := (HB.out.cell (World.block_lt_of_cell? w _ hx262_12)).trans hx262_12
              replace hx262_13 := (HB.out.cell (World.block_lt_of_cell? w _ hx262_13)).trans hx262_13
              replace hx262_14 := (HB.out.cell (World.block_lt_of_cell? w _ hx262_14)).trans hx262_14
              replace hx262_15 := (HB.out.cell (World.block_lt_of_cell? w _ hx262_15)).trans hx262_15
              replace hx262_16 := (HB.out.cell (World.block_lt_of_cell? w _ hx262_16)).trans hx262_16
              replace hx262_17 := (HB.out.cell (World.block_lt_of_cell? w _ hx262_17)).trans hx262_17
              replace hx262_18 := (HB.out.cell (World.block_lt_of_cell? w _ hx262_18)).trans hx262_18
              replace hx262_19 := (HB.out.cell (World.block_lt_of_cell? w _ hx262_19)).trans hx262_19
              replace hx262_20 := (HB.out.cell (World.block_lt_of_cell? w _ hx262_20)).trans hx262_20
              replace hx262_21 := (HB.out.cell (World.block_lt_of_cell? w _ hx262_21)).trans hx262_21
              replace hx262_22 := (HB.out.cell (World.block_lt_of_cell? w _ hx262_22)).trans hx262_22
              replace hx262_23 := (HB.out.cell (World.block_lt_of_cell? w _ hx262_23)).trans hx262_23
              replace hx262_24 := (HB.out.cell (World.block_lt_of_cell? w _ hx262_24)).trans hx262_24
              replace hx262_25 := (HB.out.cell (World.block_lt_of_cell? w _ hx262_25)).trans hx262_25
              replace hx262_26 := (HB.out.cell (World.block_lt_of_cell? w _ hx262_26)).trans hx262_26
              replace hx262_27 := (HB.out.cell (World.block_lt_of_cell? w _ hx262_27)).trans hx262_27
              replace hx262_28 := (HB.out.cell (World.block_lt_of_cell? w _ hx262_28)).trans hx262_28
              replace hx262_29 := (HB.out.cell (World.block_lt_of_cell? w _ hx262_29)).trans hx262_29
              replace hx262_30 := (HB.out.cell (World.block_lt_of_cell? w _ hx262_30)).trans hx262_30
              replace hx262_31 := (HB.out.cell (World.block_lt_of_cell? w _ hx262_31)).trans hx262_31
              have HR262_4 := Aside0.mk hi262_4
              have HC262_4 := Aside0.mk hl262_4
              clear hi262_4 hl262_4
              have HR262_27 := Aside0.mk hi262_27
              have HC262_27 := Aside0.mk hl262_27
              clear hi262_27 hl262_27
              replace p262 := eq_true p262
              replace q262 := eq_true q262
              have p263 : 0 ≤ (x6_1 : Int) := of_decide_eq_true (by first | (with_reducible assumption) | assumption)
              have q263 : x6_1 < (l0_1.length : Int) := of_decide_eq_true (by first | (with_reducible assumption) | assumption)
              obtain ⟨ad263, A263_4, c263_4, A263_27, c263_27, e263, hx263_0, hx263_1, hx263_2, hx263_3, hx263_4, hx263_5, hx263_6, hx263_7, hx263_8, hx263_9, hx263_10, hx263_11, hx263_12, hx263_13, hx263_14, hx263_15, hx263_16, hx263_17, hx263_18, hx263_19, hx263_20, hx263_21, hx263_22, hx263_23, hx263_24, hx263_25, hx263_26, hx263_27, hx263_28, hx263_29, hx263_30, hx263_31, hl263_4, hi263_4, hl263_27, hi263_27⟩ := at_T68 HR0_1.out x6_1 p263 q263
              (try rw [← Nbq7.out] at hx263_7)
              (try rw [← Nbq7.out] at hx263_8)
              (try rw [← Nbq7.out] at hx263_9)
              (try rw [← Nbq7.out] at hx263_15)
              (try rw [← Nbq7.out] at hx263_16)
              (try rw [← Nbq7.out] at hx263_25)
              obtain rfl : ad262 = ad263 := (by injection e263)
              replace hx263_0 := (HB.out.cell (World.block_lt_of_cell? w _ hx263_0)).trans hx263_0
              replace hx263_1 := (HB.out.cell (World.block_lt_of_cell? w _ hx263_1)).trans hx263_1
              replace hx263_2 := (HB.out.cell (World.block_lt_of_cell? w _ hx263_2)).trans hx263_2
              replace hx263_3 := (HB.out.cell (World.block_lt_of_cell? w _ hx263_3)).trans hx263_3
              replace hx263_4 := (HB.out.cell (World.block_lt_of_cell? w _ hx263_4)).trans hx263_4
              replace hx263_5 := (HB.out.cell (World.block_lt_of_cell? w _ hx263_5)).trans hx263_5
              replace hx263_6 := (HB.out.cell (World.block_lt_of_cell? w _ hx263_6)).trans hx263_6
              replace hx263_7 := (HB.out.cell (World.block_lt_of_cell? w _ hx263_7)).trans hx263_7
              replace hx263_8 := (HB.out.cell (World.block_lt_of_cell? w _ hx263_8)).trans hx263_8
              replace hx263_9 := (HB.out.cell (World.block_lt_of_cell? w _ hx263_9)).trans hx263_9
              replace hx263_10 := (HB.out.cell (World.block_lt_of_cell? w _ hx263_10)).trans hx263_10
              replace hx263_11 := (HB.out.cell (World.block_lt_of_cell? w _ hx263_11)).trans hx263_11
              replace hx263_12 := (HB.out.cell (World.block_lt_of_cell? w _ hx263_12)).trans hx263_12
              replace hx263_13 := (HB.out.cell (World.block_lt_of_cell? w _ hx263_13)).trans hx263_13
              replace hx263_14 := (HB.out.cell (World.block_lt_of_cell? w _ hx263_14)).trans hx263_14
              replace hx263_15 := (HB.out.cell (World.block_lt_of_cell? w _ hx263_15)).trans hx263_15
              replace hx263_16 := (HB.out.cell (World.block_lt_of_cell? w _ hx263_16)).trans hx263_16
              replace hx263_17 := (HB.out.cell (World.block_lt_of_cell? w _ hx263_17)).trans hx263_17
              replace hx263_18 := (HB.out.cell (World.block_lt_of_cell? w _ hx263_18)).trans hx263_18
              replace hx263_19 := (HB.out.cell (World.block_lt_of_cell? w _ hx263_19)).trans hx263_19
              replace hx263_20 := (HB.out.cell (World.block_lt_of_cell? w _ hx263_20)).trans hx263_20
              replace hx263_21 := (HB.out.cell (World.block_lt_of_cell? w _ hx263_21)).trans hx263_21
              replace hx263_22 := (HB.out.cell (World.block_lt_of_cell? w _ hx263_22)).trans hx263_22
              replace hx263_23 := (HB.out.cell (World.block_lt_of_cell? w _ hx263_23)).trans hx263_23
              replace hx263_24 := (HB.out.cell (World.block_lt_of_cell? w _ hx263_24)).trans hx263_24
              replace hx263_25 := (HB.out.cell (World.block_lt_of_cell? w _ hx263_25)).trans hx263_25
              replace hx263_26 := (HB.out.cell (World.block_lt_of_cell? w _ hx263_26)).trans hx263_26
              replace hx263_27 := (HB.out.cell (World.block_lt_of_cell? w _ hx263_27)).trans hx263_27
              replace hx263_28 := (HB.out.cell (World.block_lt_of_cell? w _ hx263_28)).trans hx263_28
              replace hx263_29 := (HB.out.cell (World.block_lt_of_cell? w _ hx263_29)).trans hx263_29
              replace hx263_30 := (HB.out.cell (World.block_lt_of_cell? w _ hx263_30)).trans hx263_30
              replace hx263_31 := (HB.out.cell (World.block_lt_of_cell? w _ hx263_31)).trans hx263_31
              have HR263_4 := Aside0.mk hi263_4
              have HC263_4 := Aside0.mk hl263_4
              clear hi263_4 hl263_4
              have HR263_27 := Aside0.mk hi263_27
              have HC263_27 := Aside0.mk hl263_27
              clear hi263_27 hl263_27
              replace p263 := eq_true p263
              replace q263 := eq_true q263
              have ea_ := Option.some.inj (hx262_4.symm.trans hx263_4)
              injection ea_ with ea_ en_ ec_
              subst ea_
              subst ec_
              clear en_
              have ea_ := Option.some.inj (hx262_27.symm.trans hx263_27)
              injection ea_ with ea_ en_ ec_
              subst ea_
              subst ec_
              clear en_
              go_wp2
              go_roundg k1
              case measure => have := HK1.out; omega
              case rel => exact ⟨(wrap64 (x5_1 + 1)), (wrap64 (x6_1 + 1)), (by first | rfl | (simp; done) | (simp [*]; done)), (by first | rfl | (simp; done) | (simp [*]; done)), H', ⟨by have := HK1.out; omega⟩, ⟨by (with_reducible repeat (first | refine blk_drewN ?_ _ | refine blk_drew ?_ | refine blk_alloc ?_ _)); exact BK261.out⟩, ⟨by repeat (first | (with_reducible first | exact HB.out | apply below_alloc | apply pw_below_drewN | apply below_drew1 | refine below_set ?_ GE261.out) | exact HB.out)⟩⟩
          · rw [if_neg c6] at H
            have c6b0 : (((rd_T68 l0_1 x6_1).f10).toList == a1.toList) = false := beq_eq_false_iff_ne.mpr c6
            have c6b1 : (((rd_T68 l0_1 x6_1).f10).toList != a1.toList) = true := bne_iff_ne.mpr c6
            have H' := Aside0.mk H
            clear H
            have hcz11_0 : wr.cell? ⟨gb261, 0, none⟩ = some (.slice A0_0 l0_0.length c0_0) := (blk_cell BK261.out 0).trans rfl
            have hcz11_1 : wr.cell? ⟨gb261, 1, none⟩ = some (.slice A0_1 l0_1.length c0_1) := (blk_cell BK261.out 1).trans rfl
            have hcz11_2 : wr.cell? ⟨gb261, 2, none⟩ = some (.slice A0_2 l0_2.length c0_2) := (blk_cell BK261.out 2).trans rfl
            have hcz11_3 : wr.cell? ⟨gb261, 3, none⟩ = some (.slice A0_3 l0_3.length c0_3) := (blk_cell BK261.out 3).trans rfl
            have hfz11_0 := blk_frozen BK261.out 0
            have hfz11_1 := blk_frozen BK261.out 1
            have hfz11_2 := blk_frozen BK261.out 2
            have hfz11_3 := blk_frozen BK261.out 3
            have p262 : 0 ≤ (x6_1 : Int) := of_decide_eq_true (by first | (with_reducible assumption) | assumption)
            have q262 : x6_1 < (l0_1.length : Int) := of_decide_eq_true (by first | (with_reducible assumption) | assumption)
            obtain ⟨ad262, A262_4, c262_4, A262_27, c262_27, e262, hx262_0, hx262_1, hx262_2, hx262_3, hx262_4, hx262_5, hx262_6, hx262_7, hx262_8, hx262_9, hx262_10, hx262_11, hx262_12, hx262_13, hx262_14, hx262_15, hx262_16, hx262_17, hx262_18, hx262_19, hx262_20, hx262_21, hx262_22, hx262_23, hx262_24, hx262_25, hx262_26, hx262_27, hx262_28, hx262_29, hx262_30, hx262_31, hl262_4, hi262_4, hl262_27, hi262_27⟩ := at_T68 HR0_1.out x6_1 p262 q262
            cases e262
            replace hx262_0 := (HB.out.cell (World.block_lt_of_cell? w _ hx262_0)).trans hx262_0
            replace hx262_1 := (HB.out.cell (World.block_lt_of_cell? w _ hx262_1)).trans hx262_1
            replace hx262_2 := (HB.out.cell (World.block_lt_of_cell? w _ hx262_2)).trans hx262_2
            replace hx262_3 := (HB.out.cell (World.block_lt_of_cell? w _ hx262_3)).trans hx262_3
            replace hx262_4 := (HB.out.cell (World.block_lt_of_cell? w _ hx262_4)).trans hx262_4
            replace hx262_5 := (HB.out.cell (World.block_lt_of_cell? w _ hx262_5)).trans hx262_5
            replace hx262_6 := (HB.out.cell (World.block_lt_of_cell? w _ hx262_6)).trans hx262_6
            replace hx262_7 := (HB.out.cell (World.block_lt_of_cell? w _ hx262_7)).trans hx262_7
            replace hx262_8 := (HB.out.cell (World.block_lt_of_cell? w _ hx262_8)).trans hx262_8
            replace hx262_9 := (HB.out.cell (World.block_lt_of_cell? w _ hx262_9)).trans hx262_9
            replace hx262_10 := (HB.out.cell (World.block_lt_of_cell? w _ hx262_10)).trans hx262_10
            replace hx262_11 := (HB.out.cell (World.block_lt_of_cell? w _ hx262_11)).trans hx262_11
            replace hx262_12 := (HB.out.cell (World.block_lt_of_cell? w _ hx262_12)).trans hx262_12
            replace hx262_13 := (HB.out.cell (World.block_lt_of_cell? w _ hx262_13)).trans hx262_13
            replace hx262_14 := (HB.out.cell (World.block_lt_of_cell? w _ hx262_14)).trans hx262_14
            replace hx262_15 := (HB.out.cell (World.block_lt_of_cell? w _ hx262_15)).trans hx262_15
            replace hx262_16 := (HB.out.cell (World.block_lt_of_cell? w _ hx262_16)).trans hx262_16
            replace hx262_17 := (HB.out.cell (World.block_lt_of_cell? w _ hx262_17)).trans hx262_17
            replace hx262_18 := (HB.out.cell (World.block_lt_of_cell? w _ hx262_18)).trans hx262_18
            replace hx262_19 := (HB.out.cell (World.block_lt_of_cell? w _ hx262_19)).trans hx262_19
            replace hx262_20 := (HB.out.cell (World.block_lt_of_cell? w _ hx262_20)).trans hx262_20
            replace hx262_21 := (HB.out.cell (World.block_lt_of_cell? w _ hx262_21)).trans hx262_21
            replace hx262_22 := (HB.out.cell (World.block_lt_of_cell? w _ hx262_22)).trans hx262_22
            replace hx262_23 := (HB.out.cell (World.block_lt_of_cell? w _ hx262_23)).trans hx262_23
            replace hx262_24 := (HB.out.cell (World.block_lt_of_cell? w _ hx262_24)).trans hx262_24
            replace hx262_25 := (HB.out.cell (World.block_lt_of_cell? w _ hx262_25)).trans hx262_25
            replace hx262_26 := (HB.out.cell (World.block_lt_of_cell? w _ hx262_26)).trans hx262_26
            replace hx262_27 := (HB.out.cell (World.block_lt_of_cell? w _ hx262_27)).trans hx262_27
            replace hx262_28 := (HB.out.cell (World.block_lt_of_cell? w _ hx262_28)).trans hx262_28
            replace hx262_29 := (HB.out.cell (World.block_lt_of_cell? w _ hx262_29)).trans hx262_29
            replace hx262_30 := (HB.out.cell (World.block_lt_of_cell? w _ hx262_30)).trans hx262_30
            replace hx262_31 := (HB.out.cell (World.block_lt_of_cell? w _ hx262_31)).trans hx262_31
            have HR262_4 := Aside0.mk hi262_4
            have HC262_4 := Aside0.mk hl262_4
            clear hi262_4 hl262_4
            have HR262_27 := Aside0.mk hi262_27
            have HC262_27 := Aside0.mk hl262_27
            clear hi262_27 hl262_27
            replace p262 := eq_true p262
            replace q262 := eq_true q262
            go_wp2
            go_roundg k1
            case measure => have := HK1.out; omega
            case rel => exact ⟨(x5_1), (wrap64 (x6_1 + 1)), (by first | rfl | (simp; done) | (simp [*]; done)), (by first | rfl | (simp; done) | (simp [*]; done)), H', ⟨by have := HK1.out; omega⟩, ⟨by (with_reducible repeat (first | refine blk_drewN ?_ _ | refine blk_drew ?_ | refine blk_alloc ?_ _)); exact BK261.out⟩, ⟨by repeat (first | (with_reducible first | exact HB.out | apply below_alloc | apply pw_below_drewN | apply below_drew1 | refine below_set ?_ GE261.out) | exact HB.out)⟩⟩
        · rw [if_neg c5] at H
          exact absurd H (by simp)
      · rw [if_neg c4] at H
        have c4b0 : decide (x6_1 < (l0_1.length : Int)) = false := decide_eq_false c4
        clear c4
        obtain rfl := Option.some.inj H
        have hcz12_0 : wr.cell? ⟨gb261, 0, none⟩ = some (.slice A0_0 l0_0.length c0_0) := (blk_cell BK261.out 0).trans rfl
        have hcz12_1 : wr.cell? ⟨gb261, 1, none⟩ = some (.slice A0_1 l0_1.length c0_1) := (blk_cell BK261.out 1).trans rfl
        have hcz12_2 : wr.cell? ⟨gb261, 2, none⟩ = some (.slice A0_2 l0_2.length c0_2) := (blk_cell BK261.out 2).trans rfl
        have hcz12_3 : wr.cell? ⟨gb261, 3, none⟩ = some (.slice A0_3 l0_3.length c0_3) := (blk_cell BK261.out 3).trans rfl
        have hfz12_0 := blk_frozen BK261.out 0
        have hfz12_1 := blk_frozen BK261.out 1
        have hfz12_2 := blk_frozen BK261.out 2
        have hfz12_3 := blk_frozen BK261.out 3
        go_wp2
        go_ret
        exact ⟨by first | rfl | (simp [errW_none, errW_some] <;> rfl) | (simp [*, errW_none, errW_some] <;> rfl), by repeat (first | (with_reducible first | exact HB.out | apply below_alloc | apply pw_below_drewN | apply below_drew1 | refine below_set ?_ GE261.out) | exact HB.out)⟩
end Go.Proofs.Ytamjjeakkkdfhaa.PB
end
section
namespace Go.Proofs.Ytamjjeakkkdfhaa.PB
open Go.RowKit Go.Proofs.YtamjjeakkkdfhaaW.PrintWords Go.Proofs.YtamjjeakkkdfhaaW.PrintLast Go.Proofs.YtamjjeakkkdfhaaW.PrintMore
open Go.Proofs.Ytamjjeakkkdfhaa.K Go.Proofs.Ytamjjeakkkdfhaa.G Go.Proofs.YtamjjeakkkdfhaaE
attribute [local go_sem] max2_int min2_int max_two min_two max_three min_three max_four min_four
set_option linter.unusedVariables false
set_option linter.unusedSimpArgs false
def flotillaref16_Ready.l0 : Nat → ByteArray → Int → Int → List (S68) → List (S68) → List (S68) → List (S68) → Option (Int)
  | 0, _, _, _, _, _, _, _ => none
  | k + 1, x1, x5, x6, x266000, x266001, x266002, x266003 => if x6 < (x266001.length : Int) then (if 0 ≤ x6 then (if ((rd_T68 x266001 x6).f10).toList = x1.toList then (if ((rd_T68 x266001 x6).f15 = true) then (flotillaref16_Ready.l0 k x1 x5 (wrap64 (x6 + 1)) x266000 x266001 x266002 x266003) else (if (rd_T68 x266001 x6).f14 = true then (flotillaref16_Ready.l0 k x1 (wrap64 (x5 + 1)) (wrap64 (x6 + 1)) x266000 x266001 x266002 x266003) else (flotillaref16_Ready.l0 k x1 x5 (wrap64 (x6 + 1)) x266000 x266001 x266002 x266003))) else (flotillaref16_Ready.l0 k x1 x5 (wrap64 (x6 + 1)) x266000 x266001 x266002 x266003)) else (none)) else (some x5)
def flotillaref16_Ready.f (k : Nat) (l0_0 : List (S68)) (l0_1 : List (S68)) (l0_2 : List (S68)) (l0_3 : List (S68)) (a1 : ByteArray) : Option (Int) := flotillaref16_Ready.l0 k a1 0 0 l0_0 l0_1 l0_2 l0_3
set_option maxHeartbeats 8000000 in
set_option maxRecDepth 100000 in
theorem flotillaref16_Ready.calls (k : Nat) (A0_0 : Option Addr) (c0_0 : Nat) (l0_0 : List (S68)) (A0_1 : Option Addr) (c0_1 : Nat) (l0_1 : List (S68)) (A0_2 : Option Addr) (c0_2 : Nat) (l0_2 : List (S68)) (A0_3 : Option Addr) (c0_3 : Nat) (l0_3 : List (S68)) (a1 : ByteArray) (r : Int) (w : World) (hr0_0 : Kd.C k68 w A0_0 l0_0.length l0_0) (hc0_0 : l0_0.length ≤ c0_0) (hr0_1 : Kd.C k68 w A0_1 l0_1.length l0_1) (hc0_1 : l0_1.length ≤ c0_1) (hr0_2 : Kd.C k68 w A0_2 l0_2.length l0_2) (hc0_2 : l0_2.length ≤ c0_2) (hr0_3 : Kd.C k68 w A0_3 l0_3.length l0_3) (hc0_3 : l0_3.length ≤ c0_3) (h : flotillaref16_Ready.f k l0_0 l0_1 l0_2 l0_3 a1 = some r) :
    Calls Try.prog 37 #[.agg #[.slice A0_0 l0_0.length c0_0, .slice A0_1 l0_1.length c0_1, .slice A0_2 l0_2.length c0_2, .slice A0_3 l0_3.length c0_3], .string a1] w fun e w' => e = .returned (.int .i64 r) ∧ Below w.heap.size w w' := by
  have hu59 := Try.underlying59
  have HR0_0 := Aside0.mk hr0_0
  have HC0_0 := Aside0.mk hc0_0
  clear hr0_0 hc0_0
  have HR0_1 := Aside0.mk hr0_1
  have HC0_1 := Aside0.mk hc0_1
  clear hr0_1 hc0_1
  have HR0_2 := Aside0.mk hr0_2
  have HC0_2 := Aside0.mk hc0_2
  clear hr0_2 hc0_2
  have HR0_3 := Aside0.mk hr0_3
  have HC0_3 := Aside0.mk hc0_3
  clear hr0_3 hc0_3
  have HB := Aside0.mk (Below.refl w.heap.size w)
  have H : (flotillaref16_Ready.l0 k a1 0 0 l0_0 l0_1 l0_2 l0_3) = some r := h
  clear h
  have H' := Aside0.mk H
  clear H
  go_enter Try.func37, Try.ntmps37
  go_wp2_with (first | ((with_reducible refine gate_dst (N := 2) rfl ?_); refine box_event ?hg (N := 2) ?hd (cs := #[.slice A0_0 l0_0.length c0_0, .slice A0_1 l0_1.length c0_1, .slice A0_2 l0_2.length c0_2, .slice A0_3 l0_3.length c0_3]) (t := 59) ?hr ?_; (case hd => rfl); (case hg => rfl); (case hr => first | (go_simp; done) | (go_simp; rfl)); intro gb265 hg w3 hbox hb; have n0_ := Aside0.mk (below_step (by repeat (first | (with_reducible first | exact HB.out | apply below_alloc | apply pw_below_drewN | apply below_drew1) | exact HB.out)) hb); have n1_ := Aside0.mk (hbox); have n2_ := Aside0.mk ((by rw [hg]; exact (below_size (by repeat (first | (with_reducible first | exact HB.out | apply below_alloc | apply pw_below_drewN | apply below_drew1) | exact HB.out))) : w.heap.size ≤ gb265)); have n3_ := Aside0.mk ((by rw [hg]; exact (below_size (by repeat (first | (with_reducible first | exact HB.out | apply below_alloc | apply pw_below_drewN | apply below_drew1) | exact HB.out))) : w.heap.size ≤ gb265)); clear HB; have HB := n0_; have BK265 := n1_; have GW265 := n2_; have GE265 := n3_; clear n0_ n1_ n2_ n3_; clear hb hbox hg))
  go_loopg [5, 6] k (fun kq v5 v6 w' => ∃ (x5_1 : Int) (x6_1 : Int), v5 = .int .i64 x5_1 ∧ v6 = .int .i64 x6_1 ∧ Aside0 (flotillaref16_Ready.l0 kq a1 x5_1 x6_1 l0_0 l0_1 l0_2 l0_3 = some r) ∧ Aside0 (kq ≤ k) ∧ Aside0 (w'.heap[gb265]? = some (.cells #[(.slice A0_0 l0_0.length c0_0), (.slice A0_1 l0_1.length c0_1), (.slice A0_2 l0_2.length c0_2), (.slice A0_3 l0_3.length c0_3)] 59 (0, 0))) ∧ Aside0 (Below w.heap.size w w'))
  case atStart => exact ⟨(0), (0), (by first | rfl | (simp; done) | (simp [*]; done)), (by first | rfl | (simp; done) | (simp [*]; done)), H', ⟨Nat.le_refl _⟩, ⟨by (with_reducible repeat (first | refine blk_drewN ?_ _ | refine blk_drew ?_ | refine blk_alloc ?_ _)); exact BK265.out⟩, ⟨by repeat (first | (with_reducible first | exact HB.out | apply below_alloc | apply pw_below_drewN | apply below_drew1 | refine below_set ?_ GE265.out) | exact HB.out)⟩⟩
  case round =>
    clear H'
    try clear p2
    try clear c3
    obtain ⟨x5_1, x6_1, rfl, rfl, HA, HK1, BK265, HB⟩ := hrel
    cases gk with
    | zero => exact absurd HA.out (by simp [flotillaref16_Ready.l0])
    | succ k1 =>
      have H := HA.out
      clear HA
      simp only [flotillaref16_Ready.l0] at H
      by_cases c4 : x6_1 < (l0_1.length : Int)
      · rw [if_pos c4] at H
        have c4b0 : decide (x6_1 < (l0_1.length : Int)) = true := decide_eq_true c4
        clear c4
        by_cases c5 : 0 ≤ x6_1
        · rw [if_pos c5] at H
          have c5b0 : decide (0 ≤ x6_1) = true := decide_eq_true c5
          clear c5
          by_cases c6 : ((rd_T68 l0_1 x6_1).f10).toList = a1.toList
          · rw [if_pos c6] at H
            have c6b0 : (((rd_T68 l0_1 x6_1).f10).toList == a1.toList) = true := beq_iff_eq.mpr c6
            have c6b1 : (((rd_T68 l0_1 x6_1).f10).toList != a1.toList) = false := bne_eq_false_iff_eq.mpr c6
            clear c6
            obtain ⟨bq7, hbq7⟩ : ∃ b_ : Bool, b_ = ((rd_T68 l0_1 x6_1).f15) := ⟨_, rfl⟩
            replace H : (if (bq7 = true) then (flotillaref16_Ready.l0 k1 a1 x5_1 (wrap64 (x6_1 + 1)) l0_0 l0_1 l0_2 l0_3) else (if (rd_T68 l0_1 x6_1).f14 = true then (flotillaref16_Ready.l0 k1 a1 (wrap64 (x5_1 + 1)) (wrap64 (x6_1 + 1)) l0_0 l0_1 l0_2 l0_3) else (flotillaref16_Ready.l0 k1 a1 x5_1 (wrap64 (x6_1 + 1)) l0_0 l0_1 l0_2 l0_3))) = some r := by rw [← hbq7] at H; exact H
            have Nbq7 := Aside0.mk hbq7
            clear hbq7
            by_cases c8 : (bq7 = true)
            · subst c8
              have H1 : (flotillaref16_Ready.l0 k1 a1 x5_1 (wrap64 (x6_1 + 1)) l0_0 l0_1 l0_2 l0_3) = some r := by rw [if_pos rfl] at H; exact H
              clear H
              have H := H1
              clear H1
              have H' := Aside0.mk H
              clear H
              have hcz9_0 : wr.cell? ⟨gb265, 0, none⟩ = some (.slice A0_0 l0_0.length c0_0) := (blk_cell BK265.out 0).trans rfl
              have hcz9_1 : wr.cell? ⟨gb265, 1, none⟩ = some (.slice A0_1 l0_1.length c0_1) := (blk_cell BK265.out 1).trans rfl
              have hcz9_2 : wr.cell? ⟨gb265, 2, none⟩ = some (.slice A0_2 l0_2.length c0_2) := (blk_cell BK265.out 2).trans rfl
              have hcz9_3 : wr.cell? ⟨gb265, 3, none⟩ = some (.slice A0_3 l0_3.length c0_3) := (blk_cell BK265.out 3).trans rfl
              have hfz9_0 := blk_frozen BK265.out 0
              have hfz9_1 := blk_frozen BK265.out 1
              have hfz9_2 := blk_frozen BK265.out 2
              have hfz9_3 := blk_frozen BK265.out 3
              have p266 : 0 ≤ (x6_1 : Int) := of_decide_eq_true (by first | (with_reducible assumption) | assumption)
              have q266 : x6_1 < (l0_1.length : Int) := of_decide_eq_true (by first | (with_reducible assumption) | assumption)
              obtain ⟨ad266, A266_4, c266_4, A266_27, c266_27, e266, hx266_0, hx266_1, hx266_2, hx266_3, hx266_4, hx266_5, hx266_6, hx266_7, hx266_8, hx266_9, hx266_10, hx266_11, hx266_12, hx266_13, hx266_14, hx266_15, hx266_16, hx266_17, hx266_18, hx266_19, hx266_20, hx266_21, hx266_22, hx266_23, hx266_24, hx266_25, hx266_26, hx266_27, hx266_28, hx266_29, hx266_30, hx266_31, hl266_4, hi266_4, hl266_27, hi266_27⟩ := at_T68 HR0_1.out x6_1 p266 q266
              (try rw [← Nbq7.out] at hx266_7)
              (try rw [← Nbq7.out] at hx266_8)
              (try rw [← Nbq7.out] at hx266_9)
              (try rw [← Nbq7.out] at hx266_15)
              (try rw [← Nbq7.out] at hx266_16)
              (try rw [← Nbq7.out] at hx266_25)
              cases e266
              replace hx266_0 := (HB.out.cell (World.block_lt_of_cell? w _ hx266_0)).trans hx266_0
              replace hx266_1 := (HB.out.cell (World.block_lt_of_cell? w _ hx266_1)).trans hx266_1
              replace hx266_2 := (HB.out.cell (World.block_lt_of_cell? w _ hx266_2)).trans hx266_2
              replace hx266_3 := (HB.out.cell (World.block_lt_of_cell? w _ hx266_3)).trans hx266_3
              replace hx266_4 := (HB.out.cell (World.block_lt_of_cell? w _ hx266_4)).trans hx266_4
              replace hx266_5 := (HB.out.cell (World.block_lt_of_cell? w _ hx266_5)).trans hx266_5
              replace hx266_6 := (HB.out.cell (World.block_lt_of_cell? w _ hx266_6)).trans hx266_6
              replace hx266_7 := (HB.out.cell (World.block_lt_of_cell? w _ hx266_7)).trans hx266_7
              replace hx266_8 := (HB.out.cell (World.block_lt_of_cell? w _ hx266_8)).trans hx266_8
              replace hx266_9 := (HB.out.cell (World.block_lt_of_cell? w _ hx266_9)).trans hx266_9
              replace hx266_10 := (HB.out.cell (World.block_lt_of_cell? w _ hx266_10)).trans hx266_10
              replace hx266_11 := (HB.out.cell (World.block_lt_of_cell? w _ hx266_11)).trans hx266_11
              replace hx266_12 := (HB.out.cell (World.block_lt_of_cell? w _ hx266_12)).trans hx266_12
              replace hx266_13 := (HB.out.cell (World.block_lt_of_cell? w _ hx266_13)).trans hx266_13
              replace hx266_14 := (HB.out.cell (World.block_lt_of_cell? w _ hx266_14)).trans hx266_14
              replace hx266_15 := (HB.out.cell (World.block_lt_of_cell? w _ hx266_15)).trans hx266_15
              replace hx266_16 := (HB.out.cell (World.block_lt_of_cell? w _ hx266_16)).trans hx266_16
              replace hx266_17 := (HB.out.cell (World.block_lt_of_cell? w _ hx266_17)).trans hx266_17
              replace hx266_18 := (HB.out.cell (World.block_lt_of_cell? w _ hx266_18)).trans hx266_18
              replace hx266_19 := (HB.out.cell (World.block_lt_of_cell? w _ hx266_19)).trans hx266_19
              replace hx266_20 := (HB.out.cell (World.block_lt_of_cell? w _ hx266_20)).trans hx266_20
              replace hx266_21 := (HB.out.cell (World.block_lt_of_cell? w _ hx266_21)).trans hx266_21
              replace hx266_22 := (HB.out.cell (World.block_lt_of_cell? w _ hx266_22)).trans hx266_22
              replace hx266_23 := (HB.out.cell (World.block_lt_of_cell? w _ hx266_23)).trans hx266_23
              replace hx266_24 := (HB.out.cell (World.block_lt_of_cell? w _ hx266_24)).trans hx266_24
              replace hx266_25 := (HB.out.cell (World.block_lt_of_cell? w _ hx266_25)).trans hx266_25
              replace hx266_26 := (HB.out.cell (World.block_lt_of_cell? w _ hx266_26)).trans hx266_26
              replace hx266_27 := (HB.out.cell (World.block_lt_of_cell? w _ hx266_27)).trans hx266_27
              replace hx266_28 := (HB.out.cell (World.block_lt_of_cell? w _ hx266_28)).trans hx266_28
              replace hx266_29 := (HB.out.cell (World.block_lt_of_cell? w _ hx266_29)).trans hx266_29
              replace hx266_30 := (HB.out.cell (World.block_lt_of_cell? w _ hx266_30)).trans hx266_30
              replace hx266_31 := (HB.out.cell (World.block_lt_of_cell? w _ hx266_31)).trans hx266_31
              have HR266_4 := Aside0.mk hi266_4
              have HC266_4 := Aside0.mk hl266_4
              clear hi266_4 hl266_4
              have HR266_27 := Aside0.mk hi266_27
              have HC266_27 := Aside0.mk hl266_27
              clear hi266_27 hl266_27
              replace p266 := eq_true p266
              replace q266 := eq_true q266
              have p267 : 0 ≤ (x6_1 : Int) := of_decide_eq_true (by first | (with_reducible assumption) | assumption)
              have q267 : x6_1 < (l0_1.length : Int) := of_decide_eq_true (by first | (with_reducible assumption) | assumption)
              obtain ⟨ad267, A267_4, c267_4, A267_27, c267_27, e267, hx267_0, hx267_1, hx267_2, hx267_3, hx267_4, hx267_5, hx267_6, hx267_7, hx267_8, hx267_9, hx267_10, hx267_11, hx267_12, hx267_13, hx267_14, hx267_15, hx267_16, hx267_17, hx267_18, hx267_19, hx267_20, hx267_21, hx267_22, hx267_23, hx267_24, hx267_25, hx267_26, hx267_27, hx267_28, hx267_29, hx267_30, hx267_31, hl267_4, hi267_4, hl267_27, hi267_27⟩ := at_T68 HR0_1.out x6_1 p267 q267
              (try rw [← Nbq7.out] at hx267_7)
              (try rw [← Nbq7.out] at hx267_8)
              (try rw [← Nbq7.out] at hx267_9)
              (try rw [← Nbq7.out] at hx267_15)
              (try rw [← Nbq7.out] at hx267_16)
              (try rw [← Nbq7.out] at hx267_25)
              obtain rfl : ad266 = ad267 := (by injection e267)
              replace hx267_0 := (HB.out.cell (World.block_lt_of_cell? w _ hx267_0)).trans hx267_0
              replace hx267_1 := (HB.out.cell (World.block_lt_of_cell? w _ hx267_1)).trans hx267_1
              replace hx267_2 := (HB.out.cell (World.block_lt_of_cell? w _ hx267_2)).trans hx267_2
              replace hx267_3 := (HB.out.cell (World.block_lt_of_cell? w _ hx267_3)).trans hx267_3
              replace hx267_4 := (HB.out.cell (World.block_lt_of_cell? w _ hx267_4)).trans hx267_4
              replace hx267_5 := (HB.out.cell (World.block_lt_of_cell? w _ hx267_5)).trans hx267_5
              replace hx267_6 := (HB.out.cell (World.block_lt_of_cell? w _ hx267_6)).trans hx267_6
              replace hx267_7 := (HB.out.cell (World.block_lt_of_cell? w _ hx267_7)).trans hx267_7
              replace hx267_8 := (HB.out.cell (World.block_lt_of_cell? w _ hx267_8)).trans hx267_8
              replace hx267_9 := (HB.out.cell (World.block_lt_of_cell? w _ hx267_9)).trans hx267_9
              replace hx267_10 := (HB.out.cell (World.block_lt_of_cell? w _ hx267_10)).trans hx267_10
              replace hx267_11 := (HB.out.cell (World.block_lt_of_cell? w _ hx267_11)).trans hx267_11
              replace hx267_12 := (HB.out.cell (World.block_lt_of_cell? w _ hx267_12)).trans hx267_12
              replace hx267_13 := (HB.out.cell (World.block_lt_of_cell? w _ hx267_13)).trans hx267_13
              replace hx267_14 := (HB.out.cell (World.block_lt_of_cell? w _ hx267_14)).trans hx267_14
              replace hx267_15 := (HB.out.cell (World.block_lt_of_cell? w _ hx267_15)).trans hx267_15
              replace hx267_16 := (HB.out.cell (World.block_lt_of_cell? w _ hx267_16)).trans hx267_16
              replace hx267_17 := (HB.out.cell (World.block_lt_of_cell? w _ hx267_17)).trans hx267_17
              replace hx267_18 := (HB.out.cell (World.block_lt_of_cell? w _ hx267_18)).trans hx267_18
              replace hx267_19 := (HB.out.cell (World.block_lt_of_cell? w _ hx267_19)).trans hx267_19
              replace hx267_20 := (HB.out.cell (World.block_lt_of_cell? w _ hx267_20)).trans hx267_20
              replace hx267_21 := (HB.out.cell (World.block_lt_of_cell? w _ hx267_21)).trans hx267_21
              replace hx267_22 := (HB.out.cell (World.block_lt_of_cell? w _ hx267_22)).trans hx267_22
              replace hx267_23 := (HB.out.cell (World.block_lt_of_cell? w _ hx267_23)).trans hx267_23
              replace hx267_24 := (HB.out.cell (World.block_lt_of_cell? w _ hx267_24)).trans hx267_24
              replace hx267_25 := (HB.out.cell (World.block_lt_of_cell? w _ hx267_25)).trans hx267_25
              replace hx267_26 := (HB.out.cell (World.block_lt_of_cell? w _ hx267_26)).trans hx267_26
              replace hx267_27 := (HB.out.cell (World.block_lt_of_cell? w _ hx267_27)).trans hx267_27
              replace hx267_28 := (HB.out.cell (World.block_lt_of_cell? w _ hx267_28)).trans hx267_28
              replace hx267_29 := (HB.out.cell (World.block_lt_of_cell? w _ hx267_29)).trans hx267_29
              replace hx267_30 := (HB.out.cell (World.block_lt_of_cell? w _ hx267_30)).trans hx267_30
              replace hx267_31 := (HB.out.cell (World.block_lt_of_cell? w _ hx267_31)).trans hx267_31
              have HR267_4 := Aside0.mk hi267_4
              have HC267_4 := Aside0.mk hl267_4
              clear hi267_4 hl267_4
              have HR267_27 := Aside0.mk hi267_27
              have HC267_27 := Aside0.mk hl267_27
              clear hi267_27 hl267_27
              replace p267 := eq_true p267
              replace q267 := eq_true q267
              have ea_ := Option.some.inj (hx266_4.symm.trans hx267_4)
              injection ea_ with ea_ en_ ec_
              subst ea_
              subst ec_
              clear en_
              have ea_ := Option.some.inj (hx266_27.symm.trans hx267_27)
              injection ea_ with ea_ en_ ec_
              subst ea_
              subst ec_
              clear en_
              go_wp2
              go_roundg k1
              case measure => have := HK1.out; omega
              case rel => exact ⟨(x5_1), (wrap64 (x6_1 + 1)), (by first | rfl | (simp; done) | (simp [*]; done)), (by first | rfl | (simp; done) | (simp [*]; done)), H', ⟨by have := HK1.out; omega⟩, ⟨by (with_reducible repeat (first | refine blk_drewN ?_ _ | refine blk_drew ?_ | refine blk_alloc ?_ _)); exact BK265.out⟩, ⟨by repeat (first | (with_reducible first | exact HB.out | apply below_alloc | apply pw_below_drewN | apply below_drew1 | refine below_set ?_ GE265.out) | exact HB.out)⟩⟩
            · replace c8 := Bool.eq_false_iff.mpr c8
              subst c8
              have H1 : (if (rd_T68 l0_1 x6_1).f14 = true then (flotillaref16_Ready.l0 k1 a1 (wrap64 (x5_1 + 1)) (wrap64 (x6_1 + 1)) l0_0 l0_1 l0_2 l0_3) else (flotillaref16_Ready.l0 k1 a1 x5_1 (wrap64 (x6_1 + 1)) l0_0 l0_1 l0_2 l0_3)) = some r := by rw [if_neg (show ¬ (false = true) by decide)] at H; exact H
              clear H
              have H := H1
              clear H1
              obtain ⟨bq10, hbq10⟩ : ∃ b_ : Bool, b_ = ((rd_T68 l0_1 x6_1).f14) := ⟨_, rfl⟩
              replace H : (if bq10 = true then (flotillaref16_Ready.l0 k1 a1 (wrap64 (x5_1 + 1)) (wrap64 (x6_1 + 1)) l0_0 l0_1 l0_2 l0_3) else (flotillaref16_Ready.l0 k1 a1 x5_1 (wrap64 (x6_1 + 1)) l0_0 l0_1 l0_2 l0_3)) = some r := by rw [← hbq10] at H; exact H
              have Nbq10 := Aside0.mk hbq10
              clear hbq10
              by_cases c11 : bq10 = true
              · subst c11
                have H1 : (flotillaref16_Ready.l0 k1 a1 (wrap64 (x5_1 + 1)) (wrap64 (x6_1 + 1)) l0_0 l0_1 l0_2 l0_3) = some r := by rw [if_pos rfl] at H; exact H
                clear H
                have H := H1
                clear H1
                have H' := Aside0.mk H
                clear H
                have hcz12_0 : wr.cell? ⟨gb265, 0, none⟩ = some (.slice A0_0 l0_0.length c0_0) := (blk_cell BK265.out 0).trans rfl
                have hcz12_1 : wr.cell? ⟨gb265, 1, none⟩ = some (.slice A0_1 l0_1.length c0_1) := (blk_cell BK265.out 1).trans rfl
                have hcz12_2 : wr.cell? ⟨gb265, 2, none⟩ = some (.slice A0_2 l0_2.length c0_2) := (blk_cell BK265.out 2).trans rfl
                have hcz12_3 : wr.cell? ⟨gb265, 3, none⟩ = some (.slice A0_3 l0_3.length c0_3) := (blk_cell BK265.out 3).trans rfl
                have hfz12_0 := blk_frozen BK265.out 0
                have hfz12_1 := blk_frozen BK265.out 1
                have hfz12_2 := blk_frozen BK265.out 2
                have hfz12_3 := blk_frozen BK265.out 3
                have p266 : 0 ≤ (x6_1 : Int) := of_decide_eq_true (by first | (with_reducible assumption) | assumption)
                have q266 : x6_1 < (l0_1.length : Int) := of_decide_eq_true (by first | (with_reducible assumption) | assumption)
                obtain ⟨ad266, A266_4, c266_4, A266_27, c266_27, e266, hx266_0, hx266_1, hx266_2, hx266_3, hx266_4, hx266_5, hx266_6, hx266_7, hx266_8, hx266_9, hx266_10, hx266_11, hx266_12, hx266_13, hx266_14, hx266_15, hx266_16, hx266_17, hx266_18, hx266_19, hx266_20, hx266_21, hx266_22, hx266_23, hx266_24, hx266_25, hx266_26, hx266_27, hx266_28, hx266_29, hx266_30, hx266_31, hl266_4, hi266_4, hl266_27, hi266_27⟩ := at_T68 HR0_1.out x6_1 p266 q266
                (try rw [← Nbq7.out] at hx266_7)
                (try rw [← Nbq10.out] at hx266_7)
                (try rw [← Nbq7.out] at hx266_8)
                (try rw [← Nbq10.out] at hx266_8)
                (try rw [← Nbq7.out] at hx266_9)
                (try rw [← Nbq10.out] at hx266_9)
                (try rw [← Nbq7.out] at hx266_15)
                (try rw [← Nbq10.out] at hx266_15)
                (try rw [← Nbq7.out] at hx266_16)
                (try rw [← Nbq10.out] at hx266_16)
                (try rw [← Nbq7.out] at hx266_25)
                (try rw [← Nbq10.out] at hx266_25)
                cases e266
                replace hx266_0 := (HB.out.cell (World.block_lt_of_cell? w _ hx266_0)).trans hx266_0
                replace hx266_1 := (HB.out.cell (World.block_lt_of_cell? w _ hx266_1)).trans hx266_1
                replace hx266_2 := (HB.out.cell (World.block_lt_of_cell? w _ hx266_2)).trans hx266_2
                replace hx266_3 := (HB.out.cell (World.block_lt_of_cell? w _ hx266_3)).trans hx266_3
                replace hx266_4 := (HB.out.cell (World.block_lt_of_cell? w _ hx266_4)).trans hx266_4
                replace hx266_5 := (HB.out.cell (World.block_lt_of_cell? w _ hx266_5)).trans hx266_5
                replace hx266_6 := (HB.out.cell (World.block_lt_of_cell? w _ hx266_6)).trans hx266_6
                replace hx266_7 := (HB.out.cell (World.block_lt_of_cell? w _ hx266_7)).trans hx266_7
                replace hx266_8 := (HB.out.cell (World.block_lt_of_cell? w _ hx266_8)).trans hx266_8
                replace hx266_9 := (HB.out.cell (World.block_lt_of_cell? w _ hx266_9)).trans hx266_9
                replace hx266_10 := (HB.out.cell (World.block_lt_of_cell? w _ hx266_10)).trans hx266_10
                replace hx266_11 := (HB.out.cell (World.block_lt_of_cell? w _ hx266_11)).trans hx266_11
                replace hx266_12 := (HB.out.cell (World.block_lt_of_cell? w _ hx266_12)).trans hx266_12
                replace hx266_13 := (HB.out.cell (World.block_lt_of_cell? w _ hx266_13)).trans hx266_13
                replace hx266_14 := (HB.out.cell (World.block_lt_of_cell? w _ hx266_14)).trans hx266_14
                replace hx266_15 := (HB.out.cell (World.block_lt_of_cell? w _ hx266_15)).trans hx266_15
                replace hx266_16 := (HB.out.cell (World.block_lt_of_cell? w _ hx266_16)).trans hx266_16
                replace hx266_17 := (HB.out.cell (World.block_lt_of_cell? w _ hx266_17)).trans hx266_17
                replace hx266_18 := (HB.out.cell (World.block_lt_of_cell? w _ hx266_18)).trans hx266_18
                replace hx266_19 := (HB.out.cell (World.block_lt_of_cell? w _ hx266_19)).trans hx266_19
                replace hx266_20 := (HB.out.cell (World.block_lt_of_cell? w _ hx266_20)).trans hx266_20
                replace hx266_21 := (HB.out.cell (World.block_lt_of_cell? w _ hx266_21)).trans hx266_21
                replace hx266_22 := (HB.out.cell (World.block_lt_of_cell? w _ hx266_22)).trans hx266_22
                replace hx266_23 := (HB.out.cell (World.block_lt_of_cell? w _ hx266_23)).trans hx266_23
                replace hx266_24 := (HB.out.cell (World.block_lt_of_cell? w _ hx266_24)).trans hx266_24
                replace hx266_25 := (HB.out.cell (World.block_lt_of_cell? w _ hx266_25)).trans hx266_25
                replace hx266_26 := (HB.out.cell (World.block_lt_of_cell? w _ hx266_26)).trans hx266_26
                replace hx266_27 := (HB.out.cell (World.block_lt_of_cell? w _ hx266_27)).trans hx266_27
                replace hx266_28 := (HB.out.cell (World.block_lt_of_cell? w _ hx266_28)).trans hx266_28
                replace hx266_29 := (HB.out.cell (World.block_lt_of_cell? w _ hx266_29)).trans hx266_29
                replace hx266_30 := (HB.out.cell (World.block_lt_of_cell? w _ hx266_30)).trans hx266_30
                replace hx266_31 := (HB.out.cell (World.block_lt_of_cell? w _ hx266_31)).trans hx266_31
                have HR266_4 := Aside0.mk hi266_4
                have HC266_4 := Aside0.mk hl266_4
                clear hi266_4 hl266_4
                have HR266_27 := Aside0.mk hi266_27
                have HC266_27 := Aside0.mk hl266_27
                clear hi266_27 hl266_27
                replace p266 := eq_true p266
                replace q266 := eq_true q266
                have p267 : 0 ≤ (x6_1 : Int) := of_decide_eq_true (by first | (with_reducible assumption) | assumption)
                have q267 : x6_1 < (l0_1.length : Int) := of_decide_eq_true (by first | (with_reducible assumption) | assumption)
                obtain ⟨ad267, A267_4, c267_4, A267_27, c267_27, e267, hx267_0, hx267_1, hx267_2, hx267_3, hx267_4, hx267_5, hx267_6, hx267_7, hx267_8, hx267_9, hx267_10, hx267_11, hx267_12, hx267_13, hx267_14, hx267_15, hx267_16, hx267_17, hx267_18, hx267_19, hx267_20, hx267_21, hx267_22, hx267_23, hx267_24, hx267_25, hx267_26, hx267_27, hx267_28, hx267_29, hx267_30, hx267_31, hl267_4, hi267_4, hl267_27, hi267_27⟩ := at_T68 HR0_1.out x6_1 p267 q267
                (try rw [← Nbq7.out] at hx267_7)
                (try rw [← Nbq10.out] at hx267_7)
                (try rw [← Nbq7.out] at hx267_8)
                (try rw [← Nbq10.out] at hx267_8)
                (try rw [← Nbq7.out] at hx267_9)
                (try rw [← Nbq10.out] at hx267_9)
                (try rw [← Nbq7.out] at hx267_15)
                (try rw [← Nbq10.out] at hx267_15)
                (try rw [← Nbq7.out] at hx267_16)
                (try rw [← Nbq10.out] at hx267_16)
                (try rw [← Nbq7.out] at hx267_25)
                (try rw [← Nbq10.out] at hx267_25)
                obtain rfl : ad266 = ad267 := (by injection e267)
                replace hx267_0 := (HB.out.cell (World.block_lt_of_cell? w _ hx267_0)).trans hx267_0
                replace hx267_1 := (HB.out.cell (World.block_lt_of_cell? w _ hx267_1)).trans hx267_1
                replace hx267_2 := (HB.out.cell (World.block_lt_of_cell? w _ hx267_2)).trans hx267_2
                replace hx267_3 := (HB.out.cell (World.block_lt_of_cell? w _ hx267_3)).trans hx267_3
                replace hx267_4 := (HB.out.cell (World.block_lt_of_cell? w _ hx267_4)).trans hx267_4
                replace hx267_5 := (HB.out.cell (World.block_lt_of_cell? w _ hx267_5)).trans hx267_5
                replace hx267_6 := (HB.out.cell (World.block_lt_of_cell? w _ hx267_6)).trans hx267_6
                replace hx267_7 := (HB.out.cell (World.block_lt_of_cell? w _ hx267_7)).trans hx267_7
                replace hx267_8 := (HB.out.cell (World.block_lt_of_cell? w _ hx267_8)).trans hx267_8
                replace hx267_9 := (HB.out.cell (World.block_lt_of_cell? w _ hx267_9)).trans hx267_9
                replace hx267_10 := (HB.out.cell (World.block_lt_of_cell? w _ hx267_10)).trans hx267_10
                replace hx267_11 := (HB.out.cell (World.block_lt_of_cell? w _ hx267_11)).trans hx267_11
                replace hx267_12 := (HB.out.cell (World.block_lt_of_cell? w _ hx267_12)).trans hx267_12
                replace hx267_13 := (HB.out.cell (World.block_lt_of_cell? w _ hx267_13)).trans hx267_13
                replace hx267_14 := (HB.out.cell (World.block_lt_of_cell? w _ hx267_14)).trans hx267_14
                replace hx267_15 := (HB.out.cell (World.block_lt_of_cell? w _ hx267_15)).trans hx267_15
                replace hx267_16 := (HB.out.cell (World.block_lt_of_cell? w _ hx267_16)).trans hx267_16
                replace hx267_17 := (HB.out.cell (World.block_lt_of_cell? w _ hx267_17)).trans hx267_17
                replace hx267_18 := (HB.out.cell (World.block_lt_of_cell? w _ hx267_18)).trans hx267_18
                replace hx267_19 := (HB.out.cell (World.block_lt_of_cell? w _ hx267_19)).trans hx267_19
                replace hx267_20 := (HB.out.cell (World.block_lt_of_cell? w _ hx267_20)).trans hx267_20
                replace hx267_21 := (HB.out.cell (World.block_lt_of_cell? w _ hx267_21)).trans hx267_21
                replace hx267_22 := (HB.out.cell (World.block_lt_of_cell? w _ hx267_22)).trans hx267_22
                replace hx267_23 := (HB.out.cell (World.block_lt_of_cell? w _ hx267_23)).trans hx267_23
                replace hx267_24 := (HB.out.cell (World.block_lt_of_cell? w _ hx267_24)).trans hx267_24
                replace hx267_25 := (HB.out.cell (World.block_lt_of_cell? w _ hx267_25)).trans hx267_25
                replace hx267_26 := (HB.out.cell (World.block_lt_of_cell? w _ hx267_26)).trans hx267_26
                replace hx267_27 := (HB.out.cell (World.block_lt_of_cell? w _ hx267_27)).trans hx267_27
                replace hx267_28 := (HB.out.cell (World.block_lt_of_cell? w _ hx267_28)).trans hx267_28
                replace hx267_29 := (HB.out.cell (World.block_lt_of_cell? w _ hx267_29)).trans hx267_29
                replace hx267_30 := (HB.out.cell (World.block_lt_of_cell? w _ hx267_30)).trans hx267_30
                replace hx267_31 := (HB.out.cell (World.block_lt_of_cell? w _ hx267_31)).trans hx267_31
                have HR267_4 := Aside0.mk hi267_4
                have HC267_4 := Aside0.mk hl267_4
                clear hi267_4 hl267_4
                have HR267_27 := Aside0.mk hi267_27
                have HC267_27 := Aside0.mk hl267_27
                clear hi267_27 hl267_27
                replace p267 := eq_true p267
                replace q267 := eq_true q267
                have ea_ := Option.some.inj (hx266_4.symm.trans hx267_4)
                injection ea_ with ea_ en_ ec_
                subst ea_
                subst ec_
                clear en_
                have ea_ := Option.some.inj (hx266_27.symm.trans hx267_27)
                injection ea_ with ea_ en_ ec_
                subst ea_
                subst ec_
                clear en_
                have p268 : 0 ≤ (x6_1 : Int) := of_decide_eq_true (by first | (with_reducible assumption) | assumption)
                have q268 : x6_1 < (l0_1.length : Int) := of_decide_eq_true (by first | (with_reducible assumption) | assumption)
                obtain ⟨ad268, A268_4, c268_4, A268_27, c268_27, e268, hx268_0, hx268_1, hx268_2, hx268_3, hx268_4, hx268_5, hx268_6, hx268_7, hx268_8, hx268_9, hx268_10, hx268_11, hx268_12, hx268_13, hx268_14, hx268_15, hx268_16, hx268_17, hx268_18, hx268_19, hx268_20, hx268_21, hx268_22, hx268_23, hx268_24, hx268_25, hx268_26, hx268_27, hx268_28, hx268_29, hx268_30, hx268_31, hl268_4, hi268_4, hl268_27, hi268_27⟩ := at_T68 HR0_1.out x6_1 p268 q268
                (try rw [← Nbq7.out] at hx268_7)
                (try rw [← Nbq10.out] at hx268_7)
                (try rw [← Nbq7.out] at hx268_8)
                (try rw [← Nbq10.out] at hx268_8)
                (try rw [← Nbq7.out] at hx268_9)
                (try rw [← Nbq10.out] at hx268_9)
                (try rw [← Nbq7.out] at hx268_15)
                (try rw [← Nbq10.out] at hx268_15)
                (try rw [← Nbq7.out] at hx268_16)
                (try rw [← Nbq10.out] at hx268_16)
                (try rw [← Nbq7.out] at hx268_25)
                (try rw [← Nbq10.out] at hx268_25)
                obtain rfl : ad266 = ad268 := (by injection e268)
                replace hx268_0 := (HB.out.cell (World.block_lt_of_cell? w _ hx268_0)).trans hx268_0
                replace hx268_1 := (HB.out.cell (World.block_lt_of_cell? w _ hx268_1)).trans hx268_1
                replace hx268_2 := (HB.out.cell (World.block_lt_of_cell? w _ hx268_2)).trans hx268_2
                replace hx268_3 := (HB.out.cell (World.block_lt_of_cell? w _ hx268_3)).trans hx268_3
                replace hx268_4 := (HB.out.cell (World.block_lt_of_cell? w _ hx268_4)).trans hx268_4
                replace hx268_5 := (HB.out.cell (World.block_lt_of_cell? w _ hx268_5)).trans hx268_5
                replace hx268_6 := (HB.out.cell (World.block_lt_of_cell? w _ hx268_6)).trans hx268_6
                replace hx268_7 := (HB.out.cell (World.block_lt_of_cell? w _ hx268_7)).trans hx268_7
                replace hx268_8 := (HB.out.cell (World.block_lt_of_cell? w _ hx268_8)).trans hx268_8
                replace hx268_9 := (HB.out.cell (World.block_lt_of_cell? w _ hx268_9)).trans hx268_9
                replace hx268_10 := (HB.out.cell (World.block_lt_of_cell? w _ hx268_10)).trans hx268_10
                replace hx268_11 := (HB.out.cell (World.block_lt_of_cell? w _ hx268_11)).trans hx268_11
                replace hx268_12 := (HB.out.cell (World.block_lt_of_cell? w _ hx268_12)).trans hx268_12
                replace hx268_13 := (HB.out.cell (World.block_lt_of_cell? w _ hx268_13)).trans hx268_13
                replace hx268_14 := (HB.out.cell (World.block_lt_of_cell? w _ hx268_14)).trans hx268_14
                replace hx268_15 := (HB.out.cell (World.block_lt_of_cell? w _ hx268_15)).trans hx268_15
                replace hx268_16 := (HB.out.cell (World.block_lt_of_cell? w _ hx268_16)).trans hx268_16
                replace hx268_17 := (HB.out.cell (World.block_lt_of_cell? w _ hx268_17)).trans hx268_17
                replace hx268_18 := (HB.out.cell (World.block_lt_of_cell? w _ hx268_18)).trans hx268_18
                replace hx268_19 := (HB.out.cell (World.block_lt_of_cell? w _ hx268_19)).trans hx268_19
                replace hx268_20 := (HB.out.cell (World.block_lt_of_cell? w _ hx268_20)).trans hx268_20
                replace hx268_21 := (HB.out.cell (World.block_lt_of_cell? w _ hx268_21)).trans hx268_21
                replace hx268_22 := (HB.out.cell (World.block_lt_of_cell? w _ hx268_22)).trans hx268_22
                replace hx268_23 := (HB.out.cell (World.block_lt_of_cell? w _ hx268_23)).trans hx268_23
                replace hx268_24 := (HB.out.cell (World.block_lt_of_cell? w _ hx268_24)).trans hx268_24
                replace hx268_25 := (HB.out.cell (World.block_lt_of_cell? w _ hx268_25)).trans hx268_25
                replace hx268_26 := (HB.out.cell (World.block_lt_of_cell? w _ hx268_26)).trans hx268_26
                replace hx268_27 := (HB.out.cell (World.block_lt_of_cell? w _ hx268_27)).trans hx268_27
                replace hx268_28 := (HB.out.cell (World.block_lt_of_cell? w _ hx268_28)).trans hx268_28
                replace hx268_29 := (HB.out.cell (World.block_lt_of_cell? w _ hx268_29)).trans hx268_29
                replace hx268_30 := (HB.out.cell (World.block_lt_of_cell? w _ hx268_30)).trans hx268_30
                replace hx268_31 := (HB.out.cell (World.block_lt_of_cell? w _ hx268_31)).trans hx268_31
                have HR268_4 := Aside0.mk hi268_4
                have HC268_4 := Aside0.mk hl268_4
                clear hi268_4 hl268_4
                have HR268_27 := Aside0.mk hi268_27
                have HC268_27 := Aside0.mk hl268_27
                clear hi268_27 hl268_27
                replace p268 := eq_true p268
                replace q268 := eq_true q268
                have ea_ := Option.some.inj (hx266_4.symm.trans hx268_4)
                injection ea_ with ea_ en_ ec_
                subst ea_
                subst ec_
                clear en_
                have ea_ := Option.some.inj (hx266_27.symm.trans hx268_27)
                injection ea_ with ea_ en_ ec_
                subst ea_
                subst ec_
                clear en_
                go_wp2
                go_roundg k1
                case measure => have := HK1.out; omega
                case rel => exact ⟨(wrap64 (x5_1 + 1)), (wrap64 (x6_1 + 1)), (by first | rfl | (simp; done) | (simp [*]; done)), (by first | rfl | (simp; done) | (simp [*]; done)), H', ⟨by have := HK1.out; omega⟩, ⟨by (with_reducible repeat (first | refine blk_drewN ?_ _ | refine blk_drew ?_ | refine blk_alloc ?_ _)); exact BK265.out⟩, ⟨by repeat (first | (with_reducible first | exact HB.out | apply below_alloc | apply pw_below_drewN | apply below_drew1 | refine below_set ?_ GE265.out) | exact HB.out)⟩⟩
              · replace c11 := Bool.eq_false_iff.mpr c11
                subst c11
                have H1 : (flotillaref16_Ready.l0 k1 a1 x5_1 (wrap64 (x6_1 + 1)) l0_0 l0_1 l0_2 l0_3) = some r := by rw [if_neg (show ¬ (false = true) by decide)] at H; exact H
                clear H
                have H := H1
                clear H1
                have H' := Aside0.mk H
                clear H
                have hcz13_0 : wr.cell? ⟨gb265, 0, none⟩ = some (.slice A0_0 l0_0.length c0_0) := (blk_cell BK265.out 0).trans rfl
                have hcz13_1 : wr.cell? ⟨gb265, 1, none⟩ = some (.slice A0_1 l0_1.length c0_1) := (blk_cell BK265.out 1).trans rfl
                have hcz13_2 : wr.cell? ⟨gb265, 2, none⟩ = some (.slice A0_2 l0_2.length c0_2) := (blk_cell BK265.out 2).trans rfl
                have hcz13_3 : wr.cell? ⟨gb265, 3, none⟩ = some (.slice A0_3 l0_3.length c0_3) := (blk_cell BK265.out 3).trans rfl
                have hfz13_0 := blk_frozen BK265.out 0
                have hfz13_1 := blk_frozen BK265.out 1
                have hfz13_2 := blk_frozen BK265.out 2
                have hfz13_3 := blk_frozen BK265.out 3
                have p266 : 0 ≤ (x6_1 : Int) := of_decide_eq_true (by first | (with_reducible assumption) | assumption)
                have q266 : x6_1 < (l0_1.length : Int) := of_decide_eq_true (by first | (with_reducible assumption) | assumption)
                obtain ⟨ad266, A266_4, c266_4, A266_27, c266_27, e266, hx266_0, hx266_1, hx266_2, hx266_3, hx266_4, hx266_5, hx266_6, hx266_7, hx266_8, hx266_9, hx266_10, hx266_11, hx266_12, hx266_13, hx266_14, hx266_15, hx266_16, hx266_17, hx266_18, hx266_19, hx266_20, hx266_21, hx266_22, hx266_23, hx266_24, hx266_25, hx266_26, hx266_27, hx266_28, hx266_29, hx266_30, hx266_31, hl266_4, hi266_4, hl266_27, hi266_27⟩ := at_T68 HR0_1.out x6_1 p266 q266
                (try rw [← Nbq7.out] at hx266_7)
                (try rw [← Nbq10.out] at hx266_7)
                (try rw [← Nbq7.out] at hx266_8)
                (try rw [← Nbq10.out] at hx266_8)
                (try rw [← Nbq7.out] at hx266_9)
                (try rw [← Nbq10.out] at hx266_9)
                (try rw [← Nbq7.out] at hx266_15)
                (try rw [← Nbq10.out] at hx266_15)
                (try rw [← Nbq7.out] at hx266_16)
                (try rw [← Nbq10.out] at hx266_16)
                (try rw [← Nbq7.out] at hx266_25)
                (try rw [← Nbq10.out] at hx266_25)
                cases e266
                replace hx266_0 := (HB.out.cell (World.block_lt_of_cell? w _ hx266_0)).trans hx266_0
                replace hx266_1 := (HB.out.cell (World.block_lt_of_cell? w _ hx266_1)).trans hx266_1
                replace hx266_2 := (HB.out.cell (World.block_lt_of_cell? w _ hx266_2)).trans hx266_2
                replace hx266_3 := (HB.out.cell (World.block_lt_of_cell? w _ hx266_3)).trans hx266_3
                replace hx266_4 := (HB.out.cell (World.block_lt_of_cell? w _ hx266_4)).trans hx266_4
                replace hx266_5 := (HB.out.cell (World.block_lt_of_cell? w _ hx266_5)).trans hx266_5
                replace hx266_6 := (HB.out.cell (World.block_lt_of_cell? w _ hx266_6)).trans hx266_6
                replace hx266_7 := (HB.out.cell (World.block_lt_of_cell? w _ hx266_7)).trans hx266_7
                replace hx266_8 := (HB.out.cell (World.block_lt_of_cell? w _ hx266_8)).trans hx266_8
                replace hx266_9 := (HB.out.cell (World.block_lt_of_cell? w _ hx266_9)).trans hx266_9
                replace hx266_10 := (HB.out.cell (World.block_lt_of_cell? w _ hx266_10)).trans hx266_10
                replace hx266_11 := (HB.out.cell (World.block_lt_of_cell? w _ hx266_11)).trans hx266_11
                replace hx266_12 := (HB.out.cell (World.block_lt_of_cell? w _ hx266_12)).trans hx266_12
                replace hx266_13 := (HB.out.cell (World.block_lt_of_cell? w _ hx266_13)).trans hx266_13
                replace hx266_14 := (HB.out.cell (World.block_lt_of_cell? w _ hx266_14)).trans hx266_14
                replace hx266_15 := (HB.out.cell (World.block_lt_of_cell? w _ hx266_15)).trans hx266_15
                replace hx266_16 := (HB.out.cell (World.block_lt_of_cell? w _ hx266_16)).trans hx266_16
                replace hx266_17 := (HB.out.cell (World.block_lt_of_cell? w _ hx266_17)).trans hx266_17
                replace hx266_18 := (HB.out.cell (World.block_lt_of_cell? w _ hx266_18)).trans hx266_18
                replace hx266_19 := (HB.out.cell (World.block_lt_of_cell? w _ hx266_19)).trans hx266_19
                replace hx266_20 := (HB.out.cell (World.block_lt_of_cell? w _ hx266_20)).trans hx266_20
                replace hx266_21 := (HB.out.cell (World.block_lt_of_cell? w _ hx266_21)).trans hx266_21
                replace hx266_22 := (HB.out.cell (World.block_lt_of_cell? w _ hx266_22)).trans hx266_22
                replace hx266_23 := (HB.out.cell (World.block_lt_of_cell? w _ hx266_23)).trans hx266_23
                replace hx266_24 := (HB.out.cell (World.block_lt_of_cell? w _ hx266_24)).trans hx266_24
                replace hx266_25 := (HB.out.cell (World.block_lt_of_cell? w _ hx266_25)).trans hx266_25
                replace hx266_26 := (HB.out.cell (World.block_lt_of_cell? w _ hx266_26)).trans hx266_26
                replace hx266_27 := (HB.out.cell (World.block_lt_of_cell? w _ hx266_27)).trans hx266_27
                replace hx266_28 := (HB.out.cell (World.block_lt_of_cell? w _ hx266_28)).trans hx266_28
                replace hx266_29 := (HB.out.cell (World.block_lt_of_cell? w _ hx266_29)).trans hx266_29
                replace hx266_30 := (HB.out.cell (World.block_lt_of_cell? w _ hx266_30)).trans hx266_30
                replace hx266_31 := (HB.out.cell (World.block_lt_of_cell? w _ hx266_31)).trans hx266_31
                have HR266_4 := Aside0.mk hi266_4
                have HC266_4 := Aside0.mk hl266_4
                clear hi266_4 hl266_4
                have HR266_27 := Aside0.mk hi266_27
                have HC266_27 := Aside0.mk hl266_27
                clear hi266_27 hl266_27
                replace p266 := eq_true p266
                replace q266 := eq_true q266
                have p267 : 0 ≤ (x6_1 : Int) := of_decide_eq_true (by first | (with_reducible assumption) | assumption)
                have q267 : x6_1 < (l0_1.length : Int) := of_decide_eq_true (by first | (with_reducible assumption) | assumption)
                obtain ⟨ad267, A267_4, c267_4, A267_27, c267_27, e267, hx267_0, hx267_1, hx267_2, hx267_3, hx267_4, hx267_5, hx267_6, hx267_7, hx267_8, hx267_9, hx267_10, hx267_11, hx267_12, hx267_13, hx267_14, hx267_15, hx267_16, hx267_17, hx267_18, hx267_19, hx267_20, hx267_21, hx267_22, hx267_23, hx267_24, hx267_25, hx267_26, hx267_27, hx267_28, hx267_29, hx267_30, hx267_31, hl267_4, hi267_4, hl267_27, hi267_27⟩ := at_T68 HR0_1.out x6_1 p267 q267
                (try rw [← Nbq7.out] at hx267_7)
                (try rw [← Nbq10.out] at hx267_7)
                (try rw [← Nbq7.out] at hx267_8)
                (try rw [← Nbq10.out] at hx267_8)
                (try rw [← Nbq7.out] at hx267_9)
                (try rw [← Nbq10.out] at hx267_9)
                (try rw [← Nbq7.out] at hx267_15)
                (try rw [← Nbq10.out] at hx267_15)
                (try rw [← Nbq7.out] at hx267_16)
                (try rw [← Nbq10.out] at hx267_16)
                (try rw [← Nbq7.out] at hx267_25)
                (try rw [← Nbq10.out] at hx267_25)
                obtain rfl : ad266 = ad267 := (by injection e267)
                replace hx267_0 := (HB.out.cell (World.block_lt_of_cell? w _ hx267_0)).trans hx267_0
                replace hx267_1 := (HB.out.cell (World.block_lt_of_cell? w _ hx267_1)).trans hx267_1
                replace hx267_2 := (HB.out.cell (World.block_lt_of_cell? w _ hx267_2)).trans hx267_2
                replace hx267_3 := (HB.out.cell (World.block_lt_of_cell? w _ hx267_3)).trans hx267_3
                replace hx267_4 := (HB.out.cell (World.block_lt_of_cell? w _ hx267_4)).trans hx267_4
                replace hx267_5 := (HB.out.cell (World.block_lt_of_cell? w _ hx267_5)).trans hx267_5
                replace hx267_6 := (HB.out.cell (World.block_lt_of_cell? w _ hx267_6)).trans hx267_6
                replace hx267_7 := (HB.out.cell (World.block_lt_of_cell? w _ hx267_7)).trans hx267_7
                replace hx267_8 := (HB.out.cell (World.block_lt_of_cell? w _ hx267_8)).trans hx267_8
                replace hx267_9 := (HB.out.cell (World.block_lt_of_cell? w _ hx267_9)).trans hx267_9
                replace hx267_10 := (HB.out.cell (World.block_lt_of_cell? w _ hx267_10)).trans hx267_10
                replace hx267_11 := (HB.out.cell (World.block_lt_of_cell? w _ hx267_11)).trans hx267_11
                replace hx267_12 := (HB.out.cell (World.block_lt_of_cell? w _ hx267_12)).trans hx267_12
                replace hx267_13 := (HB.out.cell (World.block_lt_of_cell? w _ hx267_13)).trans hx267_13
                replace hx267_14 := (HB.out.cell (World.block_lt_of_cell? w _ hx267_14)).trans hx267_14
                replace hx267_15 := (HB.out.cell (World.block_lt_of_cell? w _ hx267_15)).trans hx267_15
                replace hx267_16 := (HB.out.cell (World.block_lt_of_cell? w _ hx267_16)).trans hx267_16
                replace hx267_17 := (HB.out.cell (World.block_lt_of_cell? w _ hx267_17)).trans hx267_17
                replace hx267_18 := (HB.out.cell (World.block_lt_of_cell? w _ hx267_18)).trans hx267_18
                replace hx267_19 := (HB.out.cell (World.block_lt_of_cell? w _ hx267_19)).trans hx267_19
                replace hx267_20 := (HB.out.cell (World.block_lt_of_cell? w _ hx267_20)).trans hx267_20
                replace hx267_21 := (HB.out.cell (World.block_lt_of_cell? w _ hx267_21)).trans hx267_21
                replace hx267_22 := (HB.out.cell (World.block_lt_of_cell? w _ hx267_22)).trans hx267_22
                replace hx267_23 := (HB.out.cell (World.block_lt_of_cell? w _ hx267_23)).trans hx267_23
                replace hx267_24 := (HB.out.cell (World.block_lt_of_cell? w _ hx267_24)).trans hx267_24
                replace hx267_25 := (HB.out.cell (World.block_lt_of_cell? w _ hx267_25)).trans hx267_25
                replace hx267_26 := (HB.out.cell (World.block_lt_of_cell? w _ hx267_26)).trans hx267_26
                replace hx267_27 := (HB.out.cell (World.block_lt_of_cell? w _ hx267_27)).trans hx267_27
                replace hx267_28 := (HB.out.cell (World.block_lt_of_cell? w _ hx267_28)).trans hx267_28
                replace hx267_29 := (HB.out.cell (World.block_lt_of_cell? w _ hx267_29)).trans hx267_29
                replace hx267_30 := (HB.out.cell (World.block_lt_of_cell? w _ hx267_30)).trans hx267_30
                replace hx267_31 := (HB.out.cell (World.block_lt_of_cell? w _ hx267_31)).trans hx267_31
                have HR267_4 := Aside0.mk hi267_4
                have HC267_4 := Aside0.mk hl267_4
                clear hi267_4 hl267_4
                have HR267_27 := Aside0.mk hi267_27
                have HC267_27 := Aside0.mk hl267_27
                clear hi267_27 hl267_27
                replace p267 := eq_true p267
                replace q267 := eq_true q267
                have ea_ := Option.some.inj (hx266_4.symm.trans hx267_4)
                injection ea_ with ea_ en_ ec_
                subst ea_
                subst ec_
                clear en_
                have ea_ := Option.some.inj (hx266_27.symm.trans hx267_27)
                injection ea_ with ea_ en_ ec_
                subst ea_
                subst ec_
                clear en_
                have p268 : 0 ≤ (x6_1 : Int) := of_decide_eq_true (by first | (with_reducible assumption) | assumption)
                have q268 : x6_1 < (l0_1.length : Int) := of_decide_eq_true (by first | (with_reducible assumption) | assumption)
                obtain ⟨ad268, A268_4, c268_4, A268_27, c268_27, e268, hx268_0, hx268_1, hx268_2, hx268_3, hx268_4, hx268_5, hx268_6, hx268_7, hx268_8, hx268_9, hx268_10, hx268_11, hx268_12, hx268_13, hx268_14, hx268_15, hx268_16, hx268_17, hx268_18, hx268_19, hx268_20, hx268_21, hx268_22, hx268_23, hx268_24, hx268_25, hx268_26, hx268_27, hx268_28, hx268_29, hx268_30, hx268_31, hl268_4, hi268_4, hl268_27, hi268_27⟩ := at_T68 HR0_1.out x6_1 p268 q268
                (try rw [← Nbq7.out] at hx268_7)
                (try rw [← Nbq10.out] at hx268_7)
                (try rw [← Nbq7.out] at hx268_8)
                (try rw [← Nbq10.out] at hx268_8)
                (try rw [← Nbq7.out] at hx268_9)
                (try rw [← Nbq10.out] at hx268_9)
                (try rw [← Nbq7.out] at hx268_15)
                (try rw [← Nbq10.out] at hx268_15)
                (try rw [← Nbq7.out] at hx268_16)
                (try rw [← Nbq10.out] at hx268_16)
                (try rw [← Nbq7.out] at hx268_25)
                (try rw [← Nbq10.out] at hx268_25)
                obtain rfl : ad266 = ad268 := (by injection e268)
                replace hx268_0 := (HB.out.cell (World.block_lt_of_cell? w _ hx268_0)).trans hx268_0
                replace hx268_1 := (HB.out.cell (World.block_lt_of_cell? w _ hx268_1)).trans hx268_1
                replace hx268_2 := (HB.out.cell (World.block_lt_of_cell? w _ hx268_2)).trans hx268_2
                replace hx268_3 := (HB.out.cell (World.block_lt_of_cell? w _ hx268_3)).trans hx268_3
                replace hx268_4 := (HB.out.cell (World.block_lt_of_cell? w _ hx268_4)).trans hx268_4
                replace hx268_5 := (HB.out.cell (World.block_lt_of_cell? w _ hx268_5)).trans hx268_5
                replace hx268_6 := (HB.out.cell (World.block_lt_of_cell? w _ hx268_6)).trans hx268_6
                replace hx268_7 := (HB.out.cell (World.block_lt_of_cell? w _ hx268_7)).trans hx268_7
                replace hx268_8 := (HB.out.cell (World.block_lt_of_cell? w _ hx268_8)).trans hx268_8
                replace hx268_9 := (HB.out.cell (World.block_lt_of_cell? w _ hx268_9)).trans hx268_9
                replace hx268_10 := (HB.out.cell (World.block_lt_of_cell? w _ hx268_10)).trans hx268_10
                replace hx268_11 := (HB.out.cell (World.block_lt_of_cell? w _ hx268_11)).trans hx268_11
                replace hx268_12 := (HB.out.cell (World.block_lt_of_cell? w _ hx268_12)).trans hx268_12
                replace hx268_13 := (HB.out.cell (World.block_lt_of_cell? w _ hx268_13)).trans hx268_13
                replace hx268_14 := (HB.out.cell (World.block_lt_of_cell? w _ hx268_14)).trans hx268_14
                replace hx268_15 := (HB.out.cell (World.block_lt_of_cell? w _ hx268_15)).trans hx268_15
                replace hx268_16 := (HB.out.cell (World.block_lt_of_cell? w _ hx268_16)).trans hx268_16
                replace hx268_17 := (HB.out.cell (World.block_lt_of_cell? w _ hx268_17)).trans hx268_17
                replace hx268_18 := (HB.out.cell (World.block_lt_of_cell? w _ hx268_18)).trans hx268_18
                replace hx268_19 := (HB.out.cell (World.block_lt_of_cell? w _ hx268_19)).trans hx268_19
                replace hx268_20 := (HB.out.cell (World.block_lt_of_cell? w _ hx268_20)).trans hx268_20
                replace hx268_21 := (HB.out.cell (World.block_lt_of_cell? w _ hx268_21)).trans hx268_21
                replace hx268_22 := (HB.out.cell (World.block_lt_of_cell? w _ hx268_22)).trans hx268_22
                replace hx268_23 := (HB.out.cell (World.block_lt_of_cell? w _ hx268_23)).trans hx268_23
                replace hx268_24 := (HB.out.cell (World.block_lt_of_cell? w _ hx268_24)).trans hx268_24
                replace hx268_25 := (HB.out.cell (World.block_lt_of_cell? w _ hx268_25)).trans hx268_25
                replace hx268_26 := (HB.out.cell (World.block_lt_of_cell? w _ hx268_26)).trans hx268_26
                replace hx268_27 := (HB.out.cell (World.block_lt_of_cell? w _ hx268_27)).trans hx268_27
                replace hx268_28 := (HB.out.cell (World.block_lt_of_cell? w _ hx268_28)).trans hx268_28
                replace hx268_29 := (HB.out.cell (World.block_lt_of_cell? w _ hx268_29)).trans hx268_29
                replace hx268_30 := (HB.out.cell (World.block_lt_of_cell? w _ hx268_30)).trans hx268_30
                replace hx268_31 := (HB.out.cell (World.block_lt_of_cell? w _ hx268_31)).trans hx268_31
                have HR268_4 := Aside0.mk hi268_4
                have HC268_4 := Aside0.mk hl268_4
                clear hi268_4 hl268_4
                have HR268_27 := Aside0.mk hi268_27
                have HC268_27 := Aside0.mk hl268_27
                clear hi268_27 hl268_27
                replace p268 := eq_true p268
                replace q268 := eq_true q268
                have ea_ := Option.some.inj (hx266_4.symm.trans hx268_4)
                injection ea_ with ea_ en_ ec_
                subst ea_
                subst ec_
                clear en_
                have ea_ := Option.some.inj (hx266_27.symm.trans hx268_27)
                injection ea_ with ea_ en_ ec_
                subst ea_
                subst ec_
                clear en_
                go_wp2
                go_roundg k1
                case measure => have := HK1.out; omega
                case rel => exact ⟨(x5_1), (wrap64 (x6_1 + 1)), (by first | rfl | (simp; done) | (simp [*]; done)), (by first | rfl | (simp; done) | (simp [*]; done)), H', ⟨by have := HK1.out; omega⟩, ⟨by (with_reducible repeat (first | refine blk_drewN ?_ _ | refine blk_drew ?_ | refine blk_alloc ?_ _)); exact BK265.out⟩, ⟨by repeat (first | (with_reducible first | exact HB.out | apply below_alloc | apply pw_below_drewN | apply below_drew1 | refine below_set ?_ GE265.out) | exact HB.out)⟩⟩
          · rw [if_neg c6] at H
            have c6b0 : (((rd_T68 l0_1 x6_1).f10).toList == a1.toList) = false := beq_eq_false_iff_ne.mpr c6
            have c6b1 : (((rd_T68 l0_1 x6_1).f10).toList != a1.toList) = true := bne_iff_ne.mpr c6
            have H' := Aside0.mk H
            clear H
            have hcz14_0 : wr.cell? ⟨gb265, 0, none⟩ = some (.slice A0_0 l0_0.length c0_0) := (blk_cell BK265.out 0).trans rfl
            have hcz14_1 : wr.cell? ⟨gb265, 1, none⟩ = some (.slice A0_1 l0_1.length c0_1) := (blk_cell BK265.out 1).trans rfl
            have hcz14_2 : wr.cell? ⟨gb265, 2, none⟩ = some (.slice A0_2 l0_2.length c0_2) := (blk_cell BK265.out 2).trans rfl
            have hcz14_3 : wr.cell? ⟨gb265, 3, none⟩ = some (.slice A0_3 l0_3.length c0_3) := (blk_cell BK265.out 3).trans rfl
            have hfz14_0 := blk_frozen BK265.out 0
            have hfz14_1 := blk_frozen BK265.out 1
            have hfz14_2 := blk_frozen BK265.out 2
            have hfz14_3 := blk_frozen BK265.out 3
            have p266 : 0 ≤ (x6_1 : Int) := of_decide_eq_true (by first | (with_reducible assumption) | assumption)
            have q266 : x6_1 < (l0_1.length : Int) := of_decide_eq_true (by first | (with_reducible assumption) | assumption)
            obtain ⟨ad266, A266_4, c266_4, A266_27, c266_27, e266, hx266_0, hx266_1, hx266_2, hx266_3, hx266_4, hx266_5, hx266_6, hx266_7, hx266_8, hx266_9, hx266_10, hx266_11, hx266_12, hx266_13, hx266_14, hx266_15, hx266_16, hx266_17, hx266_18, hx266_19, hx266_20, hx266_21, hx266_22, hx266_23, hx266_24, hx266_25, hx266_26, hx266_27, hx266_28, hx266_29, hx266_30, hx266_31, hl266_4, hi266_4, hl266_27, hi266_27⟩ := at_T68 HR0_1.out x6_1 p266 q266
            cases e266
            replace hx266_0 := (HB.out.cell (World.block_lt_of_cell? w _ hx266_0)).trans hx266_0
            replace hx266_1 := (HB.out.cell (World.block_lt_of_cell? w _ hx266_1)).trans hx266_1
            replace hx266_2 := (HB.out.cell (World.block_lt_of_cell? w _ hx266_2)).trans hx266_2
            replace hx266_3 := (HB.out.cell (World.block_lt_of_cell? w _ hx266_3)).trans hx266_3
            replace hx266_4 := (HB.out.cell (World.block_lt_of_cell? w _ hx266_4)).trans hx266_4
            replace hx266_5 := (HB.out.cell (World.block_lt_of_cell? w _ hx266_5)).trans hx266_5
            replace hx266_6 := (HB.out.cell (World.block_lt_of_cell? w _ hx266_6)).trans hx266_6
            replace hx266_7 := (HB.out.cell (World.block_lt_of_cell? w _ hx266_7)).trans hx266_7
            replace hx266_8 := (HB.out.cell (World.block_lt_of_cell? w _ hx266_8)).trans hx266_8
            replace hx266_9 := (HB.out.cell (World.block_lt_of_cell? w _ hx266_9)).trans hx266_9
            replace hx266_10 := (HB.out.cell (World.block_lt_of_cell? w _ hx266_10)).trans hx266_10
            replace hx266_11 := (HB.out.cell (World.block_lt_of_cell? w _ hx266_11)).trans hx266_11
            replace hx266_12 := (HB.out.cell (World.block_lt_of_cell? w _ hx266_12)).trans hx266_12
            replace hx266_13 := (HB.out.cell (World.block_lt_of_cell? w _ hx266_13)).trans hx266_13
            replace hx266_14 := (HB.out.cell (World.block_lt_of_cell? w _ hx266_14)).trans hx266_14
            replace hx266_15 := (HB.out.cell (World.block_lt_of_cell? w _ hx266_15)).trans hx266_15
            replace hx266_16 := (HB.out.cell (World.block_lt_of_cell? w _ hx266_16)).trans hx266_16
            replace hx266_17 := (HB.out.cell (World.block_lt_of_cell? w _ hx266_17)).trans hx266_17
            replace hx266_18 := (HB.out.cell (World.block_lt_of_cell? w _ hx266_18)).trans hx266_18
            replace hx266_19 := (HB.out.cell (World.block_lt_of_cell? w _ hx266_19)).trans hx266_19
            replace hx266_20 := (HB.out.cell (World.block_lt_of_cell? w _ hx266_20)).trans hx266_20
            replace hx266_21 := (HB.out.cell (World.block_lt_of_cell? w _ hx266_21)).trans hx266_21
            replace hx266_22 := (HB.out.cell (World.block_lt_of_cell? w _ hx266_22)).trans hx266_22
            replace hx266_23 := (HB.out.cell (World.block_lt_of_cell? w _ hx266_23)).trans hx266_23
            replace hx266_24 := (HB.out.cell (World.block_lt_of_cell? w _ hx266_24)).trans hx266_24
            replace hx266_25 := (HB.out.cell (World.block_lt_of_cell? w _ hx266_25)).trans hx266_25
            replace hx266_26 := (HB.out.cell (World.block_lt_of_cell? w _ hx266_26)).trans hx266_26
            replace hx266_27 := (HB.out.cell (World.block_lt_of_cell? w _ hx266_27)).trans hx266_27
            replace hx266_28 := (HB.out.cell (World.block_lt_of_cell? w _ hx266_28)).trans hx266_28
            replace hx266_29 := (HB.out.cell (World.block_lt_of_cell? w _ hx266_29)).trans hx266_29
            replace hx266_30 := (HB.out.cell (World.block_lt_of_cell? w _ hx266_30)).trans hx266_30
            replace hx266_31 := (HB.out.cell (World.block_lt_of_cell? w _ hx266_31)).trans hx266_31
            have HR266_4 := Aside0.mk hi266_4
            have HC266_4 := Aside0.mk hl266_4
            clear hi266_4 hl266_4
            have HR266_27 := Aside0.mk hi266_27
            have HC266_27 := Aside0.mk hl266_27
            clear hi266_27 hl266_27
            replace p266 := eq_true p266
            replace q266 := eq_true q266
            go_wp2
            go_roundg k1
            case measure => have := HK1.out; omega
            case rel => exact ⟨(x5_1), (wrap64 (x6_1 + 1)), (by first | rfl | (simp; done) | (simp [*]; done)), (by first | rfl | (simp; done) | (simp [*]; done)), H', ⟨by have := HK1.out; omega⟩, ⟨by (with_reducible repeat (first | refine blk_drewN ?_ _ | refine blk_drew ?_ | refine blk_alloc ?_ _)); exact BK265.out⟩, ⟨by repeat (first | (with_reducible first | exact HB.out | apply below_alloc | apply pw_below_drewN | apply below_drew1 | refine below_set ?_ GE265.out) | exact HB.out)⟩⟩
        · rw [if_neg c5] at H
          exact absurd H (by simp)
      · rw [if_neg c4] at H
        have c4b0 : decide (x6_1 < (l0_1.length : Int)) = false := decide_eq_false c4
        clear c4
        obtain rfl := Option.some.inj H
        have hcz15_0 : wr.cell? ⟨gb265, 0, none⟩ = some (.slice A0_0 l0_0.length c0_0) := (blk_cell BK265.out 0).trans rfl
        have hcz15_1 : wr.cell? ⟨gb265, 1, none⟩ = some (.slice A0_1 l0_1.length c0_1) := (blk_cell BK265.out 1).trans rfl
        have hcz15_2 : wr.cell? ⟨gb265, 2, none⟩ = some (.slice A0_2 l0_2.length c0_2) := (blk_cell BK265.out 2).trans rfl
        have hcz15_3 : wr.cell? ⟨gb265, 3, none⟩ = some (.slice A0_3 l0_3.length c0_3) := (blk_cell BK265.out 3).trans rfl
        have hfz15_0 := blk_frozen BK265.out 0
        have hfz15_1 := blk_frozen BK265.out 1
        have hfz15_2 := blk_frozen BK265.out 2
        have hfz15_3 := blk_frozen BK265.out 3
        go_wp2
        go_ret
        exact ⟨by first | rfl | (simp [errW_none, errW_some] <;> rfl) | (simp [*, errW_none, errW_some] <;> rfl), by repeat (first | (with_reducible first | exact HB.out | apply below_alloc | apply pw_below_drewN | apply below_drew1 | refine below_set ?_ GE265.out) | exact HB.out)⟩
end Go.Proofs.Ytamjjeakkkdfhaa.PB
end
section
namespace Go.Proofs.Ytamjjeakkkdfhaa.PB
open Go.RowKit Go.Proofs.YtamjjeakkkdfhaaW.PrintWords Go.Proofs.YtamjjeakkkdfhaaW.PrintLast Go.Proofs.YtamjjeakkkdfhaaW.PrintMore
open Go.Proofs.Ytamjjeakkkdfhaa.K Go.Proofs.Ytamjjeakkkdfhaa.G Go.Proofs.YtamjjeakkkdfhaaE
attribute [local go_sem] max2_int min2_int max_two min_two max_three min_three max_four min_four
set_option linter.unusedVariables false
set_option linter.unusedSimpArgs false
def flotillaref16_both.f (a0_0 : Int) (a0_1 : Int) (a1_0 : Int) (a1_1 : Int) : Option (Int × Int) := some (mn (wrap64 (a0_0 + (mn (mx a1_0 0) 1125899906842624))) 1125899906842624, mn (wrap64 (a0_1 + (mn (mx a1_1 0) 1125899906842624))) 1125899906842624)
set_option maxHeartbeats 8000000 in
set_option maxRecDepth 100000 in
theorem flotillaref16_both.calls (a0_0 : Int) (a0_1 : Int) (a1_0 : Int) (a1_1 : Int) (r1 : Int) (r2 : Int) (w : World) (h : flotillaref16_both.f a0_0 a0_1 a1_0 a1_1 = some (r1, r2)) :
    Calls Try.prog 89 #[.agg #[.int .i64 a0_0, .int .i64 a0_1], .agg #[.int .i64 a1_0, .int .i64 a1_1]] w fun e w' => e = .returned (.agg #[.int .i64 r1, .int .i64 r2]) ∧ Below w.heap.size w w' := by
  have hu64 := Try.underlying64
  have HB := Aside0.mk (Below.refl w.heap.size w)
  have H : (some (mn (wrap64 (a0_0 + (mn (mx a1_0 0) 1125899906842624))) 1125899906842624, mn (wrap64 (a0_1 + (mn (mx a1_1 0) 1125899906842624))) 1125899906842624)) = some (r1, r2) := h
  clear h
  obtain ⟨ji3, hji3⟩ : ∃ j_ : Int, (mx a1_0 0) = j_ := ⟨_, rfl⟩
  replace H : (some (mn (wrap64 (a0_0 + (mn (ji3) 1125899906842624))) 1125899906842624, mn (wrap64 (a0_1 + (mn (mx a1_1 0) 1125899906842624))) 1125899906842624)) = some (r1, r2) := by first | (rw [hji3] at H; exact H) | (simp only [hji3] at H ⊢; exact H)
  (try (have hji3l : 0 ≤ ji3 := by (rw [← hji3]; unfold mx; (repeat' split) <;> omega)))
  (try (have hji3m : 0 ≤ ji3 := by omega))
  have hji3_ : (if a1_0 < 0 then 0 else a1_0) = ji3 := hji3
  obtain ⟨ji4, hji4⟩ : ∃ j_ : Int, (mn (ji3) 1125899906842624) = j_ := ⟨_, rfl⟩
  replace H : (some (mn (wrap64 (a0_0 + (ji4))) 1125899906842624, mn (wrap64 (a0_1 + (mn (mx a1_1 0) 1125899906842624))) 1125899906842624)) = some (r1, r2) := by first | (rw [hji4] at H; exact H) | (simp only [hji4] at H ⊢; exact H)
  have hji4_ : (if 1125899906842624 < (ji3) then 1125899906842624 else (ji3)) = ji4 := hji4
  obtain ⟨ji5, hji5⟩ : ∃ j_ : Int, (mn (wrap64 (a0_0 + (ji4))) 1125899906842624) = j_ := ⟨_, rfl⟩
  replace H : (some (ji5, mn (wrap64 (a0_1 + (mn (mx a1_1 0) 1125899906842624))) 1125899906842624)) = some (r1, r2) := by first | (rw [hji5] at H; exact H) | (simp only [hji5] at H ⊢; exact H)
  have hji5_ : (if 1125899906842624 < (wrap64 (a0_0 + (ji4))) then 1125899906842624 else (wrap64 (a0_0 + (ji4)))) = ji5 := hji5
  obtain ⟨ji6, hji6⟩ : ∃ j_ : Int, (mx a1_1 0) = j_ := ⟨_, rfl⟩
  replace H : (some (ji5, mn (wrap64 (a0_1 + (mn (ji6) 1125899906842624))) 1125899906842624)) = some (r1, r2) := by first | (rw [hji6] at H; exact H) | (simp only [hji6] at H ⊢; exact H)
  (try (have hji6l : 0 ≤ ji6 := by (rw [← hji6]; unfold mx; (repeat' split) <;> omega)))
  (try (have hji6m : 0 ≤ ji6 := by omega))
  have hji6_ : (if a1_1 < 0 then 0 else a1_1) = ji6 := hji6
  obtain ⟨ji7, hji7⟩ : ∃ j_ : Int, (mn (ji6) 1125899906842624) = j_ := ⟨_, rfl⟩
  replace H : (some (ji5, mn (wrap64 (a0_1 + (ji7))) 1125899906842624)) = some (r1, r2) := by first | (rw [hji7] at H; exact H) | (simp only [hji7] at H ⊢; exact H)
  have hji7_ : (if 1125899906842624 < (ji6) then 1125899906842624 else (ji6)) = ji7 := hji7
  obtain ⟨ji8, hji8⟩ : ∃ j_ : Int, (mn (wrap64 (a0_1 + (ji7))) 1125899906842624) = j_ := ⟨_, rfl⟩
  replace H : (some (ji5, ji8)) = some (r1, r2) := by first | (rw [hji8] at H; exact H) | (simp only [hji8] at H ⊢; exact H)
  have hji8_ : (if 1125899906842624 < (wrap64 (a0_1 + (ji7))) then 1125899906842624 else (wrap64 (a0_1 + (ji7)))) = ji8 := hji8
  simp only [Option.some.injEq, Prod.mk.injEq] at H
  obtain ⟨rfl, rfl⟩ := H
  go_enter Try.func89, Try.ntmps89
  go_wp2_with (first | ((with_reducible refine gate_dst (N := 2) rfl ?_); refine box_event ?hg (N := 2) ?hd (cs := #[.int .i64 a0_0, .int .i64 a0_1]) (t := 64) ?hr ?_; (case hd => rfl); (case hg => rfl); (case hr => first | (go_simp; done) | (go_simp; rfl)); intro gb281 hg w9 hbox hb; have n0_ := Aside0.mk (below_step (by repeat (first | (with_reducible first | exact HB.out | apply below_alloc | apply pw_below_drewN | apply below_drew1) | exact HB.out)) hb); have n1_ := Aside0.mk (hbox); have n2_ := Aside0.mk ((by rw [hg]; exact (below_size (by repeat (first | (with_reducible first | exact HB.out | apply below_alloc | apply pw_below_drewN | apply below_drew1) | exact HB.out))) : w.heap.size ≤ gb281)); have n3_ := Aside0.mk ((by rw [hg]; exact (below_size (by repeat (first | (with_reducible first | exact HB.out | apply below_alloc | apply pw_below_drewN | apply below_drew1) | exact HB.out))) : w.heap.size ≤ gb281)); clear HB; have HB := n0_; have BK281 := n1_; have GW281 := n2_; have GE281 := n3_; clear n0_ n1_ n2_ n3_; clear hb hbox hg) | ((with_reducible refine gate_dst (N := 3) rfl ?_); refine box_event ?hg (N := 3) ?hd (cs := #[.int .i64 a1_0, .int .i64 a1_1]) (t := 64) ?hr ?_; (case hd => rfl); (case hg => rfl); (case hr => first | (go_simp; done) | (go_simp; rfl)); intro gb282 hg w10 hbox hb; have n0_ := Aside0.mk (blk_below (g := gb281) (o := .cells #[.int .i64 a0_0, .int .i64 a0_1] 64 (0, 0)) (by (with_reducible repeat (first | refine blk_drewN ?_ _ | refine blk_drew ?_ | refine blk_alloc ?_ _)); exact BK281.out) hb); have n1_ := Aside0.mk (below_step (by repeat (first | (with_reducible first | exact HB.out | apply below_alloc | apply pw_below_drewN | apply below_drew1 | refine below_set ?_ GE281.out) | exact HB.out)) hb); have n2_ := Aside0.mk (hbox); have n3_ := Aside0.mk ((by rw [hg]; exact (below_size (by repeat (first | (with_reducible first | exact HB.out | apply below_alloc | apply pw_below_drewN | apply below_drew1 | refine below_set ?_ GE281.out) | exact HB.out))) : w.heap.size ≤ gb282)); have n4_ := Aside0.mk ((by rw [hg]; exact (below_size (by repeat (first | (with_reducible first | exact HB.out | apply below_alloc | apply pw_below_drewN | apply below_drew1 | refine below_set ?_ GE281.out) | exact HB.out))) : w.heap.size ≤ gb282)); have n5_ := Aside0.mk ((by rw [hg]; exact Nat.ne_of_lt (blk_lt (g := gb281) (o := .cells #[.int .i64 a0_0, .int .i64 a0_1] 64 (0, 0)) (by (with_reducible repeat (first | refine blk_drewN ?_ _ | refine blk_drew ?_ | refine blk_alloc ?_ _)); exact BK281.out)) : gb281 ≠ gb282)); have n6_ := Aside0.mk ((by rw [hg]; exact Nat.ne_of_gt (blk_lt (g := gb281) (o := .cells #[.int .i64 a0_0, .int .i64 a0_1] 64 (0, 0)) (by (with_reducible repeat (first | refine blk_drewN ?_ _ | refine blk_drew ?_ | refine blk_alloc ?_ _)); exact BK281.out)) : gb282 ≠ gb281)); clear BK281; clear HB; have BK281 := n0_; have HB := n1_; have BK282 := n2_; have GW282 := n3_; have GE282 := n4_; have NB281_282 := n5_; have NB282_281 := n6_; clear n0_ n1_ n2_ n3_ n4_ n5_ n6_; clear hb hbox hg) | ((with_reducible refine gate_dst (N := 4) rfl ?_); refine box_event ?hg (N := 4) ?hd (cs := #[.int .i64 0, .int .i64 0]) (t := 64) ?hr ?_; (case hd => rfl); (case hg => rfl); (case hr => first | (go_simp; done) | (go_simp; rfl)); intro gb283 hg w11 hbox hb; have n0_ := Aside0.mk (blk_below (g := gb281) (o := .cells #[.int .i64 a0_0, .int .i64 a0_1] 64 (0, 0)) (by (with_reducible repeat (first | refine blk_drewN ?_ _ | refine blk_drew ?_ | refine blk_alloc ?_ _)); exact BK281.out) hb); have n1_ := Aside0.mk (blk_below (g := gb282) (o := .cells #[.int .i64 a1_0, .int .i64 a1_1] 64 (0, 0)) (by (with_reducible repeat (first | refine blk_drewN ?_ _ | refine blk_drew ?_ | refine blk_alloc ?_ _)); exact BK282.out) hb); have n2_ := Aside0.mk (below_step (by repeat (first | (with_reducible first | exact HB.out | apply below_alloc | apply pw_below_drewN | apply below_drew1 | refine below_set ?_ GE281.out | refine below_set ?_ GE282.out) | exact HB.out)) hb); have n3_ := Aside0.mk (hbox); have n4_ := Aside0.mk ((by rw [hg]; exact (below_size (by repeat (first | (with_reducible first | exact HB.out | apply below_alloc | apply pw_below_drewN | apply below_drew1 | refine below_set ?_ GE281.out | refine below_set ?_ GE282.out) | exact HB.out))) : w.heap.size ≤ gb283)); have n5_ := Aside0.mk ((by rw [hg]; exact (below_size (by repeat (first | (with_reducible first | exact HB.out | apply below_alloc | apply pw_below_drewN | apply below_drew1 | refine below_set ?_ GE281.out | refine below_set ?_ GE282.out) | exact HB.out))) : w.heap.size ≤ gb283)); have n6_ := Aside0.mk ((by rw [hg]; exact Nat.ne_of_lt (blk_lt (g := gb281) (o := .cells #[.int .i64 a0_0, .int .i64 a0_1] 64 (0, 0)) (by (with_reducible repeat (first | refine blk_drewN ?_ _ | refine blk_drew ?_ | refine blk_alloc ?_ _)); exact BK281.out)) : gb281 ≠ gb283)); have n7_ := Aside0.mk ((by rw [hg]; exact Nat.ne_of_gt (blk_lt (g := gb281) (o := .cells #[.int .i64 a0_0, .int .i64 a0_1] 64 (0, 0)) (by (with_reducible repeat (first | refine blk_drewN ?_ _ | refine blk_drew ?_ | refine blk_alloc ?_ _)); exact BK281.out)) : gb283 ≠ gb281)); have n8_ := Aside0.mk ((by rw [hg]; exact Nat.ne_of_lt (blk_lt (g := gb282) (o := .cells #[.int .i64 a1_0, .int .i64 a1_1] 64 (0, 0)) (by (with_reducible repeat (first | refine blk_drewN ?_ _ | refine blk_drew ?_ | refine blk_alloc ?_ _)); exact BK282.out)) : gb282 ≠ gb283)); have n9_ := Aside0.mk ((by rw [hg]; exact Nat.ne_of_gt (blk_lt (g := gb282) (o := .cells #[.int .i64 a1_0, .int .i64 a1_1] 64 (0, 0)) (by (with_reducible repeat (first | refine blk_drewN ?_ _ | refine blk_drew ?_ | refine blk_alloc ?_ _)); exact BK282.out)) : gb283 ≠ gb282)); clear BK281; clear BK282; clear HB; have BK281 := n0_; have BK282 := n1_; have HB := n2_; have BK283 := n3_; have GW283 := n4_; have GE283 := n5_; have NB281_283 := n6_; have NB283_281 := n7_; have NB282_283 := n8_; have NB283_282 := n9_; clear n0_ n1_ n2_ n3_ n4_ n5_ n6_ n7_ n8_ n9_; clear hb hbox hg; have hnb12 := NB281_282.out; have hnc12 := NB282_281.out; have hnb13 := NB281_283.out; have hnc13 := NB283_281.out; have hcz14_0 : w11.cell? ⟨gb281, 0, none⟩ = some (.int .i64 a0_0) := (blk_cell BK281.out 0).trans rfl; have hcz14_1 : w11.cell? ⟨gb281, 1, none⟩ = some (.int .i64 a0_1) := (blk_cell BK281.out 1).trans rfl; have hfz14_0 := blk_frozen BK281.out 0; have hfz14_1 := blk_frozen BK281.out 1; have hnb15 := NB282_283.out; have hnc15 := NB283_282.out; have hcz16_0 : w11.cell? ⟨gb282, 0, none⟩ = some (.int .i64 a1_0) := (blk_cell BK282.out 0).trans rfl; have hcz16_1 : w11.cell? ⟨gb282, 1, none⟩ = some (.int .i64 a1_1) := (blk_cell BK282.out 1).trans rfl; have hfz16_0 := blk_frozen BK282.out 0; have hfz16_1 := blk_frozen BK282.out 1; have hcz17_0 : w11.cell? ⟨gb283, 0, none⟩ = some (.int .i64 0) := (blk_cell BK283.out 0).trans rfl; have hcz17_1 : w11.cell? ⟨gb283, 1, none⟩ = some (.int .i64 0) := (blk_cell BK283.out 1).trans rfl; have hfz17_0 := blk_frozen BK283.out 0; have hfz17_1 := blk_frozen BK283.out 1))
  refine bodyPost_ret (results_cell_row rfl _ _ gb283 64 #[.int .i64 ji5, .int .i64 ji8] (0, 0) _ rfl (by (with_reducible repeat (first | refine blk_drewN ?_ _ | refine blk_drew ?_ | refine blk_alloc ?_ _)); refine blk_put (cs := #[.int .i64 ji5, .int .i64 0]) ?_ 1 _ rfl; (with_reducible repeat (first | refine blk_drewN ?_ _ | refine blk_drew ?_ | refine blk_alloc ?_ _)); refine blk_put (cs := #[.int .i64 0, .int .i64 0]) ?_ 0 _ rfl; (with_reducible repeat (first | refine blk_drewN ?_ _ | refine blk_drew ?_ | refine blk_alloc ?_ _)); exact BK283.out) Try.underlying64 rfl (by kernel_rfl)) rfl ?_
  exact ⟨by first | rfl | (simp [errW_none, errW_some] <;> rfl) | (simp only [← hji3, ← hji4, ← hji5, ← hji6, ← hji7, ← hji8]; first | rfl | (simp [errW_none, errW_some] <;> rfl)) | (simp [*, errW_none, errW_some] <;> rfl), by repeat (first | (with_reducible first | exact HB.out | apply below_alloc | apply pw_below_drewN | apply below_drew1 | refine below_set ?_ GE281.out | refine below_set ?_ GE282.out | refine below_set ?_ GE283.out) | exact HB.out)⟩
end Go.Proofs.Ytamjjeakkkdfhaa.PB
end
section
namespace Go.Proofs.Ytamjjeakkkdfhaa.PB
open Go.RowKit Go.Proofs.YtamjjeakkkdfhaaW.PrintWords Go.Proofs.YtamjjeakkkdfhaaW.PrintLast Go.Proofs.YtamjjeakkkdfhaaW.PrintMore
open Go.Proofs.Ytamjjeakkkdfhaa.K Go.Proofs.Ytamjjeakkkdfhaa.G Go.Proofs.YtamjjeakkkdfhaaE
attribute [local go_sem] max2_int min2_int max_two min_two max_three min_three max_four min_four
set_option linter.unusedVariables false
set_option linter.unusedSimpArgs false
def flotillaref16_Used.l0 : Nat → ByteArray → Int → List (S68) → List (S68) → List (S68) → List (S68) → Int → Int → Option (Int × Int)
  | 0, _, _, _, _, _, _, _, _ => none
  | k + 1, x1, x6, x285000, x285001, x285002, x285003, x287000, x287001 => if x6 < (x285001.length : Int) then (if x1.toList = ([] : List UInt8) then (flotillaref16_Used.l0 k x1 (wrap64 (x6 + 1)) x285000 x285001 x285002 x285003 x287000 x287001) else (if 0 ≤ x6 then (if ((rd_T68 x285001 x6).f12).toList = x1.toList then ((flotillaref16_both.f x287000 x287001 ((rd_T68 x285001 x6).f16.f0) ((rd_T68 x285001 x6).f16.f1)).bind fun bt289 => (flotillaref16_Used.l0 k x1 (wrap64 (x6 + 1)) x285000 x285001 x285002 x285003 bt289.1 bt289.2)) else (flotillaref16_Used.l0 k x1 (wrap64 (x6 + 1)) x285000 x285001 x285002 x285003 x287000 x287001)) else (none))) else (some (x287000, x287001))
def flotillaref16_Used.f (k : Nat) (l0_0 : List (S68)) (l0_1 : List (S68)) (l0_2 : List (S68)) (l0_3 : List (S68)) (a1 : ByteArray) : Option (Int × Int) := flotillaref16_Used.l0 k a1 0 l0_0 l0_1 l0_2 l0_3 0 0
def flotillaref16_Used.T6 : Bool × List (List Nat × List Nat) := (true, [([], []), ([], []), ([1], [1]), ([], []), ([2, 3], [2, 3]), ([4], [4]), ([5], [5]), ([0, 6], [0, 6]), ([7, 7, 0, 1, 2, 3, 4, 5, 6, 7], [7])])
def flotillaref16_Used.B6 : List Nat := [0, 0, 2, 0, 14, 30, 62, 127, 255]
theorem flotillaref16_Used.tab6 : rtab .any (opsOf Try.f39 6) = flotillaref16_Used.T6 := by kernel_rfl
theorem flotillaref16_Used.bits6 : waitsOk flotillaref16_Used.T6.2 flotillaref16_Used.B6 = true := by kernel_rfl
set_option maxHeartbeats 8000000 in
set_option maxRecDepth 100000 in
theorem flotillaref16_Used.calls (k : Nat) (A0_0 : Option Addr) (c0_0 : Nat) (l0_0 : List (S68)) (A0_1 : Option Addr) (c0_1 : Nat) (l0_1 : List (S68)) (A0_2 : Option Addr) (c0_2 : Nat) (l0_2 : List (S68)) (A0_3 : Option Addr) (c0_3 : Nat) (l0_3 : List (S68)) (a1 : ByteArray) (r1 : Int) (r2 : Int) (w : World) (hr0_0 : Kd.C k68 w A0_0 l0_0.length l0_0) (hc0_0 : l0_0.length ≤ c0_0) (hr0_1 : Kd.C k68 w A0_1 l0_1.length l0_1) (hc0_1 : l0_1.length ≤ c0_1) (hr0_2 : Kd.C k68 w A0_2 l0_2.length l0_2) (hc0_2 : l0_2.length ≤ c0_2) (hr0_3 : Kd.C k68 w A0_3 l0_3.length l0_3) (hc0_3 : l0_3.length ≤ c0_3) (h : flotillaref16_Used.f k l0_0 l0_1 l0_2 l0_3 a1 = some (r1, r2)) :
    Calls Try.prog 39 #[.agg #[.slice A0_0 l0_0.length c0_0, .slice A0_1 l0_1.length c0_1, .slice A0_2 l0_2.length c0_2, .slice A0_3 l0_3.length c0_3], .string a1] w fun e w' => e = .returned (.agg #[.int .i64 r1, .int .i64 r2]) ∧ Below w.heap.size w w' := by
  have hu59 := Try.underlying59
  have hu64 := Try.underlying64
  have HR0_0 := Aside0.mk hr0_0
  have HC0_0 := Aside0.mk hc0_0
  clear hr0_0 hc0_0
  have HR0_1 := Aside0.mk hr0_1
  have HC0_1 := Aside0.mk hc0_1
  clear hr0_1 hc0_1
  have HR0_2 := Aside0.mk hr0_2
  have HC0_2 := Aside0.mk hc0_2
  clear hr0_2 hc0_2
  have HR0_3 := Aside0.mk hr0_3
  have HC0_3 := Aside0.mk hc0_3
  clear hr0_3 hc0_3
  have HB := Aside0.mk (Below.refl w.heap.size w)
  have H : (flotillaref16_Used.l0 k a1 0 l0_0 l0_1 l0_2 l0_3 0 0) = some (r1, r2) := h
  clear h
  have H' := Aside0.mk H
  clear H
  go_enter Try.func39, Try.ntmps39
  go_wp2_with (first | ((with_reducible refine gate_dst (N := 2) rfl ?_); refine box_event ?hg (N := 2) ?hd (cs := #[.slice A0_0 l0_0.length c0_0, .slice A0_1 l0_1.length c0_1, .slice A0_2 l0_2.length c0_2, .slice A0_3 l0_3.length c0_3]) (t := 59) ?hr ?_; (case hd => rfl); (case hg => rfl); (case hr => first | (go_simp; done) | (go_simp; rfl)); intro gb284 hg w3 hbox hb; have n0_ := Aside0.mk (below_step (by repeat (first | (with_reducible first | exact HB.out | apply below_alloc | apply pw_below_drewN | apply below_drew1) | exact HB.out)) hb); have n1_ := Aside0.mk (hbox); have n2_ := Aside0.mk ((by rw [hg]; exact (below_size (by repeat (first | (with_reducible first | exact HB.out | apply below_alloc | apply pw_below_drewN | apply below_drew1) | exact HB.out))) : w.heap.size ≤ gb284)); have n3_ := Aside0.mk ((by rw [hg]; exact (below_size (by repeat (first | (with_reducible first | exact HB.out | apply below_alloc | apply pw_below_drewN | apply below_drew1) | exact HB.out))) : w.heap.size ≤ gb284)); clear HB; have HB := n0_; have BK284 := n1_; have GW284 := n2_; have GE284 := n3_; clear n0_ n1_ n2_ n3_; clear hb hbox hg) | ((with_reducible refine gate_dst (N := 4) rfl ?_); refine box_event ?hg (N := 4) ?hd (cs := #[.int .i64 0, .int .i64 0]) (t := 64) ?hr ?_; (case hd => rfl); (case hg => rfl); (case hr => first | (go_simp; done) | (go_simp; rfl)); intro gb285 hg w4 hbox hb; have n0_ := Aside0.mk (blk_below (g := gb284) (o := .cells #[.slice A0_0 l0_0.length c0_0, .slice A0_1 l0_1.length c0_1, .slice A0_2 l0_2.length c0_2, .slice A0_3 l0_3.length c0_3] 59 (0, 0)) (by (with_reducible repeat (first | refine blk_drewN ?_ _ | refine blk_drew ?_ | refine blk_alloc ?_ _)); exact BK284.out) hb); have n1_ := Aside0.mk (below_step (by repeat (first | (with_reducible first | exact HB.out | apply below_alloc | apply pw_below_drewN | apply below_drew1 | refine below_set ?_ GE284.out) | exact HB.out)) hb); have n2_ := Aside0.mk (hbox); have n3_ := Aside0.mk ((by rw [hg]; exact (below_size (by repeat (first | (with_reducible first | exact HB.out | apply below_alloc | apply pw_below_drewN | apply below_drew1 | refine below_set ?_ GE284.out) | exact HB.out))) : w.heap.size ≤ gb285)); have n4_ := Aside0.mk ((by rw [hg]; exact (below_size (by repeat (first | (with_reducible first | exact HB.out | apply below_alloc | apply pw_below_drewN | apply below_drew1 | refine below_set ?_ GE284.out) | exact HB.out))) : w.heap.size ≤ gb285)); have n5_ := Aside0.mk ((by rw [hg]; exact Nat.ne_of_lt (blk_lt (g := gb284) (o := .cells #[.slice A0_0 l0_0.length c0_0, .slice A0_1 l0_1.length c0_1, .slice A0_2 l0_2.length c0_2, .slice A0_3 l0_3.length c0_3] 59 (0, 0)) (by (with_reducible repeat (first | refine blk_drewN ?_ _ | refine blk_drew ?_ | refine blk_alloc ?_ _)); exact BK284.out)) : gb284 ≠ gb285)); have n6_ := Aside0.mk ((by rw [hg]; exact Nat.ne_of_gt (blk_lt (g := gb284) (o := .cells #[.slice A0_0 l0_0.length c0_0, .slice A0_1 l0_1.length c0_1, .slice A0_2 l0_2.length c0_2, .slice A0_3 l0_3.length c0_3] 59 (0, 0)) (by (with_reducible repeat (first | refine blk_drewN ?_ _ | refine blk_drew ?_ | refine blk_alloc ?_ _)); exact BK284.out)) : gb285 ≠ gb284)); clear BK284; clear HB; have BK284 := n0_; have HB := n1_; have BK285 := n2_; have GW285 := n3_; have GE285 := n4_; have NB284_285 := n5_; have NB285_284 := n6_; clear n0_ n1_ n2_ n3_ n4_ n5_ n6_; clear hb hbox hg) | ((with_reducible refine gate_dst (N := 5) rfl ?_); refine box_event ?hg (N := 5) ?hd (cs := #[.int .i64 0, .int .i64 0]) (t := 64) ?hr ?_; (case hd => rfl); (case hg => rfl); (case hr => first | (go_simp; done) | (go_simp; rfl)); intro gb286 hg w5 hbox hb; have n0_ := Aside0.mk (blk_below (g := gb284) (o := .cells #[.slice A0_0 l0_0.length c0_0, .slice A0_1 l0_1.length c0_1, .slice A0_2 l0_2.length c0_2, .slice A0_3 l0_3.length c0_3] 59 (0, 0)) (by (with_reducible repeat (first | refine blk_drewN ?_ _ | refine blk_drew ?_ | refine blk_alloc ?_ _)); exact BK284.out) hb); have n1_ := Aside0.mk (blk_below (g := gb285) (o := .cells #[.int .i64 0, .int .i64 0] 64 (0, 0)) (by (with_reducible repeat (first | refine blk_drewN ?_ _ | refine blk_drew ?_ | refine blk_alloc ?_ _)); exact BK285.out) hb); have n2_ := Aside0.mk (below_step (by repeat (first | (with_reducible first | exact HB.out | apply below_alloc | apply pw_below_drewN | apply below_drew1 | refine below_set ?_ GE284.out | refine below_set ?_ GE285.out) | exact HB.out)) hb); have n3_ := Aside0.mk (hbox); have n4_ := Aside0.mk ((by rw [hg]; exact (below_size (by repeat (first | (with_reducible first | exact HB.out | apply below_alloc | apply pw_below_drewN | apply below_drew1 | refine below_set ?_ GE284.out | refine below_set ?_ GE285.out) | exact HB.out))) : w.heap.size ≤ gb286)); have n5_ := Aside0.mk ((by rw [hg]; exact (below_size (by repeat (first | (with_reducible first | exact HB.out | apply below_alloc | apply pw_below_drewN | apply below_drew1 | refine below_set ?_ GE284.out | refine below_set ?_ GE285.out) | exact HB.out))) : w.heap.size ≤ gb286)); have n6_ := Aside0.mk ((by rw [hg]; exact Nat.ne_of_lt (blk_lt (g := gb284) (o := .cells #[.slice A0_0 l0_0.length c0_0, .slice A0_1 l0_1.length c0_1, .slice A0_2 l0_2.length c0_2, .slice A0_3 l0_3.length c0_3] 59 (0, 0)) (by (with_reducible repeat (first | refine blk_drewN ?_ _ | refine blk_drew ?_ | refine blk_alloc ?_ _)); exact BK284.out)) : gb284 ≠ gb286)); have n7_ := Aside0.mk ((by rw [hg]; exact Nat.ne_of_gt (blk_lt (g := gb284) (o := .cells #[.slice A0_0 l0_0.length c0_0, .slice A0_1 l0_1.length c0_1, .slice A0_2 l0_2.length c0_2, .slice A0_3 l0_3.length c0_3] 59 (0, 0)) (by (with_reducible repeat (first | refine blk_drewN ?_ _ | refine blk_drew ?_ | refine blk_alloc ?_ _)); exact BK284.out)) : gb286 ≠ gb284)); have n8_ := Aside0.mk ((by rw [hg]; exact Nat.ne_of_lt (blk_lt (g := gb285) (o := .cells #[.int .i64 0, .int .i64 0] 64 (0, 0)) (by (with_reducible repeat (first | refine blk_drewN ?_ _ | refine blk_drew ?_ | refine blk_alloc ?_ _)); exact BK285.out)) : gb285 ≠ gb286)); have n9_ := Aside0.mk ((by rw [hg]; exact Nat.ne_of_gt (blk_lt (g := gb285) (o := .cells #[.int .i64 0, .int .i64 0] 64 (0, 0)) (by (with_reducible repeat (first | refine blk_drewN ?_ _ | refine blk_drew ?_ | refine blk_alloc ?_ _)); exact BK285.out)) : gb286 ≠ gb285)); clear BK284; clear BK285; clear HB; have BK284 := n0_; have BK285 := n1_; have HB := n2_; have BK286 := n3_; have GW286 := n4_; have GE286 := n5_; have NB284_286 := n6_; have NB286_284 := n7_; have NB285_286 := n8_; have NB286_285 := n9_; clear n0_ n1_ n2_ n3_ n4_ n5_ n6_ n7_ n8_ n9_; clear hb hbox hg; have hnb6 := NB286_284.out; have hnc6 := NB284_286.out; have hnb7 := NB286_285.out; have hnc7 := NB285_286.out; have hcz8_0 : w5.cell? ⟨gb286, 0, none⟩ = some (.int .i64 0) := (blk_cell BK286.out 0).trans rfl; have hcz8_1 : w5.cell? ⟨gb286, 1, none⟩ = some (.int .i64 0) := (blk_cell BK286.out 1).trans rfl; have hfz8_0 := blk_frozen BK286.out 0; have hfz8_1 := blk_frozen BK286.out 1))
  go_loopg [6] k (fun kq v6 w' => ∃ (x6_1 : Int) (x287000_1 : Int) (x287001_1 : Int), v6 = .int .i64 x6_1 ∧ Aside0 (flotillaref16_Used.l0 kq a1 x6_1 l0_0 l0_1 l0_2 l0_3 x287000_1 x287001_1 = some (r1, r2)) ∧ Aside0 (kq ≤ k) ∧ Aside0 (w'.heap[gb284]? = some (.cells #[(.slice A0_0 l0_0.length c0_0), (.slice A0_1 l0_1.length c0_1), (.slice A0_2 l0_2.length c0_2), (.slice A0_3 l0_3.length c0_3)] 59 (0, 0))) ∧ Aside0 (w'.heap[gb285]? = some (.cells #[.int .i64 0, .int .i64 0] 64 (0, 0))) ∧ Aside0 (w'.heap[gb286]? = some (.cells #[.int .i64 x287000_1, .int .i64 x287001_1] 64 (0, 0))) ∧ Aside0 (Below w.heap.size w w'))
  case atStart => exact ⟨(0), (0), (0), (by first | rfl | (simp; done) | (simp [*]; done)), H', ⟨Nat.le_refl _⟩, ⟨by (with_reducible repeat (first | refine blk_drewN ?_ _ | refine blk_drew ?_ | refine blk_alloc ?_ _)); refine blk_far ?_ NB284_286.out _; (with_reducible repeat (first | refine blk_drewN ?_ _ | refine blk_drew ?_ | refine blk_alloc ?_ _)); refine blk_far ?_ NB284_286.out _; (with_reducible repeat (first | refine blk_drewN ?_ _ | refine blk_drew ?_ | refine blk_alloc ?_ _)); exact BK284.out⟩, ⟨by (with_reducible repeat (first | refine blk_drewN ?_ _ | refine blk_drew ?_ | refine blk_alloc ?_ _)); refine blk_far ?_ NB285_286.out _; (with_reducible repeat (first | refine blk_drewN ?_ _ | refine blk_drew ?_ | refine blk_alloc ?_ _)); refine blk_far ?_ NB285_286.out _; (with_reducible repeat (first | refine blk_drewN ?_ _ | refine blk_drew ?_ | refine blk_alloc ?_ _)); exact BK285.out⟩, ⟨by (with_reducible repeat (first | refine blk_drewN ?_ _ | refine blk_drew ?_ | refine blk_alloc ?_ _)); refine blk_put (cs := #[.int .i64 0, .int .i64 0]) ?_ 1 _ rfl; (with_reducible repeat (first | refine blk_drewN ?_ _ | refine blk_drew ?_ | refine blk_alloc ?_ _)); refine blk_put (cs := #[.int .i64 0, .int .i64 0]) ?_ 0 _ rfl; (with_reducible repeat (first | refine blk_drewN ?_ _ | refine blk_drew ?_ | refine blk_alloc ?_ _)); exact BK286.out⟩, ⟨by repeat (first | (with_reducible first | exact HB.out | apply below_alloc | apply pw_below_drewN | apply below_drew1 | refine below_set ?_ GE284.out | refine below_set ?_ GE285.out | refine below_set ?_ GE286.out) | exact HB.out)⟩⟩
  case round =>
    clear H'
    try clear p2
    try clear c3
    try clear c6
    try clear c7
    try clear hcz8_0
    try clear hcz8_1
    try clear hfz8_0
    try clear hfz8_1
    obtain ⟨x6_1, x287000_1, x287001_1, rfl, HA, HK1, BK284, BK285, BK286, HB⟩ := hrel
    cases gk with
    | zero => exact absurd HA.out (by simp [flotillaref16_Used.l0])
    | succ k1 =>
      have H := HA.out
      clear HA
      simp only [flotillaref16_Used.l0] at H
      by_cases c9 : x6_1 < (l0_1.length : Int)
      · rw [if_pos c9] at H
        have c9b0 : decide (x6_1 < (l0_1.length : Int)) = true := decide_eq_true c9
        clear c9
        by_cases c10 : a1.toList = ([] : List UInt8)
        · rw [if_pos c10] at H
          have c10b0 : (a1.toList == ([] : List UInt8)) = true := beq_iff_eq.mpr c10
          have c10b1 : (a1.toList != ([] : List UInt8)) = false := bne_eq_false_iff_eq.mpr c10
          clear c10
          have H' := Aside0.mk H
          clear H
          have hnb11 := NB284_285.out
          have hnc11 := NB285_284.out
          have hnb12 := NB284_286.out
          have hnc12 := NB286_284.out
          have hcz13_0 : wr.cell? ⟨gb284, 0, none⟩ = some (.slice A0_0 l0_0.length c0_0) := (blk_cell BK284.out 0).trans rfl
          have hcz13_1 : wr.cell? ⟨gb284, 1, none⟩ = some (.slice A0_1 l0_1.length c0_1) := (blk_cell BK284.out 1).trans rfl
          have hcz13_2 : wr.cell? ⟨gb284, 2, none⟩ = some (.slice A0_2 l0_2.length c0_2) := (blk_cell BK284.out 2).trans rfl
          have hcz13_3 : wr.cell? ⟨gb284, 3, none⟩ = some (.slice A0_3 l0_3.length c0_3) := (blk_cell BK284.out 3).trans rfl
          have hfz13_0 := blk_frozen BK284.out 0
          have hfz13_1 := blk_frozen BK284.out 1
          have hfz13_2 := blk_frozen BK284.out 2
          have hfz13_3 := blk_frozen BK284.out 3
          go_wp2
          go_roundg k1
          case measure => have := HK1.out; omega
          case rel => exact ⟨(wrap64 (x6_1 + 1)), (x287000_1), (x287001_1), (by first | rfl | (simp; done) | (simp [*]; done)), H', ⟨by have := HK1.out; omega⟩, ⟨by (with_reducible repeat (first | refine blk_drewN ?_ _ | refine blk_drew ?_ | refine blk_alloc ?_ _)); exact BK284.out⟩, ⟨by (with_reducible repeat (first | refine blk_drewN ?_ _ | refine blk_drew ?_ | refine blk_alloc ?_ _)); exact BK285.out⟩, ⟨by (with_reducible repeat (first | refine blk_drewN ?_ _ | refine blk_drew ?_ | refine blk_alloc ?_ _)); exact BK286.out⟩, ⟨by repeat (first | (with_reducible first | exact HB.out | apply below_alloc | apply pw_below_drewN | apply below_drew1 | refine below_set ?_ GE284.out | refine below_set ?_ GE285.out | refine below_set ?_ GE286.out) | exact HB.out)⟩⟩
        · rw [if_neg c10] at H
          have c10b0 : (a1.toList == ([] : List UInt8)) = false := beq_eq_false_iff_ne.mpr c10
          have c10b1 : (a1.toList != ([] : List UInt8)) = true := bne_iff_ne.mpr c10
          by_cases c14 : 0 ≤ x6_1
          · rw [if_pos c14] at H
            have c14b0 : decide (0 ≤ x6_1) = true := decide_eq_true c14
            clear c14
            by_cases c15 : ((rd_T68 l0_1 x6_1).f12).toList = a1.toList
            · rw [if_pos c15] at H
              have c15b0 : (((rd_T68 l0_1 x6_1).f12).toList == a1.toList) = true := beq_iff_eq.mpr c15
              have c15b1 : (((rd_T68 l0_1 x6_1).f12).toList != a1.toList) = false := bne_eq_false_iff_eq.mpr c15
              clear c15
              replace H := Option.bind_eq_some_iff.mp H
              obtain ⟨⟨t289, t290⟩, A160, H⟩ := H
              replace H : (flotillaref16_Used.l0 k1 a1 (wrap64 (x6_1 + 1)) l0_0 l0_1 l0_2 l0_3 t289 t290) = some (r1, r2) := H
              have A16 := Aside0.mk A160
              clear A160
              have H' := Aside0.mk H
              clear H
              have hnb17 := NB284_285.out
              have hnc17 := NB285_284.out
              have hnb18 := NB284_286.out
              have hnc18 := NB286_284.out
              have hcz19_0 : wr.cell? ⟨gb284, 0, none⟩ = some (.slice A0_0 l0_0.length c0_0) := (blk_cell BK284.out 0).trans rfl
              have hcz19_1 : wr.cell? ⟨gb284, 1, none⟩ = some (.slice A0_1 l0_1.length c0_1) := (blk_cell BK284.out 1).trans rfl
              have hcz19_2 : wr.cell? ⟨gb284, 2, none⟩ = some (.slice A0_2 l0_2.length c0_2) := (blk_cell BK284.out 2).trans rfl
              have hcz19_3 : wr.cell? ⟨gb284, 3, none⟩ = some (.slice A0_3 l0_3.length c0_3) := (blk_cell BK284.out 3).trans rfl
              have hfz19_0 := blk_frozen BK284.out 0
              have hfz19_1 := blk_frozen BK284.out 1
              have hfz19_2 := blk_frozen BK284.out 2
              have hfz19_3 := blk_frozen BK284.out 3
              have p287 : 0 ≤ (x6_1 : Int) := of_decide_eq_true (by first | (with_reducible assumption) | assumption)
              have q287 : x6_1 < (l0_1.length : Int) := of_decide_eq_true (by first | (with_reducible assumption) | assumption)
              obtain ⟨ad287, A287_4, c287_4, A287_27, c287_27, e287, hx287_0, hx287_1, hx287_2, hx287_3, hx287_4, hx287_5, hx287_6, hx287_7, hx287_8, hx287_9, hx287_10, hx287_11, hx287_12, hx287_13, hx287_14, hx287_15, hx287_16, hx287_17, hx287_18, hx287_19, hx287_20, hx287_21, hx287_22, hx287_23, hx287_24, hx287_25, hx287_26, hx287_27, hx287_28, hx287_29, hx287_30, hx287_31, hl287_4, hi287_4, hl287_27, hi287_27⟩ := at_T68 HR0_1.out x6_1 p287 q287
              cases e287
              replace hx287_0 := (HB.out.cell (World.block_lt_of_cell? w _ hx287_0)).trans hx287_0
              replace hx287_1 := (HB.out.cell (World.block_lt_of_cell? w _ hx287_1)).trans hx287_1
              replace hx287_2 := (HB.out.cell (World.block_lt_of_cell? w _ hx287_2)).trans hx287_2
              replace hx287_3 := (HB.out.cell (World.block_lt_of_cell? w _ hx287_3)).trans hx287_3
              replace hx287_4 := (HB.out.cell (World.block_lt_of_cell? w _ hx287_4)).trans hx287_4
              replace hx287_5 := (HB.out.cell (World.block_lt_of_cell? w _ hx287_5)).trans hx287_5
              replace hx287_6 := (HB.out.cell (World.block_lt_of_cell? w _ hx287_6)).trans hx287_6
              replace hx287_7 := (HB.out.cell (World.block_lt_of_cell? w _ hx287_7)).trans hx287_7
              replace hx287_8 := (HB.out.cell (World.block_lt_of_cell? w _ hx287_8)).trans hx287_8
              replace hx287_9 := (HB.out.cell (World.block_lt_of_cell? w _ hx287_9)).trans hx287_9
              replace hx287_10 := (HB.out.cell (World.block_lt_of_cell? w _ hx287_10)).trans hx287_10
              replace hx287_11 := (HB.out.cell (World.block_lt_of_cell? w _ hx287_11)).trans hx287_11
              replace hx287_12 := (HB.out.cell (World.block_lt_of_cell? w _ hx287_12)).trans hx287_12
              replace hx287_13 := (HB.out.cell (World.block_lt_of_cell? w _ hx287_13)).trans hx287_13
              replace hx287_14 := (HB.out.cell (World.block_lt_of_cell? w _ hx287_14)).trans hx287_14
              replace hx287_15 := (HB.out.cell (World.block_lt_of_cell? w _ hx287_15)).trans hx287_15
              replace hx287_16 := (HB.out.cell (World.block_lt_of_cell? w _ hx287_16)).trans hx287_16
              replace hx287_17 := (HB.out.cell (World.block_lt_of_cell? w _ hx287_17)).trans hx287_17
              replace hx287_18 := (HB.out.cell (World.block_lt_of_cell? w _ hx287_18)).trans hx287_18
              replace hx287_19 := (HB.out.cell (World.block_lt_of_cell? w _ hx287_19)).trans hx287_19
              replace hx287_20 := (HB.out.cell (World.block_lt_of_cell? w _ hx287_20)).trans hx287_20
              replace hx287_21 := (HB.out.cell (World.block_lt_of_cell? w _ hx287_21)).trans hx287_21
              replace hx287_22 := (HB.out.cell (World.block_lt_of_cell? w _ hx287_22)).trans hx287_22
              replace hx287_23 := (HB.out.cell (World.block_lt_of_cell? w _ hx287_23)).trans hx287_23
              replace hx287_24 := (HB.out.cell (World.block_lt_of_cell? w _ hx287_24)).trans hx287_24
              replace hx287_25 := (HB.out.cell (World.block_lt_of_cell? w _ hx287_25)).trans hx287_25
              replace hx287_26 := (HB.out.cell (World.block_lt_of_cell? w _ hx287_26)).trans hx287_26
              replace hx287_27 := (HB.out.cell (World.block_lt_of_cell? w _ hx287_27)).trans hx287_27
              replace hx287_28 := (HB.out.cell (World.block_lt_of_cell? w _ hx287_28)).trans hx287_28
              replace hx287_29 := (HB.out.cell (World.block_lt_of_cell? w _ hx287_29)).trans hx287_29
              replace hx287_30 := (HB.out.cell (World.block_lt_of_cell? w _ hx287_30)).trans hx287_30
              replace hx287_31 := (HB.out.cell (World.block_lt_of_cell? w _ hx287_31)).trans hx287_31
              have HR287_4 := Aside0.mk hi287_4
              have HC287_4 := Aside0.mk hl287_4
              clear hi287_4 hl287_4
              have HR287_27 := Aside0.mk hi287_27
              have HC287_27 := Aside0.mk hl287_27
              clear hi287_27 hl287_27
              replace p287 := eq_true p287
              replace q287 := eq_true q287
              try go_wp2
              have n0_ := Aside0.mk (blk_drew BK284.out)
              have n1_ := Aside0.mk (blk_drew BK285.out)
              have n2_ := Aside0.mk (blk_drew BK286.out)
              have n3_ := Aside0.mk (below_drew1 HB.out)
              clear BK284
              clear BK285
              clear BK286
              clear HB
              have BK284 := n0_
              have BK285 := n1_
              have BK286 := n2_
              have HB := n3_
              clear n0_ n1_ n2_ n3_
              have p288 : 0 ≤ (x6_1 : Int) := of_decide_eq_true (by first | (with_reducible assumption) | assumption)
              have q288 : x6_1 < (l0_1.length : Int) := of_decide_eq_true (by first | (with_reducible assumption) | assumption)
              obtain ⟨ad288, A288_4, c288_4, A288_27, c288_27, e288, hx288_0, hx288_1, hx288_2, hx288_3, hx288_4, hx288_5, hx288_6, hx288_7, hx288_8, hx288_9, hx288_10, hx288_11, hx288_12, hx288_13, hx288_14, hx288_15, hx288_16, hx288_17, hx288_18, hx288_19, hx288_20, hx288_21, hx288_22, hx288_23, hx288_24, hx288_25, hx288_26, hx288_27, hx288_28, hx288_29, hx288_30, hx288_31, hl288_4, hi288_4, hl288_27, hi288_27⟩ := at_T68 HR0_1.out x6_1 p288 q288
              have hw288_31 := hx288_31
              have hw288_30 := hx288_30
              have hw288_29 := hx288_29
              have hw288_28 := hx288_28
              have hw288_27 := hx288_27
              have hw288_26 := hx288_26
              have hw288_25 := hx288_25
              have hw288_24 := hx288_24
              have hw288_23 := hx288_23
              have hw288_22 := hx288_22
              have hw288_21 := hx288_21
              have hw288_20 := hx288_20
              have hw288_19 := hx288_19
              have hw288_18 := hx288_18
              have hw288_17 := hx288_17
              have hw288_16 := hx288_16
              have hw288_15 := hx288_15
              have hw288_14 := hx288_14
              have hw288_13 := hx288_13
              have hw288_12 := hx288_12
              have hw288_11 := hx288_11
              have hw288_10 := hx288_10
              have hw288_9 := hx288_9
              have hw288_8 := hx288_8
              have hw288_7 := hx288_7
              have hw288_6 := hx288_6
              have hw288_5 := hx288_5
              have hw288_4 := hx288_4
              have hw288_3 := hx288_3
              have hw288_2 := hx288_2
              have hw288_1 := hx288_1
              have hw288_0 := hx288_0
              obtain rfl : ad287 = ad288 := (by injection e288)
              replace hx288_0 := (HB.out.cell (World.block_lt_of_cell? w _ hx288_0)).trans hx288_0
              replace hx288_1 := (HB.out.cell (World.block_lt_of_cell? w _ hx288_1)).trans hx288_1
              replace hx288_2 := (HB.out.cell (World.block_lt_of_cell? w _ hx288_2)).trans hx288_2
              replace hx288_3 := (HB.out.cell (World.block_lt_of_cell? w _ hx288_3)).trans hx288_3
              replace hx288_4 := (HB.out.cell (World.block_lt_of_cell? w _ hx288_4)).trans hx288_4
              replace hx288_5 := (HB.out.cell (World.block_lt_of_cell? w _ hx288_5)).trans hx288_5
              replace hx288_6 := (HB.out.cell (World.block_lt_of_cell? w _ hx288_6)).trans hx288_6
              replace hx288_7 := (HB.out.cell (World.block_lt_of_cell? w _ hx288_7)).trans hx288_7
              replace hx288_8 := (HB.out.cell (World.block_lt_of_cell? w _ hx288_8)).trans hx288_8
              replace hx288_9 := (HB.out.cell (World.block_lt_of_cell? w _ hx288_9)).trans hx288_9
              replace hx288_10 := (HB.out.cell (World.block_lt_of_cell? w _ hx288_10)).trans hx288_10
              replace hx288_11 := (HB.out.cell (World.block_lt_of_cell? w _ hx288_11)).trans hx288_11
              replace hx288_12 := (HB.out.cell (World.block_lt_of_cell? w _ hx288_12)).trans hx288_12
              replace hx288_13 := (HB.out.cell (World.block_lt_of_cell? w _ hx288_13)).trans hx288_13
              replace hx288_14 := (HB.out.cell (World.block_lt_of_cell? w _ hx288_14)).trans hx288_14
              replace hx288_15 := (HB.out.cell (World.block_lt_of_cell? w _ hx288_15)).trans hx288_15
              replace hx288_16 := (HB.out.cell (World.block_lt_of_cell? w _ hx288_16)).trans hx288_16
              replace hx288_17 := (HB.out.cell (World.block_lt_of_cell? w _ hx288_17)).trans hx288_17
              replace hx288_18 := (HB.out.cell (World.block_lt_of_cell? w _ hx288_18)).trans hx288_18
              replace hx288_19 := (HB.out.cell (World.block_lt_of_cell? w _ hx288_19)).trans hx288_19
              replace hx288_20 := (HB.out.cell (World.block_lt_of_cell? w _ hx288_20)).trans hx288_20
              replace hx288_21 := (HB.out.cell (World.block_lt_of_cell? w _ hx288_21)).trans hx288_21
              replace hx288_22 := (HB.out.cell (World.block_lt_of_cell? w _ hx288_22)).trans hx288_22
              replace hx288_23 := (HB.out.cell (World.block_lt_of_cell? w _ hx288_23)).trans hx288_23
              replace hx288_24 := (HB.out.cell (World.block_lt_of_cell? w _ hx288_24)).trans hx288_24
              replace hx288_25 := (HB.out.cell (World.block_lt_of_cell? w _ hx288_25)).trans hx288_25
              replace hx288_26 := (HB.out.cell (World.block_lt_of_cell? w _ hx288_26)).trans hx288_26
              replace hx288_27 := (HB.out.cell (World.block_lt_of_cell? w _ hx288_27)).trans hx288_27
              replace hx288_28 := (HB.out.cell (World.block_lt_of_cell? w _ hx288_28)).trans hx288_28
              replace hx288_29 := (HB.out.cell (World.block_lt_of_cell? w _ hx288_29)).trans hx288_29
              replace hx288_30 := (HB.out.cell (World.block_lt_of_cell? w _ hx288_30)).trans hx288_30
              replace hx288_31 := (HB.out.cell (World.block_lt_of_cell? w _ hx288_31)).trans hx288_31
              have HR288_4 := Aside0.mk hi288_4
              have HC288_4 := Aside0.mk hl288_4
              clear hi288_4 hl288_4
              have HR288_27 := Aside0.mk hi288_27
              have HC288_27 := Aside0.mk hl288_27
              clear hi288_27 hl288_27
              replace p288 := eq_true p288
              replace q288 := eq_true q288
              refine start_ (n := 9) (S := fun w' => w'.cell? ⟨gb286, 0, none⟩ = some (.int .i64 x287000_1) ∧ w'.cell? ⟨gb286, 1, none⟩ = some (.int .i64 x287001_1) ∧ w'.cell? ⟨gb284, 0, none⟩ = some (.slice A0_0 l0_0.length c0_0) ∧ w'.cell? ⟨gb284, 1, none⟩ = some (.slice (some ad287) l0_1.length c0_1) ∧ w'.cell? ⟨gb284, 2, none⟩ = some (.slice A0_2 l0_2.length c0_2) ∧ w'.cell? ⟨gb284, 3, none⟩ = some (.slice A0_3 l0_3.length c0_3) ∧ w'.cell? (ad287.add ((x6_1).toNat * 32)) = some (.int .i64 ((rd_T68 l0_1 x6_1).f0)) ∧ w'.cell? ⟨(ad287.add ((x6_1).toNat * 32)).block, (ad287.add ((x6_1).toNat * 32)).off + 1, none⟩ = some (.string ((rd_T68 l0_1 x6_1).f1)) ∧ w'.cell? ⟨(ad287.add ((x6_1).toNat * 32)).block, (ad287.add ((x6_1).toNat * 32)).off + 2, none⟩ = some (.int .i64 ((rd_T68 l0_1 x6_1).f2)) ∧ w'.cell? ⟨(ad287.add ((x6_1).toNat * 32)).block, (ad287.add ((x6_1).toNat * 32)).off + 3, none⟩ = some (.int .i64 ((rd_T68 l0_1 x6_1).f3)) ∧ w'.cell? ⟨(ad287.add ((x6_1).toNat * 32)).block, (ad287.add ((x6_1).toNat * 32)).off + 4, none⟩ = some (.slice A288_4 ((rd_T68 l0_1 x6_1).f4).length c288_4) ∧ w'.cell? ⟨(ad287.add ((x6_1).toNat * 32)).block, (ad287.add ((x6_1).toNat * 32)).off + 5, none⟩ = some (.int .i64 ((rd_T68 l0_1 x6_1).f5.f0)) ∧ w'.cell? ⟨(ad287.add ((x6_1).toNat * 32)).block, (ad287.add ((x6_1).toNat * 32)).off + 6, none⟩ = some (.int .i64 ((rd_T68 l0_1 x6_1).f5.f1)) ∧ w'.cell? ⟨(ad287.add ((x6_1).toNat * 32)).block, (ad287.add ((x6_1).toNat * 32)).off + 7, none⟩ = some (.bool ((rd_T68 l0_1 x6_1).f6)) ∧ w'.cell? ⟨(ad287.add ((x6_1).toNat * 32)).block, (ad287.add ((x6_1).toNat * 32)).off + 8, none⟩ = some (.bool ((rd_T68 l0_1 x6_1).f7)) ∧ w'.cell? ⟨(ad287.add ((x6_1).toNat * 32)).block, (ad287.add ((x6_1).toNat * 32)).off + 9, none⟩ = some (.bool ((rd_T68 l0_1 x6_1).f8)) ∧ w'.cell? ⟨(ad287.add ((x6_1).toNat * 32)).block, (ad287.add ((x6_1).toNat * 32)).off + 10, none⟩ = some (.int .i64 ((rd_T68 l0_1 x6_1).f9)) ∧ w'.cell? ⟨(ad287.add ((x6_1).toNat * 32)).block, (ad287.add ((x6_1).toNat * 32)).off + 11, none⟩ = some (.string ((rd_T68 l0_1 x6_1).f10)) ∧ w'.cell? ⟨(ad287.add ((x6_1).toNat * 32)).block, (ad287.add ((x6_1).toNat * 32)).off + 12, none⟩ = some (.string ((rd_T68 l0_1 x6_1).f11)) ∧ w'.cell? ⟨(ad287.add ((x6_1).toNat * 32)).block, (ad287.add ((x6_1).toNat * 32)).off + 13, none⟩ = some (.string ((rd_T68 l0_1 x6_1).f12)) ∧ w'.cell? ⟨(ad287.add ((x6_1).toNat * 32)).block, (ad287.add ((x6_1).toNat * 32)).off + 14, none⟩ = some (.int .i64 ((rd_T68 l0_1 x6_1).f13)) ∧ w'.cell? ⟨(ad287.add ((x6_1).toNat * 32)).block, (ad287.add ((x6_1).toNat * 32)).off + 15, none⟩ = some (.bool ((rd_T68 l0_1 x6_1).f14)) ∧ w'.cell? ⟨(ad287.add ((x6_1).toNat * 32)).block, (ad287.add ((x6_1).toNat * 32)).off + 16, none⟩ = some (.bool ((rd_T68 l0_1 x6_1).f15)) ∧ w'.cell? ⟨(ad287.add ((x6_1).toNat * 32)).block, (ad287.add ((x6_1).toNat * 32)).off + 17, none⟩ = some (.int .i64 ((rd_T68 l0_1 x6_1).f16.f0)) ∧ w'.cell? ⟨(ad287.add ((x6_1).toNat * 32)).block, (ad287.add ((x6_1).toNat * 32)).off + 18, none⟩ = some (.int .i64 ((rd_T68 l0_1 x6_1).f16.f1)) ∧ w'.cell? ⟨(ad287.add ((x6_1).toNat * 32)).block, (ad287.add ((x6_1).toNat * 32)).off + 19, none⟩ = some (.string ((rd_T68 l0_1 x6_1).f17)) ∧ w'.cell? ⟨(ad287.add ((x6_1).toNat * 32)).block, (ad287.add ((x6_1).toNat * 32)).off + 20, none⟩ = some (.int .i64 ((rd_T68 l0_1 x6_1).f18)) ∧ w'.cell? ⟨(ad287.add ((x6_1).toNat * 32)).block, (ad287.add ((x6_1).toNat * 32)).off + 21, none⟩ = some (.int .i64 ((rd_T68 l0_1 x6_1).f19)) ∧ w'.cell? ⟨(ad287.add ((x6_1).toNat * 32)).block, (ad287.add ((x6_1).toNat * 32)).off + 22, none⟩ = some (.int .i64 ((rd_T68 l0_1 x6_1).f20)) ∧ w'.cell? ⟨(ad287.add ((x6_1).toNat * 32)).block, (ad287.add ((x6_1).toNat * 32)).off + 23, none⟩ = some (.int .i64 ((rd_T68 l0_1 x6_1).f21)) ∧ w'.cell? ⟨(ad287.add ((x6_1).toNat * 32)).block, (ad287.add ((x6_1).toNat * 32)).off + 24, none⟩ = some (.int .i64 ((rd_T68 l0_1 x6_1).f22)) ∧ w'.cell? ⟨(ad287.add ((x6_1).toNat * 32)).block, (ad287.add ((x6_1).toNat * 32)).off + 25, none⟩ = some (.bool ((rd_T68 l0_1 x6_1).f23)) ∧ w'.cell? ⟨(ad287.add ((x6_1).toNat * 32)).block, (ad287.add ((x6_1).toNat * 32)).off + 26, none⟩ = some (.int .u64 ((rd_T68 l0_1 x6_1).f24)) ∧ w'.cell? ⟨(ad287.add ((x6_1).toNat * 32)).block, (ad287.add ((x6_1).toNat * 32)).off + 27, none⟩ = some (.slice A288_27 ((rd_T68 l0_1 x6_1).f25).length c288_27) ∧ w'.cell? ⟨(ad287.add ((x6_1).toNat * 32)).block, (ad287.add ((x6_1).toNat * 32)).off + 28, none⟩ = some (.int .i64 ((rd_T68 l0_1 x6_1).f26)) ∧ w'.cell? ⟨(ad287.add ((x6_1).toNat * 32)).block, (ad287.add ((x6_1).toNat * 32)).off + 29, none⟩ = some (.string ((rd_T68 l0_1 x6_1).f27)) ∧ w'.cell? ⟨(ad287.add ((x6_1).toNat * 32)).block, (ad287.add ((x6_1).toNat * 32)).off + 30, none⟩ = some (.int .i64 ((rd_T68 l0_1 x6_1).f28)) ∧ w'.cell? ⟨(ad287.add ((x6_1).toNat * 32)).block, (ad287.add ((x6_1).toNat * 32)).off + 31, none⟩ = some (.int .i64 ((rd_T68 l0_1 x6_1).f29))) (ds := [8]) #[false, false, false, false, false, false, false, false, false] (by kernel_rfl) rfl rfl ⟨(blk_cell BK286.out 0).trans rfl, (blk_cell BK286.out 1).trans rfl, (blk_cell BK284.out 0).trans rfl, (blk_cell BK284.out 1).trans rfl, (blk_cell BK284.out 2).trans rfl, (blk_cell BK284.out 3).trans rfl, ((HB.out.cell (World.block_lt_of_cell? w _ hw288_0)).trans hw288_0), ((HB.out.cell (World.block_lt_of_cell? w _ hw288_1)).trans hw288_1), ((HB.out.cell (World.block_lt_of_cell? w _ hw288_2)).trans hw288_2), ((HB.out.cell (World.block_lt_of_cell? w _ hw288_3)).trans hw288_3), ((HB.out.cell (World.block_lt_of_cell? w _ hw288_4)).trans hw288_4), ((HB.out.cell (World.block_lt_of_cell? w _ hw288_5)).trans hw288_5), ((HB.out.cell (World.block_lt_of_cell? w _ hw288_6)).trans hw288_6), ((HB.out.cell (World.block_lt_of_cell? w _ hw288_7)).trans hw288_7), ((HB.out.cell (World.block_lt_of_cell? w _ hw288_8)).trans hw288_8), ((HB.out.cell (World.block_lt_of_cell? w _ hw288_9)).trans hw288_9), ((HB.out.cell (World.block_lt_of_cell? w _ hw288_10)).trans hw288_10), ((HB.out.cell (World.block_lt_of_cell? w _ hw288_11)).trans hw288_11), ((HB.out.cell (World.block_lt_of_cell? w _ hw288_12)).trans hw288_12), ((HB.out.cell (World.block_lt_of_cell? w _ hw288_13)).trans hw288_13), ((HB.out.cell (World.block_lt_of_cell? w _ hw288_14)).trans hw288_14), ((HB.out.cell (World.block_lt_of_cell? w _ hw288_15)).trans hw288_15), ((HB.out.cell (World.block_lt_of_cell? w _ hw288_16)).trans hw288_16), ((HB.out.cell (World.block_lt_of_cell? w _ hw288_17)).trans hw288_17), ((HB.out.cell (World.block_lt_of_cell? w _ hw288_18)).trans hw288_18), ((HB.out.cell (World.block_lt_of_cell? w _ hw288_19)).trans hw288_19), ((HB.out.cell (World.block_lt_of_cell? w _ hw288_20)).trans hw288_20), ((HB.out.cell (World.block_lt_of_cell? w _ hw288_21)).trans hw288_21), ((HB.out.cell (World.block_lt_of_cell? w _ hw288_22)).trans hw288_22), ((HB.out.cell (World.block_lt_of_cell? w _ hw288_23)).trans hw288_23), ((HB.out.cell (World.block_lt_of_cell? w _ hw288_24)).trans hw288_24), ((HB.out.cell (World.block_lt_of_cell? w _ hw288_25)).trans hw288_25), ((HB.out.cell (World.block_lt_of_cell? w _ hw288_26)).trans hw288_26), ((HB.out.cell (World.block_lt_of_cell? w _ hw288_27)).trans hw288_27), ((HB.out.cell (World.block_lt_of_cell? w _ hw288_28)).trans hw288_28), ((HB.out.cell (World.block_lt_of_cell? w _ hw288_29)).trans hw288_29), ((HB.out.cell (World.block_lt_of_cell? w _ hw288_30)).trans hw288_30), ((HB.out.cell (World.block_lt_of_cell? w _ hw288_31)).trans hw288_31)⟩ (fun hHeld => ?_); refine with_tabW flotillaref16_Used.tab6 flotillaref16_Used.bits6 (fun HT_ HW_ => ?_)
              generalize wr.drew = w20 at BK284 BK285 BK286 HB HR288_27 HR288_4 hx288_0 hx288_1 hx288_10 hx288_11 hx288_12 hx288_13 hx288_14 hx288_15 hx288_16 hx288_17 hx288_18 hx288_19 hx288_2 hx288_20 hx288_21 hx288_22 hx288_23 hx288_24 hx288_25 hx288_26 hx288_27 hx288_28 hx288_29 hx288_3 hx288_30 hx288_31 hx288_4 hx288_5 hx288_6 hx288_7 hx288_8 hx288_9 hHeld ⊢
              refine pure_ (i := 1) (N := some 28) (v := ?_) (a' := ?_) #[false, true, false, false, false, false, false, false, false] rfl rfl (any_of HT_.out (by kernel_rfl)) (fun _ _ _ h => h) (Or.inl ⟨by rfl, ?_⟩) ?_ ?_
              rotate_left
              · intro w'
                go_simp
                with_reducible rfl
              rotate_left
              · simp only [Act.put, List.setIfInBounds_toArray, List.set_cons_zero, List.set_cons_succ, i64_w, i32_w]
                rfl
              refine pure_ (i := 3) (N := some 30) (v := ?_) (a' := ?_) #[false, true, false, true, false, false, false, false, false] rfl rfl (any_of HT_.out (by kernel_rfl)) (fun _ _ _ h => h) (Or.inl ⟨by rfl, ?_⟩) ?_ ?_
              rotate_left
              · intro w'
                go_simp
                with_reducible rfl
              rotate_left
              · simp only [Act.put, List.setIfInBounds_toArray, List.set_cons_zero, List.set_cons_succ, i64_w, i32_w]
                rfl
              refine take_ (i := 0) (N := some 27) (v := ?_) (a' := ?_) #[true, true, false, true, false, false, false, false, false] rfl rfl (take_ofW HT_.out HW_.out (by kernel_rfl)) (fun _ _ _ h => h) (Or.inl ⟨by rfl, ?_⟩) hHeld ?_ ?_
              rotate_left
              · rintro w' ⟨s0, s1, s2, s3, s4, s5, s6, s7, s8, s9, s10, s11, s12, s13, s14, s15, s16, s17, s18, s19, s20, s21, s22, s23, s24, s25, s26, s27, s28, s29, s30, s31, s32, s33, s34, s35, s36, s37⟩
                go_simp
                with_reducible rfl
              rotate_left
              · simp only [Act.put, List.setIfInBounds_toArray, List.set_cons_zero, List.set_cons_succ, i64_w, i32_w]
                rfl
              refine take_ (i := 2) (N := some 29) (v := ?_) (a' := ?_) #[true, true, true, true, false, false, false, false, false] rfl rfl (take_ofW HT_.out HW_.out (by kernel_rfl)) (fun _ _ _ h => h) (Or.inl ⟨by rfl, ?_⟩) hHeld ?_ ?_
              rotate_left
              · rintro w' ⟨s0, s1, s2, s3, s4, s5, s6, s7, s8, s9, s10, s11, s12, s13, s14, s15, s16, s17, s18, s19, s20, s21, s22, s23, s24, s25, s26, s27, s28, s29, s30, s31, s32, s33, s34, s35, s36, s37⟩
                go_simp
                with_reducible rfl
              rotate_left
              · simp only [Act.put, List.setIfInBounds_toArray, List.set_cons_zero, List.set_cons_succ, i64_w, i32_w]
                rfl
              refine pure_ (i := 4) (N := some 31) (v := ?_) (a' := ?_) #[true, true, true, true, true, false, false, false, false] rfl rfl (any_of HT_.out (by kernel_rfl)) (fun _ _ _ h => h) (Or.inl ⟨by rfl, ?_⟩) ?_ ?_
              rotate_left
              · intro w'
                go_simp
                with_reducible rfl
              rotate_left
              · simp only [Act.put, List.setIfInBounds_toArray, List.set_cons_zero, List.set_cons_succ, i64_w, i32_w]
                rfl
              refine pure_ (i := 5) (N := some 32) (v := ?_) (a' := ?_) #[true, true, true, true, true, true, false, false, false] rfl rfl (any_of HT_.out (by kernel_rfl)) (fun _ _ _ h => h) (Or.inl ⟨by rfl, ?_⟩) ?_ ?_
              rotate_left
              · intro w'
                go_simp
                with_reducible rfl
              rotate_left
              · simp only [Act.put, List.setIfInBounds_toArray, List.set_cons_zero, List.set_cons_succ, i64_w, i32_w]
                rfl
              refine take_ (i := 6) (N := some 33) (v := ?_) (a' := ?_) #[true, true, true, true, true, true, true, false, false] rfl rfl (take_ofW HT_.out HW_.out (by kernel_rfl)) (fun _ _ _ h => h) (Or.inl ⟨by rfl, ?_⟩) hHeld ?_ ?_
              rotate_left
              · rintro w' ⟨s0, s1, s2, s3, s4, s5, s6, s7, s8, s9, s10, s11, s12, s13, s14, s15, s16, s17, s18, s19, s20, s21, s22, s23, s24, s25, s26, s27, s28, s29, s30, s31, s32, s33, s34, s35, s36, s37⟩
                go_simp
                with_reducible rfl
              rotate_left
              · simp only [Act.put, List.setIfInBounds_toArray, List.set_cons_zero, List.set_cons_succ, i64_w, i32_w]
                rfl
              refine one_ (i := 7) (N := some 34) #[true, true, true, true, true, true, true, true, false] rfl rfl (one_of HT_.out (by kernel_rfl)) (by decide) (fun K hK => ?_)
              refine goes_ Try.func89 (by kernel_rfl) rfl #[.agg #[.int .i64 x287000_1, .int .i64 x287001_1], .agg #[.int .i64 ((rd_T68 l0_1 x6_1).f16.f0), .int .i64 ((rd_T68 l0_1 x6_1).f16.f1)]] (by rfl) rfl rfl (by (try simp only [List.map_toArray, List.map_cons, List.map_nil]); first | done | rfl | (simp only [List.length_drop, List.length_take]; rfl)) ?_
              with_reducible refine (flotillaref16_both.calls x287000_1 x287001_1 ((rd_T68 l0_1 x6_1).f16.f0) ((rd_T68 l0_1 x6_1).f16.f1) t289 t290 _ A16.out).mono ?_
              rintro e w21 ⟨rfl, hb⟩
              refine ⟨_, rfl, ?_⟩
              have n0_ := Aside0.mk (blk_below (g := gb284) (o := .cells #[.slice A0_0 l0_0.length c0_0, .slice (some ad287) l0_1.length c0_1, .slice A0_2 l0_2.length c0_2, .slice A0_3 l0_3.length c0_3] 59 (0, 0)) (by (with_reducible repeat (first | refine blk_drewN ?_ _ | refine blk_drew ?_ | refine blk_alloc ?_ _)); exact BK284.out) hb)
              have n1_ := Aside0.mk (blk_below (g := gb285) (o := .cells #[.int .i64 0, .int .i64 0] 64 (0, 0)) (by (with_reducible repeat (first | refine blk_drewN ?_ _ | refine blk_drew ?_ | refine blk_alloc ?_ _)); exact BK285.out) hb)
              have n2_ := Aside0.mk (blk_below (g := gb286) (o := .cells #[.int .i64 x287000_1, .int .i64 x287001_1] 64 (0, 0)) (by (with_reducible repeat (first | refine blk_drewN ?_ _ | refine blk_drew ?_ | refine blk_alloc ?_ _)); exact BK286.out) hb)
              have n3_ := Aside0.mk (below_step (by repeat (first | (with_reducible first | exact HB.out | apply below_alloc | apply pw_below_drewN | apply below_drew1 | refine below_set ?_ GE284.out | refine below_set ?_ GE285.out | refine below_set ?_ GE286.out) | exact HB.out)) hb)
              clear BK284
              clear BK285
              clear BK286
              clear HB
              have BK284 := n0_
              have BK285 := n1_
              have BK286 := n2_
              have HB := n3_
              clear n0_ n1_ n2_ n3_
              (try clear hb)
              (try clear hb2)
              (try clear hk)
              (try clear hi)
              refine hK.out _ _ ⟨(blk_cell BK286.out 0).trans rfl, (blk_cell BK286.out 1).trans rfl, (blk_cell BK284.out 0).trans rfl, (blk_cell BK284.out 1).trans rfl, (blk_cell BK284.out 2).trans rfl, (blk_cell BK284.out 3).trans rfl, ((HB.out.cell (World.block_lt_of_cell? w _ hw288_0)).trans hw288_0), ((HB.out.cell (World.block_lt_of_cell? w _ hw288_1)).trans hw288_1), ((HB.out.cell (World.block_lt_of_cell? w _ hw288_2)).trans hw288_2), ((HB.out.cell (World.block_lt_of_cell? w _ hw288_3)).trans hw288_3), ((HB.out.cell (World.block_lt_of_cell? w _ hw288_4)).trans hw288_4), ((HB.out.cell (World.block_lt_of_cell? w _ hw288_5)).trans hw288_5), ((HB.out.cell (World.block_lt_of_cell? w _ hw288_6)).trans hw288_6), ((HB.out.cell (World.block_lt_of_cell? w _ hw288_7)).trans hw288_7), ((HB.out.cell (World.block_lt_of_cell? w _ hw288_8)).trans hw288_8), ((HB.out.cell (World.block_lt_of_cell? w _ hw288_9)).trans hw288_9), ((HB.out.cell (World.block_lt_of_cell? w _ hw288_10)).trans hw288_10), ((HB.out.cell (World.block_lt_of_cell? w _ hw288_11)).trans hw288_11), ((HB.out.cell (World.block_lt_of_cell? w _ hw288_12)).trans hw288_12), ((HB.out.cell (World.block_lt_of_cell? w _ hw288_13)).trans hw288_13), ((HB.out.cell (World.block_lt_of_cell? w _ hw288_14)).trans hw288_14), ((HB.out.cell (World.block_lt_of_cell? w _ hw288_15)).trans hw288_15), ((HB.out.cell (World.block_lt_of_cell? w _ hw288_16)).trans hw288_16), ((HB.out.cell (World.block_lt_of_cell? w _ hw288_17)).trans hw288_17), ((HB.out.cell (World.block_lt_of_cell? w _ hw288_18)).trans hw288_18), ((HB.out.cell (World.block_lt_of_cell? w _ hw288_19)).trans hw288_19), ((HB.out.cell (World.block_lt_of_cell? w _ hw288_20)).trans hw288_20), ((HB.out.cell (World.block_lt_of_cell? w _ hw288_21)).trans hw288_21), ((HB.out.cell (World.block_lt_of_cell? w _ hw288_22)).trans hw288_22), ((HB.out.cell (World.block_lt_of_cell? w _ hw288_23)).trans hw288_23), ((HB.out.cell (World.block_lt_of_cell? w _ hw288_24)).trans hw288_24), ((HB.out.cell (World.block_lt_of_cell? w _ hw288_25)).trans hw288_25), ((HB.out.cell (World.block_lt_of_cell? w _ hw288_26)).trans hw288_26), ((HB.out.cell (World.block_lt_of_cell? w _ hw288_27)).trans hw288_27), ((HB.out.cell (World.block_lt_of_cell? w _ hw288_28)).trans hw288_28), ((HB.out.cell (World.block_lt_of_cell? w _ hw288_29)).trans hw288_29), ((HB.out.cell (World.block_lt_of_cell? w _ hw288_30)).trans hw288_30), ((HB.out.cell (World.block_lt_of_cell? w _ hw288_31)).trans hw288_31)⟩ (fun hHeld => ?_)
              clear hK K
              refine norm_ (a' := ?_) ?_ ?_
              rotate_left
              · show Act.put _ (some 34) _ = _
                simp only [Act.put, List.setIfInBounds_toArray, List.set_cons_zero, List.set_cons_succ, i64_w, i32_w]
                rfl
              refine last_ (i := 8) (N := none) #[true, true, true, true, true, true, true, true, true] rfl rfl (one_of HT_.out (by kernel_rfl)) (by decide) (fun K hK => ?_)
              have hs22 : w21.cell? ⟨gb286, 0, none⟩ = some (.int .i64 x287000_1) := (blk_cell BK286.out 0).trans rfl
              have hfs22 := blk_frozen BK286.out 0
              have hns22_0 := NB284_286.out
              have hns22_1 := NB285_286.out
              have hms22_0 := NB286_284.out
              have hms22_1 := NB286_285.out
              have hs23 : w21.cell? ⟨gb286, 1, none⟩ = some (.int .i64 x287001_1) := (blk_cell BK286.out 1).trans rfl
              have hfs23 := blk_frozen BK286.out 1
              have hns23_0 := NB284_286.out
              have hns23_1 := NB285_286.out
              have hms23_0 := NB286_284.out
              have hms23_1 := NB286_285.out
              refine skip_ (w1 := ?_) (by rfl) rfl ?_ ?_
              rotate_left
              · go_simp
                rfl
              refine hK.out _ _ ?_
              clear hK K
              refine done_ (done_of HT_.out (by kernel_rfl)) ?_
              try go_wp2
              go_roundg k1
              case measure => have := HK1.out; omega
              case rel => exact ⟨(wrap64 (x6_1 + 1)), (t289), (t290), (by first | rfl | (simp; done) | (simp [*]; done)), H', ⟨by have := HK1.out; omega⟩, ⟨by (with_reducible repeat (first | refine blk_drewN ?_ _ | refine blk_drew ?_ | refine blk_alloc ?_ _)); refine blk_far ?_ NB284_286.out _; (with_reducible repeat (first | refine blk_drewN ?_ _ | refine blk_drew ?_ | refine blk_alloc ?_ _)); refine blk_far ?_ NB284_286.out _; (with_reducible repeat (first | refine blk_drewN ?_ _ | refine blk_drew ?_ | refine blk_alloc ?_ _)); exact BK284.out⟩, ⟨by (with_reducible repeat (first | refine blk_drewN ?_ _ | refine blk_drew ?_ | refine blk_alloc ?_ _)); refine blk_far ?_ NB285_286.out _; (with_reducible repeat (first | refine blk_drewN ?_ _ | refine blk_drew ?_ | refine blk_alloc ?_ _)); refine blk_far ?_ NB285_286.out _; (with_reducible repeat (first | refine blk_drewN ?_ _ | refine blk_drew ?_ | refine blk_alloc ?_ _)); exact BK285.out⟩, ⟨by (with_reducible repeat (first | refine blk_drewN ?_ _ | refine blk_drew ?_ | refine blk_alloc ?_ _)); refine blk_put (cs := #[.int .i64 t289, .int .i64 x287001_1]) ?_ 1 _ rfl; (with_reducible repeat (first | refine blk_drewN ?_ _ | refine blk_drew ?_ | refine blk_alloc ?_ _)); refine blk_put (cs := #[.int .i64 x287000_1, .int .i64 x287001_1]) ?_ 0 _ rfl; (with_reducible repeat (first | refine blk_drewN ?_ _ | refine blk_drew ?_ | refine blk_alloc ?_ _)); exact BK286.out⟩, ⟨by repeat (first | (with_reducible first | exact HB.out | apply below_alloc | apply pw_below_drewN | apply below_drew1 | refine below_set ?_ GE284.out | refine below_set ?_ GE285.out | refine below_set ?_ GE286.out) | exact HB.out)⟩⟩
            · rw [if_neg c15] at H
              have c15b0 : (((rd_T68 l0_1 x6_1).f12).toList == a1.toList) = false := beq_eq_false_iff_ne.mpr c15
              have c15b1 : (((rd_T68 l0_1 x6_1).f12).toList != a1.toList) = true := bne_iff_ne.mpr c15
              have H' := Aside0.mk H
              clear H
              have hnb24 := NB284_285.out
              have hnc24 := NB285_284.out
              have hnb25 := NB284_286.out
              have hnc25 := NB286_284.out
              have hcz26_0 : wr.cell? ⟨gb284, 0, none⟩ = some (.slice A0_0 l0_0.length c0_0) := (blk_cell BK284.out 0).trans rfl
              have hcz26_1 : wr.cell? ⟨gb284, 1, none⟩ = some (.slice A0_1 l0_1.length c0_1) := (blk_cell BK284.out 1).trans rfl
              have hcz26_2 : wr.cell? ⟨gb284, 2, none⟩ = some (.slice A0_2 l0_2.length c0_2) := (blk_cell BK284.out 2).trans rfl
              have hcz26_3 : wr.cell? ⟨gb284, 3, none⟩ = some (.slice A0_3 l0_3.length c0_3) := (blk_cell BK284.out 3).trans rfl
              have hfz26_0 := blk_frozen BK284.out 0
              have hfz26_1 := blk_frozen BK284.out 1
              have hfz26_2 := blk_frozen BK284.out 2
              have hfz26_3 := blk_frozen BK284.out 3
              have p287 : 0 ≤ (x6_1 : Int) := of_decide_eq_true (by first | (with_reducible assumption) | assumption)
              have q287 : x6_1 < (l0_1.length : Int) := of_decide_eq_true (by first | (with_reducible assumption) | assumption)
              obtain ⟨ad287, A287_4, c287_4, A287_27, c287_27, e287, hx287_0, hx287_1, hx287_2, hx287_3, hx287_4, hx287_5, hx287_6, hx287_7, hx287_8, hx287_9, hx287_10, hx287_11, hx287_12, hx287_13, hx287_14, hx287_15, hx287_16, hx287_17, hx287_18, hx287_19, hx287_20, hx287_21, hx287_22, hx287_23, hx287_24, hx287_25, hx287_26, hx287_27, hx287_28, hx287_29, hx287_30, hx287_31, hl287_4, hi287_4, hl287_27, hi287_27⟩ := at_T68 HR0_1.out x6_1 p287 q287
              cases e287
              replace hx287_0 := (HB.out.cell (World.block_lt_of_cell? w _ hx287_0)).trans hx287_0
              replace hx287_1 := (HB.out.cell (World.block_lt_of_cell? w _ hx287_1)).trans hx287_1
              replace hx287_2 := (HB.out.cell (World.block_lt_of_cell? w _ hx287_2)).trans hx287_2
              replace hx287_3 := (HB.out.cell (World.block_lt_of_cell? w _ hx287_3)).trans hx287_3
              replace hx287_4 := (HB.out.cell (World.block_lt_of_cell? w _ hx287_4)).trans hx287_4
              replace hx287_5 := (HB.out.cell (World.block_lt_of_cell? w _ hx287_5)).trans hx287_5
              replace hx287_6 := (HB.out.cell (World.block_lt_of_cell? w _ hx287_6)).trans hx287_6
              replace hx287_7 := (HB.out.cell (World.block_lt_of_cell? w _ hx287_7)).trans hx287_7
              replace hx287_8 := (HB.out.cell (World.block_lt_of_cell? w _ hx287_8)).trans hx287_8
              replace hx287_9 := (HB.out.cell (World.block_lt_of_cell? w _ hx287_9)).trans hx287_9
              replace hx287_10 := (HB.out.cell (World.block_lt_of_cell? w _ hx287_10)).trans hx287_10
              replace hx287_11 := (HB.out.cell (World.block_lt_of_cell? w _ hx287_11)).trans hx287_11
              replace hx287_12 := (HB.out.cell (World.block_lt_of_cell? w _ hx287_12)).trans hx287_12
              replace hx287_13 := (HB.out.cell (World.block_lt_of_cell? w _ hx287_13)).trans hx287_13
              replace hx287_14 := (HB.out.cell (World.block_lt_of_cell? w _ hx287_14)).trans hx287_14
              replace hx287_15 := (HB.out.cell (World.block_lt_of_cell? w _ hx287_15)).trans hx287_15
              replace hx287_16 := (HB.out.cell (World.block_lt_of_cell? w _ hx287_16)).trans hx287_16
              replace hx287_17 := (HB.out.cell (World.block_lt_of_cell? w _ hx287_17)).trans hx287_17
              replace hx287_18 := (HB.out.cell (World.block_lt_of_cell? w _ hx287_18)).trans hx287_18
              replace hx287_19 := (HB.out.cell (World.block_lt_of_cell? w _ hx287_19)).trans hx287_19
              replace hx287_20 := (HB.out.cell (World.block_lt_of_cell? w _ hx287_20)).trans hx287_20
              replace hx287_21 := (HB.out.cell (World.block_lt_of_cell? w _ hx287_21)).trans hx287_21
              replace hx287_22 := (HB.out.cell (World.block_lt_of_cell? w _ hx287_22)).trans hx287_22
              replace hx287_23 := (HB.out.cell (World.block_lt_of_cell? w _ hx287_23)).trans hx287_23
              replace hx287_24 := (HB.out.cell (World.block_lt_of_cell? w _ hx287_24)).trans hx287_24
              replace hx287_25 := (HB.out.cell (World.block_lt_of_cell? w _ hx287_25)).trans hx287_25
              replace hx287_26 := (HB.out.cell (World.block_lt_of_cell? w _ hx287_26)).trans hx287_26
              replace hx287_27 := (HB.out.cell (World.block_lt_of_cell? w _ hx287_27)).trans hx287_27
              replace hx287_28 := (HB.out.cell (World.block_lt_of_cell? w _ hx287_28)).trans hx287_28
              replace hx287_29 := (HB.out.cell (World.block_lt_of_cell? w _ hx287_29)).trans hx287_29
              replace hx287_30 := (HB.out.cell (World.block_lt_of_cell? w _ hx287_30)).trans hx287_30
              replace hx287_31 := (HB.out.cell (World.block_lt_of_cell? w _ hx287_31)).trans hx287_31
              have HR287_4 := Aside0.mk hi287_4
              have HC287_4 := Aside0.mk hl287_4
              clear hi287_4 hl287_4
              have HR287_27 := Aside0.mk hi287_27
              have HC287_27 := Aside0.mk hl287_27
              clear hi287_27 hl287_27
              replace p287 := eq_true p287
              replace q287 := eq_true q287
              go_wp2
              go_roundg k1
              case measure => have := HK1.out; omega
              case rel => exact ⟨(wrap64 (x6_1 + 1)), (x287000_1), (x287001_1), (by first | rfl | (simp; done) | (simp [*]; done)), H', ⟨by have := HK1.out; omega⟩, ⟨by (with_reducible repeat (first | refine blk_drewN ?_ _ | refine blk_drew ?_ | refine blk_alloc ?_ _)); exact BK284.out⟩, ⟨by (with_reducible repeat (first | refine blk_drewN ?_ _ | refine blk_drew ?_ | refine blk_alloc ?_ _)); exact BK285.out⟩, ⟨by (with_reducible repeat (first | refine blk_drewN ?_ _ | refine blk_drew ?_ | refine blk_alloc ?_ _)); exact BK286.out⟩, ⟨by repeat (first | (with_reducible first | exact HB.out | apply below_alloc | apply pw_below_drewN | apply below_drew1 | refine below_set ?_ GE284.out | refine below_set ?_ GE285.out | refine below_set ?_ GE286.out) | exact HB.out)⟩⟩
          · rw [if_neg c14] at H
            exact absurd H (by simp)
      · rw [if_neg c9] at H
        have c9b0 : decide (x6_1 < (l0_1.length : Int)) = false := decide_eq_false c9
        clear c9
        simp only [Option.some.injEq, Prod.mk.injEq] at H
        obtain ⟨rfl, rfl⟩ := H
        have hnb27 := NB284_285.out
        have hnc27 := NB285_284.out
        have hnb28 := NB284_286.out
        have hnc28 := NB286_284.out
        have hcz29_0 : wr.cell? ⟨gb284, 0, none⟩ = some (.slice A0_0 l0_0.length c0_0) := (blk_cell BK284.out 0).trans rfl
        have hcz29_1 : wr.cell? ⟨gb284, 1, none⟩ = some (.slice A0_1 l0_1.length c0_1) := (blk_cell BK284.out 1).trans rfl
        have hcz29_2 : wr.cell? ⟨gb284, 2, none⟩ = some (.slice A0_2 l0_2.length c0_2) := (blk_cell BK284.out 2).trans rfl
        have hcz29_3 : wr.cell? ⟨gb284, 3, none⟩ = some (.slice A0_3 l0_3.length c0_3) := (blk_cell BK284.out 3).trans rfl
        have hfz29_0 := blk_frozen BK284.out 0
        have hfz29_1 := blk_frozen BK284.out 1
        have hfz29_2 := blk_frozen BK284.out 2
        have hfz29_3 := blk_frozen BK284.out 3
        have hnb30 := NB286_285.out
        have hnc30 := NB285_286.out
        have hcz31_0 : wr.cell? ⟨gb286, 0, none⟩ = some (.int .i64 x287000_1) := (blk_cell BK286.out 0).trans rfl
        have hcz31_1 : wr.cell? ⟨gb286, 1, none⟩ = some (.int .i64 x287001_1) := (blk_cell BK286.out 1).trans rfl
        have hfz31_0 := blk_frozen BK286.out 0
        have hfz31_1 := blk_frozen BK286.out 1
        have hcz32_0 : wr.cell? ⟨gb285, 0, none⟩ = some (.int .i64 0) := (blk_cell BK285.out 0).trans rfl
        have hcz32_1 : wr.cell? ⟨gb285, 1, none⟩ = some (.int .i64 0) := (blk_cell BK285.out 1).trans rfl
        have hfz32_0 := blk_frozen BK285.out 0
        have hfz32_1 := blk_frozen BK285.out 1
        go_wp2
        refine bodyPost_ret (results_cell_row rfl _ _ gb285 64 #[.int .i64 x287000_1, .int .i64 x287001_1] (0, 0) _ rfl (by (with_reducible repeat (first | refine blk_drewN ?_ _ | refine blk_drew ?_ | refine blk_alloc ?_ _)); refine blk_put (cs := #[.int .i64 x287000_1, .int .i64 0]) ?_ 1 _ rfl; (with_reducible repeat (first | refine blk_drewN ?_ _ | refine blk_drew ?_ | refine blk_alloc ?_ _)); refine blk_put (cs := #[.int .i64 0, .int .i64 0]) ?_ 0 _ rfl; (with_reducible repeat (first | refine blk_drewN ?_ _ | refine blk_drew ?_ | refine blk_alloc ?_ _)); exact BK285.out) Try.underlying64 rfl (by kernel_rfl)) rfl ?_
        exact ⟨by first | rfl | (simp [errW_none, errW_some] <;> rfl) | (simp [*, errW_none, errW_some] <;> rfl), by repeat (first | (with_reducible first | exact HB.out | apply below_alloc | apply pw_below_drewN | apply below_drew1 | refine below_set ?_ GE284.out | refine below_set ?_ GE285.out | refine below_set ?_ GE286.out) | exact HB.out)⟩
end Go.Proofs.Ytamjjeakkkdfhaa.PB
end
section
namespace Go.Proofs.Ytamjjeakkkdfhaa.PB
open Go.RowKit Go.Proofs.YtamjjeakkkdfhaaW.PrintWords Go.Proofs.YtamjjeakkkdfhaaW.PrintLast Go.Proofs.YtamjjeakkkdfhaaW.PrintMore
open Go.Proofs.Ytamjjeakkkdfhaa.K Go.Proofs.Ytamjjeakkkdfhaa.G Go.Proofs.YtamjjeakkkdfhaaE
attribute [local go_sem] max2_int min2_int max_two min_two max_three min_three max_four min_four
set_option linter.unusedVariables false
set_option linter.unusedSimpArgs false
attribute [local go_sem high] eqA31
def flotillaref02_has.l0 : Nat → List (S31) → Int → ByteArray → ByteArray → Option (Bool)
  | 0, _, _, _, _ => none
  | k + 1, x0, x5, x122000, x122001 => if x5 < (x0.length : Int) then (if 0 ≤ x5 then (if ((((rd_T31 x0 x5).f0).toList) == x122000.toList && ((((rd_T31 x0 x5).f1).toList) == x122001.toList)) = true then (some true) else (flotillaref02_has.l0 k x0 (wrap64 (x5 + 1)) x122000 x122001)) else (none)) else (some false)
def flotillaref02_has.f (k : Nat) (l0 : List (S31)) (a1_0 : ByteArray) (a1_1 : ByteArray) : Option (Bool) := flotillaref02_has.l0 k l0 0 a1_0 a1_1
set_option maxHeartbeats 8000000 in
set_option maxRecDepth 100000 in
theorem flotillaref02_has.calls (k : Nat) (A0 : Option Addr) (c0 : Nat) (l0 : List (S31)) (a1_0 : ByteArray) (a1_1 : ByteArray) (r : Bool) (w : World) (hr0 : Kd.C k31 w A0 l0.length l0) (hc0 : l0.length ≤ c0) (h : flotillaref02_has.f k l0 a1_0 a1_1 = some r) :
    Calls Try.prog 74 #[.slice A0 l0.length c0, .agg #[.string a1_0, .string a1_1]] w fun e w' => e = .returned (.bool r) ∧ Below w.heap.size w w' := by
  have hu31 := Try.underlying31
  have HR0 := Aside0.mk hr0
  have HC0 := Aside0.mk hc0
  clear hr0 hc0
  have HB := Aside0.mk (Below.refl w.heap.size w)
  have H : (flotillaref02_has.l0 k l0 0 a1_0 a1_1) = some r := h
  clear h
  have H' := Aside0.mk H
  clear H
  go_enter Try.func74, Try.ntmps74
  go_wp2_with (first | ((with_reducible refine gate_dst (N := 3) rfl ?_); refine box_event ?hg (N := 3) ?hd (cs := #[.string a1_0, .string a1_1]) (t := 31) ?hr ?_; (case hd => rfl); (case hg => rfl); (case hr => first | (go_simp; done) | (go_simp; rfl)); intro gb121 hg w3 hbox hb; have n0_ := Aside0.mk (below_step (by repeat (first | (with_reducible first | exact HB.out | apply below_alloc | apply pw_below_drewN | apply below_drew1) | exact HB.out)) hb); have n1_ := Aside0.mk (hbox); have n2_ := Aside0.mk ((by rw [hg]; exact (below_size (by repeat (first | (with_reducible first | exact HB.out | apply below_alloc | apply pw_below_drewN | apply below_drew1) | exact HB.out))) : w.heap.size ≤ gb121)); have n3_ := Aside0.mk ((by rw [hg]; exact (below_size (by repeat (first | (with_reducible first | exact HB.out | apply below_alloc | apply pw_below_drewN | apply below_drew1) | exact HB.out))) : w.heap.size ≤ gb121)); clear HB; have HB := n0_; have BK121 := n1_; have GW121 := n2_; have GE121 := n3_; clear n0_ n1_ n2_ n3_; clear hb hbox hg))
  repeat (go_quiet (first | ((with_reducible refine gate_dst (N := 3) rfl ?_); refine box_event ?hg (N := 3) ?hd (cs := #[.string a1_0, .string a1_1]) (t := 31) ?hr ?_; (case hd => rfl); (case hg => rfl); (case hr => first | (go_simp; done) | (go_simp; rfl)); intro gb121 hg w3 hbox hb; have n0_ := Aside0.mk (below_step (by repeat (first | (with_reducible first | exact HB.out | apply below_alloc | apply pw_below_drewN | apply below_drew1) | exact HB.out)) hb); have n1_ := Aside0.mk (hbox); have n2_ := Aside0.mk ((by rw [hg]; exact (below_size (by repeat (first | (with_reducible first | exact HB.out | apply below_alloc | apply pw_below_drewN | apply below_drew1) | exact HB.out))) : w.heap.size ≤ gb121)); have n3_ := Aside0.mk ((by rw [hg]; exact (below_size (by repeat (first | (with_reducible first | exact HB.out | apply below_alloc | apply pw_below_drewN | apply below_drew1) | exact HB.out))) : w.heap.size ≤ gb121)); clear HB; have HB := n0_; have BK121 := n1_; have GW121 := n2_; have GE121 := n3_; clear n0_ n1_ n2_ n3_; clear hb hbox hg)); try go_wp2_with (first | ((with_reducible refine gate_dst (N := 3) rfl ?_); refine box_event ?hg (N := 3) ?hd (cs := #[.string a1_0, .string a1_1]) (t := 31) ?hr ?_; (case hd => rfl); (case hg => rfl); (case hr => first | (go_simp; done) | (go_simp; rfl)); intro gb121 hg w3 hbox hb; have n0_ := Aside0.mk (below_step (by repeat (first | (with_reducible first | exact HB.out | apply below_alloc | apply pw_below_drewN | apply below_drew1) | exact HB.out)) hb); have n1_ := Aside0.mk (hbox); have n2_ := Aside0.mk ((by rw [hg]; exact (below_size (by repeat (first | (with_reducible first | exact HB.out | apply below_alloc | apply pw_below_drewN | apply below_drew1) | exact HB.out))) : w.heap.size ≤ gb121)); have n3_ := Aside0.mk ((by rw [hg]; exact (below_size (by repeat (first | (with_reducible first | exact HB.out | apply below_alloc | apply pw_below_drewN | apply below_drew1) | exact HB.out))) : w.heap.size ≤ gb121)); clear HB; have HB := n0_; have BK121 := n1_; have GW121 := n2_; have GE121 := n3_; clear n0_ n1_ n2_ n3_; clear hb hbox hg)))
  go_loopg [5] k (fun kq v5 w' => ∃ (x5_1 : Int), v5 = .int .i64 x5_1 ∧ Aside0 (flotillaref02_has.l0 kq l0 x5_1 a1_0 a1_1 = some r) ∧ Aside0 (kq ≤ k) ∧ Aside0 (w'.heap[gb121]? = some (.cells #[.string a1_0, .string a1_1] 31 (0, 0))) ∧ Aside0 (Below w.heap.size w w'))
  case atStart => exact ⟨(0), (by first | rfl | (simp; done) | (simp [*]; done)), H', ⟨Nat.le_refl _⟩, ⟨by (with_reducible repeat (first | refine blk_drewN ?_ _ | refine blk_drew ?_ | refine blk_alloc ?_ _)); exact BK121.out⟩, ⟨by repeat (first | (with_reducible first | exact HB.out | apply below_alloc | apply pw_below_drewN | apply below_drew1 | refine below_set ?_ GE121.out) | exact HB.out)⟩⟩
  case round =>
    clear H'
    try clear p2
    obtain ⟨x5_1, rfl, HA, HK1, BK121, HB⟩ := hrel
    cases gk with
    | zero => exact absurd HA.out (by simp [flotillaref02_has.l0])
    | succ k1 =>
      have H := HA.out
      clear HA
      simp only [flotillaref02_has.l0] at H
      by_cases c4 : x5_1 < (l0.length : Int)
      · rw [if_pos c4] at H
        have c4b0 : decide (x5_1 < (l0.length : Int)) = true := decide_eq_true c4
        clear c4
        by_cases c5 : 0 ≤ x5_1
        · rw [if_pos c5] at H
          have c5b0 : decide (0 ≤ x5_1) = true := decide_eq_true c5
          clear c5
          by_cases c6 : ((((rd_T31 l0 x5_1).f0).toList) == a1_0.toList && ((((rd_T31 l0 x5_1).f1).toList) == a1_1.toList)) = true
          · rw [if_pos c6] at H
            have c6b0 : ((((rd_T31 l0 x5_1).f0).toList) == a1_0.toList && ((((rd_T31 l0 x5_1).f1).toList) == a1_1.toList)) = true := c6
            (try (have c6b1 : decide ((((rd_T31 l0 x5_1).f0).toList) = a1_0.toList && ((((rd_T31 l0 x5_1).f1).toList) == a1_1.toList)) = true := by simpa using c6))
            (try (have c6b2 : ((((rd_T31 l0 x5_1).f0).toList) == a1_0.toList && ((((rd_T31 l0 x5_1).f1).toList) == a1_1.toList)) = true := by simpa using c6))
            clear c6
            obtain rfl := Option.some.inj H
            have p122 : 0 ≤ (x5_1 : Int) := of_decide_eq_true (by first | (with_reducible assumption) | assumption)
            have q122 : x5_1 < (l0.length : Int) := of_decide_eq_true (by first | (with_reducible assumption) | assumption)
            obtain ⟨ad122, e122, hx122_0, hx122_1⟩ := at_T31 HR0.out x5_1 p122 q122
            cases e122
            replace hx122_0 := (HB.out.cell (World.block_lt_of_cell? w _ hx122_0)).trans hx122_0
            replace hx122_1 := (HB.out.cell (World.block_lt_of_cell? w _ hx122_1)).trans hx122_1
            replace p122 := eq_true p122
            replace q122 := eq_true q122
            have hcz7_0 : wr.cell? ⟨gb121, 0, none⟩ = some (.string a1_0) := (blk_cell BK121.out 0).trans rfl
            have hcz7_1 : wr.cell? ⟨gb121, 1, none⟩ = some (.string a1_1) := (blk_cell BK121.out 1).trans rfl
            have hfz7_0 := blk_frozen BK121.out 0
            have hfz7_1 := blk_frozen BK121.out 1
            go_wp2
            repeat (go_quiet (fail); try go_wp2)
            go_ret
            exact ⟨by first | rfl | (simp [errW_none, errW_some] <;> rfl) | (simp [*, errW_none, errW_some] <;> rfl), by repeat (first | (with_reducible first | exact HB.out | apply below_alloc | apply pw_below_drewN | apply below_drew1 | refine below_set ?_ GE121.out) | exact HB.out)⟩
          · rw [if_neg c6] at H
            have c6b0 : ((((rd_T31 l0 x5_1).f0).toList) == a1_0.toList && ((((rd_T31 l0 x5_1).f1).toList) == a1_1.toList)) = false := by simpa using c6
            (try (have c6b1 : decide ((((rd_T31 l0 x5_1).f0).toList) = a1_0.toList && ((((rd_T31 l0 x5_1).f1).toList) == a1_1.toList)) = false := by simpa using c6))
            (try (have c6b2 : ((((rd_T31 l0 x5_1).f0).toList) == a1_0.toList && ((((rd_T31 l0 x5_1).f1).toList) == a1_1.toList)) = false := by simpa using c6))
            (try (have c6b3 : ¬ ((((rd_T31 l0 x5_1).f0).toList) = a1_0.toList && ((((rd_T31 l0 x5_1).f1).toList) == a1_1.toList)) := by simpa using c6))
            clear c6
            have H' := Aside0.mk H
            clear H
            have p122 : 0 ≤ (x5_1 : Int) := of_decide_eq_true (by first | (with_reducible assumption) | assumption)
            have q122 : x5_1 < (l0.length : Int) := of_decide_eq_true (by first | (with_reducible assumption) | assumption)
            obtain ⟨ad122, e122, hx122_0, hx122_1⟩ := at_T31 HR0.out x5_1 p122 q122
            cases e122
            replace hx122_0 := (HB.out.cell (World.block_lt_of_cell? w _ hx122_0)).trans hx122_0
            replace hx122_1 := (HB.out.cell (World.block_lt_of_cell? w _ hx122_1)).trans hx122_1
            replace p122 := eq_true p122
            replace q122 := eq_true q122
            have hcz8_0 : wr.cell? ⟨gb121, 0, none⟩ = some (.string a1_0) := (blk_cell BK121.out 0).trans rfl
            have hcz8_1 : wr.cell? ⟨gb121, 1, none⟩ = some (.string a1_1) := (blk_cell BK121.out 1).trans rfl
            have hfz8_0 := blk_frozen BK121.out 0
            have hfz8_1 := blk_frozen BK121.out 1
            go_wp2
            repeat (go_quiet (fail); try go_wp2)
            go_roundg k1
            case measure => have := HK1.out; omega
            case rel => exact ⟨(wrap64 (x5_1 + 1)), (by first | rfl | (simp; done) | (simp [*]; done)), H', ⟨by have := HK1.out; omega⟩, ⟨by (with_reducible repeat (first | refine blk_drewN ?_ _ | refine blk_drew ?_ | refine blk_alloc ?_ _)); exact BK121.out⟩, ⟨by repeat (first | (with_reducible first | exact HB.out | apply below_alloc | apply pw_below_drewN | apply below_drew1 | refine below_set ?_ GE121.out) | exact HB.out)⟩⟩
        · rw [if_neg c5] at H
          exact absurd H (by simp)
      · rw [if_neg c4] at H
        have c4b0 : decide (x5_1 < (l0.length : Int)) = false := decide_eq_false c4
        clear c4
        obtain rfl := Option.some.inj H
        go_wp2
        repeat (go_quiet (fail); try go_wp2)
        go_ret
        exact ⟨by first | rfl | (simp [errW_none, errW_some] <;> rfl) | (simp [*, errW_none, errW_some] <;> rfl), by repeat (first | (with_reducible first | exact HB.out | apply below_alloc | apply pw_below_drewN | apply below_drew1 | refine below_set ?_ GE121.out) | exact HB.out)⟩
end Go.Proofs.Ytamjjeakkkdfhaa.PB
end
section
namespace Go.Proofs.Ytamjjeakkkdfhaa.PB
open Go.RowKit Go.Proofs.YtamjjeakkkdfhaaW.PrintWords Go.Proofs.YtamjjeakkkdfhaaW.PrintLast Go.Proofs.YtamjjeakkkdfhaaW.PrintMore
open Go.Proofs.Ytamjjeakkkdfhaa.K Go.Proofs.Ytamjjeakkkdfhaa.G Go.Proofs.YtamjjeakkkdfhaaE
attribute [local go_sem] max2_int min2_int max_two min_two max_three min_three max_four min_four
set_option linter.unusedVariables false
set_option linter.unusedSimpArgs false
def flotillaref02_Matches.l0 : Nat → List (S31) → List (S31) → Int → Option (Bool)
  | 0, _, _, _ => none
  | k + 1, x0, x1, x5 => if x5 < (x0.length : Int) then (if 0 ≤ x5 then ((flotillaref02_has.f k x1 ((rd_T31 x0 x5).f0) ((rd_T31 x0 x5).f1)).bind fun t124 => (if t124 = true then (flotillaref02_Matches.l0 k x0 x1 (wrap64 (x5 + 1))) else (some false))) else (none)) else (some true)
def flotillaref02_Matches.f (k : Nat) (l0 : List (S31)) (l1 : List (S31)) : Option (Bool) := flotillaref02_Matches.l0 k l0 l1 0
set_option maxHeartbeats 8000000 in
set_option maxRecDepth 100000 in
theorem flotillaref02_Matches.calls (k : Nat) (A0 : Option Addr) (c0 : Nat) (l0 : List (S31)) (A1 : Option Addr) (c1 : Nat) (l1 : List (S31)) (r : Bool) (w : World) (hr0 : Kd.C k31 w A0 l0.length l0) (hc0 : l0.length ≤ c0) (hr1 : Kd.C k31 w A1 l1.length l1) (hc1 : l1.length ≤ c1) (h : flotillaref02_Matches.f k l0 l1 = some r) :
    Calls Try.prog 16 #[.slice A0 l0.length c0, .slice A1 l1.length c1] w fun e w' => e = .returned (.bool r) ∧ Below w.heap.size w w' := by
  have hu31 := Try.underlying31
  have HR0 := Aside0.mk hr0
  have HC0 := Aside0.mk hc0
  clear hr0 hc0
  have HR1 := Aside0.mk hr1
  have HC1 := Aside0.mk hc1
  clear hr1 hc1
  have HB := Aside0.mk (Below.refl w.heap.size w)
  have H : (flotillaref02_Matches.l0 k l0 l1 0) = some r := h
  clear h
  have H' := Aside0.mk H
  clear H
  go_enter Try.func16, Try.ntmps16
  go_wp2
  go_loopg [5] k (fun kq v5 w' => ∃ (x5_1 : Int), v5 = .int .i64 x5_1 ∧ Aside0 (flotillaref02_Matches.l0 kq l0 l1 x5_1 = some r) ∧ Aside0 (kq ≤ k) ∧ Aside0 (Below w.heap.size w w'))
  case atStart => exact ⟨(0), (by first | rfl | (simp; done) | (simp [*]; done)), H', ⟨Nat.le_refl _⟩, ⟨by repeat (first | (with_reducible first | exact HB.out | apply below_alloc | apply pw_below_drewN | apply below_drew1) | exact HB.out)⟩⟩
  case round =>
    clear H'
    try clear c1
    try clear p2
    obtain ⟨x5_1, rfl, HA, HK1, HB⟩ := hrel
    cases gk with
    | zero => exact absurd HA.out (by simp [flotillaref02_Matches.l0])
    | succ k1 =>
      have H := HA.out
      clear HA
      simp only [flotillaref02_Matches.l0] at H
      by_cases c3 : x5_1 < (l0.length : Int)
      · rw [if_pos c3] at H
        have c3b0 : decide (x5_1 < (l0.length : Int)) = true := decide_eq_true c3
        clear c3
        by_cases c4 : 0 ≤ x5_1
        · rw [if_pos c4] at H
          have c4b0 : decide (0 ≤ x5_1) = true := decide_eq_true c4
          clear c4
          replace H := Option.bind_eq_some_iff.mp H
          obtain ⟨t124, A50, H⟩ := H
          replace H : (if t124 = true then (flotillaref02_Matches.l0 k1 l0 l1 (wrap64 (x5_1 + 1))) else (some false)) = some r := H
          have A5 := Aside0.mk A50
          clear A50
          by_cases c6 : t124 = true
          · subst c6
            have H1 : (flotillaref02_Matches.l0 k1 l0 l1 (wrap64 (x5_1 + 1))) = some r := by rw [if_pos rfl] at H; exact H
            clear H
            have H := H1
            clear H1
            have H' := Aside0.mk H
            clear H
            have p123 : 0 ≤ (x5_1 : Int) := of_decide_eq_true (by first | (with_reducible assumption) | assumption)
            have q123 : x5_1 < (l0.length : Int) := of_decide_eq_true (by first | (with_reducible assumption) | assumption)
            obtain ⟨ad123, e123, hx123_0, hx123_1⟩ := at_T31 HR0.out x5_1 p123 q123
            cases e123
            replace hx123_0 := (HB.out.cell (World.block_lt_of_cell? w _ hx123_0)).trans hx123_0
            replace hx123_1 := (HB.out.cell (World.block_lt_of_cell? w _ hx123_1)).trans hx123_1
            replace p123 := eq_true p123
            replace q123 := eq_true q123
            go_wp2_with (first | ((with_reducible refine gate_callee (f := 74) rfl ?_); refine goesL_ (some 17) rfl rfl Try.func74 (by kernel_rfl) rfl #[.slice A1 l1.length c1, .agg #[.string ((rd_T31 l0 x5_1).f0), .string ((rd_T31 l0 x5_1).f1)]] rfl (by (try simp only [List.map_toArray, List.map_cons, List.map_nil]); first | done | rfl | (simp only [List.length_drop, List.length_take]; rfl)) ?_; (with_reducible refine (flotillaref02_has.calls k1 _ _ l1 ((rd_T31 l0 x5_1).f0) ((rd_T31 l0 x5_1).f1) true _ ?side1 ?side2 A5.out).mono ?_); (case side1 => repeat (first | exact (Kd.C_below HR1.out HB.out) | (with_reducible refine Kd.C_alloc ?_ _) | (with_reducible refine Kd.C_drewN ?_ _) | (with_reducible refine Kd.C_drew ?_))); (case side2 => exact HC1.out); rintro e w7 ⟨rfl, hb⟩; refine ⟨_, rfl, ?_⟩; have n0_ := Aside0.mk (below_step (by repeat (first | (with_reducible first | exact HB.out | apply below_alloc | apply pw_below_drewN | apply below_drew1) | exact HB.out)) hb); clear HB; have HB := n0_; clear n0_; (try clear hb); (try clear hb2); (try clear hk); (try clear hi)))
            go_roundg k1
            case measure => have := HK1.out; omega
            case rel => exact ⟨(wrap64 (x5_1 + 1)), (by first | rfl | (simp; done) | (simp [*]; done)), H', ⟨by have := HK1.out; omega⟩, ⟨by repeat (first | (with_reducible first | exact HB.out | apply below_alloc | apply pw_below_drewN | apply below_drew1) | exact HB.out)⟩⟩
          · replace c6 := Bool.eq_false_iff.mpr c6
            subst c6
            have H1 : (some false) = some r := by rw [if_neg (show ¬ (false = true) by decide)] at H; exact H
            clear H
            have H := H1
            clear H1
            obtain rfl := Option.some.inj H
            have p123 : 0 ≤ (x5_1 : Int) := of_decide_eq_true (by first | (with_reducible assumption) | assumption)
            have q123 : x5_1 < (l0.length : Int) := of_decide_eq_true (by first | (with_reducible assumption) | assumption)
            obtain ⟨ad123, e123, hx123_0, hx123_1⟩ := at_T31 HR0.out x5_1 p123 q123
            cases e123
            replace hx123_0 := (HB.out.cell (World.block_lt_of_cell? w _ hx123_0)).trans hx123_0
            replace hx123_1 := (HB.out.cell (World.block_lt_of_cell? w _ hx123_1)).trans hx123_1
            replace p123 := eq_true p123
            replace q123 := eq_true q123
            go_wp2_with (first | ((with_reducible refine gate_callee (f := 74) rfl ?_); refine goesL_ (some 17) rfl rfl Try.func74 (by kernel_rfl) rfl #[.slice A1 l1.length c1, .agg #[.string ((rd_T31 l0 x5_1).f0), .string ((rd_T31 l0 x5_1).f1)]] rfl (by (try simp only [List.map_toArray, List.map_cons, List.map_nil]); first | done | rfl | (simp only [List.length_drop, List.length_take]; rfl)) ?_; (with_reducible refine (flotillaref02_has.calls k1 _ _ l1 ((rd_T31 l0 x5_1).f0) ((rd_T31 l0 x5_1).f1) false _ ?side1 ?side2 A5.out).mono ?_); (case side1 => repeat (first | exact (Kd.C_below HR1.out HB.out) | (with_reducible refine Kd.C_alloc ?_ _) | (with_reducible refine Kd.C_drewN ?_ _) | (with_reducible refine Kd.C_drew ?_))); (case side2 => exact HC1.out); rintro e w8 ⟨rfl, hb⟩; refine ⟨_, rfl, ?_⟩; have n0_ := Aside0.mk (below_step (by repeat (first | (with_reducible first | exact HB.out | apply below_alloc | apply pw_below_drewN | apply below_drew1) | exact HB.out)) hb); clear HB; have HB := n0_; clear n0_; (try clear hb); (try clear hb2); (try clear hk); (try clear hi)))
            go_ret
            exact ⟨by first | rfl | (simp [errW_none, errW_some] <;> rfl) | (simp [*, errW_none, errW_some] <;> rfl), by repeat (first | (with_reducible first | exact HB.out | apply below_alloc | apply pw_below_drewN | apply below_drew1) | exact HB.out)⟩
        · rw [if_neg c4] at H
          exact absurd H (by simp)
      · rw [if_neg c3] at H
        have c3b0 : decide (x5_1 < (l0.length : Int)) = false := decide_eq_false c3
        clear c3
        obtain rfl := Option.some.inj H
        go_wp2
        go_ret
        exact ⟨by first | rfl | (simp [errW_none, errW_some] <;> rfl) | (simp [*, errW_none, errW_some] <;> rfl), by repeat (first | (with_reducible first | exact HB.out | apply below_alloc | apply pw_below_drewN | apply below_drew1) | exact HB.out)⟩
end Go.Proofs.Ytamjjeakkkdfhaa.PB
end
