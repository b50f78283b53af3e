/- Parts of the proof of DigestFields: lemmas, put together by a program of this session (pack.py) out of the kit's words, printed contracts and texts of its own. -/
import Derived.Test.YtamjjeakkkdfhaaProg
import Derived.Below
import Derived.Deep.Draws
import Derived.Deep.AppendLies
import Derived.Maps.AppendAt
import Derived.OwnWalk
import Derived.Laws.BytesArg
import Derived.Laws.MakeOwn
import Derived.Laws.OwnMore
import Derived.Deep.OwnRows
import Derived.Tactics
import Derived.Lib.ConvBytes
import Derived.Laws.Slices
import Derived.WalkKit
import Derived.KernelRfl
import Derived.RowKit3
import Derived.Deep.LoopGhost
import Derived.Deep.QuietTactic
import Derived.BigQuiet
import Derived.WideLaws
import Derived.Deep.DeepCutAuto
import Derived.Deep.CutBlock
import Derived.Deep.RegionHeld3
import Derived.Laws.Rows
import Derived.Lib.AppendStr
import Derived.ArgAppend
import Derived.Laws.IdiomCopy
import Derived.OrdersHeld
import Derived.Laws.BitsLemmas
import Derived.RowKit
import Derived.Laws.StructEq
import Derived.RangeFuncNested
import Derived.RangeFuncBound
import Derived.RangeFuncCalls
import Derived.RangeFuncLeaves
import Derived.Shelf.Abstract
import Derived.Shelf.RegionOpen
import Derived.OwnWalkIn
import Derived.TacticsInMore
import Derived.LoopNIn
import Derived.LoopIn
import Derived.ChangeArms
import Derived.SizedLaws
import Derived.SliceStrings
import Derived.Maps.Own
import Derived.Maps.OwnOps
import Derived.Maps.Views
import Derived.StringKeys
import Derived.Shelf.Small.Strs
import Derived.Shelf.Strings.Search1
import Derived.Ground.Names2Prog
import Derived.Shelf.Slices.SearchI
import Derived.Ground.SlgnProg
import Derived.Shelf.SlicesE.Clone
import Derived.Lib.SlBytesConst
import Derived.Test.YtamjjeakkkdfhaaZDigestFieldsa
namespace Foot
end Foot
namespace Go.Proofs
end Go.Proofs
namespace Go.Proofs.Ytamjjeakkkdfhaa
end Go.Proofs.Ytamjjeakkkdfhaa
namespace Go.Proofs.Ytamjjeakkkdfhaa.G
end Go.Proofs.Ytamjjeakkkdfhaa.G
namespace Go.Proofs.Ytamjjeakkkdfhaa.K
end Go.Proofs.Ytamjjeakkkdfhaa.K
namespace Go.Proofs.Ytamjjeakkkdfhaa.OP
end Go.Proofs.Ytamjjeakkkdfhaa.OP
namespace Go.Proofs.Ytamjjeakkkdfhaa.PB
end Go.Proofs.Ytamjjeakkkdfhaa.PB
namespace Go.Proofs.Ytamjjeakkkdfhaa.PC
end Go.Proofs.Ytamjjeakkkdfhaa.PC
namespace Go.Proofs.Ytamjjeakkkdfhaa.PD
end Go.Proofs.Ytamjjeakkkdfhaa.PD
namespace Go.Proofs.Ytamjjeakkkdfhaa.digestFields
end Go.Proofs.Ytamjjeakkkdfhaa.digestFields
namespace Go.Proofs.YtamjjeakkkdfhaaE
end Go.Proofs.YtamjjeakkkdfhaaE
namespace Go.Proofs.YtamjjeakkkdfhaaRF
end Go.Proofs.YtamjjeakkkdfhaaRF
namespace Go.Proofs.YtamjjeakkkdfhaaW.PrintLast
end Go.Proofs.YtamjjeakkkdfhaaW.PrintLast
namespace Go.Proofs.YtamjjeakkkdfhaaW.PrintMore
end Go.Proofs.YtamjjeakkkdfhaaW.PrintMore
namespace Go.Proofs.YtamjjeakkkdfhaaW.PrintWords
end Go.Proofs.YtamjjeakkkdfhaaW.PrintWords
namespace Kd
end Kd
section
namespace Go.Proofs.Ytamjjeakkkdfhaa.G
end Go.Proofs.Ytamjjeakkkdfhaa.G
namespace Go.Proofs.Ytamjjeakkkdfhaa.K
open Go.RowKit Go.Proofs.YtamjjeakkkdfhaaW.PrintWords Go.Proofs.YtamjjeakkkdfhaaW.PrintLast Go.Proofs.YtamjjeakkkdfhaaW.PrintMore
open Go.Proofs.YtamjjeakkkdfhaaE
set_option linter.unusedVariables false
set_option linter.unusedSimpArgs false
def eT (c : Int) : Nat := if c < 18446744073709551616 then 114 else 145
def eV (c : Int) : Value := if c < 18446744073709551616 then .int .i64 c else .agg #[.int .i64 (c / 18446744073709551616 - 9223372036854775808), .int .i64 (c % 18446744073709551616 - 9223372036854775808)]
def errW : Option Int → Value
  | none => .nilIface
  | some c => .iface (eT c) (eV c)
theorem errW_none : errW none = .nilIface := rfl
theorem errW_some (c : Int) : errW (some c) = .iface (eT c) (eV c) := rfl
theorem size68 : (Try.prog.info? 68).map (fun i => i.size) = some 32 := by kernel_rfl
structure S31 where
  f0 : ByteArray
  f1 : ByteArray
def z31 : S31 := ⟨(⟨#[]⟩ : ByteArray), (⟨#[]⟩ : ByteArray)⟩
def k31 : Kd S31 := Kd.iso (Kd.pair Kd.string Kd.string) (fun x : S31 => (x.f0, x.f1))
theorem k31_open {w : World} {x : S31} {cs : List Value} (h : k31.K w x cs) : cs = [.string x.f0, .string x.f1] := by
  obtain ⟨_, _, rfl, rfl, rfl⟩ := h
  exact rfl
def rd_T31 (xs : List S31) (i : Int) : S31 := xs.getD i.toNat z31
theorem at_T31 {w : World} {A : Option Addr} {n : Nat} {xs : List S31} (h : Kd.C k31 w A n xs) (i : Int) (h0 : 0 ≤ i) (h1 : i < n) : ∃ ad , A = some ad ∧ w.cell? (ad.add (i.toNat * 2)) = some (.string (rd_T31 xs i).f0) ∧ w.cell? ⟨(ad.add (i.toNat * 2)).block, (ad.add (i.toNat * 2)).off + 1, none⟩ = some (.string (rd_T31 xs i).f1) := by
  obtain ⟨ad, c, e, _, hK, hc0⟩ := Kd.C_get h z31 i h0 h1
  have hc : ∀ j u, c[j]? = some u → w.cell? (ad.add (i.toNat * 2 + j)) = some u := hc0
  obtain rfl := k31_open hK
  exact ⟨ad, e, hc 0 _ rfl, by rw [← add_field _ _ 1 (by omega)]; exact hc 1 _ rfl⟩
structure S64 where
  f0 : Int
  f1 : Int
def z64 : S64 := ⟨(0 : Int), (0 : Int)⟩
def k64 : Kd S64 := Kd.iso (Kd.pair (Kd.int .i64) (Kd.int .i64)) (fun x : S64 => (x.f0, x.f1))
theorem k64_open {w : World} {x : S64} {cs : List Value} (h : k64.K w x cs) : cs = [.int .i64 x.f0, .int .i64 x.f1] := by
  obtain ⟨_, _, rfl, rfl, rfl⟩ := h
  exact rfl
structure S68 where
  f0 : Int
  f1 : ByteArray
  f2 : Int
  f3 : Int
  f4 : (List S31)
  f5 : S64
  f6 : Bool
  f7 : Bool
  f8 : Bool
  f9 : Int
  f10 : ByteArray
  f11 : ByteArray
  f12 : ByteArray
  f13 : Int
  f14 : Bool
  f15 : Bool
  f16 : S64
  f17 : ByteArray
  f18 : Int
  f19 : Int
  f20 : Int
  f21 : Int
  f22 : Int
  f23 : Bool
  f24 : Int
  f25 : (List S31)
  f26 : Int
  f27 : ByteArray
  f28 : Int
  f29 : Int
def z68 : S68 := ⟨(0 : Int), (⟨#[]⟩ : ByteArray), (0 : Int), (0 : Int), ([] : List S31), z64, false, false, false, (0 : Int), (⟨#[]⟩ : ByteArray), (⟨#[]⟩ : ByteArray), (⟨#[]⟩ : ByteArray), (0 : Int), false, false, z64, (⟨#[]⟩ : ByteArray), (0 : Int), (0 : Int), (0 : Int), (0 : Int), (0 : Int), false, (0 : Int), ([] : List S31), (0 : Int), (⟨#[]⟩ : ByteArray), (0 : Int), (0 : Int)⟩
def k68 : Kd S68 := Kd.iso (Kd.pair (Kd.int .i64) (Kd.pair Kd.string (Kd.pair (Kd.int .i64) (Kd.pair (Kd.int .i64) (Kd.pair (Kd.slice 31 k31) (Kd.pair k64 (Kd.pair Kd.bool (Kd.pair Kd.bool (Kd.pair Kd.bool (Kd.pair (Kd.int .i64) (Kd.pair Kd.string (Kd.pair Kd.string (Kd.pair Kd.string (Kd.pair (Kd.int .i64) (Kd.pair Kd.bool (Kd.pair Kd.bool (Kd.pair k64 (Kd.pair Kd.string (Kd.pair (Kd.int .i64) (Kd.pair (Kd.int .i64) (Kd.pair (Kd.int .i64) (Kd.pair (Kd.int .i64) (Kd.pair (Kd.int .i64) (Kd.pair Kd.bool (Kd.pair (Kd.int .u64) (Kd.pair (Kd.slice 31 k31) (Kd.pair (Kd.int .i64) (Kd.pair Kd.string (Kd.pair (Kd.int .i64) (Kd.int .i64)))))))))))))))))))))))))))))) (fun x : S68 => (x.f0, x.f1, x.f2, x.f3, x.f4, x.f5, x.f6, x.f7, x.f8, x.f9, x.f10, x.f11, x.f12, x.f13, x.f14, x.f15, x.f16, x.f17, x.f18, x.f19, x.f20, x.f21, x.f22, x.f23, x.f24, x.f25, x.f26, x.f27, x.f28, x.f29))
theorem k68_open {w : World} {x : S68} {cs : List Value} (h : k68.K w x cs) : ∃ A4 c4 A27 c27, cs = [.int .i64 x.f0, .string x.f1, .int .i64 x.f2, .int .i64 x.f3, .slice A4 x.f4.length c4, .int .i64 x.f5.f0, .int .i64 x.f5.f1, .bool x.f6, .bool x.f7, .bool x.f8, .int .i64 x.f9, .string x.f10, .string x.f11, .string x.f12, .int .i64 x.f13, .bool x.f14, .bool x.f15, .int .i64 x.f16.f0, .int .i64 x.f16.f1, .string x.f17, .int .i64 x.f18, .int .i64 x.f19, .int .i64 x.f20, .int .i64 x.f21, .int .i64 x.f22, .bool x.f23, .int .u64 x.f24, .slice A27 x.f25.length c27, .int .i64 x.f26, .string x.f27, .int .i64 x.f28, .int .i64 x.f29] ∧ x.f4.length ≤ c4 ∧ k31.C w A4 x.f4.length x.f4 ∧ x.f25.length ≤ c27 ∧ k31.C w A27 x.f25.length x.f25 := by
  obtain ⟨_, _, rfl, rfl, ⟨_, _, rfl, rfl, ⟨_, _, rfl, rfl, ⟨_, _, rfl, rfl, ⟨_, _, rfl, ⟨A4, c4, rfl, l4, g4⟩, ⟨_, _, rfl, s5, ⟨_, _, rfl, rfl, ⟨_, _, rfl, rfl, ⟨_, _, rfl, rfl, ⟨_, _, rfl, rfl, ⟨_, _, rfl, rfl, ⟨_, _, rfl, rfl, ⟨_, _, rfl, rfl, ⟨_, _, rfl, rfl, ⟨_, _, rfl, rfl, ⟨_, _, rfl, rfl, ⟨_, _, rfl, s17, ⟨_, _, rfl, rfl, ⟨_, _, rfl, rfl, ⟨_, _, rfl, rfl, ⟨_, _, rfl, rfl, ⟨_, _, rfl, rfl, ⟨_, _, rfl, rfl, ⟨_, _, rfl, rfl, ⟨_, _, rfl, rfl, ⟨_, _, rfl, ⟨A27, c27, rfl, l27, g27⟩, ⟨_, _, rfl, rfl, ⟨_, _, rfl, rfl, ⟨_, _, rfl, rfl, rfl⟩⟩⟩⟩⟩⟩⟩⟩⟩⟩⟩⟩⟩⟩⟩⟩⟩⟩⟩⟩⟩⟩⟩⟩⟩⟩⟩⟩⟩ := h
  obtain rfl := k64_open s5
  obtain rfl := k64_open s17
  exact ⟨A4, c4, A27, c27, rfl, l4, g4, l27, g27⟩
structure S59 where
  f0 : (List S68)
  f1 : (List S68)
  f2 : (List S68)
  f3 : (List S68)
structure S137 where
  f0 : Int
  f1 : ByteArray
structure S139 where
  f0 : S137
  f1 : Bool
  f2 : S68
structure S82 where
  f0 : Int
  f1 : (List S139)
structure S36 where
  f0 : Int
  f1 : Int
  f2 : Bool
structure S39 where
  f0 : Int
  f1 : Int
structure S154 where
  f0 : Int
  f1 : S68
  f2 : Int
  f3 : ByteArray
  f4 : Int
  f5 : ByteArray
  f6 : Int
  f7 : Bool
  f8 : Int
  f9 : ByteArray
  f10 : Int
end Go.Proofs.Ytamjjeakkkdfhaa.K
end
section
namespace Go.Proofs.YtamjjeakkkdfhaaRF
open Go Go.RowKit
def Keep (S : Nat → Prop) (A B : World) : Prop := A.heap.size ≤ B.heap.size ∧ ∀ k, S k → k < A.heap.size → B.heap[k]? = A.heap[k]?
theorem Keep.refl (S : Nat → Prop) (A : World) : Keep S A A := ⟨Nat.le_refl _, fun _ _ _ => rfl⟩
theorem Keep.trans {S : Nat → Prop} {A B C : World} (h : Keep S A B) (k : Keep S B C) : Keep S A C :=
  ⟨Nat.le_trans h.1 k.1, fun i hi hl => (k.2 i hi (Nat.lt_of_lt_of_le hl h.1)).trans (h.2 i hi hl)⟩
theorem Keep.mono {S S' : Nat → Prop} {A B : World} (h : Keep S A B) (hs : ∀ k, S' k → S k) : Keep S' A B := ⟨h.1, fun k hk hl => h.2 k (hs k hk) hl⟩
theorem Keep.grown {S : Nat → Prop} {A B : World} {row : Option Nat} (hg : A.grownBy B row) (hr : ∀ r, row = some r → ¬ S r) : Keep S A B :=
  ⟨hg.size, fun k hk hl => hg.block k hl (fun e => hr k e.symm hk)⟩
theorem Keep.below {S : Nat → Prop} {A B : World} {n : Nat} (hb : Below n A B) (hs : ∀ k, S k → k < n) : Keep S A B := ⟨hb.size, fun k hk _ => hb.block k (hs k hk)⟩
def Books (b : Nat) (W W' : World) : Prop := W.heap.size ≤ W'.heap.size ∧ ∀ k o, (k = b ∨ k = b + 1) → W.heap[k]? = some o → W'.heap[k]? = some o
theorem Books.refl (b : Nat) (W : World) : Books b W W := ⟨Nat.le_refl _, fun _ _ _ h => h⟩
theorem Books.trans {b : Nat} {X Y Z : World} (h : Books b X Y) (k : Books b Y Z) : Books b X Z := ⟨Nat.le_trans h.1 k.1, fun i o hi ho => k.2 i o hi (h.2 i o hi ho)⟩
theorem Books.grown {b : Nat} {A B : World} {row : Option Nat} (hg : A.grownBy B row) (hr : ∀ r, row = some r → r ≠ b ∧ r ≠ b + 1) : Books b A B :=
  ⟨hg.size, fun k o hk ho => (hg.block k (Array.getElem?_eq_some_iff.1 ho).1 (fun e => by have := hr k e.symm; omega)).trans ho⟩
theorem Books.below {b n : Nat} {A B : World} (hb : Below n A B) (hn : b + 1 < n) : Books b A B := ⟨hb.size, fun k o hk ho => (hb.block k (by omega)).trans ho⟩
variable {P : Program} {FR : Option Nat}
end Go.Proofs.YtamjjeakkkdfhaaRF
end
section
namespace Go.Proofs.Ytamjjeakkkdfhaa.G
open Go.RowKit Go.Proofs.YtamjjeakkkdfhaaW.PrintWords Go.Proofs.YtamjjeakkkdfhaaW.PrintLast Go.Proofs.YtamjjeakkkdfhaaW.PrintMore
open Go.Proofs.Ytamjjeakkkdfhaa.K Go.Proofs.YtamjjeakkkdfhaaE
set_option linter.unusedVariables false
set_option linter.unusedSimpArgs false
def zcObj : Array Value := #[.int .i64 0, .string (⟨#[]⟩ : ByteArray), .int .i64 0, .int .i64 0, .slice none 0 0, .int .i64 0, .int .i64 0, .bool false, .bool false, .bool false, .int .i64 0, .string (⟨#[]⟩ : ByteArray), .string (⟨#[]⟩ : ByteArray), .string (⟨#[]⟩ : ByteArray), .int .i64 0, .bool false, .bool false, .int .i64 0, .int .i64 0, .string (⟨#[]⟩ : ByteArray), .int .i64 0, .int .i64 0, .int .i64 0, .int .i64 0, .int .i64 0, .bool false, .int .u64 0, .slice none 0 0, .int .i64 0, .string (⟨#[]⟩ : ByteArray), .int .i64 0, .int .i64 0]
set_option maxRecDepth 100000 in
set_option maxHeartbeats 2000000 in
theorem alloc_obj {ops : Array Oper} {rest : List Oper} {o : Oper} {a : Act} {Q : Exit → Act → World → Prop} {W : World} (ho : o.op = .alloc 68) (hgd : o.guard = none) {N : Tmp} (hd : o.dst = some N)
    (h : ∀ g, g = W.heap.size → ∀ w1, w1.heap[g]? = some (.cells zcObj 68 (0, 0)) → Below W.heap.size W w1 → wpList Try.prog ops Q rest (a.put o.dst (.pointer (some ⟨g, 0, none⟩))) w1) : wpList Try.prog ops Q (o :: rest) a W := by
  refine box_event hgd hd (t := 68) (cs := zcObj) ?_ h
  unfold zcObj execOp
  rw [ho]
  first | (go_simp; done) | (go_simp; rfl)
end Go.Proofs.Ytamjjeakkkdfhaa.G
end
section
namespace Go.Proofs.Ytamjjeakkkdfhaa.G
open Go.RowKit Go.Proofs.YtamjjeakkkdfhaaW.PrintWords Go.Proofs.YtamjjeakkkdfhaaW.PrintLast Go.Proofs.YtamjjeakkkdfhaaW.PrintMore
open Go.Proofs.Ytamjjeakkkdfhaa.K Go.Proofs.YtamjjeakkkdfhaaE
set_option linter.unusedVariables false
set_option linter.unusedSimpArgs false
theorem addr_block (a : Addr) (k : Nat) : (a.add k).block = a.block := by unfold Addr.add; split <;> rfl
theorem grown_of_below {w w' : World} {row : Option Nat} (h : Below w.heap.size w w') : w.grownBy w' row := ⟨h.os, h.tape, h.output, h.size, fun k hk _ => h.block k hk⟩
def mixB (h c : Int) : Int := IntKind.u64.wrap (bits .xor .u64 h c * 1099511628211)
def mixL (h : Int) (bs : List Int) : Int := bs.foldl mixB h
theorem mixL_take {h : Int} {bs : List Int} {k : Nat} (hk : k < bs.length) : mixL h (bs.take (k + 1)) = mixB (mixL h (bs.take k)) (rd bs k) := by
  rw [List.take_succ_eq_append_getElem hk]
  unfold mixL rd
  rw [List.foldl_append]
  simp [List.getD_eq_getElem?_getD, hk]
def bytesIn (bs : List Int) : Prop := ∀ (i : Int), 0 ≤ i → i < bs.length → 0 ≤ rd bs i ∧ rd bs i ≤ 255
set_option maxRecDepth 100000 in
set_option maxHeartbeats 2000000 in
theorem sum_bytes.calls (g : Nat) (h : Int) (A : Option Addr) (n c : Nat) (bs : List Int) (w : World) (hg : w.heap[g]? = some (.cells #[.int .u64 h] 124 (0, 0))) (hr : ReadsInt w .u8 A n bs) (hne : ∀ ad, A = some ad → ad.block ≠ g) (hb : bytesIn bs) :
    Calls Try.prog 121 #[.pointer (some ⟨g, 0, none⟩), .slice A n c] w fun e w' => e = .returned (.tuple #[]) ∧ w'.heap[g]? = some (.cells #[.int .u64 (mixL h bs)] 124 (0, 0)) ∧ w.grownBy w' (some g) := by
  have hl := hr.2.1
  have hlen := hr.1
  have HR := Aside0.mk hr
  have HG := Aside0.mk hg
  have HN := Aside0.mk hne
  have HBI := Aside0.mk hb
  clear hr hg hne hb
  subst hlen
  go_enter Try.func121, Try.ntmps121
  go_wp2
  go_loopw [8] (fun i wr => ∃ k : Nat, k ≤ bs.length ∧ i = .int .i64 k ∧ Aside0 (wr.heap[g]? = some (.cells #[.int .u64 (mixL h (bs.take k))] 124 (0, 0))) ∧ Aside0 (w.grownBy wr (some g))) (fun i _ => bs.length - (intOf i).toNat)
  case atStart => exact ⟨0, Nat.zero_le _, rfl, ⟨by simpa [mixL] using HG.out⟩, ⟨rfl, rfl, rfl, Nat.le_refl _, fun _ _ _ => rfl⟩⟩
  case round =>
    obtain ⟨k, hk, rfl, HX, HW⟩ := hrel
    by_cases hlt : k < bs.length
    · obtain ⟨ad, e, hc⟩ := HR.out.at_ (k : Int) (by omega) (by omega)
      cases e
      have hbi := HBI.out (k : Int) (by omega) (by omega)
      obtain ⟨hb0, hb1⟩ := hbi
      have hc' : wr.cell? (ad.add k) = some (.int .u8 (rd bs k)) := by
        rw [Int.toNat_natCast] at hc
        exact (World.cell?_of_block (HW.out.block _ (by have := World.block_lt_of_cell? w _ hc; exact this) (fun e_ => by injection e_ with e_; rw [addr_block] at e_; exact HN.out _ rfl e_))).trans hc
      have hg0 : wr.cell? ⟨g, 0, none⟩ = some (.int .u64 (mixL h (bs.take k))) := blk_cell HX.out 0
      have hf0 : wr.frozen? ⟨g, 0, none⟩ = false := blk_frozen HX.out 0
      have HT := Aside0.mk (mixL_take (h := h) hlt)
      clear hc
      go_wp2
      go_roundw
      case rel => exact ⟨k + 1, by omega, by simp, ⟨by rw [HT.out]; exact blk_put HX.out 0 _ rfl⟩, ⟨World.grownBy.trans HW.out (grownBy_setCell' _ _ _)⟩⟩
      case measure => simp [intOf]; omega
    · obtain rfl : k = bs.length := by omega
      go_wp2
      go_end0
      exact ⟨rfl, by have := HX.out; rwa [List.take_length] at this, HW.out⟩
def vk (n : Int) : Nat → Int | 0 => IntKind.u64.wrap n | k + 1 => vk n k / 256
theorem vk_range (n : Int) : ∀ k, 0 ≤ vk n k ∧ vk n k ≤ 18446744073709551615
  | 0 => by show 0 ≤ IntKind.u64.wrap n ∧ IntKind.u64.wrap n ≤ 18446744073709551615; simp only [IntKind.wrap, IntKind.signed, IntKind.bits]; simp; omega
  | k + 1 => by have := vk_range n k; show 0 ≤ vk n k / 256 ∧ vk n k / 256 ≤ _; omega
def numL (n : Int) (k : Nat) : List Int := (List.range k).map fun j => vk n j % 256
theorem mix_num (h n : Int) (k : Nat) : mixL (mixL h (numL n k)) [vk n k % 256] = mixL h (numL n (k + 1)) := by
  unfold mixL numL
  rw [List.range_succ, List.map_append, List.foldl_append]; rfl
theorem one_in {x : Int} (h0 : 0 ≤ x) (h1 : x ≤ 255) : bytesIn [x] := by
  intro i hi0 hi1
  obtain rfl : i = 0 := by simp at hi1; omega
  exact ⟨h0, h1⟩
theorem one_reads {w : World} {g : Nat} {x : Int} {t : TypeId} (h : w.heap[g]? = some (.cells #[.int .u8 x] t (0, 0))) : ReadsInt w .u8 (some ⟨g, 0, none⟩) 1 [x] :=
  ⟨rfl, by decide, fun _ => ⟨_, rfl, fun j hj => by
    have e : j = 0 := Nat.lt_one_iff.1 hj
    subst e
    exact blk_cell h 0⟩⟩
set_option maxRecDepth 100000 in
set_option maxHeartbeats 2000000 in
theorem sum_number.calls (g : Nat) (h n : Int) (w : World) (hg : w.heap[g]? = some (.cells #[.int .u64 h] 124 (0, 0))) :
    Calls Try.prog 122 #[.pointer (some ⟨g, 0, none⟩), .int .i64 n] w fun e w' => e = .returned (.tuple #[]) ∧ w'.heap[g]? = some (.cells #[.int .u64 (mixL h (numL n 8))] 124 (0, 0)) ∧ w.grownBy w' (some g) := by
  have HG := Aside0.mk hg
  clear hg
  go_enter Try.func122, Try.ntmps122
  go_wp2
  go_loopw [4, 7] (fun v i wr => ∃ k : Nat, k ≤ 8 ∧ i = .int .i64 k ∧ v = .int .u64 (vk n k) ∧ Aside0 (wr.heap[g]? = some (.cells #[.int .u64 (mixL h (numL n k))] 124 (0, 0))) ∧ Aside0 (w.grownBy wr (some g))) (fun _ i _ => 8 - (intOf i).toNat)
  case atStart => exact ⟨0, by omega, rfl, rfl, ⟨HG.out⟩, ⟨rfl, rfl, rfl, Nat.le_refl _, fun _ _ _ => rfl⟩⟩
  case round =>
    obtain ⟨k, hk, rfl, rfl, HX, HW⟩ := hrel
    obtain ⟨hv0, hv1⟩ := vk_range n k
    have hs : vk n (k + 1) = vk n k / 256 := rfl
    have HS := Aside0.mk hs
    clear hs
    generalize hv : vk n k = v at hv0 hv1 HS ⊢
    replace hv := hv.symm
    have HV := Aside0.mk hv
    clear hv
    by_cases hlt : k < 8
    · go_wp2_with fail
      refine (sum_bytes.calls g (mixL h (numL n k)) _ 1 1 [v % 256] _ (blk_alloc HX.out _) (one_reads (blk_new _ _)) (fun ad e => by injection e with e; rw [← e]; exact Nat.ne_of_gt (blk_lt HX.out)) (one_in (by omega) (by omega))).mono ?_
      rintro e w1 ⟨rfl, hx, hw⟩
      have HX1 := Aside0.mk (show w1.heap[g]? = some (.cells #[.int .u64 (mixL h (numL n (k + 1)))] 124 (0, 0)) by rw [← mix_num, ← HV.out]; exact hx)
      have HW1 := Aside0.mk (World.grownBy.trans HW.out (World.grownBy.trans (World.grownBy_alloc _ _ _) hw))
      clear hx hw
      go_wp2
      go_roundw
      case rel => exact ⟨k + 1, by omega, by simp, by rw [HS.out], HX1, HW1⟩
      case measure => simp [intOf]; omega
    · obtain rfl : k = 8 := by omega
      go_wp2
      go_end0
      exact ⟨rfl, HX.out, HW.out⟩
inductive Fld where
  | n (x : Int)
  | s (b : ByteArray)
def encF : Fld → Value
  | .n x => .iface 3 (.int .i64 x)
  | .s b => .iface 9 (.string b)
theorem encF_one (f : Fld) : (encF f).oneCell' = true := by cases f <;> rfl
def kF : Kd Fld := Kd.scalar encF encF_one
def mixF (h : Int) : Fld → Int
  | .n x => mixL h (numL x 8)
  | .s b => mixL (mixL h (numL (b.size : Int) 8)) (bytesOf b)
def mixFs (h : Int) (fs : List Fld) : Int := fs.foldl mixF h
theorem mixFs_take {h : Int} {fs : List Fld} {k : Nat} (hk : k < fs.length) : mixFs h (fs.take (k + 1)) = mixF (mixFs h (fs.take k)) fs[k] := by
  rw [List.take_succ_eq_append_getElem hk]
  unfold mixFs
  rw [List.foldl_append]; rfl
theorem bytes_in (b : ByteArray) : bytesIn (bytesOf b) := by
  intro i h0 h1
  rw [rd_bytesOf]; exact bt_range b i
theorem ta1 (W : World) (x : Int) : (Instr.typeAssert (.iface 3 (.int .i64 x)) 20 3 true).run Try.prog W = .ok (.tuple #[.int .i64 x, .bool true]) W := by first | kernel_rfl | rfl
theorem ta2 (W : World) (b : ByteArray) : (Instr.typeAssert (.iface 9 (.string b)) 20 3 true).run Try.prog W = .ok (.tuple #[.int .i64 0, .bool false]) W := by first | kernel_rfl | rfl
theorem ta3 (W : World) (b : ByteArray) : (Instr.typeAssert (.iface 9 (.string b)) 20 9 true).run Try.prog W = .ok (.tuple #[.string b, .bool true]) W := by first | kernel_rfl | rfl
def shortF (fs : List Fld) : Prop := ∀ b, Fld.s b ∈ fs → b.size ≤ 9223372036854775807
set_option maxRecDepth 100000 in
set_option maxHeartbeats 2000000 in
theorem sum_fields.calls (g : Nat) (h : Int) (A : Option Addr) (c : Nat) (fs : List Fld) (w : World) (hg : w.heap[g]? = some (.cells #[.int .u64 h] 124 (0, 0))) (hr : kF.C w A fs.length fs) (hne : ∀ ad, A = some ad → ad.block ≠ g) (hs : shortF fs) :
    Calls Try.prog 95 #[.pointer (some ⟨g, 0, none⟩), .slice A fs.length c] w fun e w' => e = .returned (.tuple #[]) ∧ w'.heap[g]? = some (.cells #[.int .u64 (mixFs h fs)] 124 (0, 0)) ∧ w.grownBy w' (some g) := by
  have hl := hr.2.1
  have HR := Aside0.mk hr
  have HG := Aside0.mk hg
  have HN := Aside0.mk hne
  have HS := Aside0.mk hs
  have kb := fun W s => print_bytes (P := Try.prog) 9 122 5 Try.underlying9 Try.underlying122 Try.underlying5 s W
  have t1 := ta1
  have t2 := ta2
  have t3 := ta3
  clear hr hg hne hs
  go_enter Try.func95, Try.ntmps95
  go_wp2
  go_loopw [10] (fun i wr => ∃ k : Nat, k ≤ fs.length ∧ i = .int .i64 k ∧ Aside0 (wr.heap[g]? = some (.cells #[.int .u64 (mixFs h (fs.take k))] 124 (0, 0))) ∧ Aside0 (w.grownBy wr (some g))) (fun i _ => fs.length - (intOf i).toNat)
  case atStart => exact ⟨0, Nat.zero_le _, rfl, ⟨by simpa [mixFs] using HG.out⟩, ⟨rfl, rfl, rfl, Nat.le_refl _, fun _ _ _ => rfl⟩⟩
  case round =>
    obtain ⟨k, hk, rfl, HX, HW⟩ := hrel
    by_cases hlt : k < fs.length
    · obtain ⟨ad, cs, e, hcl, hK, hc⟩ := Kd.C_get HR.out (Fld.n 0) (k : Int) (by omega) (by omega)
      cases e
      obtain rfl : cs = [encF fs[k]] := by
        have : cs = [encF (fs.getD (k : Int).toNat (Fld.n 0))] := hK
        rw [this, Int.toNat_natCast]; simp [List.getD_eq_getElem?_getD, hlt]
      have hc0 : w.cell? (ad.add k) = some (encF fs[k]) := by
        have := hc 0 _ rfl
        rw [Int.toNat_natCast] at this
        simpa [kF, Kd.scalar] using this
      have hc' : wr.cell? (ad.add k) = some (encF fs[k]) := (World.cell?_of_block (HW.out.block _ (by have := World.block_lt_of_cell? w _ hc0; exact this) (fun e_ => by injection e_ with e_; rw [addr_block] at e_; exact HN.out _ rfl e_))).trans hc0
      have HT := Aside0.mk (mixFs_take (h := h) hlt)
      have HS' := Aside0.mk (show ∀ b, fs[k] = Fld.s b → b.size ≤ 9223372036854775807 from fun b hb => HS.out b (hb ▸ List.getElem_mem hlt))
      clear hc hc0 hK hcl
      generalize fs[k] = f at hc' HT HS'
      cases f with
      | n x =>
        have hcn : wr.cell? (ad.add k) = some (.iface 3 (.int .i64 x)) := hc'
        clear hc'
        go_wp2_with (go_at_call 122; refine hold ?_)
        refine Hold.intro ((sum_number.calls g (mixFs h (fs.take k)) x _ HX.out).mono ?_)
        rintro e w1 ⟨rfl, hx, hw⟩
        have HX1 := Aside0.mk (show w1.heap[g]? = some (.cells #[.int .u64 (mixFs h (fs.take (k + 1)))] 124 (0, 0)) by rw [HT.out]; exact hx)
        have HW1 := Aside0.mk (World.grownBy.trans HW.out hw)
        clear hx hw
        go_wp2
        go_roundw
        case rel => exact ⟨k + 1, by omega, by simp, HX1, HW1⟩
        case measure => simp [intOf]; omega
      | s b =>
        have hcn : wr.cell? (ad.add k) = some (.iface 9 (.string b)) := hc'
        have hbs := HS'.out b rfl
        clear hc'
        go_wp2_with (go_at_call 122; refine hold ?_)
        refine Hold.intro ((sum_number.calls g (mixFs h (fs.take k)) (b.size : Int) _ HX.out).mono ?_)
        rintro e w1 ⟨rfl, hx, hw⟩
        have HX1 := Aside0.mk hx
        have HW1 := Aside0.mk (World.grownBy.trans HW.out hw)
        clear hx hw
        go_wp2_with (go_at_call 121; refine hold ?_)
        have hbw := bytes_below (Below.refl w1.heap.size w1) (Nat.le_refl _) 5 b
        have HBW := Aside0.mk hbw
        clear hbw
        refine Hold.intro ((sum_bytes.calls g _ _ b.size _ (bytesOf b) _ (blk_below HX1.out HBW.out) (bytes_reads w1 5 b hbs) (fun ad e => by injection e with e; rw [← e]; exact Nat.ne_of_gt (blk_lt HX1.out)) (bytes_in b)).mono ?_)
        rintro e w2 ⟨rfl, hx, hw⟩
        have HX2 := Aside0.mk (show w2.heap[g]? = some (.cells #[.int .u64 (mixFs h (fs.take (k + 1)))] 124 (0, 0)) by rw [HT.out]; exact hx)
        have HW2 := Aside0.mk (World.grownBy.trans HW1.out (World.grownBy.trans (grown_of_below HBW.out) hw))
        clear hx hw HX1 HW1 HBW
        go_wp2
        go_roundw
        case rel => exact ⟨k + 1, by omega, by simp, HX2, HW2⟩
        case measure => simp [intOf]; omega
    · obtain rfl : k = fs.length := by omega
      go_wp2
      go_end0
      exact ⟨rfl, by have := HX.out; rwa [List.take_length] at this, HW.out⟩
theorem C_blk {α : Type} {enc : α → Value} {h1 : ∀ x, (enc x).oneCell' = true} {w : World} {g : Nat} {t : TypeId} {xs : List α} (h : w.heap[g]? = some (.cells (xs.map enc).toArray t (0, 0))) (hl : xs.length ≤ 9223372036854775807) : (Kd.scalar enc h1).C w (some ⟨g, 0, none⟩) xs.length xs := by
  refine ⟨rfl, hl, fun _ => ⟨_, rfl, fun j p hj => ⟨[enc p], rfl, rfl, fun i u hu => ?_⟩⟩⟩
  cases i with
  | zero =>
    simp only [List.getElem?_cons_zero, Option.some.injEq] at hu
    subst hu
    have e : j * (Kd.scalar enc h1).sz + 0 = j := by show j * 1 + 0 = j; omega
    rw [add_plain, e, blk_cell h j]
    simp [hj]
  | succ i => simp at hu
def labF (x : S31) : List Fld := [.s x.f0, .s x.f1]
def headF (x : S68) : List Fld := [.s x.f17, .n x.f16.f0, .n x.f16.f1, .n x.f18, .n x.f19, .n (x.f4.length : Int)]
def tmplI (x : S68) : Int := x.f4.foldl (fun h l => mixFs h (labF l)) (mixFs 14695981039346656037 (headF x))
end Go.Proofs.Ytamjjeakkkdfhaa.G
end
section
namespace Go.Proofs.Ytamjjeakkkdfhaa.OP
open Go.Proofs.YtamjjeakkkdfhaaE
open Go.RowKit Go.Proofs.YtamjjeakkkdfhaaW.PrintWords Go.Proofs.YtamjjeakkkdfhaaW.PrintLast Go.Proofs.YtamjjeakkkdfhaaW.PrintMore
set_option linter.unusedVariables false
def Opens {α : Type} (P : Program) (t : TypeId) (d : Kd α) (Q : α → Prop) : Prop :=
  ∀ (H : Type) (enc : TypeId × Value → H) (w : World) (base : Nat) (spare : Nat → Bool) (held : Bool) (fuel : Nat) (cs : List Value) (x : DataW H × List MemPlace),
    DataW.trod enc P w base spare held fuel t cs = some x → (∀ n ∈ x.1.weights P t, n ≤ reachBytes) → ∃ a, d.K w a cs ∧ Q a
def OpensF {α : Type} (P : Program) (fs : List Field) (off size : Nat) (d : Kd α) (Q : α → Prop) : Prop :=
  ∀ (H : Type) (enc : TypeId × Value → H) (w : World) (base : Nat) (spare : Nat → Bool) (held : Bool) (fuel : Nat) (cs : List Value) (xs : List (DataW H × List MemPlace)),
    cs.length = size → (∀ (i : Nat) (f : Field), fs[i]? = some f → DataW.trod enc P w base spare held fuel f.type ((cs.drop f.offset).take (P.cellsOf f.type)) = xs[i]?) → xs.length = fs.length →
    (∀ (i : Nat) (f : Field) x, fs[i]? = some f → xs[i]? = some x → ∀ n ∈ x.1.weights P f.type, n ≤ reachBytes) → ∃ a, d.K w a (cs.drop off) ∧ Q a
theorem weightsAll_mem {H : Type} {P : Program} {e : TypeId} : ∀ {ds : List (DataW H)} {j : Nat} {d : DataW H}, ds[j]? = some d → ∀ n ∈ d.weights P e, n ∈ DataW.weightsAll P e ds
  | d0 :: ds, 0, d, hd, n, hn => by
    simp only [List.getElem?_cons_zero, Option.some.injEq] at hd
    subst hd
    simp only [DataW.weightsAll, List.mem_append]
    exact Or.inl hn
  | d0 :: ds, j + 1, d, hd, n, hn => by
    simp only [List.getElem?_cons_succ] at hd
    simp only [DataW.weightsAll, List.mem_append]
    exact Or.inr (weightsAll_mem hd n hn)
  | [], _, _, hd, _, _ => by simp at hd
variable {P : Program} {t e : TypeId}
theorem opens_int {k : IntKind} (ht : P.underlying t = some (.int k)) : Opens P t (Kd.int k) (fun n => (Lit.int k n).wf = true) := by
  intro H enc w base spare held fuel cs x h hw
  obtain ⟨n, rfl, rfl, hn⟩ := DataW.trod_int ht h
  exact ⟨n, rfl, hn⟩
theorem opens_bool (ht : P.underlying t = some .bool) : Opens P t Kd.bool (fun _ => True) := by
  intro H enc w base spare held fuel cs x h hw
  obtain ⟨b, rfl, rfl⟩ := DataW.trod_bool ht h
  exact ⟨b, rfl, trivial⟩
theorem opens_string (ht : P.underlying t = some .string) : Opens P t Kd.string (fun s => s.size ≤ reachBytes) := by
  intro H enc w base spare held fuel cs x h hw
  obtain ⟨s, rfl, rfl, hs⟩ := DataW.trod_string ht h
  refine ⟨s, rfl, ?_⟩
  have := hw s.data.toList.length (by simp [DataW.weights])
  simpa using this
theorem opens_slice {α : Type} {d : Kd α} {Q : α → Prop} (q : Nat) (ht : P.underlying t = some (.slice e)) (hd : Opens P e d Q) (hsz : P.cellsOf e = d.sz) (z : α) : Opens P t (Kd.slice q d) (fun l => l.length * P.bytesOf e ≤ reachBytes ∧ ∀ x ∈ l, Q x) := by
  intro H enc w base spare held fuel cs x h hw
  rcases DataW.trod_slice ht h with ⟨rfl, rfl⟩ | ⟨a, len, cap, elems, rest, n, _, rfl, rfl, hb, hl, hm, hlen, hel, hsp, hns⟩
  · exact ⟨[], ⟨none, 0, rfl, Nat.le_refl _, rfl, by simp, fun h => absurd h (by simp)⟩, by simp, by simp⟩
  · have each : ∀ i (hi : i < elems.length), ∃ y, ∃ c, w.cells? base (a.add (i * P.cellsOf e)) (P.cellsOf e) = some c ∧ d.K w y c ∧ Q y := by
      intro i hi
      have h1 := hel i (by omega)
      rw [List.getElem?_eq_getElem hi, Option.bind_eq_some_iff] at h1
      obtain ⟨c, hc, h2⟩ := h1
      obtain ⟨y, hy, hq⟩ := hd H enc w base spare held n c _ h2 (fun m hm => hw m (by
        simp only [DataW.weights, ht, List.mem_cons, List.mem_append]
        exact Or.inr (Or.inl (weightsAll_mem (j := i) (d := (elems[i]).1) (by rw [List.getElem?_map, List.getElem?_eq_getElem hi]; rfl) m hm))))
      exact ⟨y, c, hc, hy, hq⟩
    obtain ⟨y, hy⟩ : ∃ y : Nat → α, ∀ i (hi : i < elems.length), ∃ c, w.cells? base (a.add (i * P.cellsOf e)) (P.cellsOf e) = some c ∧ d.K w (y i) c ∧ Q (y i) := by
      classical
      refine ⟨fun i => if hi : i < elems.length then Classical.choose (each i hi) else z, fun i hi => ?_⟩
      show ∃ c, _ = some c ∧ d.K w (if hi : i < elems.length then Classical.choose (each i hi) else z) c ∧ Q (if hi : i < elems.length then Classical.choose (each i hi) else z)
      rw [dif_pos hi]
      exact Classical.choose_spec (each i hi)
    refine ⟨(List.range elems.length).map y, ⟨some a, cap, by simp [hlen], by simp [hlen, hl], by simp, ?_, fun _ => ⟨a, rfl, ?_⟩⟩, ?_, ?_⟩
    · simp only [List.length_map, List.length_range]
      have : maxLen = 9223372036854775807 := rfl
      omega
    · intro j p hp
      obtain ⟨hj, rfl⟩ : ∃ hj : j < elems.length, y j = p := by
        have hj : j < elems.length := by have := (List.getElem?_eq_some_iff.1 hp).1; simpa using this
        refine ⟨hj, ?_⟩
        rw [List.getElem?_map, List.getElem?_range hj] at hp
        simpa using hp
      obtain ⟨c, hc, hk, hq⟩ := hy j hj
      obtain ⟨hb', hl', hcell⟩ := World.cells?_some hc
      refine ⟨c, by rw [hl', hsz], hk, fun i u hu => ?_⟩
      have hi : i < P.cellsOf e := by have := (List.getElem?_eq_some_iff.1 hu).1; omega
      have := hcell i hi
      rw [hu, addr_add_add, hsz] at this
      exact this
    · have := hw ((elems.length + rest.length) * P.bytesOf e) (by simp [DataW.weights, ht])
      simp only [List.length_map, List.length_range]
      exact Nat.le_trans (Nat.mul_le_mul_right _ (Nat.le_add_right _ _)) this
    · intro x hx
      obtain ⟨j, hj, rfl⟩ := List.mem_map.1 hx
      obtain ⟨c, hc, hk, hq⟩ := hy j (by simpa using hj)
      exact hq
theorem opensF_last {α : Type} {d : Kd α} {Q : α → Prop} {f : Field} {size : Nat} (hd : Opens P f.type d Q) (hs : f.offset + P.cellsOf f.type = size) : OpensF P [f] f.offset size d Q := by
  intro H enc w base spare held fuel cs xs hl hf hxl hw
  have h0 := hf 0 f rfl
  obtain ⟨x, hx⟩ : ∃ x, xs[0]? = some x := ⟨_, List.getElem?_eq_getElem (by rw [hxl]; exact Nat.zero_lt_one)⟩
  rw [hx, List.take_of_length_le (by rw [List.length_drop]; omega)] at h0
  exact hd H enc w base spare held fuel _ x h0 (hw 0 f x rfl hx)
theorem opensF_cons {α β : Type} {d : Kd α} {d' : Kd β} {Q : α → Prop} {Q' : β → Prop} {f : Field} {fs : List Field} {size off : Nat} (hd : Opens P f.type d Q) (hs : f.offset + P.cellsOf f.type = off) (hr : OpensF P fs off size d' Q') : OpensF P (f :: fs) f.offset size (Kd.pair d d') (fun a => Q a.1 ∧ Q' a.2) := by
  intro H enc w base spare held fuel cs xs hl hf hxl hw
  have h0 := hf 0 f rfl
  obtain ⟨x, xs, rfl⟩ : ∃ x r, xs = x :: r := by cases xs with | nil => simp at hxl | cons x r => exact ⟨x, r, rfl⟩
  obtain ⟨a, ha, hq⟩ := hd H enc w base spare held fuel _ x h0 (hw 0 f x rfl rfl)
  obtain ⟨b, hb, hq'⟩ := hr H enc w base spare held fuel cs xs hl (fun i g hg => hf (i + 1) g hg) (by simpa using hxl) (fun i g y hg hy => hw (i + 1) g y hg hy)
  refine ⟨(a, b), ⟨_, _, ?_, ha, hb⟩, hq, hq'⟩
  rw [← hs, ← List.drop_drop, List.take_append_drop]
theorem opens_struct {α β : Type} {d : Kd α} {Q : α → Prop} {fs : Array Field} {size : Nat} (g : β → α) (inv : α → β) (hg : ∀ a, g (inv a) = a) (ht : P.underlying t = some (.struct fs)) (hs : P.cellsOf t = size) (hf : OpensF P fs.toList 0 size d Q) : Opens P t (Kd.iso d g) (fun b => Q (g b)) := by
  intro H enc w base spare held fuel cs x h hw
  obtain ⟨xs, n, rfl, rfl, hl, hxl, hx⟩ := DataW.trod_struct ht h
  obtain ⟨a, ha, hq⟩ := hf H enc w base spare held n cs xs (by rw [hl, hs]) (fun i f hi => hx i f (by simpa using hi)) (by simpa using hxl) (fun i f y hi hy m hm => hw m (by
    simp only [DataW.weights, ht]
    exact DataW.weights_mem_each (j := i) (t := f.type) (d := y.1) (by rw [List.getElem?_map, hi]; rfl) (by rw [List.getElem?_map, hy]; rfl) m hm))
  exact ⟨inv a, by show d.K w (g (inv a)) cs; rw [hg]; exact ha, by show Q (g (inv a)); rw [hg]; exact hq⟩
end Go.Proofs.Ytamjjeakkkdfhaa.OP
end
section
namespace Go.Proofs.Ytamjjeakkkdfhaa.G
open Go.RowKit Go.Proofs.YtamjjeakkkdfhaaW.PrintWords Go.Proofs.YtamjjeakkkdfhaaW.PrintLast Go.Proofs.YtamjjeakkkdfhaaW.PrintMore
open Go.Proofs.Ytamjjeakkkdfhaa.K Go.Proofs.YtamjjeakkkdfhaaE Go.Proofs.Ytamjjeakkkdfhaa.OP
set_option linter.unusedVariables false
theorem opens_mono {α : Type} {P : Program} {t : TypeId} {d : Kd α} {Q Q' : α → Prop} (h : Opens P t d Q) (hQ : ∀ a, Q a → Q' a) : Opens P t d Q' := by
  intro H enc w base spare held fuel cs x h1 hw
  obtain ⟨a, ha, hq⟩ := h H enc w base spare held fuel cs x h1 hw
  exact ⟨a, ha, hQ a hq⟩
theorem opens_label : Opens Try.prog 31 k31 (fun _ => True) :=
  opens_mono (opens_struct (size := 2) (fun x : S31 => (x.f0, x.f1)) (fun a => ⟨a.1, a.2⟩) (fun _ => rfl) Try.underlying31 (by kernel_rfl) (opensF_cons (off := 1) (opens_string (by kernel_rfl)) (by kernel_rfl) (opensF_last (opens_string (by kernel_rfl)) (by kernel_rfl)))) (fun _ _ => trivial)
theorem opens_amount : Opens Try.prog 64 k64 (fun _ => True) :=
  opens_mono (opens_struct (size := 2) (fun x : S64 => (x.f0, x.f1)) (fun a => ⟨a.1, a.2⟩) (fun _ => rfl) Try.underlying64 (by kernel_rfl) (opensF_cons (off := 1) (opens_int (k := .i64) (by kernel_rfl)) (by kernel_rfl) (opensF_last (opens_int (k := .i64) (by kernel_rfl)) (by kernel_rfl)))) (fun _ _ => trivial)
def okR (x : S68) : Prop := x.f1.size ≤ reachBytes ∧ x.f4.length * 32 ≤ reachBytes ∧ x.f25.length * 32 ≤ reachBytes
set_option maxRecDepth 100000 in
set_option maxHeartbeats 4000000 in
theorem opens_object : Opens Try.prog 68 k68 okR :=
  opens_mono (opens_struct (size := 32) (fun x : S68 => (x.f0, x.f1, x.f2, x.f3, x.f4, x.f5, x.f6, x.f7, x.f8, x.f9, x.f10, x.f11, x.f12, x.f13, x.f14, x.f15, x.f16, x.f17, x.f18, x.f19, x.f20, x.f21, x.f22, x.f23, x.f24, x.f25, x.f26, x.f27, x.f28, x.f29)) (fun a => ⟨a.1, a.2.1, a.2.2.1, a.2.2.2.1, a.2.2.2.2.1, a.2.2.2.2.2.1, a.2.2.2.2.2.2.1, a.2.2.2.2.2.2.2.1, a.2.2.2.2.2.2.2.2.1, a.2.2.2.2.2.2.2.2.2.1, a.2.2.2.2.2.2.2.2.2.2.1, a.2.2.2.2.2.2.2.2.2.2.2.1, a.2.2.2.2.2.2.2.2.2.2.2.2.1, a.2.2.2.2.2.2.2.2.2.2.2.2.2.1, a.2.2.2.2.2.2.2.2.2.2.2.2.2.2.1, a.2.2.2.2.2.2.2.2.2.2.2.2.2.2.2.1, a.2.2.2.2.2.2.2.2.2.2.2.2.2.2.2.2.1, a.2.2.2.2.2.2.2.2.2.2.2.2.2.2.2.2.2.1, a.2.2.2.2.2.2.2.2.2.2.2.2.2.2.2.2.2.2.1, a.2.2.2.2.2.2.2.2.2.2.2.2.2.2.2.2.2.2.2.1, a.2.2.2.2.2.2.2.2.2.2.2.2.2.2.2.2.2.2.2.2.1, a.2.2.2.2.2.2.2.2.2.2.2.2.2.2.2.2.2.2.2.2.2.1, a.2.2.2.2.2.2.2.2.2.2.2.2.2.2.2.2.2.2.2.2.2.2.1, a.2.2.2.2.2.2.2.2.2.2.2.2.2.2.2.2.2.2.2.2.2.2.2.1, a.2.2.2.2.2.2.2.2.2.2.2.2.2.2.2.2.2.2.2.2.2.2.2.2.1, a.2.2.2.2.2.2.2.2.2.2.2.2.2.2.2.2.2.2.2.2.2.2.2.2.2.1, a.2.2.2.2.2.2.2.2.2.2.2.2.2.2.2.2.2.2.2.2.2.2.2.2.2.2.1, a.2.2.2.2.2.2.2.2.2.2.2.2.2.2.2.2.2.2.2.2.2.2.2.2.2.2.2.1, a.2.2.2.2.2.2.2.2.2.2.2.2.2.2.2.2.2.2.2.2.2.2.2.2.2.2.2.2.1, a.2.2.2.2.2.2.2.2.2.2.2.2.2.2.2.2.2.2.2.2.2.2.2.2.2.2.2.2.2⟩) (fun _ => rfl) Try.underlying68 (by kernel_rfl)
    (opensF_cons (off := 1) (opens_int (k := .i64) (by kernel_rfl)) (by kernel_rfl) (opensF_cons (off := 2) (opens_string (by kernel_rfl)) (by kernel_rfl) (opensF_cons (off := 3) (opens_int (k := .i64) (by kernel_rfl)) (by kernel_rfl) (opensF_cons (off := 4) (opens_int (k := .i64) (by kernel_rfl)) (by kernel_rfl) (opensF_cons (off := 5) (opens_slice (e := 31) 31 (by kernel_rfl) opens_label (by kernel_rfl) z31) (by kernel_rfl) (opensF_cons (off := 7) opens_amount (by kernel_rfl) (opensF_cons (off := 8) (opens_bool (by kernel_rfl)) (by kernel_rfl) (opensF_cons (off := 9) (opens_bool (by kernel_rfl)) (by kernel_rfl) (opensF_cons (off := 10) (opens_bool (by kernel_rfl)) (by kernel_rfl) (opensF_cons (off := 11) (opens_int (k := .i64) (by kernel_rfl)) (by kernel_rfl) (opensF_cons (off := 12) (opens_string (by kernel_rfl)) (by kernel_rfl) (opensF_cons (off := 13) (opens_string (by kernel_rfl)) (by kernel_rfl) (opensF_cons (off := 14) (opens_string (by kernel_rfl)) (by kernel_rfl) (opensF_cons (off := 15) (opens_int (k := .i64) (by kernel_rfl)) (by kernel_rfl) (opensF_cons (off := 16) (opens_bool (by kernel_rfl)) (by kernel_rfl) (opensF_cons (off := 17) (opens_bool (by kernel_rfl)) (by kernel_rfl) (opensF_cons (off := 19) opens_amount (by kernel_rfl) (opensF_cons (off := 20) (opens_string (by kernel_rfl)) (by kernel_rfl) (opensF_cons (off := 21) (opens_int (k := .i64) (by kernel_rfl)) (by kernel_rfl) (opensF_cons (off := 22) (opens_int (k := .i64) (by kernel_rfl)) (by kernel_rfl) (opensF_cons (off := 23) (opens_int (k := .i64) (by kernel_rfl)) (by kernel_rfl) (opensF_cons (off := 24) (opens_int (k := .i64) (by kernel_rfl)) (by kernel_rfl) (opensF_cons (off := 25) (opens_int (k := .i64) (by kernel_rfl)) (by kernel_rfl) (opensF_cons (off := 26) (opens_bool (by kernel_rfl)) (by kernel_rfl) (opensF_cons (off := 27) (opens_int (k := .u64) (by kernel_rfl)) (by kernel_rfl) (opensF_cons (off := 28) (opens_slice (e := 31) 31 (by kernel_rfl) opens_label (by kernel_rfl) z31) (by kernel_rfl) (opensF_cons (off := 29) (opens_int (k := .i64) (by kernel_rfl)) (by kernel_rfl) (opensF_cons (off := 30) (opens_string (by kernel_rfl)) (by kernel_rfl) (opensF_cons (off := 31) (opens_int (k := .i64) (by kernel_rfl)) (by kernel_rfl) (opensF_last (opens_int (k := .i64) (by kernel_rfl)) (by kernel_rfl)))))))))))))))))))))))))))))))) (fun x h => ⟨h.2.1, h.2.2.2.2.1.1, h.2.2.2.2.2.2.2.2.2.2.2.2.2.2.2.2.2.2.2.2.2.2.2.2.2.1.1⟩)
set_option maxRecDepth 100000 in
open Go.WideShapes in
theorem open_object {H : Type} {enc : TypeId × Value → H} {W : World} {base : Nat} {r : Reach} {v : Value} {d : DataW H} {p : List MemPlace} (hv : Value.okWide Try.prog W r base 68 v) (h : DataW.Trod enc Try.prog W 0 (fun _ => true) true 68 v d p) (hw : ∀ n ∈ d.weights Try.prog 68, n ≤ reachBytes) :
    ∃ x cs, v = .agg (cs : List Value).toArray ∧ k68.K W x cs ∧ okR x := by
  obtain ⟨cs, rfl, -⟩ := okWide_struct Try.underlying68 hv
  obtain ⟨fuel, hf⟩ := h
  obtain ⟨x, hK, q⟩ := opens_object H enc W 0 _ true fuel _ _ hf hw
  exact ⟨x, cs.toList, by rw [Array.toArray_toList], hK, q⟩
theorem weights_of {H : Type} {P : Program} {ts : List TypeId} {ds : List (DataW H)} (h : (DataW.weightsEach P ts ds).all (· ≤ reachBytes) = true) {j : Nat} {t : TypeId} {d : DataW H} (ht : ts[j]? = some t) (hd : ds[j]? = some d) : ∀ n ∈ d.weights P t, n ≤ reachBytes := fun n hn => by
  have := List.all_eq_true.1 h n (DataW.weights_mem_each ht hd n hn)
  simpa using this
end Go.Proofs.Ytamjjeakkkdfhaa.G
end
section
namespace Go.Proofs.Ytamjjeakkkdfhaa.G
open Go.RowKit Go.Proofs.YtamjjeakkkdfhaaW.PrintWords Go.Proofs.YtamjjeakkkdfhaaW.PrintLast Go.Proofs.YtamjjeakkkdfhaaW.PrintMore
open Go.Proofs.Ytamjjeakkkdfhaa.K Go.Proofs.YtamjjeakkkdfhaaE Go.Proofs.Ytamjjeakkkdfhaa.PB Go.Proofs.Ytamjjeakkkdfhaa.PC Go.Proofs.Ytamjjeakkkdfhaa.PD
set_option linter.unusedVariables false
set_option linter.unusedSimpArgs false
def cO (x : S68) (v4 v27 : Value) : Array Value := #[.int .i64 x.f0, .string x.f1, .int .i64 x.f2, .int .i64 x.f3, v4, .int .i64 x.f5.f0, .int .i64 x.f5.f1, .bool x.f6, .bool x.f7, .bool x.f8, .int .i64 x.f9, .string x.f10, .string x.f11, .string x.f12, .int .i64 x.f13, .bool x.f14, .bool x.f15, .int .i64 x.f16.f0, .int .i64 x.f16.f1, .string x.f17, .int .i64 x.f18, .int .i64 x.f19, .int .i64 x.f20, .int .i64 x.f21, .int .i64 x.f22, .bool x.f23, .int .u64 x.f24, v27, .int .i64 x.f26, .string x.f27, .int .i64 x.f28, .int .i64 x.f29]
def kO (w : World) (x : S68) (v4 v27 : Value) : Prop := ∃ A4 c4 A27 c27, v4 = .slice A4 x.f4.length c4 ∧ v27 = .slice A27 x.f25.length c27 ∧ x.f4.length ≤ c4 ∧ k31.C w A4 x.f4.length x.f4 ∧ x.f25.length ≤ c27 ∧ k31.C w A27 x.f25.length x.f25
theorem kO_below {w w' : World} {x : S68} {v4 v27 : Value} (h : kO w x v4 v27) (hb : Below w.heap.size w w') : kO w' x v4 v27 := by
  obtain ⟨A4, c4, A27, c27, e4, e27, l4, g4, l27, g27⟩ := h
  exact ⟨A4, c4, A27, c27, e4, e27, l4, Kd.C_below g4 hb, l27, Kd.C_below g27 hb⟩
theorem K_kO {w : World} {x : S68} {cs : List Value} (h : k68.K w x cs) : ∃ v4 v27, cs = (cO x v4 v27).toList ∧ kO w x v4 v27 := by
  obtain ⟨A4, c4, A27, c27, rfl, l4, g4, l27, g27⟩ := k68_open h
  exact ⟨_, _, rfl, A4, c4, A27, c27, rfl, rfl, l4, g4, l27, g27⟩
theorem cO_size (x : S68) (v4 v27 : Value) : (cO x v4 v27).size = 32 := rfl
theorem cO_one {x : S68} {v4 v27 : Value} (h4 : v4.oneCell' = true) (h27 : v27.oneCell' = true) : (cO x v4 v27).toList.all (·.oneCell') = true := by
  simp only [cO, List.all_cons, List.all_nil, h4, h27, Bool.and_true, Bool.true_and]; rfl
theorem kO_one {w : World} {x : S68} {v4 v27 : Value} (h : kO w x v4 v27) : (cO x v4 v27).toList.all (·.oneCell') = true := by
  obtain ⟨A4, c4, A27, c27, rfl, rfl, -⟩ := h; exact cO_one rfl rfl
theorem load_obj {ops : Array Oper} {rest : List Oper} {o : Oper} {a : Act} {Q : Exit → Act → World → Prop} {W : World} {p : Operand} {g : Nat} {cs : Array Value} (ho : o.op = .load 68 p) (hgd : o.guard = none) (he : a.eval p = .pointer (some ⟨g, 0, none⟩)) (hb : W.heap[g]? = some (.cells cs 68 (0, 0))) (hs : cs.size = 32)
    (h : wpList Try.prog ops Q rest (a.put o.dst (.agg cs)) W) : wpList Try.prog ops Q (o :: rest) a W :=
  load_list (cs := cs.toList) hgd ho he Try.underlying68 rfl (by rw [Array.length_toList, hs]; exact size68) (fun j v hj => by
    have := blk_cell hb j
    unfold Addr.add
    by_cases h0 : j = 0
    · subst h0; rw [if_pos rfl, this]; simpa using hj
    · rw [if_neg h0, Nat.zero_add, this]; simpa using hj) (by rw [Array.toArray_toList]; exact h)
theorem load_obj_run {o : Oper} {a : Act} {W : World} {p : Operand} {g : Nat} {cs : Array Value} (ho : o.op = .load 68 p) (he : a.eval p = .pointer (some ⟨g, 0, none⟩)) (hb : W.heap[g]? = some (.cells cs 68 (0, 0))) (hs : cs.size = 32) :
    (execOp a.eval o).run Try.prog W = .ok (.value (.agg cs)) W := by
  have hl := run_loadVar_row (P := Try.prog) W g 68 68 cs (0, 0) _ hb Try.underlying68 rfl (by rw [hs]; exact size68)
  unfold execOp
  simp only [ho, he, Instr.loadAt, Instr.sureAddr, Sem.run_bind, Sem.run_pure, Result.andThen_ok, hl]
theorem two_store_event {P : Program} {ops : Array Oper} {rest : List Oper} {o : Oper} {a : Act} {Q : Exit → Act → World → Prop} {W : World} (hgd : o.guard = none) {t ty : TypeId} {p : Tmp} {x : Operand} (ho : o.op = .store t (.tmp p) x) (hN : o.dst = none) {g j : Nat} {cs : Array Value} {u v : Value}
    (he : a.eval (.tmp p) = .pointer (some ⟨g, j, none⟩)) (hv : a.eval x = .agg #[u, v]) (hi : (P.info? t).map (·.size) = some 2) (hb : W.heap[g]? = some (.cells cs ty (0, 0))) (hj : j + 1 < cs.size) (h0 : u.oneCell' = true) (h1 : v.oneCell' = true)
    (h : ∀ w', w'.heap[g]? = some (.cells ((cs.setIfInBounds j u).setIfInBounds (j + 1) v) ty (0, 0)) → W.grownBy w' (some g) → wpList P ops Q rest a w') : wpList P ops Q (o :: rest) a W := by
  have hrun := run_store_run (P := P) t (.agg #[u, v]) [u, v] hb rfl (by rw [hi]; rfl) (o := j) (by simp; omega) (fun q hq => by
    simp only [List.mem_cons, List.not_mem_nil, or_false] at hq
    rcases hq with rfl | rfl
    · exact h0
    · exact h1)
  refine wpList_plain hgd fun K hK => ?_
  unfold Oper.wp
  have hx : (execOp a.eval o).run P W = .ok .skip (W.setCells g j [u, v]) := by
    simp only [execOp, ho, he, hv]
    simp [hrun, Result.andThen]
  rw [hx]
  show K (a.put o.dst undef) _
  rw [hN]
  obtain ⟨q1, q2, q3, q4⟩ := setCells_same g [u, v] j W
  exact hK _ _ (h _ (blk_put (blk_put hb j u rfl) (j + 1) v rfl) ⟨q1, q2, q3, by rw [q4]; exact Nat.le_refl _, fun k hk hne => setCells_far [u, v] _ k (fun e => hne (by rw [e]))⟩)
theorem cell_store_event {P : Program} {ops : Array Oper} {rest : List Oper} {o : Oper} {a : Act} {Q : Exit → Act → World → Prop} {W : World} (hgd : o.guard = none) {t ty : TypeId} {p : Tmp} {x : Operand} (ho : o.op = .store t (.tmp p) x) (hN : o.dst = none) {g j : Nat} {cs : Array Value} {v : Value}
    (he : a.eval (.tmp p) = .pointer (some ⟨g, j, none⟩)) (hv : a.eval x = v) (hi : (P.info? t).map (·.size) = some 1) (hb : W.heap[g]? = some (.cells cs ty (0, 0))) (hj : j < cs.size) (hc : v.cells.toList = [v]) (h1 : v.oneCell' = true)
    (h : ∀ w', w'.heap[g]? = some (.cells (cs.setIfInBounds j v) ty (0, 0)) → W.grownBy w' (some g) → wpList P ops Q rest a w') : wpList P ops Q (o :: rest) a W := by
  have hrun := run_store_run (P := P) t v [v] hb hc (by rw [hi]; rfl) (o := j) (by simp; omega) (fun q hq => by simp only [List.mem_singleton] at hq; rw [hq]; exact h1)
  refine wpList_plain hgd fun K hK => ?_
  unfold Oper.wp
  have hx : (execOp a.eval o).run P W = .ok .skip (W.setCell ⟨g, j, none⟩ v) := by
    simp only [execOp, ho, he, hv]
    simp [hrun, Result.andThen]
    rfl
  rw [hx]
  show K (a.put o.dst undef) _
  rw [hN]
  obtain ⟨q1, q2, q3, q4⟩ := setCells_same g [v] j W
  exact hK _ _ (h _ (blk_put hb j v rfl) (show W.grownBy (W.setCells g j [v]) (some g) from ⟨q1, q2, q3, by rw [q4]; exact Nat.le_refl _, fun k hk hne => setCells_far [v] _ k (fun e => hne (by rw [e]))⟩))
end Go.Proofs.Ytamjjeakkkdfhaa.G
end
section
namespace Go.Proofs.Ytamjjeakkkdfhaa.G
open Go.RowKit Go.Proofs.YtamjjeakkkdfhaaW.PrintWords Go.Proofs.YtamjjeakkkdfhaaW.PrintLast Go.Proofs.YtamjjeakkkdfhaaW.PrintMore
open Go.Proofs.Ytamjjeakkkdfhaa.K Go.Proofs.YtamjjeakkkdfhaaE
set_option linter.unusedVariables false
set_option linter.unusedSimpArgs false
def okT (x : S68) : Prop := x.f17.size ≤ 9223372036854775807 ∧ ∀ l ∈ x.f4, l.f0.size ≤ 9223372036854775807 ∧ l.f1.size ≤ 9223372036854775807
theorem tmpl_take {x : S68} {k : Nat} (hk : k < x.f4.length) (h : Int) : (x.f4.take (k + 1)).foldl (fun h l => mixFs h (labF l)) h = mixFs ((x.f4.take k).foldl (fun h l => mixFs h (labF l)) h) (labF x.f4[k]) := by
  rw [List.take_succ_eq_append_getElem hk, List.foldl_append]; rfl
set_option maxRecDepth 100000 in
set_option maxHeartbeats 2000000 in
theorem tmpl.calls (x : S68) (v4 v27 : Value) (w : World) (hx : kO w x v4 v27) (hk : okT x) :
    Calls Try.prog 44 #[.agg (cO x v4 v27)] w fun e w' => e = .returned (.int .u64 (tmplI x)) ∧ Below w.heap.size w w' := by
  obtain ⟨A4, c4, A27, c27, rfl, rfl, l4, g4, l27, g27⟩ := hx
  have hl := g4.2.1
  have HK := Aside0.mk hk
  have HR := Aside0.mk g4
  clear g4 g27 l4 l27 hk
  have hu68 := Try.underlying68
  have hu31 := Try.underlying31
  go_enter Try.func44, Try.ntmps44
  go_wp2_with ((with_reducible refine gate_dst (N := 1) rfl ?_); refine hold ?_)
  refine Hold.intro ?_
  refine box_event (N := 1) (cs := cO x (.slice A4 x.f4.length c4) (.slice A27 x.f25.length c27)) (t := 68) rfl rfl ?hs ?_
  case hs => unfold cO; first | (go_simp; done) | (go_simp; rfl)
  intro gx hg w1 hbox hb
  have HX := Aside0.mk hbox
  have HB1 := Aside0.mk hb
  have HGX := Aside0.mk (show w.heap.size ≤ gx by rw [hg]; exact Nat.le_refl _)
  clear hg
  clear hbox hb
  have hc17 : w1.cell? ⟨gx, 19, none⟩ = some (.string x.f17) := (blk_cell HX.out 19).trans rfl
  have hc16 : w1.cell? ⟨gx, 17, none⟩ = some (.int .i64 x.f16.f0) := (blk_cell HX.out 17).trans rfl
  have hc16' : w1.cell? ⟨gx, 18, none⟩ = some (.int .i64 x.f16.f1) := (blk_cell HX.out 18).trans rfl
  have hc18 : w1.cell? ⟨gx, 20, none⟩ = some (.int .i64 x.f18) := (blk_cell HX.out 20).trans rfl
  have hc19 : w1.cell? ⟨gx, 21, none⟩ = some (.int .i64 x.f19) := (blk_cell HX.out 21).trans rfl
  have hc4 : w1.cell? ⟨gx, 4, none⟩ = some (.slice A4 x.f4.length c4) := (blk_cell HX.out 4).trans rfl
  have hgx : gx < w1.heap.size := blk_lt HX.out
  go_wp2_with (go_at_call 95; refine hold ?_)
  obtain ⟨fs, hfs⟩ : ∃ fs, fs = headF x := ⟨_, rfl⟩
  have HSF := Aside0.mk (show shortF fs by
    rw [hfs]; intro b hb
    simp only [headF, List.mem_cons, List.not_mem_nil, or_false, Fld.s.injEq, reduceCtorEq] at hb
    subst hb; exact HK.out.1)
  have HFS := Aside0.mk hfs
  have HL6 := Aside0.mk (show fs.length = 6 by rw [hfs]; rfl)
  have HCF := Aside0.mk (fun (W : World) => (show kF.C ((W.alloc (.cells #[.int .u64 14695981039346656037] 124)).alloc (.cells #[.iface 9 (.string x.f17), .iface 3 (.int .i64 x.f16.f0), .iface 3 (.int .i64 x.f16.f1), .iface 3 (.int .i64 x.f18), .iface 3 (.int .i64 x.f19), .iface 3 (.int .i64 (x.f4.length : Int))] 20)) (some ⟨W.heap.size + 1, 0, none⟩) fs.length fs from
    C_blk (h1 := encF_one) (t := 20) (by rw [hfs, ← World.size_alloc W (.cells #[.int .u64 14695981039346656037] 124)]; exact blk_new _ _) (by rw [hfs]; show 6 ≤ _; decide)))
  clear hfs
  have hcall := sum_fields.calls w1.heap.size 14695981039346656037 (some ⟨w1.heap.size + 1, 0, none⟩) 6 fs _ (blk_alloc (blk_new w1 _) _) (HCF.out w1) (fun ad e => by injection e with e; rw [← e]; exact Nat.ne_of_gt (Nat.lt_succ_self _)) HSF.out
  rw [HL6.out] at hcall
  refine Hold.intro (hcall.mono ?_)
  rintro e w2 ⟨rfl, hx2, hw2⟩
  have HX2 := Aside0.mk (show w2.heap[w1.heap.size]? = some (.cells #[.int .u64 (mixFs 14695981039346656037 (headF x))] 124 (0, 0)) by rw [← HFS.out]; exact hx2)
  have HB2 := Aside0.mk (show Below w1.heap.size w1 w2 from Below.grown ((((Below.refl _ _).alloc (Nat.le_refl _) _).alloc (by simp) _)) hw2 (by simp; omega) (fun k e => by injection e with e; omega))
  have HBW := Aside0.mk (below_step HB1.out HB2.out)
  have HXG := Aside0.mk (blk_below HX.out HB2.out)
  have hc4' : w2.cell? ⟨gx, 4, none⟩ = some (.slice A4 x.f4.length c4) := (blk_cell HXG.out 4).trans rfl
  have HGL := Aside0.mk (show gx < w1.heap.size from blk_lt HX.out)
  have HGS := Aside0.mk (show w.heap.size ≤ w1.heap.size from HB1.out.size)
  obtain ⟨m0, hm0⟩ : ∃ m0, m0 = mixFs 14695981039346656037 (headF x) := ⟨_, rfl⟩
  rw [← hm0] at HX2
  have HM0 := Aside0.mk (show tmplI x = x.f4.foldl (fun h l => mixFs h (labF l)) m0 by rw [hm0]; rfl)
  clear hm0
  generalize w1.heap.size = gs at HX2 HGL HGS hgx ⊢
  clear hx2 hw2 hcall HCF HSF HFS HL6 hc17 hc16 hc16' hc18 hc19 hc4 HX HB2 HB1 hgx
  go_wp2
  clear hc4'
  go_loopw [32] (fun i wr => ∃ k : Nat, k ≤ x.f4.length ∧ i = .int .i64 k ∧ Aside0 (wr.heap[gs]? = some (.cells #[.int .u64 ((x.f4.take k).foldl (fun h l => mixFs h (labF l)) m0)] 124 (0, 0))) ∧ Aside0 (Below w.heap.size w wr)) (fun i _ => x.f4.length - (intOf i).toNat)
  case atStart => exact ⟨0, Nat.zero_le _, rfl, ⟨by rw [List.take_zero]; exact HX2.out⟩, HBW⟩
  case round =>
    obtain ⟨k, hk, rfl, HX, HB⟩ := hrel
    by_cases hlt : k < x.f4.length
    · obtain ⟨ad, e, hx0, hx1⟩ := at_T31 (Kd.C_below HR.out HB.out) (k : Int) (by omega) (by omega)
      cases e
      simp only [Int.toNat_natCast] at hx0 hx1
      have hrd : rd_T31 x.f4 (k : Int) = x.f4[k] := by simp [rd_T31, List.getD_eq_getElem?_getD, hlt]
      have HT := Aside0.mk (tmpl_take hlt m0)
      obtain ⟨m, hm⟩ : ∃ m, m = (x.f4.take k).foldl (fun h l => mixFs h (labF l)) m0 := ⟨_, rfl⟩
      rw [← hm] at HX HT
      clear hm
      have HSL := Aside0.mk (HK.out.2 _ (List.getElem_mem hlt))
      rw [hrd] at hx0 hx1
      clear hrd
      generalize x.f4[k] = y at hx0 hx1 HT HSL
      go_wp2_with (go_at_call 95; refine hold ?_)
      have HY := Aside0.mk (show shortF (labF y) by
        intro b hb
        simp only [labF, List.mem_cons, List.not_mem_nil, or_false, Fld.s.injEq] at hb
        rcases hb with rfl | rfl
        · exact HSL.out.1
        · exact HSL.out.2)
      have HCF := Aside0.mk (show kF.C ((wr.alloc (.cells #[.string y.f0, .string y.f1] 31)).alloc (.cells #[.iface 9 (.string y.f0), .iface 9 (.string y.f1)] 20)) (some ⟨wr.heap.size + 1, 0, none⟩) (labF y).length (labF y) from
        C_blk (h1 := encF_one) (t := 20) (by rw [← World.size_alloc wr (.cells #[.string y.f0, .string y.f1] 31)]; exact blk_new _ _) (by show 2 ≤ _; decide))
      have hcall := sum_fields.calls gs m (some ⟨wr.heap.size + 1, 0, none⟩) 2 (labF y) _ (blk_alloc (blk_alloc HX.out _) _) HCF.out (fun ad e => by injection e with e; rw [← e]; have := blk_lt HX.out; exact Nat.ne_of_gt (Nat.lt_succ_of_lt this)) HY.out
      refine Hold.intro (hcall.mono ?_)
      rintro e w3 ⟨rfl, hx3, hw3⟩
      have HX3 := Aside0.mk (show w3.heap[gs]? = some (.cells #[.int .u64 ((x.f4.take (k + 1)).foldl (fun h l => mixFs h (labF l)) m0)] 124 (0, 0)) by rw [HT.out]; exact hx3)
      have HB3 := Aside0.mk (show Below w.heap.size w w3 from Below.grown (below_alloc (below_alloc HB.out _) _) hw3 (by have := HB.out.size; simp; omega) (fun k e => by injection e with e; have := HGS.out; omega))
      clear hx3 hw3 hcall HCF HY hx0 hx1 HT HX HB
      go_wp2
      go_roundw
      case rel => exact ⟨k + 1, by omega, by simp, HX3, HB3⟩
      case measure => simp [intOf]; omega
    · obtain rfl : k = x.f4.length := by omega
      have hg0 : wr.cell? ⟨gs, 0, none⟩ = some (.int .u64 (tmplI x)) := by rw [HM0.out]; have := blk_cell HX.out 0; rw [List.take_length] at this; exact this
      go_wp2
      go_ret
      exact ⟨rfl, HB.out⟩
end Go.Proofs.Ytamjjeakkkdfhaa.G
end
section
namespace Go.Proofs
open Go.Shelf
def Try.lays137_ren : Go.Shelf.Ren := ⟨fun | 137 => 120 | 217 => 138 | 266 => 143 | n => n, fun | 9 => 9 | 5 => 5 | 3 => 3 | n => n, fun | n => n⟩
theorem Try.lays137 : Go.Proofs.Lays.n137 Try.prog Try.lays137_ren := {
  mixed := by kernel_rfl
  f137 := Try.func120.trans (congrArg some (by kernel_rfl))
  f217 := Try.func138.trans (congrArg some (by kernel_rfl))
  f266 := Try.func143.trans (congrArg some (by kernel_rfl))
  t3 := Try.underlying3
  a3 := Try.isAgg3
  z3 := Try.sizeOf3
  v3 := Try.zeroValue3
  t5 := Try.underlying5
  a5 := Try.isAgg5
  z5 := Try.sizeOf5
  v5 := Try.zeroValue5
  t9 := Try.underlying9
  a9 := Try.isAgg9
  z9 := Try.sizeOf9
  v9 := Try.zeroValue9 }
open Go.RowKit in
theorem Try.strings_IndexByte (s : ByteArray) (c : Int) (w : World) :
    Calls Try.prog 120 #[.string s, .int .u8 c] w fun e w' => e = .returned (.int .i64 (Lib.indexByte s.data.toList c.toNat.toUInt8)) ∧ w' = w := Any.strings_IndexByte Try.lays137 s c w
end Go.Proofs
end
section
namespace Go.Proofs.Ytamjjeakkkdfhaa.G
open Go.RowKit Go.Proofs.YtamjjeakkkdfhaaW.PrintWords Go.Proofs.YtamjjeakkkdfhaaW.PrintLast Go.Proofs.YtamjjeakkkdfhaaW.PrintMore
open Go.Proofs.Ytamjjeakkkdfhaa.K Go.Proofs.YtamjjeakkkdfhaaE
set_option linter.unusedVariables false
set_option linter.unusedSimpArgs false
set_option maxRecDepth 100000 in
set_option maxHeartbeats 2000000 in
theorem digest_Of.calls (A : Option Addr) (n c : Nat) (bs : List Int) (w : World) (hr : ReadsInt w .u8 A n bs) (hlt : ∀ ad, A = some ad → ad.block < w.heap.size) (hb : bytesIn bs) :
    Calls Try.prog 93 #[.slice A n c] w fun e w' => e = .returned (.int .u64 (mixL 14695981039346656037 bs)) ∧ Below w.heap.size w w' := by
  have HR := Aside0.mk hr
  have HL := Aside0.mk hlt
  have HI := Aside0.mk hb
  clear hr hlt hb
  go_enter Try.func93, Try.ntmps93
  go_wp2_with (go_at_call 121; refine hold ?_)
  refine Hold.intro ((sum_bytes.calls w.heap.size _ A n c bs _ (blk_new w _) (ReadsInt.allocS HR.out _) (fun ad e => Nat.ne_of_lt (HL.out ad e)) HI.out).mono ?_)
  rintro e w1 ⟨rfl, hx, hw⟩
  have HX := Aside0.mk hx
  have HB := Aside0.mk (show Below w.heap.size w w1 from Below.grown (below_alloc (Below.refl _ _) _) hw (by simp) (fun k e => by injection e with e; omega))
  obtain ⟨m, hm⟩ : ∃ m, m = mixL 14695981039346656037 bs := ⟨_, rfl⟩
  have HM := Aside0.mk (show Ending.returned (.int .u64 m) = Ending.returned (.int .u64 (mixL 14695981039346656037 bs)) by rw [hm])
  have hc : w1.cell? ⟨w.heap.size, 0, none⟩ = some (.int .u64 m) := by rw [hm]; exact blk_cell HX.out 0
  clear hx hw HX hm
  go_wp2
  go_ret
  exact ⟨HM.out, HB.out⟩
def letters : ByteArray := ⟨#[97, 98, 99, 100, 101, 102, 103, 104, 105, 106, 107, 108, 109, 110, 111, 112, 113, 114, 115, 116, 117, 118, 119, 120, 121, 122, 50, 51, 52, 53, 54, 55]⟩
def ltr (h : Int) (k : Nat) : Int := bits .and .u64 (h / 2 ^ (5 * k)) 31
theorem ltr_range {h : Int} (h0 : 0 ≤ h) (h1 : h ≤ 18446744073709551615) (k : Nat) : 0 ≤ ltr h k ∧ ltr h k < 32 := by
  have hp : (0 : Int) < 2 ^ (5 * k) := Int.pow_pos (by decide)
  have ha : 0 ≤ h / 2 ^ (5 * k) := Int.ediv_nonneg h0 (Int.le_of_lt hp)
  have hb : h / 2 ^ (5 * k) ≤ h := Int.ediv_le_self _ h0
  unfold ltr
  rw [u64_and _ _ ha (by omega) (by decide) (by decide)]
  have := Nat.and_le_right (n := (h / 2 ^ (5 * k)).toNat) (m := (31 : Int).toNat)
  have e : (31 : Int).toNat = 31 := rfl
  omega
def textC (h : Int) (k : Nat) : List Int := (List.range 13).map fun j => if 12 - j < k then bt letters (ltr h (12 - j)) else 0
theorem textC_len (h : Int) (k : Nat) : (textC h k).length = 13 := by simp [textC]
theorem textC_set (h : Int) (k : Nat) (hk : k < 13) : (textC h k).set (12 - k) (bt letters (ltr h k)) = textC h (k + 1) := by
  apply List.ext_getElem
  · simp [textC]
  · intro j h1 h2
    simp only [textC, List.getElem_set, List.getElem_map, List.getElem_range]
    simp [textC] at h2
    by_cases e : 12 - k = j
    · subst e
      rw [if_pos rfl, show 12 - (12 - k) = k by omega, if_pos (by omega)]
    · rw [if_neg e]
      by_cases hj : 12 - j < k
      · rw [if_pos hj, if_pos (by omega)]
      · rw [if_neg hj, if_neg (by omega)]
def textA (h : Int) (k : Nat) : Array Value := ((textC h k).map (Value.int .u8)).toArray
theorem textA_set (h : Int) (k : Nat) (hk : k < 13) : (textA h k).setIfInBounds (12 - k) (.int .u8 (bt letters (ltr h k))) = textA h (k + 1) := by
  unfold textA
  rw [List.setIfInBounds_toArray, ← List.map_set, textC_set h k hk]
theorem textA_size (h : Int) (k : Nat) : (textA h k).size = 13 := by simp [textA, textC]
def textS (h : Int) : ByteArray := strOfNums (textC h 13)
set_option maxRecDepth 100000 in
set_option maxHeartbeats 2000000 in
theorem digest_Text.calls (h : Int) (w : World) (h0 : 0 ≤ h) (h1 : h ≤ 18446744073709551615) :
    Calls Try.prog 94 #[.int .u64 h] w fun e w' => e = .returned (.string (textS h)) ∧ Below w.heap.size w w' := by
  go_enter Try.func94, Try.ntmps94
  go_wp2
  go_loopw [5] (fun i wr => ∃ k : Nat, k ≤ 13 ∧ i = .int .i64 k ∧ Aside0 (wr.heap[w.heap.size]? = some (.cells (textA h k) 165 (0, 0))) ∧ Aside0 (Below w.heap.size w wr)) (fun i _ => 13 - (intOf i).toNat)
  case atStart => exact ⟨0, Nat.zero_le _, rfl, ⟨blk_new _ _⟩, ⟨below_alloc (Below.refl _ _) _⟩⟩
  case round =>
    obtain ⟨k, hk, rfl, HX, HB⟩ := hrel
    by_cases hlt : k < 13
    · obtain ⟨hj0, hj1⟩ := ltr_range h0 h1 k
      go_wp2_with ((with_reducible refine gate_dst (N := 15) rfl ?_); refine hold ?_)
      refine Hold.intro ?_
      rw [show bits BinOp.and IntKind.u64 (h / 2 ^ (5 * k)) 31 = ltr h k from rfl]
      have hbt := bt_at letters
      unfold letters at hbt
      have hsz : (⟨#[97, 98, 99, 100, 101, 102, 103, 104, 105, 106, 107, 108, 109, 110, 111, 112, 113, 114, 115, 116, 117, 118, 119, 120, 121, 122, 50, 51, 52, 53, 54, 55]⟩ : ByteArray).size = 32 := rfl
      go_wp2_with ((with_reducible refine gate_store (t := 5) (p := 16) rfl ?_); refine hold ?_)
      clear hbt hsz
      refine Hold.intro (cell_store_event (t := 5) (ty := 165) (p := 16) (g := w.heap.size) (j := 12 - k) (cs := textA h k) (v := .int .u8 (bt letters (ltr h k))) rfl rfl rfl rfl rfl (by kernel_rfl) HX.out (by rw [textA_size]; omega) rfl rfl ?_)
      intro w1 hbox hg
      have HX1 := Aside0.mk (show w1.heap[w.heap.size]? = some (.cells (textA h (k + 1)) 165 (0, 0)) by rw [← textA_set h k hlt]; exact hbox)
      have HB1 := Aside0.mk (Below.grown HB.out hg HB.out.size (fun k e => by injection e with e; omega))
      clear hbox hg HX HB
      go_wp2
      go_roundw
      case rel => exact ⟨k + 1, by omega, by simp, HX1, HB1⟩
      case measure => simp [intOf]; omega
    · obtain rfl : k = 13 := by omega
      have hr : ReadsInt wr .u8 (some ⟨w.heap.size, 0, none⟩) 13 (textC h 13) := ⟨textC_len h 13, by decide, fun _ => ⟨_, rfl, fun j hj => by
        rw [add_plain, blk_cell HX.out j]
        simp [textA, List.getD_eq_getElem?_getD, textC, hj]⟩⟩
      have hs := fun (c : Nat) => string_of_reads (P := Try.prog) (src := 122) (dst := 9) (c := c) Try.underlying122 Try.underlying5 Try.underlying9 hr
      have hT : Ending.returned (.string (strOfNums (textC h 13))) = Ending.returned (.string (textS h)) := rfl
      have HT := Aside0.mk hT
      clear hr hT
      go_wp2
      go_ret
      exact ⟨HT.out, HB.out⟩
def dig (s : ByteArray) (i : Nat) : Int := Lib.indexByte letters.data.toList (bt s i).toNat.toUInt8
def parseH (s : ByteArray) : Nat → Int | 0 => 0 | k + 1 => bits .or .u64 (IntKind.u64.wrap (parseH s k * 32)) (dig s k)
set_option maxRecDepth 100000 in
set_option maxHeartbeats 2000000 in
theorem digest_Parse.calls (s : ByteArray) (w : World) (hs : s.size = 13) (hd : ∀ i, i < 13 → 0 ≤ dig s i ∧ dig s i < 32) (hd0 : dig s 0 ≤ 15) :
    Calls Try.prog 92 #[.string s] w fun e w' => e = .returned (.tuple #[.int .u64 (parseH s 13), .nilIface]) ∧ w' = w := by
  have HD := Aside0.mk hd
  have HD0 := Aside0.mk hd0
  have hbt := bt_at s
  have hsz : (s.size : Int) = 13 := by omega
  have hn : s.data.size = 13 := hs
  clear hd hd0
  go_enter Try.func92, Try.ntmps92
  go_wp2
  go_loop [4, 13] (fun h i => ∃ k : Nat, k ≤ 13 ∧ i = .int .i64 k ∧ h = .int .u64 (parseH s k)) (fun _ i => 13 - (intOf i).toNat)
  case atStart => exact ⟨0, Nat.zero_le _, rfl, rfl⟩
  case round =>
    obtain ⟨k, hk, rfl, rfl⟩ := hrel
    by_cases hlt : k < 13
    · obtain ⟨hj0, hj1⟩ := HD.out k hlt
      have HP := Aside0.mk (show parseH s (k + 1) = bits .or .u64 (IntKind.u64.wrap (parseH s k * 32)) (dig s k) from rfl)
      have HK0 := Aside0.mk (show k = 0 → dig s k ≤ 15 from fun e => by rw [e]; exact HD0.out)
      go_wp2_with (go_at_call 120; refine hold ?_)
      rw [show ((s[k].toNat : Nat) : Int) = bt s k by have := bt_at s (k : Int) (by rw [Int.toNat_natCast]; omega); simpa using this]
      refine Hold.intro ((Try.strings_IndexByte letters (bt s k) w).mono ?_)
      rintro e w' ⟨rfl, rfl⟩
      rw [show Lib.indexByte letters.data.toList (bt s k).toNat.toUInt8 = dig s k from rfl]
      generalize dig s k = d at hj0 hj1 HP HK0 ⊢
      by_cases hk0 : k = 0
      · have hd15 := HK0.out hk0
        subst hk0
        go_wp2
        go_round
        case rel => exact ⟨1, by omega, by simp, by rw [HP.out]⟩
        case measure => simp [intOf]
      · have hk1 : ((k : Int) == 0) = false := by simp; omega
        go_wp2
        go_round
        case rel => exact ⟨k + 1, by omega, by simp, by rw [HP.out]⟩
        case measure => simp [intOf]; omega
    · obtain rfl : k = 13 := by omega
      go_wp2
      go_ret2
      exact ⟨rfl, rfl⟩
def sB : ByteArray := ⟨#[97, 97, 97, 97, 97, 97, 97, 97, 97, 97, 97, 97, 98]⟩
theorem sB_dig : ∀ i, i < 13 → 0 ≤ dig sB i ∧ dig sB i < 32 := by
  have h : (List.range 13).all (fun i => decide (0 ≤ dig sB i ∧ dig sB i < 32)) = true := by kernel_rfl
  intro i hi
  have := List.all_eq_true.1 h i (by simpa using hi)
  simpa using this
theorem sB_dig0 : dig sB 0 ≤ 15 := of_decide_eq_true (by kernel_rfl)
theorem sB_parse : parseH sB 13 = 1 := by kernel_rfl
theorem sB_text : textS 1 = sB := by kernel_rfl
theorem foobar : mixL 14695981039346656037 [102, 111, 111, 98, 97, 114] = 9625390261332436968 := by kernel_rfl
theorem fb_in : bytesIn [102, 111, 111, 98, 97, 114] := by
  intro i h0 h1
  have h : ([102, 111, 111, 98, 97, 114] : List Int).all (fun x => decide (0 ≤ x ∧ x ≤ 255)) = true := by kernel_rfl
  have hm : rd [102, 111, 111, 98, 97, 114] i ∈ ([102, 111, 111, 98, 97, 114] : List Int) := by
    unfold rd
    rw [List.getD_eq_getElem?_getD, List.getElem?_eq_getElem (by simp at h1 ⊢; omega)]
    exact List.getElem_mem _
  simpa using List.all_eq_true.1 h _ hm
theorem parse_B (w : World) : Calls Try.prog 92 #[.string sB] w fun e w' => e = .returned (.tuple #[.int .u64 1, .nilIface]) ∧ w' = w := by
  have := digest_Parse.calls sB w rfl sB_dig sB_dig0
  rw [sB_parse] at this; exact this
theorem text_1 (w : World) : Calls Try.prog 94 #[.int .u64 1] w fun e w' => e = .returned (.string sB) ∧ Below w.heap.size w w' := by
  have := digest_Text.calls 1 w (by decide) (by decide)
  rw [sB_text] at this; exact this
theorem of_foobar (g : Nat) (t : TypeId) (w : World) (h : w.heap[g]? = some (.cells #[.int .u8 102, .int .u8 111, .int .u8 111, .int .u8 98, .int .u8 97, .int .u8 114] t (6, 7))) : Calls Try.prog 93 #[.slice (some ⟨g, 0, none⟩) 6 6] w fun e w' => e = .returned (.int .u64 9625390261332436968) ∧ Below w.heap.size w w' := by
  have hr : ReadsInt w .u8 (some ⟨g, 0, none⟩) 6 [102, 111, 111, 98, 97, 114] := ⟨rfl, by decide, fun _ => ⟨_, rfl, fun j hj => by
    rw [add_plain, cell_of_row w g j _ t (6, 7) h]
    match j, hj with
    | 0, _ => rfl
    | 1, _ => rfl
    | 2, _ => rfl
    | 3, _ => rfl
    | 4, _ => rfl
    | 5, _ => rfl⟩⟩
  have := digest_Of.calls (some ⟨g, 0, none⟩) 6 6 _ w hr (fun ad e => by injection e with e; rw [← e]; exact (Array.getElem?_eq_some_iff.1 h).1) fb_in
  rw [foobar] at this; exact this
set_option maxRecDepth 100000 in
set_option maxHeartbeats 2000000 in
theorem works05.calls (w : World) : Calls Try.prog 43 #[] w fun e w' => e = .returned (.bool true) ∧ Below w.heap.size w w' := by
  have kc := fun (w : World) (C : Array Value) (n c : Nat) => Lib.run_convert_bytes_const (P := Try.prog) w 122 5 C n c Try.underlying122 Try.underlying5
  go_enter Try.func43, Try.ntmps43
  go_wp2_with (go_at_call 92; refine hold ?_)
  refine Hold.intro ((parse_B w).mono ?_)
  rintro e w' ⟨rfl, rfl⟩
  go_wp2_with (go_at_call 93; refine hold ?_)
  refine Hold.intro ((of_foobar _ _ _ (blk_new _ _)).mono ?_)
  rintro e w2 ⟨rfl, hb⟩
  have HB := Aside0.mk (below_then (below_alloc (Below.refl _ w') _) (by simp) hb)
  clear hb
  go_wp2_with (go_at_call 94; refine hold ?_)
  refine Hold.intro ((text_1 _).mono ?_)
  rintro e w3 ⟨rfl, hb⟩
  have HB2 := Aside0.mk (below_step HB.out hb)
  have hsb : sB.toList = [97, 97, 97, 97, 97, 97, 97, 97, 97, 97, 97, 97, 98] := by kernel_rfl
  clear hb HB
  go_wp2
  go_ret
  exact ⟨rfl, HB2.out⟩
end Go.Proofs.Ytamjjeakkkdfhaa.G
end
section
namespace Go.Proofs.Ytamjjeakkkdfhaa.PB
open Go.RowKit Go.Proofs.YtamjjeakkkdfhaaW.PrintWords Go.Proofs.YtamjjeakkkdfhaaW.PrintLast Go.Proofs.YtamjjeakkkdfhaaW.PrintMore
open Go.Proofs.Ytamjjeakkkdfhaa.K Go.Proofs.Ytamjjeakkkdfhaa.G Go.Proofs.YtamjjeakkkdfhaaE
attribute [local go_sem] max2_int min2_int max_two min_two max_three min_three max_four min_four
set_option linter.unusedVariables false
set_option linter.unusedSimpArgs false
mutual
def flotillalaw05_long.j0 : Nat → Bool → Int → ByteArray → Int → Int → List (S31) → Int → Int → Bool → Bool → Bool → Int → ByteArray → ByteArray → ByteArray → Int → Bool → Bool → Int → Int → ByteArray → Int → Int → Int → Int → Int → Bool → Int → List (S31) → Int → ByteArray → Int → Int → Option (Bool)
  | 0, _, _, _, _, _, _, _, _, _, _, _, _, _, _, _, _, _, _, _, _, _, _, _, _, _, _, _, _, _, _, _, _, _ => none
  | k + 1, x13, x312000, x312001, x312002, x312003, x312004, x312005, x312006, x312007, x312008, x312009, x312010, x312011, x312012, x312013, x312014, x312015, x312016, x312017, x312018, x312019, x312020, x312021, x312022, x312023, x312024, x312025, x312026, x312027, x312028, x312029, x312030, x312031 => if x13 = true then (some true) else (flotillalaw05_long.l0 k 0 x312000 x312001 x312002 x312003 x312004 x312005 x312006 x312007 x312008 x312009 x312010 x312011 x312012 x312013 x312014 x312015 x312016 x312017 x312018 x312019 x312020 x312021 x312022 x312023 x312024 x312025 x312026 x312027 x312028 x312029 x312030 x312031)
def flotillalaw05_long.l0 : Nat → Int → Int → ByteArray → Int → Int → List (S31) → Int → Int → Bool → Bool → Bool → Int → ByteArray → ByteArray → ByteArray → Int → Bool → Bool → Int → Int → ByteArray → Int → Int → Int → Int → Int → Bool → Int → List (S31) → Int → ByteArray → Int → Int → Option (Bool)
  | 0, _, _, _, _, _, _, _, _, _, _, _, _, _, _, _, _, _, _, _, _, _, _, _, _, _, _, _, _, _, _, _, _, _ => none
  | k + 1, x3, x312000, x312001, x312002, x312003, x312004, x312005, x312006, x312007, x312008, x312009, x312010, x312011, x312012, x312013, x312014, x312015, x312016, x312017, x312018, x312019, x312020, x312021, x312022, x312023, x312024, x312025, x312026, x312027, x312028, x312029, x312030, x312031 => if x3 < (x312004.length : Int) then (if 0 ≤ x3 then (if (((rd_T31 x312004 x3).f0).size : Int) > 65536 then (some true) else (if (((rd_T31 x312004 x3).f1).size : Int) > 65536 then (some true) else (flotillalaw05_long.l0 k (wrap64 (x3 + 1)) x312000 x312001 x312002 x312003 x312004 x312005 x312006 x312007 x312008 x312009 x312010 x312011 x312012 x312013 x312014 x312015 x312016 x312017 x312018 x312019 x312020 x312021 x312022 x312023 x312024 x312025 x312026 x312027 x312028 x312029 x312030 x312031))) else (none)) else (some false)
end
def flotillalaw05_long.f (k : Nat) (a0_0 : Int) (a0_1 : ByteArray) (a0_2 : Int) (a0_3 : Int) (l0_4 : List (S31)) (a0_5 : Int) (a0_6 : Int) (a0_7 : Bool) (a0_8 : Bool) (a0_9 : Bool) (a0_10 : Int) (a0_11 : ByteArray) (a0_12 : ByteArray) (a0_13 : ByteArray) (a0_14 : Int) (a0_15 : Bool) (a0_16 : Bool) (a0_17 : Int) (a0_18 : Int) (a0_19 : ByteArray) (a0_20 : Int) (a0_21 : Int) (a0_22 : Int) (a0_23 : Int) (a0_24 : Int) (a0_25 : Bool) (a0_26 : Int) (l0_27 : List (S31)) (a0_28 : Int) (a0_29 : ByteArray) (a0_30 : Int) (a0_31 : Int) : Option (Bool) := if (a0_19.size : Int) > 65536 then (flotillalaw05_long.j0 k true a0_0 a0_1 a0_2 a0_3 l0_4 a0_5 a0_6 a0_7 a0_8 a0_9 a0_10 a0_11 a0_12 a0_13 a0_14 a0_15 a0_16 a0_17 a0_18 a0_19 a0_20 a0_21 a0_22 a0_23 a0_24 a0_25 a0_26 l0_27 a0_28 a0_29 a0_30 a0_31) else (flotillalaw05_long.j0 k (decide ((l0_4.length : Int) > 1024)) a0_0 a0_1 a0_2 a0_3 l0_4 a0_5 a0_6 a0_7 a0_8 a0_9 a0_10 a0_11 a0_12 a0_13 a0_14 a0_15 a0_16 a0_17 a0_18 a0_19 a0_20 a0_21 a0_22 a0_23 a0_24 a0_25 a0_26 l0_27 a0_28 a0_29 a0_30 a0_31)
set_option maxHeartbeats 8000000 in
set_option maxRecDepth 100000 in
theorem flotillalaw05_long.calls (k : Nat) (a0_0 : Int) (a0_1 : ByteArray) (a0_2 : Int) (a0_3 : Int) (A0_4 : Option Addr) (c0_4 : Nat) (l0_4 : List (S31)) (a0_5 : Int) (a0_6 : Int) (a0_7 : Bool) (a0_8 : Bool) (a0_9 : Bool) (a0_10 : Int) (a0_11 : ByteArray) (a0_12 : ByteArray) (a0_13 : ByteArray) (a0_14 : Int) (a0_15 : Bool) (a0_16 : Bool) (a0_17 : Int) (a0_18 : Int) (a0_19 : ByteArray) (a0_20 : Int) (a0_21 : Int) (a0_22 : Int) (a0_23 : Int) (a0_24 : Int) (a0_25 : Bool) (a0_26 : Int) (A0_27 : Option Addr) (c0_27 : Nat) (l0_27 : List (S31)) (a0_28 : Int) (a0_29 : ByteArray) (a0_30 : Int) (a0_31 : Int) (r : Bool) (w : World) (hr0_4 : Kd.C k31 w A0_4 l0_4.length l0_4) (hc0_4 : l0_4.length ≤ c0_4) (hr0_27 : Kd.C k31 w A0_27 l0_27.length l0_27) (hc0_27 : l0_27.length ≤ c0_27) (h : flotillalaw05_long.f k a0_0 a0_1 a0_2 a0_3 l0_4 a0_5 a0_6 a0_7 a0_8 a0_9 a0_10 a0_11 a0_12 a0_13 a0_14 a0_15 a0_16 a0_17 a0_18 a0_19 a0_20 a0_21 a0_22 a0_23 a0_24 a0_25 a0_26 l0_27 a0_28 a0_29 a0_30 a0_31 = some r) :
    Calls Try.prog 45 #[.agg #[.int .i64 a0_0, .string a0_1, .int .i64 a0_2, .int .i64 a0_3, .slice A0_4 l0_4.length c0_4, .int .i64 a0_5, .int .i64 a0_6, .bool a0_7, .bool a0_8, .bool a0_9, .int .i64 a0_10, .string a0_11, .string a0_12, .string a0_13, .int .i64 a0_14, .bool a0_15, .bool a0_16, .int .i64 a0_17, .int .i64 a0_18, .string a0_19, .int .i64 a0_20, .int .i64 a0_21, .int .i64 a0_22, .int .i64 a0_23, .int .i64 a0_24, .bool a0_25, .int .u64 a0_26, .slice A0_27 l0_27.length c0_27, .int .i64 a0_28, .string a0_29, .int .i64 a0_30, .int .i64 a0_31]] w fun e w' => e = .returned (.bool r) ∧ Below w.heap.size w w' := by
  have hu68 := Try.underlying68
  have HR0_4 := Aside0.mk hr0_4
  have HC0_4 := Aside0.mk hc0_4
  clear hr0_4 hc0_4
  have HR0_27 := Aside0.mk hr0_27
  have HC0_27 := Aside0.mk hc0_27
  clear hr0_27 hc0_27
  have HB := Aside0.mk (Below.refl w.heap.size w)
  have H : (if (a0_19.size : Int) > 65536 then (flotillalaw05_long.j0 k true a0_0 a0_1 a0_2 a0_3 l0_4 a0_5 a0_6 a0_7 a0_8 a0_9 a0_10 a0_11 a0_12 a0_13 a0_14 a0_15 a0_16 a0_17 a0_18 a0_19 a0_20 a0_21 a0_22 a0_23 a0_24 a0_25 a0_26 l0_27 a0_28 a0_29 a0_30 a0_31) else (flotillalaw05_long.j0 k (decide ((l0_4.length : Int) > 1024)) a0_0 a0_1 a0_2 a0_3 l0_4 a0_5 a0_6 a0_7 a0_8 a0_9 a0_10 a0_11 a0_12 a0_13 a0_14 a0_15 a0_16 a0_17 a0_18 a0_19 a0_20 a0_21 a0_22 a0_23 a0_24 a0_25 a0_26 l0_27 a0_28 a0_29 a0_30 a0_31)) = some r := h
  clear h
  have HC2 := Aside0.mk H
  clear H
  go_enter Try.func45, Try.ntmps45
  go_upto_region 1 with (first | ((with_reducible refine gate_dst (N := 1) rfl ?_); (try (refine gate_guard (by rfl) ?_; dsimp only)); refine box_event ?hg (N := 1) ?hd (cs := #[.int .i64 a0_0, .string a0_1, .int .i64 a0_2, .int .i64 a0_3, .slice A0_4 l0_4.length c0_4, .int .i64 a0_5, .int .i64 a0_6, .bool a0_7, .bool a0_8, .bool a0_9, .int .i64 a0_10, .string a0_11, .string a0_12, .string a0_13, .int .i64 a0_14, .bool a0_15, .bool a0_16, .int .i64 a0_17, .int .i64 a0_18, .string a0_19, .int .i64 a0_20, .int .i64 a0_21, .int .i64 a0_22, .int .i64 a0_23, .int .i64 a0_24, .bool a0_25, .int .u64 a0_26, .slice A0_27 l0_27.length c0_27, .int .i64 a0_28, .string a0_29, .int .i64 a0_30, .int .i64 a0_31]) (t := 68) ?hr ?_; (case hd => rfl); (case hg => rfl); (case hr => first | (go_simp; done) | (go_simp; rfl)); intro gb311 hg w3 hbox hb; have n0_ := Aside0.mk (below_step (by repeat (first | (with_reducible first | exact HB.out | apply below_alloc | apply pw_below_drewN | apply below_drew1) | exact HB.out)) hb); have n1_ := Aside0.mk (hbox); have n2_ := Aside0.mk ((by rw [hg]; exact (below_size (by repeat (first | (with_reducible first | exact HB.out | apply below_alloc | apply pw_below_drewN | apply below_drew1) | exact HB.out))) : w.heap.size ≤ gb311)); have n3_ := Aside0.mk ((by rw [hg]; exact (below_size (by repeat (first | (with_reducible first | exact HB.out | apply below_alloc | apply pw_below_drewN | apply below_drew1) | exact HB.out))) : w.heap.size ≤ gb311)); clear HB; have HB := n0_; have BK311 := n1_; have GW311 := n2_; have GE311 := n3_; clear n0_ n1_ n2_ n3_; clear hb hbox hg))
  (try simp only [Act.put, List.setIfInBounds_toArray, List.set_cons_zero, List.set_cons_succ])
  go_cut [13] (fun v13 wc => ∃ (kq : Nat) (x13_1 : Bool), v13 = .bool x13_1 ∧ Aside0 (flotillalaw05_long.j0 kq x13_1 a0_0 a0_1 a0_2 a0_3 l0_4 a0_5 a0_6 a0_7 a0_8 a0_9 a0_10 a0_11 a0_12 a0_13 a0_14 a0_15 a0_16 a0_17 a0_18 a0_19 a0_20 a0_21 a0_22 a0_23 a0_24 a0_25 a0_26 l0_27 a0_28 a0_29 a0_30 a0_31 = some r) ∧ Aside0 (kq ≤ k) ∧ Aside0 (wc.heap[gb311]? = some (.cells #[.int .i64 a0_0, .string a0_1, .int .i64 a0_2, .int .i64 a0_3, (.slice A0_4 l0_4.length c0_4), .int .i64 a0_5, .int .i64 a0_6, .bool a0_7, .bool a0_8, .bool a0_9, .int .i64 a0_10, .string a0_11, .string a0_12, .string a0_13, .int .i64 a0_14, .bool a0_15, .bool a0_16, .int .i64 a0_17, .int .i64 a0_18, .string a0_19, .int .i64 a0_20, .int .i64 a0_21, .int .i64 a0_22, .int .i64 a0_23, .int .i64 a0_24, .bool a0_25, .int .u64 a0_26, (.slice A0_27 l0_27.length c0_27), .int .i64 a0_28, .string a0_29, .int .i64 a0_30, .int .i64 a0_31] 68 (0, 0))) ∧ Aside0 (Below w.heap.size w wc))
  case first =>
    have H := HC2.out
    clear HC2
    by_cases c4 : (a0_19.size : Int) > 65536
    · rw [if_pos c4] at H
      have c4b0 : decide (65536 < (a0_19.size : Int)) = true := decide_eq_true c4
      have c4b1 : decide (65536 < a0_19.size) = true := decide_eq_true (by omega)
      clear c4
      (first | rw [c4b0] | (simp only [i64_w, i32_w]; rw [c4b0]) | skip)
      have H' := Aside0.mk H
      clear H
      have hcz5_0 : w3.cell? ⟨gb311, 0, none⟩ = some (.int .i64 a0_0) := (blk_cell BK311.out 0).trans rfl
      have hcz5_1 : w3.cell? ⟨gb311, 1, none⟩ = some (.string a0_1) := (blk_cell BK311.out 1).trans rfl
      have hcz5_2 : w3.cell? ⟨gb311, 2, none⟩ = some (.int .i64 a0_2) := (blk_cell BK311.out 2).trans rfl
      have hcz5_3 : w3.cell? ⟨gb311, 3, none⟩ = some (.int .i64 a0_3) := (blk_cell BK311.out 3).trans rfl
      have hcz5_4 : w3.cell? ⟨gb311, 4, none⟩ = some (.slice A0_4 l0_4.length c0_4) := (blk_cell BK311.out 4).trans rfl
      have hcz5_5 : w3.cell? ⟨gb311, 5, none⟩ = some (.int .i64 a0_5) := (blk_cell BK311.out 5).trans rfl
      have hcz5_6 : w3.cell? ⟨gb311, 6, none⟩ = some (.int .i64 a0_6) := (blk_cell BK311.out 6).trans rfl
      have hcz5_7 : w3.cell? ⟨gb311, 7, none⟩ = some (.bool a0_7) := (blk_cell BK311.out 7).trans rfl
      have hcz5_8 : w3.cell? ⟨gb311, 8, none⟩ = some (.bool a0_8) := (blk_cell BK311.out 8).trans rfl
      have hcz5_9 : w3.cell? ⟨gb311, 9, none⟩ = some (.bool a0_9) := (blk_cell BK311.out 9).trans rfl
      have hcz5_10 : w3.cell? ⟨gb311, 10, none⟩ = some (.int .i64 a0_10) := (blk_cell BK311.out 10).trans rfl
      have hcz5_11 : w3.cell? ⟨gb311, 11, none⟩ = some (.string a0_11) := (blk_cell BK311.out 11).trans rfl
      have hcz5_12 : w3.cell? ⟨gb311, 12, none⟩ = some (.string a0_12) := (blk_cell BK311.out 12).trans rfl
      have hcz5_13 : w3.cell? ⟨gb311, 13, none⟩ = some (.string a0_13) := (blk_cell BK311.out 13).trans rfl
      have hcz5_14 : w3.cell? ⟨gb311, 14, none⟩ = some (.int .i64 a0_14) := (blk_cell BK311.out 14).trans rfl
      have hcz5_15 : w3.cell? ⟨gb311, 15, none⟩ = some (.bool a0_15) := (blk_cell BK311.out 15).trans rfl
      have hcz5_16 : w3.cell? ⟨gb311, 16, none⟩ = some (.bool a0_16) := (blk_cell BK311.out 16).trans rfl
      have hcz5_17 : w3.cell? ⟨gb311, 17, none⟩ = some (.int .i64 a0_17) := (blk_cell BK311.out 17).trans rfl
      have hcz5_18 : w3.cell? ⟨gb311, 18, none⟩ = some (.int .i64 a0_18) := (blk_cell BK311.out 18).trans rfl
      have hcz5_19 : w3.cell? ⟨gb311, 19, none⟩ = some (.string a0_19) := (blk_cell BK311.out 19).trans rfl
      have hcz5_20 : w3.cell? ⟨gb311, 20, none⟩ = some (.int .i64 a0_20) := (blk_cell BK311.out 20).trans rfl
      have hcz5_21 : w3.cell? ⟨gb311, 21, none⟩ = some (.int .i64 a0_21) := (blk_cell BK311.out 21).trans rfl
      have hcz5_22 : w3.cell? ⟨gb311, 22, none⟩ = some (.int .i64 a0_22) := (blk_cell BK311.out 22).trans rfl
      have hcz5_23 : w3.cell? ⟨gb311, 23, none⟩ = some (.int .i64 a0_23) := (blk_cell BK311.out 23).trans rfl
      have hcz5_24 : w3.cell? ⟨gb311, 24, none⟩ = some (.int .i64 a0_24) := (blk_cell BK311.out 24).trans rfl
      have hcz5_25 : w3.cell? ⟨gb311, 25, none⟩ = some (.bool a0_25) := (blk_cell BK311.out 25).trans rfl
      have hcz5_26 : w3.cell? ⟨gb311, 26, none⟩ = some (.int .u64 a0_26) := (blk_cell BK311.out 26).trans rfl
      have hcz5_27 : w3.cell? ⟨gb311, 27, none⟩ = some (.slice A0_27 l0_27.length c0_27) := (blk_cell BK311.out 27).trans rfl
      have hcz5_28 : w3.cell? ⟨gb311, 28, none⟩ = some (.int .i64 a0_28) := (blk_cell BK311.out 28).trans rfl
      have hcz5_29 : w3.cell? ⟨gb311, 29, none⟩ = some (.string a0_29) := (blk_cell BK311.out 29).trans rfl
      have hcz5_30 : w3.cell? ⟨gb311, 30, none⟩ = some (.int .i64 a0_30) := (blk_cell BK311.out 30).trans rfl
      have hcz5_31 : w3.cell? ⟨gb311, 31, none⟩ = some (.int .i64 a0_31) := (blk_cell BK311.out 31).trans rfl
      have hfz5_0 := blk_frozen BK311.out 0
      have hfz5_1 := blk_frozen BK311.out 1
      have hfz5_2 := blk_frozen BK311.out 2
      have hfz5_3 := blk_frozen BK311.out 3
      have hfz5_4 := blk_frozen BK311.out 4
      have hfz5_5 := blk_frozen BK311.out 5
      have hfz5_6 := blk_frozen BK311.out 6
      have hfz5_7 := blk_frozen BK311.out 7
      have hfz5_8 := blk_frozen BK311.out 8
      have hfz5_9 := blk_frozen BK311.out 9
      have hfz5_10 := blk_frozen BK311.out 10
      have hfz5_11 := blk_frozen BK311.out 11
      have hfz5_12 := blk_frozen BK311.out 12
      have hfz5_13 := blk_frozen BK311.out 13
      have hfz5_14 := blk_frozen BK311.out 14
      have hfz5_15 := blk_frozen BK311.out 15
      have hfz5_16 := blk_frozen BK311.out 16
      have hfz5_17 := blk_frozen BK311.out 17
      have hfz5_18 := blk_frozen BK311.out 18
      have hfz5_19 := blk_frozen BK311.out 19
      have hfz5_20 := blk_frozen BK311.out 20
      have hfz5_21 := blk_frozen BK311.out 21
      have hfz5_22 := blk_frozen BK311.out 22
      have hfz5_23 := blk_frozen BK311.out 23
      have hfz5_24 := blk_frozen BK311.out 24
      have hfz5_25 := blk_frozen BK311.out 25
      have hfz5_26 := blk_frozen BK311.out 26
      have hfz5_27 := blk_frozen BK311.out 27
      have hfz5_28 := blk_frozen BK311.out 28
      have hfz5_29 := blk_frozen BK311.out 29
      have hfz5_30 := blk_frozen BK311.out 30
      have hfz5_31 := blk_frozen BK311.out 31
      go_wp2
      go_meet
      case rel => exact ⟨_, (true), (by first | rfl | (simp; done) | (simp [*]; done)), H', ⟨by first | omega | exact Nat.le_refl _⟩, ⟨by (with_reducible repeat (first | refine blk_drewN ?_ _ | refine blk_drew ?_ | refine blk_alloc ?_ _)); exact BK311.out⟩, ⟨by repeat (first | (with_reducible first | exact HB.out | apply below_alloc | apply pw_below_drewN | apply below_drew1 | refine below_set ?_ GE311.out) | exact HB.out)⟩⟩
    · rw [if_neg c4] at H
      have c4b0 : decide (65536 < (a0_19.size : Int)) = false := decide_eq_false c4
      have c4b1 : decide (65536 < a0_19.size) = false := decide_eq_false (by omega)
      clear c4
      (first | rw [c4b0] | (simp only [i64_w, i32_w]; rw [c4b0]) | skip)
      have H' := Aside0.mk H
      clear H
      have hcz6_0 : w3.cell? ⟨gb311, 0, none⟩ = some (.int .i64 a0_0) := (blk_cell BK311.out 0).trans rfl
      have hcz6_1 : w3.cell? ⟨gb311, 1, none⟩ = some (.string a0_1) := (blk_cell BK311.out 1).trans rfl
      have hcz6_2 : w3.cell? ⟨gb311, 2, none⟩ = some (.int .i64 a0_2) := (blk_cell BK311.out 2).trans rfl
      have hcz6_3 : w3.cell? ⟨gb311, 3, none⟩ = some (.int .i64 a0_3) := (blk_cell BK311.out 3).trans rfl
      have hcz6_4 : w3.cell? ⟨gb311, 4, none⟩ = some (.slice A0_4 l0_4.length c0_4) := (blk_cell BK311.out 4).trans rfl
      have hcz6_5 : w3.cell? ⟨gb311, 5, none⟩ = some (.int .i64 a0_5) := (blk_cell BK311.out 5).trans rfl
      have hcz6_6 : w3.cell? ⟨gb311, 6, none⟩ = some (.int .i64 a0_6) := (blk_cell BK311.out 6).trans rfl
      have hcz6_7 : w3.cell? ⟨gb311, 7, none⟩ = some (.bool a0_7) := (blk_cell BK311.out 7).trans rfl
      have hcz6_8 : w3.cell? ⟨gb311, 8, none⟩ = some (.bool a0_8) := (blk_cell BK311.out 8).trans rfl
      have hcz6_9 : w3.cell? ⟨gb311, 9, none⟩ = some (.bool a0_9) := (blk_cell BK311.out 9).trans rfl
      have hcz6_10 : w3.cell? ⟨gb311, 10, none⟩ = some (.int .i64 a0_10) := (blk_cell BK311.out 10).trans rfl
      have hcz6_11 : w3.cell? ⟨gb311, 11, none⟩ = some (.string a0_11) := (blk_cell BK311.out 11).trans rfl
      have hcz6_12 : w3.cell? ⟨gb311, 12, none⟩ = some (.string a0_12) := (blk_cell BK311.out 12).trans rfl
      have hcz6_13 : w3.cell? ⟨gb311, 13, none⟩ = some (.string a0_13) := (blk_cell BK311.out 13).trans rfl
      have hcz6_14 : w3.cell? ⟨gb311, 14, none⟩ = some (.int .i64 a0_14) := (blk_cell BK311.out 14).trans rfl
      have hcz6_15 : w3.cell? ⟨gb311, 15, none⟩ = some (.bool a0_15) := (blk_cell BK311.out 15).trans rfl
      have hcz6_16 : w3.cell? ⟨gb311, 16, none⟩ = some (.bool a0_16) := (blk_cell BK311.out 16).trans rfl
      have hcz6_17 : w3.cell? ⟨gb311, 17, none⟩ = some (.int .i64 a0_17) := (blk_cell BK311.out 17).trans rfl
      have hcz6_18 : w3.cell? ⟨gb311, 18, none⟩ = some (.int .i64 a0_18) := (blk_cell BK311.out 18).trans rfl
      have hcz6_19 : w3.cell? ⟨gb311, 19, none⟩ = some (.string a0_19) := (blk_cell BK311.out 19).trans rfl
      have hcz6_20 : w3.cell? ⟨gb311, 20, none⟩ = some (.int .i64 a0_20) := (blk_cell BK311.out 20).trans rfl
      have hcz6_21 : w3.cell? ⟨gb311, 21, none⟩ = some (.int .i64 a0_21) := (blk_cell BK311.out 21).trans rfl
      have hcz6_22 : w3.cell? ⟨gb311, 22, none⟩ = some (.int .i64 a0_22) := (blk_cell BK311.out 22).trans rfl
      have hcz6_23 : w3.cell? ⟨gb311, 23, none⟩ = some (.int .i64 a0_23) := (blk_cell BK311.out 23).trans rfl
      have hcz6_24 : w3.cell? ⟨gb311, 24, none⟩ = some (.int .i64 a0_24) := (blk_cell BK311.out 24).trans rfl
      have hcz6_25 : w3.cell? ⟨gb311, 25, none⟩ = some (.bool a0_25) := (blk_cell BK311.out 25).trans rfl
      have hcz6_26 : w3.cell? ⟨gb311, 26, none⟩ = some (.int .u64 a0_26) := (blk_cell BK311.out 26).trans rfl
      have hcz6_27 : w3.cell? ⟨gb311, 27, none⟩ = some (.slice A0_27 l0_27.length c0_27) := (blk_cell BK311.out 27).trans rfl
      have hcz6_28 : w3.cell? ⟨gb311, 28, none⟩ = some (.int .i64 a0_28) := (blk_cell BK311.out 28).trans rfl
      have hcz6_29 : w3.cell? ⟨gb311, 29, none⟩ = some (.string a0_29) := (blk_cell BK311.out 29).trans rfl
      have hcz6_30 : w3.cell? ⟨gb311, 30, none⟩ = some (.int .i64 a0_30) := (blk_cell BK311.out 30).trans rfl
      have hcz6_31 : w3.cell? ⟨gb311, 31, none⟩ = some (.int .i64 a0_31) := (blk_cell BK311.out 31).trans rfl
      have hfz6_0 := blk_frozen BK311.out 0
      have hfz6_1 := blk_frozen BK311.out 1
      have hfz6_2 := blk_frozen BK311.out 2
      have hfz6_3 := blk_frozen BK311.out 3
      have hfz6_4 := blk_frozen BK311.out 4
      have hfz6_5 := blk_frozen BK311.out 5
      have hfz6_6 := blk_frozen BK311.out 6
      have hfz6_7 := blk_frozen BK311.out 7
      have hfz6_8 := blk_frozen BK311.out 8
      have hfz6_9 := blk_frozen BK311.out 9
      have hfz6_10 := blk_frozen BK311.out 10
      have hfz6_11 := blk_frozen BK311.out 11
      have hfz6_12 := blk_frozen BK311.out 12
      have hfz6_13 := blk_frozen BK311.out 13
      have hfz6_14 := blk_frozen BK311.out 14
      have hfz6_15 := blk_frozen BK311.out 15
      have hfz6_16 := blk_frozen BK311.out 16
      have hfz6_17 := blk_frozen BK311.out 17
      have hfz6_18 := blk_frozen BK311.out 18
      have hfz6_19 := blk_frozen BK311.out 19
      have hfz6_20 := blk_frozen BK311.out 20
      have hfz6_21 := blk_frozen BK311.out 21
      have hfz6_22 := blk_frozen BK311.out 22
      have hfz6_23 := blk_frozen BK311.out 23
      have hfz6_24 := blk_frozen BK311.out 24
      have hfz6_25 := blk_frozen BK311.out 25
      have hfz6_26 := blk_frozen BK311.out 26
      have hfz6_27 := blk_frozen BK311.out 27
      have hfz6_28 := blk_frozen BK311.out 28
      have hfz6_29 := blk_frozen BK311.out 29
      have hfz6_30 := blk_frozen BK311.out 30
      have hfz6_31 := blk_frozen BK311.out 31
      go_wp2
      go_meet
      case rel => exact ⟨_, (decide ((l0_4.length : Int) > 1024)), (by first | rfl | (simp; done) | (simp [*]; done)), H', ⟨by first | omega | exact Nat.le_refl _⟩, ⟨by (with_reducible repeat (first | refine blk_drewN ?_ _ | refine blk_drew ?_ | refine blk_alloc ?_ _)); exact BK311.out⟩, ⟨by repeat (first | (with_reducible first | exact HB.out | apply below_alloc | apply pw_below_drewN | apply below_drew1 | refine below_set ?_ GE311.out) | exact HB.out)⟩⟩
  case rest =>
    clear HC2
    try clear p2
    try clear c4
    try clear c4b0
    try clear c4b1
    try clear hcz5_0
    try clear hcz5_1
    try clear hcz5_10
    try clear hcz5_11
    try clear hcz5_12
    try clear hcz5_13
    try clear hcz5_14
    try clear hcz5_15
    try clear hcz5_16
    try clear hcz5_17
    try clear hcz5_18
    try clear hcz5_19
    try clear hcz5_2
    try clear hcz5_20
    try clear hcz5_21
    try clear hcz5_22
    try clear hcz5_23
    try clear hcz5_24
    try clear hcz5_25
    try clear hcz5_26
    try clear hcz5_27
    try clear hcz5_28
    try clear hcz5_29
    try clear hcz5_3
    try clear hcz5_30
    try clear hcz5_31
    try clear hcz5_4
    try clear hcz5_5
    try clear hcz5_6
    try clear hcz5_7
    try clear hcz5_8
    try clear hcz5_9
    try clear hcz6_0
    try clear hcz6_1
    try clear hcz6_10
    try clear hcz6_11
    try clear hcz6_12
    try clear hcz6_13
    try clear hcz6_14
    try clear hcz6_15
    try clear hcz6_16
    try clear hcz6_17
    try clear hcz6_18
    try clear hcz6_19
    try clear hcz6_2
    try clear hcz6_20
    try clear hcz6_21
    try clear hcz6_22
    try clear hcz6_23
    try clear hcz6_24
    try clear hcz6_25
    try clear hcz6_26
    try clear hcz6_27
    try clear hcz6_28
    try clear hcz6_29
    try clear hcz6_3
    try clear hcz6_30
    try clear hcz6_31
    try clear hcz6_4
    try clear hcz6_5
    try clear hcz6_6
    try clear hcz6_7
    try clear hcz6_8
    try clear hcz6_9
    try clear hfz5_0
    try clear hfz5_1
    try clear hfz5_10
    try clear hfz5_11
    try clear hfz5_12
    try clear hfz5_13
    try clear hfz5_14
    try clear hfz5_15
    try clear hfz5_16
    try clear hfz5_17
    try clear hfz5_18
    try clear hfz5_19
    try clear hfz5_2
    try clear hfz5_20
    try clear hfz5_21
    try clear hfz5_22
    try clear hfz5_23
    try clear hfz5_24
    try clear hfz5_25
    try clear hfz5_26
    try clear hfz5_27
    try clear hfz5_28
    try clear hfz5_29
    try clear hfz5_3
    try clear hfz5_30
    try clear hfz5_31
    try clear hfz5_4
    try clear hfz5_5
    try clear hfz5_6
    try clear hfz5_7
    try clear hfz5_8
    try clear hfz5_9
    try clear hfz6_0
    try clear hfz6_1
    try clear hfz6_10
    try clear hfz6_11
    try clear hfz6_12
    try clear hfz6_13
    try clear hfz6_14
    try clear hfz6_15
    try clear hfz6_16
    try clear hfz6_17
    try clear hfz6_18
    try clear hfz6_19
    try clear hfz6_2
    try clear hfz6_20
    try clear hfz6_21
    try clear hfz6_22
    try clear hfz6_23
    try clear hfz6_24
    try clear hfz6_25
    try clear hfz6_26
    try clear hfz6_27
    try clear hfz6_28
    try clear hfz6_29
    try clear hfz6_3
    try clear hfz6_30
    try clear hfz6_31
    try clear hfz6_4
    try clear hfz6_5
    try clear hfz6_6
    try clear hfz6_7
    try clear hfz6_8
    try clear hfz6_9
    obtain ⟨kq, x13_1, rfl, HA, HJ1, BK311, HB⟩ := hcut
    cases kq with
    | zero => exact absurd HA.out (by simp [flotillalaw05_long.j0])
    | succ kj1 =>
      have H := HA.out
      clear HA
      simp only [flotillalaw05_long.j0] at H
      by_cases c7 : x13_1 = true
      · subst c7
        have H1 : (some true) = some r := by rw [if_pos rfl] at H; exact H
        clear H
        have H := H1
        clear H1
        obtain rfl := Option.some.inj H
        go_wp2
        go_ret
        exact ⟨by first | rfl | (simp [errW_none, errW_some] <;> rfl) | (simp [*, errW_none, errW_some] <;> rfl), by repeat (first | (with_reducible first | exact HB.out | apply below_alloc | apply pw_below_drewN | apply below_drew1 | refine below_set ?_ GE311.out) | exact HB.out)⟩
      · replace c7 := Bool.eq_false_iff.mpr c7
        subst c7
        have H1 : (flotillalaw05_long.l0 kj1 0 a0_0 a0_1 a0_2 a0_3 l0_4 a0_5 a0_6 a0_7 a0_8 a0_9 a0_10 a0_11 a0_12 a0_13 a0_14 a0_15 a0_16 a0_17 a0_18 a0_19 a0_20 a0_21 a0_22 a0_23 a0_24 a0_25 a0_26 l0_27 a0_28 a0_29 a0_30 a0_31) = some r := by rw [if_neg (show ¬ (false = true) by decide)] at H; exact H
        clear H
        have H := H1
        clear H1
        have H' := Aside0.mk H
        clear H
        go_wp2
        go_loopg [3] kj1 (fun kq v3 w' => ∃ (x3_2 : Int), v3 = .int .i64 x3_2 ∧ Aside0 (flotillalaw05_long.l0 kq x3_2 a0_0 a0_1 a0_2 a0_3 l0_4 a0_5 a0_6 a0_7 a0_8 a0_9 a0_10 a0_11 a0_12 a0_13 a0_14 a0_15 a0_16 a0_17 a0_18 a0_19 a0_20 a0_21 a0_22 a0_23 a0_24 a0_25 a0_26 l0_27 a0_28 a0_29 a0_30 a0_31 = some r) ∧ Aside0 (kq ≤ kj1) ∧ Aside0 (w'.heap[gb311]? = some (.cells #[.int .i64 a0_0, .string a0_1, .int .i64 a0_2, .int .i64 a0_3, (.slice A0_4 l0_4.length c0_4), .int .i64 a0_5, .int .i64 a0_6, .bool a0_7, .bool a0_8, .bool a0_9, .int .i64 a0_10, .string a0_11, .string a0_12, .string a0_13, .int .i64 a0_14, .bool a0_15, .bool a0_16, .int .i64 a0_17, .int .i64 a0_18, .string a0_19, .int .i64 a0_20, .int .i64 a0_21, .int .i64 a0_22, .int .i64 a0_23, .int .i64 a0_24, .bool a0_25, .int .u64 a0_26, (.slice A0_27 l0_27.length c0_27), .int .i64 a0_28, .string a0_29, .int .i64 a0_30, .int .i64 a0_31] 68 (0, 0))) ∧ Aside0 (Below w.heap.size w w'))
        case atStart => exact ⟨(0), (by first | rfl | (simp; done) | (simp [*]; done)), H', ⟨Nat.le_refl _⟩, ⟨by (with_reducible repeat (first | refine blk_drewN ?_ _ | refine blk_drew ?_ | refine blk_alloc ?_ _)); exact BK311.out⟩, ⟨by repeat (first | (with_reducible first | exact HB.out | apply below_alloc | apply pw_below_drewN | apply below_drew1 | refine below_set ?_ GE311.out) | exact HB.out)⟩⟩
        case round =>
          clear H'
          try clear p2
          try clear c4
          try clear c4b0
          try clear c4b1
          try clear c7
          try clear hcz5_0
          try clear hcz5_1
          try clear hcz5_10
          try clear hcz5_11
          try clear hcz5_12
          try clear hcz5_13
          try clear hcz5_14
          try clear hcz5_15
          try clear hcz5_16
          try clear hcz5_17
          try clear hcz5_18
          try clear hcz5_19
          try clear hcz5_2
          try clear hcz5_20
          try clear hcz5_21
          try clear hcz5_22
          try clear hcz5_23
          try clear hcz5_24
          try clear hcz5_25
          try clear hcz5_26
          try clear hcz5_27
          try clear hcz5_28
          try clear hcz5_29
          try clear hcz5_3
          try clear hcz5_30
          try clear hcz5_31
          try clear hcz5_4
          try clear hcz5_5
          try clear hcz5_6
          try clear hcz5_7
          try clear hcz5_8
          try clear hcz5_9
          try clear hcz6_0
          try clear hcz6_1
          try clear hcz6_10
          try clear hcz6_11
          try clear hcz6_12
          try clear hcz6_13
          try clear hcz6_14
          try clear hcz6_15
          try clear hcz6_16
          try clear hcz6_17
          try clear hcz6_18
          try clear hcz6_19
          try clear hcz6_2
          try clear hcz6_20
          try clear hcz6_21
          try clear hcz6_22
          try clear hcz6_23
          try clear hcz6_24
          try clear hcz6_25
          try clear hcz6_26
          try clear hcz6_27
          try clear hcz6_28
          try clear hcz6_29
          try clear hcz6_3
          try clear hcz6_30
          try clear hcz6_31
          try clear hcz6_4
          try clear hcz6_5
          try clear hcz6_6
          try clear hcz6_7
          try clear hcz6_8
          try clear hcz6_9
          try clear hfz5_0
          try clear hfz5_1
          try clear hfz5_10
          try clear hfz5_11
          try clear hfz5_12
          try clear hfz5_13
          try clear hfz5_14
          try clear hfz5_15
          try clear hfz5_16
          try clear hfz5_17
          try clear hfz5_18
          try clear hfz5_19
          try clear hfz5_2
          try clear hfz5_20
          try clear hfz5_21
          try clear hfz5_22
          try clear hfz5_23
          try clear hfz5_24
          try clear hfz5_25
          try clear hfz5_26
          try clear hfz5_27
          try clear hfz5_28
          try clear hfz5_29
          try clear hfz5_3
          try clear hfz5_30
          try clear hfz5_31
          try clear hfz5_4
          try clear hfz5_5
          try clear hfz5_6
          try clear hfz5_7
          try clear hfz5_8
          try clear hfz5_9
          try clear hfz6_0
          try clear hfz6_1
          try clear hfz6_10
          try clear hfz6_11
          try clear hfz6_12
          try clear hfz6_13
          try clear hfz6_14
          try clear hfz6_15
          try clear hfz6_16
          try clear hfz6_17
          try clear hfz6_18
          try clear hfz6_19
          try clear hfz6_2
          try clear hfz6_20
          try clear hfz6_21
          try clear hfz6_22
          try clear hfz6_23
          try clear hfz6_24
          try clear hfz6_25
          try clear hfz6_26
          try clear hfz6_27
          try clear hfz6_28
          try clear hfz6_29
          try clear hfz6_3
          try clear hfz6_30
          try clear hfz6_31
          try clear hfz6_4
          try clear hfz6_5
          try clear hfz6_6
          try clear hfz6_7
          try clear hfz6_8
          try clear hfz6_9
          try clear p2
          obtain ⟨x3_2, rfl, HA, HK2, BK311, HB⟩ := hrel
          cases gk with
          | zero => exact absurd HA.out (by simp [flotillalaw05_long.l0])
          | succ k2 =>
            have H := HA.out
            clear HA
            simp only [flotillalaw05_long.l0] at H
            by_cases c8 : x3_2 < (l0_4.length : Int)
            · rw [if_pos c8] at H
              have c8b0 : decide (x3_2 < (l0_4.length : Int)) = true := decide_eq_true c8
              clear c8
              by_cases c9 : 0 ≤ x3_2
              · rw [if_pos c9] at H
                have c9b0 : decide (0 ≤ x3_2) = true := decide_eq_true c9
                clear c9
                by_cases c10 : (((rd_T31 l0_4 x3_2).f0).size : Int) > 65536
                · rw [if_pos c10] at H
                  have c10b0 : decide (65536 < (((rd_T31 l0_4 x3_2).f0).size : Int)) = true := decide_eq_true c10
                  have c10b1 : decide (65536 < ((rd_T31 l0_4 x3_2).f0).size) = true := decide_eq_true (by omega)
                  clear c10
                  obtain rfl := Option.some.inj H
                  have hcz11_0 : wr.cell? ⟨gb311, 0, none⟩ = some (.int .i64 a0_0) := (blk_cell BK311.out 0).trans rfl
                  have hcz11_1 : wr.cell? ⟨gb311, 1, none⟩ = some (.string a0_1) := (blk_cell BK311.out 1).trans rfl
                  have hcz11_2 : wr.cell? ⟨gb311, 2, none⟩ = some (.int .i64 a0_2) := (blk_cell BK311.out 2).trans rfl
                  have hcz11_3 : wr.cell? ⟨gb311, 3, none⟩ = some (.int .i64 a0_3) := (blk_cell BK311.out 3).trans rfl
                  have hcz11_4 : wr.cell? ⟨gb311, 4, none⟩ = some (.slice A0_4 l0_4.length c0_4) := (blk_cell BK311.out 4).trans rfl
                  have hcz11_5 : wr.cell? ⟨gb311, 5, none⟩ = some (.int .i64 a0_5) := (blk_cell BK311.out 5).trans rfl
                  have hcz11_6 : wr.cell? ⟨gb311, 6, none⟩ = some (.int .i64 a0_6) := (blk_cell BK311.out 6).trans rfl
                  have hcz11_7 : wr.cell? ⟨gb311, 7, none⟩ = some (.bool a0_7) := (blk_cell BK311.out 7).trans rfl
                  have hcz11_8 : wr.cell? ⟨gb311, 8, none⟩ = some (.bool a0_8) := (blk_cell BK311.out 8).trans rfl
                  have hcz11_9 : wr.cell? ⟨gb311, 9, none⟩ = some (.bool a0_9) := (blk_cell BK311.out 9).trans rfl
                  have hcz11_10 : wr.cell? ⟨gb311, 10, none⟩ = some (.int .i64 a0_10) := (blk_cell BK311.out 10).trans rfl
                  have hcz11_11 : wr.cell? ⟨gb311, 11, none⟩ = some (.string a0_11) := (blk_cell BK311.out 11).trans rfl
                  have hcz11_12 : wr.cell? ⟨gb311, 12, none⟩ = some (.string a0_12) := (blk_cell BK311.out 12).trans rfl
                  have hcz11_13 : wr.cell? ⟨gb311, 13, none⟩ = some (.string a0_13) := (blk_cell BK311.out 13).trans rfl
                  have hcz11_14 : wr.cell? ⟨gb311, 14, none⟩ = some (.int .i64 a0_14) := (blk_cell BK311.out 14).trans rfl
                  have hcz11_15 : wr.cell? ⟨gb311, 15, none⟩ = some (.bool a0_15) := (blk_cell BK311.out 15).trans rfl
                  have hcz11_16 : wr.cell? ⟨gb311, 16, none⟩ = some (.bool a0_16) := (blk_cell BK311.out 16).trans rfl
                  have hcz11_17 : wr.cell? ⟨gb311, 17, none⟩ = some (.int .i64 a0_17) := (blk_cell BK311.out 17).trans rfl
                  have hcz11_18 : wr.cell? ⟨gb311, 18, none⟩ = some (.int .i64 a0_18) := (blk_cell BK311.out 18).trans rfl
                  have hcz11_19 : wr.cell? ⟨gb311, 19, none⟩ = some (.string a0_19) := (blk_cell BK311.out 19).trans rfl
                  have hcz11_20 : wr.cell? ⟨gb311, 20, none⟩ = some (.int .i64 a0_20) := (blk_cell BK311.out 20).trans rfl
                  have hcz11_21 : wr.cell? ⟨gb311, 21, none⟩ = some (.int .i64 a0_21) := (blk_cell BK311.out 21).trans rfl
                  have hcz11_22 : wr.cell? ⟨gb311, 22, none⟩ = some (.int .i64 a0_22) := (blk_cell BK311.out 22).trans rfl
                  have hcz11_23 : wr.cell? ⟨gb311, 23, none⟩ = some (.int .i64 a0_23) := (blk_cell BK311.out 23).trans rfl
                  have hcz11_24 : wr.cell? ⟨gb311, 24, none⟩ = some (.int .i64 a0_24) := (blk_cell BK311.out 24).trans rfl
                  have hcz11_25 : wr.cell? ⟨gb311, 25, none⟩ = some (.bool a0_25) := (blk_cell BK311.out 25).trans rfl
                  have hcz11_26 : wr.cell? ⟨gb311, 26, none⟩ = some (.int .u64 a0_26) := (blk_cell BK311.out 26).trans rfl
                  have hcz11_27 : wr.cell? ⟨gb311, 27, none⟩ = some (.slice A0_27 l0_27.length c0_27) := (blk_cell BK311.out 27).trans rfl
                  have hcz11_28 : wr.cell? ⟨gb311, 28, none⟩ = some (.int .i64 a0_28) := (blk_cell BK311.out 28).trans rfl
                  have hcz11_29 : wr.cell? ⟨gb311, 29, none⟩ = some (.string a0_29) := (blk_cell BK311.out 29).trans rfl
                  have hcz11_30 : wr.cell? ⟨gb311, 30, none⟩ = some (.int .i64 a0_30) := (blk_cell BK311.out 30).trans rfl
                  have hcz11_31 : wr.cell? ⟨gb311, 31, none⟩ = some (.int .i64 a0_31) := (blk_cell BK311.out 31).trans rfl
                  have hfz11_0 := blk_frozen BK311.out 0
                  have hfz11_1 := blk_frozen BK311.out 1
                  have hfz11_2 := blk_frozen BK311.out 2
                  have hfz11_3 := blk_frozen BK311.out 3
                  have hfz11_4 := blk_frozen BK311.out 4
                  have hfz11_5 := blk_frozen BK311.out 5
                  have hfz11_6 := blk_frozen BK311.out 6
                  have hfz11_7 := blk_frozen BK311.out 7
                  have hfz11_8 := blk_frozen BK311.out 8
                  have hfz11_9 := blk_frozen BK311.out 9
                  have hfz11_10 := blk_frozen BK311.out 10
                  have hfz11_11 := blk_frozen BK311.out 11
                  have hfz11_12 := blk_frozen BK311.out 12
                  have hfz11_13 := blk_frozen BK311.out 13
                  have hfz11_14 := blk_frozen BK311.out 14
                  have hfz11_15 := blk_frozen BK311.out 15
                  have hfz11_16 := blk_frozen BK311.out 16
                  have hfz11_17 := blk_frozen BK311.out 17
                  have hfz11_18 := blk_frozen BK311.out 18
                  have hfz11_19 := blk_frozen BK311.out 19
                  have hfz11_20 := blk_frozen BK311.out 20
                  have hfz11_21 := blk_frozen BK311.out 21
                  have hfz11_22 := blk_frozen BK311.out 22
                  have hfz11_23 := blk_frozen BK311.out 23
                  have hfz11_24 := blk_frozen BK311.out 24
                  have hfz11_25 := blk_frozen BK311.out 25
                  have hfz11_26 := blk_frozen BK311.out 26
                  have hfz11_27 := blk_frozen BK311.out 27
                  have hfz11_28 := blk_frozen BK311.out 28
                  have hfz11_29 := blk_frozen BK311.out 29
                  have hfz11_30 := blk_frozen BK311.out 30
                  have hfz11_31 := blk_frozen BK311.out 31
                  have p312 : 0 ≤ (x3_2 : Int) := of_decide_eq_true (by first | (with_reducible assumption) | assumption)
                  have q312 : x3_2 < (l0_4.length : Int) := of_decide_eq_true (by first | (with_reducible assumption) | assumption)
                  obtain ⟨ad312, e312, hx312_0, hx312_1⟩ := at_T31 HR0_4.out x3_2 p312 q312
                  cases e312
                  replace hx312_0 := (HB.out.cell (World.block_lt_of_cell? w _ hx312_0)).trans hx312_0
                  replace hx312_1 := (HB.out.cell (World.block_lt_of_cell? w _ hx312_1)).trans hx312_1
                  replace p312 := eq_true p312
                  replace q312 := eq_true q312
                  go_wp2
                  go_ret
                  exact ⟨by first | rfl | (simp [errW_none, errW_some] <;> rfl) | (simp [*, errW_none, errW_some] <;> rfl), by repeat (first | (with_reducible first | exact HB.out | apply below_alloc | apply pw_below_drewN | apply below_drew1 | refine below_set ?_ GE311.out) | exact HB.out)⟩
                · rw [if_neg c10] at H
                  have c10b0 : decide (65536 < (((rd_T31 l0_4 x3_2).f0).size : Int)) = false := decide_eq_false c10
                  have c10b1 : decide (65536 < ((rd_T31 l0_4 x3_2).f0).size) = false := decide_eq_false (by omega)
                  clear c10
                  by_cases c12 : (((rd_T31 l0_4 x3_2).f1).size : Int) > 65536
                  · rw [if_pos c12] at H
                    have c12b0 : decide (65536 < (((rd_T31 l0_4 x3_2).f1).size : Int)) = true := decide_eq_true c12
                    have c12b1 : decide (65536 < ((rd_T31 l0_4 x3_2).f1).size) = true := decide_eq_true (by omega)
                    clear c12
                    obtain rfl := Option.some.inj H
                    have hcz13_0 : wr.cell? ⟨gb311, 0, none⟩ = some (.int .i64 a0_0) := (blk_cell BK311.out 0).trans rfl
                    have hcz13_1 : wr.cell? ⟨gb311, 1, none⟩ = some (.string a0_1) := (blk_cell BK311.out 1).trans rfl
                    have hcz13_2 : wr.cell? ⟨gb311, 2, none⟩ = some (.int .i64 a0_2) := (blk_cell BK311.out 2).trans rfl
                    have hcz13_3 : wr.cell? ⟨gb311, 3, none⟩ = some (.int .i64 a0_3) := (blk_cell BK311.out 3).trans rfl
                    have hcz13_4 : wr.cell? ⟨gb311, 4, none⟩ = some (.slice A0_4 l0_4.length c0_4) := (blk_cell BK311.out 4).trans rfl
                    have hcz13_5 : wr.cell? ⟨gb311, 5, none⟩ = some (.int .i64 a0_5) := (blk_cell BK311.out 5).trans rfl
                    have hcz13_6 : wr.cell? ⟨gb311, 6, none⟩ = some (.int .i64 a0_6) := (blk_cell BK311.out 6).trans rfl
                    have hcz13_7 : wr.cell? ⟨gb311, 7, none⟩ = some (.bool a0_7) := (blk_cell BK311.out 7).trans rfl
                    have hcz13_8 : wr.cell? ⟨gb311, 8, none⟩ = some (.bool a0_8) := (blk_cell BK311.out 8).trans rfl
                    have hcz13_9 : wr.cell? ⟨gb311, 9, none⟩ = some (.bool a0_9) := (blk_cell BK311.out 9).trans rfl
                    have hcz13_10 : wr.cell? ⟨gb311, 10, none⟩ = some (.int .i64 a0_10) := (blk_cell BK311.out 10).trans rfl
                    have hcz13_11 : wr.cell? ⟨gb311, 11, none⟩ = some (.string a0_11) := (blk_cell BK311.out 11).trans rfl
                    have hcz13_12 : wr.cell? ⟨gb311, 12, none⟩ = some (.string a0_12) := (blk_cell BK311.out 12).trans rfl
                    have hcz13_13 : wr.cell? ⟨gb311, 13, none⟩ = some (.string a0_13) := (blk_cell BK311.out 13).trans rfl
                    have hcz13_14 : wr.cell? ⟨gb311, 14, none⟩ = some (.int .i64 a0_14) := (blk_cell BK311.out 14).trans rfl
                    have hcz13_15 : wr.cell? ⟨gb311, 15, none⟩ = some (.bool a0_15) := (blk_cell BK311.out 15).trans rfl
                    have hcz13_16 : wr.cell? ⟨gb311, 16, none⟩ = some (.bool a0_16) := (blk_cell BK311.out 16).trans rfl
                    have hcz13_17 : wr.cell? ⟨gb311, 17, none⟩ = some (.int .i64 a0_17) := (blk_cell BK311.out 17).trans rfl
                    have hcz13_18 : wr.cell? ⟨gb311, 18, none⟩ = some (.int .i64 a0_18) := (blk_cell BK311.out 18).trans rfl
                    have hcz13_19 : wr.cell? ⟨gb311, 19, none⟩ = some (.string a0_19) := (blk_cell BK311.out 19).trans rfl
                    have hcz13_20 : wr.cell? ⟨gb311, 20, none⟩ = some (.int .i64 a0_20) := (blk_cell BK311.out 20).trans rfl
                    have hcz13_21 : wr.cell? ⟨gb311, 21, none⟩ = some (.int .i64 a0_21) := (blk_cell BK311.out 21).trans rfl
                    have hcz13_22 : wr.cell? ⟨gb311, 22, none⟩ = some (.int .i64 a0_22) := (blk_cell BK311.out 22).trans rfl
                    have hcz13_23 : wr.cell? ⟨gb311, 23, none⟩ = some (.int .i64 a0_23) := (blk_cell BK311.out 23).trans rfl
                    have hcz13_24 : wr.cell? ⟨gb311, 24, none⟩ = some (.int .i64 a0_24) := (blk_cell BK311.out 24).trans rfl
                    have hcz13_25 : wr.cell? ⟨gb311, 25, none⟩ = some (.bool a0_25) := (blk_cell BK311.out 25).trans rfl
                    have hcz13_26 : wr.cell? ⟨gb311, 26, none⟩ = some (.int .u64 a0_26) := (blk_cell BK311.out 26).trans rfl
                    have hcz13_27 : wr.cell? ⟨gb311, 27, none⟩ = some (.slice A0_27 l0_27.length c0_27) := (blk_cell BK311.out 27).trans rfl
                    have hcz13_28 : wr.cell? ⟨gb311, 28, none⟩ = some (.int .i64 a0_28) := (blk_cell BK311.out 28).trans rfl
                    have hcz13_29 : wr.cell? ⟨gb311, 29, none⟩ = some (.string a0_29) := (blk_cell BK311.out 29).trans rfl
                    have hcz13_30 : wr.cell? ⟨gb311, 30, none⟩ = some (.int .i64 a0_30) := (blk_cell BK311.out 30).trans rfl
                    have hcz13_31 : wr.cell? ⟨gb311, 31, none⟩ = some (.int .i64 a0_31) := (blk_cell BK311.out 31).trans rfl
                    have hfz13_0 := blk_frozen BK311.out 0
                    have hfz13_1 := blk_frozen BK311.out 1
                    have hfz13_2 := blk_frozen BK311.out 2
                    have hfz13_3 := blk_frozen BK311.out 3
                    have hfz13_4 := blk_frozen BK311.out 4
                    have hfz13_5 := blk_frozen BK311.out 5
                    have hfz13_6 := blk_frozen BK311.out 6
                    have hfz13_7 := blk_frozen BK311.out 7
                    have hfz13_8 := blk_frozen BK311.out 8
                    have hfz13_9 := blk_frozen BK311.out 9
                    have hfz13_10 := blk_frozen BK311.out 10
                    have hfz13_11 := blk_frozen BK311.out 11
                    have hfz13_12 := blk_frozen BK311.out 12
                    have hfz13_13 := blk_frozen BK311.out 13
                    have hfz13_14 := blk_frozen BK311.out 14
                    have hfz13_15 := blk_frozen BK311.out 15
                    have hfz13_16 := blk_frozen BK311.out 16
                    have hfz13_17 := blk_frozen BK311.out 17
                    have hfz13_18 := blk_frozen BK311.out 18
                    have hfz13_19 := blk_frozen BK311.out 19
                    have hfz13_20 := blk_frozen BK311.out 20
                    have hfz13_21 := blk_frozen BK311.out 21
                    have hfz13_22 := blk_frozen BK311.out 22
                    have hfz13_23 := blk_frozen BK311.out 23
                    have hfz13_24 := blk_frozen BK311.out 24
                    have hfz13_25 := blk_frozen BK311.out 25
                    have hfz13_26 := blk_frozen BK311.out 26
                    have hfz13_27 := blk_frozen BK311.out 27
                    have hfz13_28 := blk_frozen BK311.out 28
                    have hfz13_29 := blk_frozen BK311.out 29
                    have hfz13_30 := blk_frozen BK311.out 30
                    have hfz13_31 := blk_frozen BK311.out 31
                    have p312 : 0 ≤ (x3_2 : Int) := of_decide_eq_true (by first | (with_reducible assumption) | assumption)
                    have q312 : x3_2 < (l0_4.length : Int) := of_decide_eq_true (by first | (with_reducible assumption) | assumption)
                    obtain ⟨ad312, e312, hx312_0, hx312_1⟩ := at_T31 HR0_4.out x3_2 p312 q312
                    cases e312
                    replace hx312_0 := (HB.out.cell (World.block_lt_of_cell? w _ hx312_0)).trans hx312_0
                    replace hx312_1 := (HB.out.cell (World.block_lt_of_cell? w _ hx312_1)).trans hx312_1
                    replace p312 := eq_true p312
                    replace q312 := eq_true q312
                    have p313 : 0 ≤ (x3_2 : Int) := of_decide_eq_true (by first | (with_reducible assumption) | assumption)
                    have q313 : x3_2 < (l0_4.length : Int) := of_decide_eq_true (by first | (with_reducible assumption) | assumption)
                    obtain ⟨ad313, e313, hx313_0, hx313_1⟩ := at_T31 HR0_4.out x3_2 p313 q313
                    obtain rfl : ad312 = ad313 := (by injection e313)
                    replace hx313_0 := (HB.out.cell (World.block_lt_of_cell? w _ hx313_0)).trans hx313_0
                    replace hx313_1 := (HB.out.cell (World.block_lt_of_cell? w _ hx313_1)).trans hx313_1
                    replace p313 := eq_true p313
                    replace q313 := eq_true q313
                    go_wp2
                    go_ret
                    exact ⟨by first | rfl | (simp [errW_none, errW_some] <;> rfl) | (simp [*, errW_none, errW_some] <;> rfl), by repeat (first | (with_reducible first | exact HB.out | apply below_alloc | apply pw_below_drewN | apply below_drew1 | refine below_set ?_ GE311.out) | exact HB.out)⟩
                  · rw [if_neg c12] at H
                    have c12b0 : decide (65536 < (((rd_T31 l0_4 x3_2).f1).size : Int)) = false := decide_eq_false c12
                    have c12b1 : decide (65536 < ((rd_T31 l0_4 x3_2).f1).size) = false := decide_eq_false (by omega)
                    clear c12
                    have H' := Aside0.mk H
                    clear H
                    have hcz14_0 : wr.cell? ⟨gb311, 0, none⟩ = some (.int .i64 a0_0) := (blk_cell BK311.out 0).trans rfl
                    have hcz14_1 : wr.cell? ⟨gb311, 1, none⟩ = some (.string a0_1) := (blk_cell BK311.out 1).trans rfl
                    have hcz14_2 : wr.cell? ⟨gb311, 2, none⟩ = some (.int .i64 a0_2) := (blk_cell BK311.out 2).trans rfl
                    have hcz14_3 : wr.cell? ⟨gb311, 3, none⟩ = some (.int .i64 a0_3) := (blk_cell BK311.out 3).trans rfl
                    have hcz14_4 : wr.cell? ⟨gb311, 4, none⟩ = some (.slice A0_4 l0_4.length c0_4) := (blk_cell BK311.out 4).trans rfl
                    have hcz14_5 : wr.cell? ⟨gb311, 5, none⟩ = some (.int .i64 a0_5) := (blk_cell BK311.out 5).trans rfl
                    have hcz14_6 : wr.cell? ⟨gb311, 6, none⟩ = some (.int .i64 a0_6) := (blk_cell BK311.out 6).trans rfl
                    have hcz14_7 : wr.cell? ⟨gb311, 7, none⟩ = some (.bool a0_7) := (blk_cell BK311.out 7).trans rfl
                    have hcz14_8 : wr.cell? ⟨gb311, 8, none⟩ = some (.bool a0_8) := (blk_cell BK311.out 8).trans rfl
                    have hcz14_9 : wr.cell? ⟨gb311, 9, none⟩ = some (.bool a0_9) := (blk_cell BK311.out 9).trans rfl
                    have hcz14_10 : wr.cell? ⟨gb311, 10, none⟩ = some (.int .i64 a0_10) := (blk_cell BK311.out 10).trans rfl
                    have hcz14_11 : wr.cell? ⟨gb311, 11, none⟩ = some (.string a0_11) := (blk_cell BK311.out 11).trans rfl
                    have hcz14_12 : wr.cell? ⟨gb311, 12, none⟩ = some (.string a0_12) := (blk_cell BK311.out 12).trans rfl
                    have hcz14_13 : wr.cell? ⟨gb311, 13, none⟩ = some (.string a0_13) := (blk_cell BK311.out 13).trans rfl
                    have hcz14_14 : wr.cell? ⟨gb311, 14, none⟩ = some (.int .i64 a0_14) := (blk_cell BK311.out 14).trans rfl
                    have hcz14_15 : wr.cell? ⟨gb311, 15, none⟩ = some (.bool a0_15) := (blk_cell BK311.out 15).trans rfl
                    have hcz14_16 : wr.cell? ⟨gb311, 16, none⟩ = some (.bool a0_16) := (blk_cell BK311.out 16).trans rfl
                    have hcz14_17 : wr.cell? ⟨gb311, 17, none⟩ = some (.int .i64 a0_17) := (blk_cell BK311.out 17).trans rfl
                    have hcz14_18 : wr.cell? ⟨gb311, 18, none⟩ = some (.int .i64 a0_18) := (blk_cell BK311.out 18).trans rfl
                    have hcz14_19 : wr.cell? ⟨gb311, 19, none⟩ = some (.string a0_19) := (blk_cell BK311.out 19).trans rfl
                    have hcz14_20 : wr.cell? ⟨gb311, 20, none⟩ = some (.int .i64 a0_20) := (blk_cell BK311.out 20).trans rfl
                    have hcz14_21 : wr.cell? ⟨gb311, 21, none⟩ = some (.int .i64 a0_21) := (blk_cell BK311.out 21).trans rfl
                    have hcz14_22 : wr.cell? ⟨gb311, 22, none⟩ = some (.int .i64 a0_22) := (blk_cell BK311.out 22).trans rfl
                    have hcz14_23 : wr.cell? ⟨gb311, 23, none⟩ = some (.int .i64 a0_23) := (blk_cell BK311.out 23).trans rfl
                    have hcz14_24 : wr.cell? ⟨gb311, 24, none⟩ = some (.int .i64 a0_24) := (blk_cell BK311.out 24).trans rfl
                    have hcz14_25 : wr.cell? ⟨gb311, 25, none⟩ = some (.bool a0_25) := (blk_cell BK311.out 25).trans rfl
                    have hcz14_26 : wr.cell? ⟨gb311, 26, none⟩ = some (.int .u64 a0_26) := (blk_cell BK311.out 26).trans rfl
                    have hcz14_27 : wr.cell? ⟨gb311, 27, none⟩ = some (.slice A0_27 l0_27.length c0_27) := (blk_cell BK311.out 27).trans rfl
                    have hcz14_28 : wr.cell? ⟨gb311, 28, none⟩ = some (.int .i64 a0_28) := (blk_cell BK311.out 28).trans rfl
                    have hcz14_29 : wr.cell? ⟨gb311, 29, none⟩ = some (.string a0_29) := (blk_cell BK311.out 29).trans rfl
                    have hcz14_30 : wr.cell? ⟨gb311, 30, none⟩ = some (.int .i64 a0_30) := (blk_cell BK311.out 30).trans rfl
                    have hcz14_31 : wr.cell? ⟨gb311, 31, none⟩ = some (.int .i64 a0_31) := (blk_cell BK311.out 31).trans rfl
                    have hfz14_0 := blk_frozen BK311.out 0
                    have hfz14_1 := blk_frozen BK311.out 1
                    have hfz14_2 := blk_frozen BK311.out 2
                    have hfz14_3 := blk_frozen BK311.out 3
                    have hfz14_4 := blk_frozen BK311.out 4
                    have hfz14_5 := blk_frozen BK311.out 5
                    have hfz14_6 := blk_frozen BK311.out 6
                    have hfz14_7 := blk_frozen BK311.out 7
                    have hfz14_8 := blk_frozen BK311.out 8
                    have hfz14_9 := blk_frozen BK311.out 9
                    have hfz14_10 := blk_frozen BK311.out 10
                    have hfz14_11 := blk_frozen BK311.out 11
                    have hfz14_12 := blk_frozen BK311.out 12
                    have hfz14_13 := blk_frozen BK311.out 13
                    have hfz14_14 := blk_frozen BK311.out 14
                    have hfz14_15 := blk_frozen BK311.out 15
                    have hfz14_16 := blk_frozen BK311.out 16
                    have hfz14_17 := blk_frozen BK311.out 17
                    have hfz14_18 := blk_frozen BK311.out 18
                    have hfz14_19 := blk_frozen BK311.out 19
                    have hfz14_20 := blk_frozen BK311.out 20
                    have hfz14_21 := blk_frozen BK311.out 21
                    have hfz14_22 := blk_frozen BK311.out 22
                    have hfz14_23 := blk_frozen BK311.out 23
                    have hfz14_24 := blk_frozen BK311.out 24
                    have hfz14_25 := blk_frozen BK311.out 25
                    have hfz14_26 := blk_frozen BK311.out 26
                    have hfz14_27 := blk_frozen BK311.out 27
                    have hfz14_28 := blk_frozen BK311.out 28
                    have hfz14_29 := blk_frozen BK311.out 29
                    have hfz14_30 := blk_frozen BK311.out 30
                    have hfz14_31 := blk_frozen BK311.out 31
                    have p312 : 0 ≤ (x3_2 : Int) := of_decide_eq_true (by first | (with_reducible assumption) | assumption)
                    have q312 : x3_2 < (l0_4.length : Int) := of_decide_eq_true (by first | (with_reducible assumption) | assumption)
                    obtain ⟨ad312, e312, hx312_0, hx312_1⟩ := at_T31 HR0_4.out x3_2 p312 q312
                    cases e312
                    replace hx312_0 := (HB.out.cell (World.block_lt_of_cell? w _ hx312_0)).trans hx312_0
                    replace hx312_1 := (HB.out.cell (World.block_lt_of_cell? w _ hx312_1)).trans hx312_1
                    replace p312 := eq_true p312
                    replace q312 := eq_true q312
                    have p313 : 0 ≤ (x3_2 : Int) := of_decide_eq_true (by first | (with_reducible assumption) | assumption)
                    have q313 : x3_2 < (l0_4.length : Int) := of_decide_eq_true (by first | (with_reducible assumption) | assumption)
                    obtain ⟨ad313, e313, hx313_0, hx313_1⟩ := at_T31 HR0_4.out x3_2 p313 q313
                    obtain rfl : ad312 = ad313 := (by injection e313)
                    replace hx313_0 := (HB.out.cell (World.block_lt_of_cell? w _ hx313_0)).trans hx313_0
                    replace hx313_1 := (HB.out.cell (World.block_lt_of_cell? w _ hx313_1)).trans hx313_1
                    replace p313 := eq_true p313
                    replace q313 := eq_true q313
                    go_wp2
                    go_roundg k2
                    case measure => have := HJ1.out; have := HK2.out; omega
                    case rel => exact ⟨(wrap64 (x3_2 + 1)), (by first | rfl | (simp; done) | (simp [*]; done)), H', ⟨by have := HJ1.out; have := HK2.out; omega⟩, ⟨by (with_reducible repeat (first | refine blk_drewN ?_ _ | refine blk_drew ?_ | refine blk_alloc ?_ _)); exact BK311.out⟩, ⟨by repeat (first | (with_reducible first | exact HB.out | apply below_alloc | apply pw_below_drewN | apply below_drew1 | refine below_set ?_ GE311.out) | exact HB.out)⟩⟩
              · rw [if_neg c9] at H
                exact absurd H (by simp)
            · rw [if_neg c8] at H
              have c8b0 : decide (x3_2 < (l0_4.length : Int)) = false := decide_eq_false c8
              clear c8
              obtain rfl := Option.some.inj H
              have hcz15_0 : wr.cell? ⟨gb311, 0, none⟩ = some (.int .i64 a0_0) := (blk_cell BK311.out 0).trans rfl
              have hcz15_1 : wr.cell? ⟨gb311, 1, none⟩ = some (.string a0_1) := (blk_cell BK311.out 1).trans rfl
              have hcz15_2 : wr.cell? ⟨gb311, 2, none⟩ = some (.int .i64 a0_2) := (blk_cell BK311.out 2).trans rfl
              have hcz15_3 : wr.cell? ⟨gb311, 3, none⟩ = some (.int .i64 a0_3) := (blk_cell BK311.out 3).trans rfl
              have hcz15_4 : wr.cell? ⟨gb311, 4, none⟩ = some (.slice A0_4 l0_4.length c0_4) := (blk_cell BK311.out 4).trans rfl
              have hcz15_5 : wr.cell? ⟨gb311, 5, none⟩ = some (.int .i64 a0_5) := (blk_cell BK311.out 5).trans rfl
              have hcz15_6 : wr.cell? ⟨gb311, 6, none⟩ = some (.int .i64 a0_6) := (blk_cell BK311.out 6).trans rfl
              have hcz15_7 : wr.cell? ⟨gb311, 7, none⟩ = some (.bool a0_7) := (blk_cell BK311.out 7).trans rfl
              have hcz15_8 : wr.cell? ⟨gb311, 8, none⟩ = some (.bool a0_8) := (blk_cell BK311.out 8).trans rfl
              have hcz15_9 : wr.cell? ⟨gb311, 9, none⟩ = some (.bool a0_9) := (blk_cell BK311.out 9).trans rfl
              have hcz15_10 : wr.cell? ⟨gb311, 10, none⟩ = some (.int .i64 a0_10) := (blk_cell BK311.out 10).trans rfl
              have hcz15_11 : wr.cell? ⟨gb311, 11, none⟩ = some (.string a0_11) := (blk_cell BK311.out 11).trans rfl
              have hcz15_12 : wr.cell? ⟨gb311, 12, none⟩ = some (.string a0_12) := (blk_cell BK311.out 12).trans rfl
              have hcz15_13 : wr.cell? ⟨gb311, 13, none⟩ = some (.string a0_13) := (blk_cell BK311.out 13).trans rfl
              have hcz15_14 : wr.cell? ⟨gb311, 14, none⟩ = some (.int .i64 a0_14) := (blk_cell BK311.out 14).trans rfl
              have hcz15_15 : wr.cell? ⟨gb311, 15, none⟩ = some (.bool a0_15) := (blk_cell BK311.out 15).trans rfl
              have hcz15_16 : wr.cell? ⟨gb311, 16, none⟩ = some (.bool a0_16) := (blk_cell BK311.out 16).trans rfl
              have hcz15_17 : wr.cell? ⟨gb311, 17, none⟩ = some (.int .i64 a0_17) := (blk_cell BK311.out 17).trans rfl
              have hcz15_18 : wr.cell? ⟨gb311, 18, none⟩ = some (.int .i64 a0_18) := (blk_cell BK311.out 18).trans rfl
              have hcz15_19 : wr.cell? ⟨gb311, 19, none⟩ = some (.string a0_19) := (blk_cell BK311.out 19).trans rfl
              have hcz15_20 : wr.cell? ⟨gb311, 20, none⟩ = some (.int .i64 a0_20) := (blk_cell BK311.out 20).trans rfl
              have hcz15_21 : wr.cell? ⟨gb311, 21, none⟩ = some (.int .i64 a0_21) := (blk_cell BK311.out 21).trans rfl
              have hcz15_22 : wr.cell? ⟨gb311, 22, none⟩ = some (.int .i64 a0_22) := (blk_cell BK311.out 22).trans rfl
              have hcz15_23 : wr.cell? ⟨gb311, 23, none⟩ = some (.int .i64 a0_23) := (blk_cell BK311.out 23).trans rfl
              have hcz15_24 : wr.cell? ⟨gb311, 24, none⟩ = some (.int .i64 a0_24) := (blk_cell BK311.out 24).trans rfl
              have hcz15_25 : wr.cell? ⟨gb311, 25, none⟩ = some (.bool a0_25) := (blk_cell BK311.out 25).trans rfl
              have hcz15_26 : wr.cell? ⟨gb311, 26, none⟩ = some (.int .u64 a0_26) := (blk_cell BK311.out 26).trans rfl
              have hcz15_27 : wr.cell? ⟨gb311, 27, none⟩ = some (.slice A0_27 l0_27.length c0_27) := (blk_cell BK311.out 27).trans rfl
              have hcz15_28 : wr.cell? ⟨gb311, 28, none⟩ = some (.int .i64 a0_28) := (blk_cell BK311.out 28).trans rfl
              have hcz15_29 : wr.cell? ⟨gb311, 29, none⟩ = some (.string a0_29) := (blk_cell BK311.out 29).trans rfl
              have hcz15_30 : wr.cell? ⟨gb311, 30, none⟩ = some (.int .i64 a0_30) := (blk_cell BK311.out 30).trans rfl
              have hcz15_31 : wr.cell? ⟨gb311, 31, none⟩ = some (.int .i64 a0_31) := (blk_cell BK311.out 31).trans rfl
              have hfz15_0 := blk_frozen BK311.out 0
              have hfz15_1 := blk_frozen BK311.out 1
              have hfz15_2 := blk_frozen BK311.out 2
              have hfz15_3 := blk_frozen BK311.out 3
              have hfz15_4 := blk_frozen BK311.out 4
              have hfz15_5 := blk_frozen BK311.out 5
              have hfz15_6 := blk_frozen BK311.out 6
              have hfz15_7 := blk_frozen BK311.out 7
              have hfz15_8 := blk_frozen BK311.out 8
              have hfz15_9 := blk_frozen BK311.out 9
              have hfz15_10 := blk_frozen BK311.out 10
              have hfz15_11 := blk_frozen BK311.out 11
              have hfz15_12 := blk_frozen BK311.out 12
              have hfz15_13 := blk_frozen BK311.out 13
              have hfz15_14 := blk_frozen BK311.out 14
              have hfz15_15 := blk_frozen BK311.out 15
              have hfz15_16 := blk_frozen BK311.out 16
              have hfz15_17 := blk_frozen BK311.out 17
              have hfz15_18 := blk_frozen BK311.out 18
              have hfz15_19 := blk_frozen BK311.out 19
              have hfz15_20 := blk_frozen BK311.out 20
              have hfz15_21 := blk_frozen BK311.out 21
              have hfz15_22 := blk_frozen BK311.out 22
              have hfz15_23 := blk_frozen BK311.out 23
              have hfz15_24 := blk_frozen BK311.out 24
              have hfz15_25 := blk_frozen BK311.out 25
              have hfz15_26 := blk_frozen BK311.out 26
              have hfz15_27 := blk_frozen BK311.out 27
              have hfz15_28 := blk_frozen BK311.out 28
              have hfz15_29 := blk_frozen BK311.out 29
              have hfz15_30 := blk_frozen BK311.out 30
              have hfz15_31 := blk_frozen BK311.out 31
              go_wp2
              go_ret
              exact ⟨by first | rfl | (simp [errW_none, errW_some] <;> rfl) | (simp [*, errW_none, errW_some] <;> rfl), by repeat (first | (with_reducible first | exact HB.out | apply below_alloc | apply pw_below_drewN | apply below_drew1 | refine below_set ?_ GE311.out) | exact HB.out)⟩
end Go.Proofs.Ytamjjeakkkdfhaa.PB
end
section
namespace Go.Proofs.Ytamjjeakkkdfhaa.G
open Go.RowKit Go.Proofs.YtamjjeakkkdfhaaW.PrintWords Go.Proofs.YtamjjeakkkdfhaaW.PrintLast Go.Proofs.YtamjjeakkkdfhaaW.PrintMore
open Go.Proofs.Ytamjjeakkkdfhaa.K Go.Proofs.YtamjjeakkkdfhaaE Go.Proofs.Ytamjjeakkkdfhaa.PB
set_option linter.unusedVariables false
set_option linter.unusedSimpArgs false
theorem long_from (x : S68) (hl : x.f4.length ≤ 1024) : ∀ (d k i : Nat), i ≤ x.f4.length → x.f4.length - i = d → d < k → ∃ b, flotillalaw05_long.l0 k (i : Int) x.f0 x.f1 x.f2 x.f3 x.f4 x.f5.f0 x.f5.f1 x.f6 x.f7 x.f8 x.f9 x.f10 x.f11 x.f12 x.f13 x.f14 x.f15 x.f16.f0 x.f16.f1 x.f17 x.f18 x.f19 x.f20 x.f21 x.f22 x.f23 x.f24 x.f25 x.f26 x.f27 x.f28 x.f29 = some b ∧ (b = false → ∀ j (hj : j < x.f4.length), i ≤ j → x.f4[j].f0.size ≤ 65536 ∧ x.f4[j].f1.size ≤ 65536) := by
  intro d
  induction d with
  | zero =>
    intro k i hi hd hk
    obtain ⟨k, rfl⟩ : ∃ m, k = m + 1 := ⟨k - 1, by omega⟩
    refine ⟨false, ?_, fun _ j hj hij => by omega⟩
    simp only [flotillalaw05_long.l0]; rw [if_neg (by omega)]
  | succ d ih =>
    intro k i hi hd hk
    obtain ⟨k, rfl⟩ : ∃ m, k = m + 1 := ⟨k - 1, by omega⟩
    have hlt : i < x.f4.length := by omega
    have hw : wrap64 ((i : Int) + 1) = ((i + 1 : Nat) : Int) := by unfold wrap64; omega
    have hrd : rd_T31 x.f4 (i : Int) = x.f4[i] := by simp [rd_T31, List.getD_eq_getElem?_getD, hlt]
    by_cases h0 : ((x.f4[i].f0).size : Int) > 65536
    · refine ⟨true, ?_, fun h => by cases h⟩
      simp only [flotillalaw05_long.l0]; rw [if_pos (by omega), if_pos (by omega), hrd, if_pos h0]
    · by_cases h1 : ((x.f4[i].f1).size : Int) > 65536
      · refine ⟨true, ?_, fun h => by cases h⟩
        simp only [flotillalaw05_long.l0]; rw [if_pos (by omega), if_pos (by omega), hrd, if_neg h0, if_pos h1]
      · obtain ⟨b, hb, hn⟩ := ih k (i + 1) (by omega) (by omega) (by omega)
        refine ⟨b, ?_, fun e j hj hij => ?_⟩
        · simp only [flotillalaw05_long.l0]; rw [if_pos (by omega), if_pos (by omega), hrd, if_neg h0, if_neg h1, hw]; exact hb
        · by_cases e' : j = i
          · subst e'; exact ⟨by omega, by omega⟩
          · exact hn e j hj (by omega)
theorem long_is (x : S68) : ∃ k b, flotillalaw05_long.f k x.f0 x.f1 x.f2 x.f3 x.f4 x.f5.f0 x.f5.f1 x.f6 x.f7 x.f8 x.f9 x.f10 x.f11 x.f12 x.f13 x.f14 x.f15 x.f16.f0 x.f16.f1 x.f17 x.f18 x.f19 x.f20 x.f21 x.f22 x.f23 x.f24 x.f25 x.f26 x.f27 x.f28 x.f29 = some b ∧ (b = false → okT x) := by
  by_cases h0 : (x.f17.size : Int) > 65536
  · refine ⟨1, true, ?_, fun h => by cases h⟩
    unfold flotillalaw05_long.f
    rw [if_pos h0]; simp [flotillalaw05_long.j0]
  · by_cases h1 : (x.f4.length : Int) > 1024
    · refine ⟨1, true, ?_, fun h => by cases h⟩
      unfold flotillalaw05_long.f
      rw [if_neg h0]; simp [flotillalaw05_long.j0]; omega
    · obtain ⟨b, hb, hn⟩ := long_from x (by omega) x.f4.length (x.f4.length + 1) 0 (by omega) (by omega) (by omega)
      refine ⟨x.f4.length + 2, b, ?_, fun e => ⟨by omega, fun l hl => ?_⟩⟩
      · unfold flotillalaw05_long.f
        rw [if_neg h0, decide_eq_false h1]
        simp only [flotillalaw05_long.j0]
        exact hb
      · obtain ⟨j, hj, rfl⟩ := List.mem_iff_getElem.1 hl
        have := hn e j hj (by omega)
        omega
theorem long_co (x : S68) (v4 v27 : Value) (w : World) (hx : kO w x v4 v27) (k : Nat) (b : Bool) (h : flotillalaw05_long.f k x.f0 x.f1 x.f2 x.f3 x.f4 x.f5.f0 x.f5.f1 x.f6 x.f7 x.f8 x.f9 x.f10 x.f11 x.f12 x.f13 x.f14 x.f15 x.f16.f0 x.f16.f1 x.f17 x.f18 x.f19 x.f20 x.f21 x.f22 x.f23 x.f24 x.f25 x.f26 x.f27 x.f28 x.f29 = some b) :
    Calls Try.prog 45 #[.agg (cO x v4 v27)] w fun e w' => e = .returned (.bool b) ∧ Below w.heap.size w w' := by
  obtain ⟨A4, c4, A27, c27, rfl, rfl, l4, g4, l27, g27⟩ := hx
  exact flotillalaw05_long.calls k x.f0 x.f1 x.f2 x.f3 A4 c4 x.f4 x.f5.f0 x.f5.f1 x.f6 x.f7 x.f8 x.f9 x.f10 x.f11 x.f12 x.f13 x.f14 x.f15 x.f16.f0 x.f16.f1 x.f17 x.f18 x.f19 x.f20 x.f21 x.f22 x.f23 x.f24 A27 c27 x.f25 x.f26 x.f27 x.f28 x.f29 b w g4 l4 g27 l27 h
def xImg (b : ByteArray) : S68 := { z68 with f17 := b }
theorem kO_img (b : ByteArray) (w : World) : kO w (xImg b) (.slice none 0 0) (.slice none 0 0) := ⟨none, 0, none, 0, rfl, rfl, Nat.le_refl _, Kd.C_nil _ _, Nat.le_refl _, Kd.C_nil _ _⟩
def imgA : ByteArray := ⟨#[97]⟩
def imgB : ByteArray := ⟨#[98]⟩
theorem img_ne : (tmplI (xImg imgA) == tmplI (xImg imgB)) = false := by kernel_rfl
theorem img_ok (b : ByteArray) (hb : b.size ≤ 1) : okT (xImg b) := ⟨by show b.size ≤ _; omega, fun l hl => absurd hl (by show ¬ l ∈ []; simp)⟩
theorem tmpl_same (x y : S68) (h4 : x.f4 = y.f4) (h16 : x.f16 = y.f16) (h17 : x.f17 = y.f17) (h18 : x.f18 = y.f18) (h19 : x.f19 = y.f19) : tmplI x = tmplI y := by
  unfold tmplI headF; rw [h4, h16, h17, h18, h19]
def fz1 (x y : S68) : S68 := { y with f17 := x.f17 }
def fz2 (x y : S68) : S68 := { fz1 x y with f16 := x.f16 }
def fz3 (x y : S68) : S68 := { fz2 x y with f18 := x.f18 }
def fz4 (x y : S68) : S68 := { fz3 x y with f19 := x.f19 }
def fz5 (x y : S68) : S68 := { fz4 x y with f4 := x.f4 }
def fields.T11 : Bool × List (List Nat × List Nat) := (true, [([], []), ([0], [0]), ([], []), ([2, 1], [2]), ([1, 3], [1, 3]), ([4, 3, 0, 1, 2, 3, 4], [4])])
def fields.B11 : List Nat := [0, 1, 0, 7, 15, 31]
theorem fields.tab11 : rtab .any (opsOf Try.f7 11) = fields.T11 := by kernel_rfl
theorem fields.bits11 : waitsOk fields.T11.2 fields.B11 = true := by kernel_rfl
set_option maxRecDepth 100000 in
set_option maxHeartbeats 8000000 in
theorem fields_walk (x : S68) (v4 v27 : Value) (y : S68) (u4 u27 : Value) (w : World) (hx : kO w x v4 v27) (hy : kO w y u4 u27) (ox : okR x) (oy : okR y) :
    Calls Try.prog 7 #[.agg (cO x v4 v27), .agg (cO y u4 u27)] w fun e w' => e = .returned (.bool true) ∧ Below w.heap.size w w' := by
  have HKX := Aside0.mk hx
  have HKY := Aside0.mk hy
  clear hx hy
  have hu68 := Try.underlying68
  have hu64 := Try.underlying64
  go_enter Try.func7, Try.ntmps7
  go_wp2_with ((with_reducible refine gate_dst (N := 2) rfl ?_); refine hold ?_)
  refine Hold.intro ?_
  refine box_event (N := 2) (cs := cO x v4 v27) (t := 68) rfl rfl ?hs ?_
  case hs => unfold cO; first | (go_simp; done) | (go_simp; rfl)
  intro gx hg wa hbox hb
  have HXX := Aside0.mk hbox
  have HBA := Aside0.mk hb
  have HGX := Aside0.mk (show w.heap.size ≤ gx by rw [hg]; exact Nat.le_refl _)
  clear hbox hb hg
  go_wp2_with ((with_reducible refine gate_dst (N := 3) rfl ?_); refine hold ?_)
  refine Hold.intro ?_
  refine box_event (N := 3) (cs := cO y u4 u27) (t := 68) rfl rfl ?ht ?_
  case ht => unfold cO; first | (go_simp; done) | (go_simp; rfl)
  intro gy hg wb hbox hb
  have HXY := Aside0.mk hbox
  replace HXX := Aside0.mk (blk_below HXX.out hb)
  have HW := Aside0.mk (below_step HBA.out hb)
  clear hbox hb hg HBA
  replace HKX := Aside0.mk (kO_below HKX.out HW.out)
  replace HKY := Aside0.mk (kO_below HKY.out HW.out)
  go_wp2_with (go_at_call 43; refine hold ?_)
  refine Hold.intro ((works05.calls _).mono ?_)
  rintro e w1 ⟨rfl, hb⟩
  have HB1 := Aside0.mk hb
  clear hb
  go_wp2_with (go_at_call 44; refine hold ?_)
  refine Hold.intro ((tmpl.calls (xImg imgA) _ _ _ (kO_img imgA _) (img_ok imgA (by decide))).mono ?_)
  rintro e w2 ⟨rfl, hb⟩
  have HB2 := Aside0.mk (below_step HB1.out hb)
  clear hb HB1
  go_wp2_with (go_at_call 44; refine hold ?_)
  refine Hold.intro ((tmpl.calls (xImg imgB) _ _ _ (kO_img imgB _) (img_ok imgB (by decide))).mono ?_)
  rintro e w3 ⟨rfl, hb⟩
  have HB3 := Aside0.mk (below_step HB2.out hb)
  clear hb HB2
  have hne := img_ne
  obtain ⟨kx, bx, hlx, hokx⟩ := long_is x
  obtain ⟨ky, by_, hly, hoky⟩ := long_is y
  have HLX := Aside0.mk hlx
  have HLY := Aside0.mk hly
  have HOX := Aside0.mk hokx
  have HOY := Aside0.mk hoky
  clear hlx hly hokx hoky
  generalize tmplI (xImg imgA) = ta at hne ⊢
  generalize tmplI (xImg imgB) = tb at hne ⊢
  go_wp2_with (first | ((with_reducible refine gate_load (t := 68) rfl ?_); refine load_obj rfl rfl rfl (blk_below HXX.out HB3.out) rfl ?_) | (go_at_call 45; refine hold ?_))
  clear hne
  refine Hold.intro ((long_co x v4 v27 _ (kO_below HKX.out HB3.out) kx bx HLX.out).mono ?_)
  rintro e w4 ⟨rfl, hb⟩
  have HB4 := Aside0.mk (below_step HB3.out hb)
  clear hb HB3
  cases bx with
  | true =>
    go_wp2
    go_ret
    exact ⟨rfl, below_step HW.out HB4.out⟩
  | false =>
    go_wp2_with (first | ((with_reducible refine gate_load (t := 68) rfl ?_); first | refine load_obj rfl rfl rfl (blk_below HXY.out HB4.out) rfl ?_ | (refine gate_guard (by rfl) ?_; refine load_obj rfl rfl rfl (blk_below HXY.out HB4.out) rfl ?_)) | (go_at_call 45; refine hold ?_))
    refine Hold.intro ((long_co y u4 u27 _ (kO_below HKY.out HB4.out) ky by_ HLY.out).mono ?_)
    rintro e w5 ⟨rfl, hb⟩
    have HB5 := Aside0.mk (below_step HB4.out hb)
    clear hb HB4
    cases by_ with
    | true =>
      go_wp2
      go_ret
      exact ⟨rfl, below_step HW.out HB5.out⟩
    | false =>
      have HTX := Aside0.mk (HOX.out (by simp))
      go_wp2_with (first | ((with_reducible refine gate_load (t := 68) rfl ?_); refine load_obj rfl rfl rfl (blk_below HXY.out HB5.out) rfl ?_) | ((with_reducible refine gate_dst (N := 5) rfl ?_); refine hold ?_))
      refine Hold.intro (alloc_obj rfl rfl (N := 5) rfl ?_)
      intro gz hg w6 hbox hb
      have HGZ := Aside0.mk (show wb.heap.size ≤ gz by rw [hg]; exact HB5.out.size)
      have HXZ := Aside0.mk hbox
      have HB6 := Aside0.mk (below_step HB5.out hb)
      clear hbox hb hg HB5
      go_wp2_with (first | ((with_reducible refine gate_store (t := 68) (p := 5) rfl ?_); refine hold ?_))
      refine Hold.intro (box_store_event (t := 68) (ty := 68) (p := 5) (x := .tmp 21) (g := gz) (cs := zcObj) (cs' := cO y u4 u27) rfl rfl rfl rfl rfl size68 HXZ.out rfl (kO_one HKY.out) ?_)
      intro w7 hbox hg
      replace HXZ := Aside0.mk (show w7.heap[gz]? = some (.cells (cO y u4 u27) 68 (0, 0)) from hbox)
      have HB7 := Aside0.mk (Below.grown HB6.out hg HB6.out.size (fun k e => by injection e with e; rw [← e]; exact HGZ.out))
      clear hbox hg HB6
      have hr : w7.cell? ⟨gx, 19, none⟩ = some (.string x.f17) := (blk_cell (blk_below HXX.out HB7.out) 19).trans rfl
      go_wp2_with ((with_reducible refine gate_store (t := 9) (p := 24) rfl ?_); refine hold ?_)
      refine Hold.intro (cell_store_event (t := 9) (ty := 68) (p := 24) (g := gz) (j := 19) (cs := cO y u4 u27) (v := .string x.f17) rfl rfl rfl rfl rfl (by kernel_rfl) HXZ.out (by rw [cO_size]; decide) rfl rfl ?_)
      intro w8 hbox hg
      replace HXZ := Aside0.mk (show w8.heap[gz]? = some (.cells (cO (fz1 x y) u4 u27) 68 (0, 0)) from hbox)
      have HB8 := Aside0.mk (Below.grown HB7.out hg HB7.out.size (fun k e => by injection e with e; rw [← e]; exact HGZ.out))
      clear hbox hg HB7 hr
      have hr : w8.cell? ⟨gx, 17, none⟩ = some (.int .i64 x.f16.f0) := (blk_cell (blk_below HXX.out HB8.out) 17).trans rfl
      have hr2 : w8.cell? ⟨gx, 18, none⟩ = some (.int .i64 x.f16.f1) := (blk_cell (blk_below HXX.out HB8.out) 18).trans rfl
      go_wp2_with ((with_reducible refine gate_store (t := 64) (p := 27) rfl ?_); refine hold ?_)
      refine Hold.intro (two_store_event (t := 64) (ty := 68) (p := 27) (g := gz) (j := 17) (cs := cO (fz1 x y) u4 u27) (u := .int .i64 x.f16.f0) (v := .int .i64 x.f16.f1) rfl rfl rfl rfl rfl (by kernel_rfl) HXZ.out (by rw [cO_size]; decide) rfl rfl ?_)
      intro w9 hbox hg
      replace HXZ := Aside0.mk (show w9.heap[gz]? = some (.cells (cO (fz2 x y) u4 u27) 68 (0, 0)) from hbox)
      have HB9 := Aside0.mk (Below.grown HB8.out hg HB8.out.size (fun k e => by injection e with e; rw [← e]; exact HGZ.out))
      clear hbox hg HB8 hr hr2
      have hr : w9.cell? ⟨gx, 20, none⟩ = some (.int .i64 x.f18) := (blk_cell (blk_below HXX.out HB9.out) 20).trans rfl
      go_wp2_with ((with_reducible refine gate_store (t := 3) (p := 30) rfl ?_); refine hold ?_)
      refine Hold.intro (cell_store_event (t := 3) (ty := 68) (p := 30) (g := gz) (j := 20) (cs := cO (fz2 x y) u4 u27) (v := .int .i64 x.f18) rfl rfl rfl rfl rfl (by kernel_rfl) HXZ.out (by rw [cO_size]; decide) rfl rfl ?_)
      intro w10 hbox hg
      replace HXZ := Aside0.mk (show w10.heap[gz]? = some (.cells (cO (fz3 x y) u4 u27) 68 (0, 0)) from hbox)
      have HB10 := Aside0.mk (Below.grown HB9.out hg HB9.out.size (fun k e => by injection e with e; rw [← e]; exact HGZ.out))
      clear hbox hg HB9 hr
      have hr : w10.cell? ⟨gx, 21, none⟩ = some (.int .i64 x.f19) := (blk_cell (blk_below HXX.out HB10.out) 21).trans rfl
      go_wp2_with ((with_reducible refine gate_store (t := 3) (p := 33) rfl ?_); refine hold ?_)
      refine Hold.intro (cell_store_event (t := 3) (ty := 68) (p := 33) (g := gz) (j := 21) (cs := cO (fz3 x y) u4 u27) (v := .int .i64 x.f19) rfl rfl rfl rfl rfl (by kernel_rfl) HXZ.out (by rw [cO_size]; decide) rfl rfl ?_)
      intro w11 hbox hg
      replace HXZ := Aside0.mk (show w11.heap[gz]? = some (.cells (cO (fz4 x y) u4 u27) 68 (0, 0)) from hbox)
      have HB11 := Aside0.mk (Below.grown HB10.out hg HB10.out.size (fun k e => by injection e with e; rw [← e]; exact HGZ.out))
      clear hbox hg HB10 hr
      have HO4 := Aside0.mk (show v4.oneCell' = true ∧ v4.cells.toList = [v4] by obtain ⟨A4, c4, A27, c27, e4, -⟩ := HKX.out; rw [e4]; exact ⟨rfl, rfl⟩)
      have HKZ := Aside0.mk (show kO wb (fz5 x y) v4 u27 by
        obtain ⟨A4, c4, A27, c27, e4, e27, l4, g4, l27, g27⟩ := HKX.out
        obtain ⟨B4, d4, B27, d27, f4, f27, m4, h4, m27, h27⟩ := HKY.out
        exact ⟨A4, c4, B27, d27, e4, f27, l4, g4, m27, h27⟩)
      have hr : w11.cell? ⟨gx, 4, none⟩ = some (v4) := (blk_cell (blk_below HXX.out HB11.out) 4).trans rfl
      go_wp2_with ((with_reducible refine gate_store (t := 22) (p := 36) rfl ?_); refine hold ?_)
      refine Hold.intro (cell_store_event (t := 22) (ty := 68) (p := 36) (g := gz) (j := 4) (cs := cO (fz4 x y) u4 u27) (v := v4) rfl rfl rfl rfl rfl (by kernel_rfl) HXZ.out (by rw [cO_size]; decide) HO4.out.2 HO4.out.1 ?_)
      intro w12 hbox hg
      replace HXZ := Aside0.mk (show w12.heap[gz]? = some (.cells (cO (fz5 x y) v4 u27) 68 (0, 0)) from hbox)
      have HB12 := Aside0.mk (Below.grown HB11.out hg HB11.out.size (fun k e => by injection e with e; rw [← e]; exact HGZ.out))
      clear hbox hg HB11 hr
      obtain ⟨z, hz⟩ : ∃ z : S68, z = fz5 x y := ⟨_, rfl⟩
      rw [← hz] at HXZ HKZ
      have HTZ := Aside0.mk (show tmplI z = tmplI x from tmpl_same z x (by rw [hz]; rfl) (by rw [hz]; rfl) (by rw [hz]; rfl) (by rw [hz]; rfl) (by rw [hz]; rfl))
      have HOZ := Aside0.mk (show okT z by rw [hz]; exact HTX.out)
      clear hz
      go_wp2
      have HB13 := Aside0.mk (below_drew1 HB12.out)
      clear HB12
      replace HXZ := Aside0.mk (blk_drew HXZ.out)
      refine start_ (n := 6) (S := fun w' => w'.heap[gz]? = some (.cells (cO z v4 u27) 68 (0, 0)) ∧ w'.heap[gx]? = some (.cells (cO x v4 v27) 68 (0, 0))) (ds := []) #[false, false, false, false, false, false] (by kernel_rfl) rfl rfl ⟨HXZ.out, (blk_below HXX.out HB13.out)⟩ (fun hHeld => ?_); refine with_tabW fields.tab11 fields.bits11 (fun HT_ HW_ => ?_)
      generalize w12.drew = wd at HB13 HXZ hHeld ⊢
      refine take_ (i := 0) (N := some 37) (v := ?_) (a' := ?_) #[true, false, false, false, false, false] rfl rfl (take_ofW HT_.out HW_.out (by kernel_rfl)) (fun _ _ _ h => h) (Or.inl ⟨by rfl, ?_⟩) hHeld ?_ ?_
      rotate_left
      · rintro w' ⟨s0, s1⟩
        refine load_obj_run (p := .tmp 5) ?_ ?_ s0 ?_ <;> rfl
      rotate_left
      · simp only [Act.put, List.setIfInBounds_toArray, List.set_cons_zero, List.set_cons_succ, i64_w, i32_w]
        rfl
      refine take_ (i := 2) (N := some 39) (v := ?_) (a' := ?_) #[true, false, true, false, false, false] rfl rfl (take_ofW HT_.out HW_.out (by kernel_rfl)) (fun _ _ _ h => h) (Or.inl ⟨by rfl, ?_⟩) hHeld ?_ ?_
      rotate_left
      · rintro w' ⟨s0, s1⟩
        refine load_obj_run (p := .tmp 2) ?_ ?_ s1 ?_ <;> rfl
      rotate_left
      · simp only [Act.put, List.setIfInBounds_toArray, List.set_cons_zero, List.set_cons_succ, i64_w, i32_w]
        rfl
      refine one_ (i := 1) (N := some 38) #[true, true, true, false, false, false] rfl rfl (one_of HT_.out (by kernel_rfl)) (by decide) (fun K hK => ?_)
      refine goes_ Try.func44 (by kernel_rfl) rfl #[.agg (cO z v4 u27)] (by rfl) rfl rfl (by (try simp only [List.map_toArray, List.map_cons, List.map_nil]); first | done | rfl | (simp only [List.length_drop, List.length_take]; rfl)) ?_
      refine (tmpl.calls z v4 u27 _ (kO_below HKZ.out HB13.out) HOZ.out).mono ?_
      rintro e v14_ ⟨rfl, hb⟩
      refine ⟨_, rfl, ?_⟩
      have HB14 := Aside0.mk (below_step HB13.out hb)
      replace HXZ := Aside0.mk (blk_below HXZ.out hb)
      clear hb HB13
      refine hK.out _ _ ⟨HXZ.out, (blk_below HXX.out HB14.out)⟩ (fun hHeld => ?_)
      clear hK K
      refine norm_ (a' := ?_) ?_ ?_
      rotate_left
      · show Act.put _ (some 38) _ = _
        simp only [Act.put, List.setIfInBounds_toArray, List.set_cons_zero, List.set_cons_succ, i64_w, i32_w]
        rfl
      refine one_ (i := 3) (N := some 40) #[true, true, true, true, false, false] rfl rfl (one_of HT_.out (by kernel_rfl)) (by decide) (fun K hK => ?_)
      refine goes_ Try.func44 (by kernel_rfl) rfl #[.agg (cO x v4 v27)] (by rfl) rfl rfl (by (try simp only [List.map_toArray, List.map_cons, List.map_nil]); first | done | rfl | (simp only [List.length_drop, List.length_take]; rfl)) ?_
      refine (tmpl.calls x v4 v27 _ (kO_below HKX.out HB14.out) HTX.out).mono ?_
      rintro e v15_ ⟨rfl, hb⟩
      refine ⟨_, rfl, ?_⟩
      have HB15 := Aside0.mk (below_step HB14.out hb)
      replace HXZ := Aside0.mk (blk_below HXZ.out hb)
      clear hb HB14
      refine hK.out _ _ ⟨HXZ.out, (blk_below HXX.out HB15.out)⟩ (fun hHeld => ?_)
      clear hK K
      refine norm_ (a' := ?_) ?_ ?_
      rotate_left
      · show Act.put _ (some 40) _ = _
        simp only [Act.put, List.setIfInBounds_toArray, List.set_cons_zero, List.set_cons_succ, i64_w, i32_w]
        rfl
      rw [HTZ.out]
      generalize tmplI x = tx
      refine pure_ (i := 4) (N := some 41) (v := ?_) (a' := ?_) #[true, true, true, true, true, false] rfl rfl (any_of HT_.out (by kernel_rfl)) (fun _ _ _ h => h) (Or.inl ⟨by rfl, ?_⟩) ?_ ?_
      rotate_left
      · intro w'
        go_simp
        with_reducible rfl
      rotate_left
      · simp only [Act.put, List.setIfInBounds_toArray, List.set_cons_zero, List.set_cons_succ, i64_w, i32_w]
        rfl
      refine pure_ (i := 5) (N := some 4) (v := ?_) (a' := ?_) #[true, true, true, true, true, true] rfl rfl (any_of HT_.out (by kernel_rfl)) (fun _ _ _ h => h) (Or.inl ⟨by rfl, ?_⟩) ?_ ?_
      rotate_left
      · intro w'
        go_simp
        with_reducible rfl
      rotate_left
      · simp only [Act.put, List.setIfInBounds_toArray, List.set_cons_zero, List.set_cons_succ, i64_w, i32_w]
        rfl
      refine done_ (done_of HT_.out (by kernel_rfl)) ?_
      go_wp2
      go_ret
      exact ⟨rfl, below_step HW.out HB15.out⟩
end Go.Proofs.Ytamjjeakkkdfhaa.G
end
