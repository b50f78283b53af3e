/- Parts of the proof of RulesKept: lemmas, put together by a program of this session (pack.py) out of the kit's words, printed contracts and texts of its own. -/
import Derived.Test.YtamjjeakkkdfhaaProg
import Derived.Below
import Derived.Deep.Draws
import Derived.Deep.AppendLies
import Derived.Maps.AppendAt
import Derived.OwnWalk
import Derived.Laws.BytesArg
import Derived.Laws.MakeOwn
import Derived.Laws.OwnMore
import Derived.Deep.OwnRows
import Derived.Tactics
import Derived.Lib.ConvBytes
import Derived.Laws.Slices
import Derived.WalkKit
import Derived.KernelRfl
import Derived.RowKit3
import Derived.Deep.LoopGhost
import Derived.Deep.QuietTactic
import Derived.BigQuiet
import Derived.WideLaws
import Derived.Deep.DeepCutAuto
import Derived.Deep.CutBlock
import Derived.Deep.RegionHeld3
import Derived.Laws.Rows
import Derived.Lib.AppendStr
import Derived.ArgAppend
import Derived.Laws.IdiomCopy
import Derived.OrdersHeld
import Derived.Laws.BitsLemmas
import Derived.RowKit
import Derived.Laws.StructEq
import Derived.RangeFuncNested
import Derived.RangeFuncBound
import Derived.RangeFuncCalls
import Derived.RangeFuncLeaves
import Derived.Shelf.Abstract
import Derived.Shelf.RegionOpen
import Derived.OwnWalkIn
import Derived.TacticsInMore
import Derived.LoopNIn
import Derived.LoopIn
import Derived.Maps.Own
import Derived.Maps.OwnOps
import Derived.Maps.Views
import Derived.StringKeys
import Derived.Test.YtamjjeakkkdfhaaZRulesKepta
namespace Foot
end Foot
namespace Go.Proofs.Ytamjjeakkkdfhaa
end Go.Proofs.Ytamjjeakkkdfhaa
namespace Go.Proofs.Ytamjjeakkkdfhaa.G
end Go.Proofs.Ytamjjeakkkdfhaa.G
namespace Go.Proofs.Ytamjjeakkkdfhaa.K
end Go.Proofs.Ytamjjeakkkdfhaa.K
namespace Go.Proofs.Ytamjjeakkkdfhaa.OP
end Go.Proofs.Ytamjjeakkkdfhaa.OP
namespace Go.Proofs.Ytamjjeakkkdfhaa.PB
end Go.Proofs.Ytamjjeakkkdfhaa.PB
namespace Go.Proofs.Ytamjjeakkkdfhaa.PC
end Go.Proofs.Ytamjjeakkkdfhaa.PC
namespace Go.Proofs.Ytamjjeakkkdfhaa.PD
end Go.Proofs.Ytamjjeakkkdfhaa.PD
namespace Go.Proofs.Ytamjjeakkkdfhaa.rulesKept
end Go.Proofs.Ytamjjeakkkdfhaa.rulesKept
namespace Go.Proofs.YtamjjeakkkdfhaaE
end Go.Proofs.YtamjjeakkkdfhaaE
namespace Go.Proofs.YtamjjeakkkdfhaaRF
end Go.Proofs.YtamjjeakkkdfhaaRF
namespace Go.Proofs.YtamjjeakkkdfhaaW.PrintLast
end Go.Proofs.YtamjjeakkkdfhaaW.PrintLast
namespace Go.Proofs.YtamjjeakkkdfhaaW.PrintMore
end Go.Proofs.YtamjjeakkkdfhaaW.PrintMore
namespace Go.Proofs.YtamjjeakkkdfhaaW.PrintWords
end Go.Proofs.YtamjjeakkkdfhaaW.PrintWords
namespace Kd
end Kd
section
namespace Go.Proofs.Ytamjjeakkkdfhaa.G
end Go.Proofs.Ytamjjeakkkdfhaa.G
namespace Go.Proofs.Ytamjjeakkkdfhaa.K
open Go.RowKit Go.Proofs.YtamjjeakkkdfhaaW.PrintWords Go.Proofs.YtamjjeakkkdfhaaW.PrintLast Go.Proofs.YtamjjeakkkdfhaaW.PrintMore
open Go.Proofs.YtamjjeakkkdfhaaE
set_option linter.unusedVariables false
set_option linter.unusedSimpArgs false
def eT (c : Int) : Nat := if c < 18446744073709551616 then 114 else 145
def eV (c : Int) : Value := if c < 18446744073709551616 then .int .i64 c else .agg #[.int .i64 (c / 18446744073709551616 - 9223372036854775808), .int .i64 (c % 18446744073709551616 - 9223372036854775808)]
def fault (no at_ : Int) : Int := (no + 9223372036854775808) * 18446744073709551616 + (at_ + 9223372036854775808)
def errW : Option Int → Value
  | none => .nilIface
  | some c => .iface (eT c) (eV c)
theorem errW_none : errW none = .nilIface := rfl
theorem errW_some (c : Int) : errW (some c) = .iface (eT c) (eV c) := rfl
theorem errW_fault {no at_ : Int} (h0 : 0 ≤ no) (h1 : -9223372036854775808 ≤ at_) (h2 : at_ ≤ 9223372036854775807) : errW (some (fault no at_)) = .iface 145 (.agg #[.int .i64 no, .int .i64 at_]) := by
  have hg : ¬ fault no at_ < 18446744073709551616 := by unfold fault; omega
  have e1 : fault no at_ / 18446744073709551616 - 9223372036854775808 = no := by unfold fault; omega
  have e2 : fault no at_ % 18446744073709551616 - 9223372036854775808 = at_ := by unfold fault; omega
  rw [errW_some]; unfold eT eV; rw [if_neg hg, if_neg hg, e1, e2]
theorem info31 : (Try.prog.info? 31).map (fun i => (i.zero, i.size, i.bytes)) = some (some (.agg #[(.string ⟨#[]⟩), (.string ⟨#[]⟩)]), 2, 32) := by kernel_rfl
theorem info68 : (Try.prog.info? 68).map (fun i => (i.zero, i.size, i.bytes)) = some (some (.agg #[(.int .i64 0), (.string ⟨#[]⟩), (.int .i64 0), (.int .i64 0), (.slice none 0 0), (.int .i64 0), (.int .i64 0), (.bool false), (.bool false), (.bool false), (.int .i64 0), (.string ⟨#[]⟩), (.string ⟨#[]⟩), (.string ⟨#[]⟩), (.int .i64 0), (.bool false), (.bool false), (.int .i64 0), (.int .i64 0), (.string ⟨#[]⟩), (.int .i64 0), (.int .i64 0), (.int .i64 0), (.int .i64 0), (.int .i64 0), (.bool false), (.int .u64 0), (.slice none 0 0), (.int .i64 0), (.string ⟨#[]⟩), (.int .i64 0), (.int .i64 0)]), 32, 312) := by kernel_rfl
theorem size59 : (Try.prog.info? 59).map (fun i => i.size) = some 4 := by kernel_rfl
theorem size68 : (Try.prog.info? 68).map (fun i => i.size) = some 32 := by kernel_rfl
theorem load68_at {ops : Array Oper} {rest : List Oper} {o : Oper} {a : Act} {Q : Exit → Act → World → Prop} {W : World} {x : Operand} {a' : Addr} {v0 v1 v2 v3 v4 v5 v6 v7 v8 v9 v10 v11 v12 v13 v14 v15 v16 v17 v18 v19 v20 v21 v22 v23 v24 v25 v26 v27 v28 v29 v30 v31 : Value} (ho : o.op = .load 68 x) (hgd : o.guard = none) (he : a.eval x = .pointer (some a'))
    (h0 : W.cell? a' = some v0) (h1 : W.cell? ⟨a'.block, a'.off + 1, none⟩ = some v1) (h2 : W.cell? ⟨a'.block, a'.off + 2, none⟩ = some v2) (h3 : W.cell? ⟨a'.block, a'.off + 3, none⟩ = some v3) (h4 : W.cell? ⟨a'.block, a'.off + 4, none⟩ = some v4) (h5 : W.cell? ⟨a'.block, a'.off + 5, none⟩ = some v5) (h6 : W.cell? ⟨a'.block, a'.off + 6, none⟩ = some v6) (h7 : W.cell? ⟨a'.block, a'.off + 7, none⟩ = some v7) (h8 : W.cell? ⟨a'.block, a'.off + 8, none⟩ = some v8) (h9 : W.cell? ⟨a'.block, a'.off + 9, none⟩ = some v9) (h10 : W.cell? ⟨a'.block, a'.off + 10, none⟩ = some v10) (h11 : W.cell? ⟨a'.block, a'.off + 11, none⟩ = some v11) (h12 : W.cell? ⟨a'.block, a'.off + 12, none⟩ = some v12) (h13 : W.cell? ⟨a'.block, a'.off + 13, none⟩ = some v13) (h14 : W.cell? ⟨a'.block, a'.off + 14, none⟩ = some v14) (h15 : W.cell? ⟨a'.block, a'.off + 15, none⟩ = some v15) (h16 : W.cell? ⟨a'.block, a'.off + 16, none⟩ = some v16) (h17 : W.cell? ⟨a'.block, a'.off + 17, none⟩ = some v17) (h18 : W.cell? ⟨a'.block, a'.off + 18, none⟩ = some v18) (h19 : W.cell? ⟨a'.block, a'.off + 19, none⟩ = some v19) (h20 : W.cell? ⟨a'.block, a'.off + 20, none⟩ = some v20) (h21 : W.cell? ⟨a'.block, a'.off + 21, none⟩ = some v21) (h22 : W.cell? ⟨a'.block, a'.off + 22, none⟩ = some v22) (h23 : W.cell? ⟨a'.block, a'.off + 23, none⟩ = some v23) (h24 : W.cell? ⟨a'.block, a'.off + 24, none⟩ = some v24) (h25 : W.cell? ⟨a'.block, a'.off + 25, none⟩ = some v25) (h26 : W.cell? ⟨a'.block, a'.off + 26, none⟩ = some v26) (h27 : W.cell? ⟨a'.block, a'.off + 27, none⟩ = some v27) (h28 : W.cell? ⟨a'.block, a'.off + 28, none⟩ = some v28) (h29 : W.cell? ⟨a'.block, a'.off + 29, none⟩ = some v29) (h30 : W.cell? ⟨a'.block, a'.off + 30, none⟩ = some v30) (h31 : W.cell? ⟨a'.block, a'.off + 31, none⟩ = some v31)
    (h : wpList Try.prog ops Q rest (a.put o.dst (.agg #[v0, v1, v2, v3, v4, v5, v6, v7, v8, v9, v10, v11, v12, v13, v14, v15, v16, v17, v18, v19, v20, v21, v22, v23, v24, v25, v26, v27, v28, v29, v30, v31])) W) : wpList Try.prog ops Q (o :: rest) a W :=
  load_event hgd ho he Try.underlying68 rfl size68 h0 (r := [v1, v2, v3, v4, v5, v6, v7, v8, v9, v10, v11, v12, v13, v14, v15, v16, v17, v18, v19, v20, v21, v22, v23, v24, v25, v26, v27, v28, v29, v30, v31]) ⟨h1, h2, h3, h4, h5, h6, h7, h8, h9, h10, h11, h12, h13, h14, h15, h16, h17, h18, h19, h20, h21, h22, h23, h24, h25, h26, h27, h28, h29, h30, h31, trivial⟩ h
theorem load68_box {ops : Array Oper} {rest : List Oper} {o : Oper} {a : Act} {Q : Exit → Act → World → Prop} {W : World} {x : Operand} {g : Nat} {v0 v1 v2 v3 v4 v5 v6 v7 v8 v9 v10 v11 v12 v13 v14 v15 v16 v17 v18 v19 v20 v21 v22 v23 v24 v25 v26 v27 v28 v29 v30 v31 : Value} (ho : o.op = .load 68 x) (hgd : o.guard = none) (he : a.eval x = .pointer (some ⟨g, 0, none⟩))
    (h0 : W.cell? ⟨g, 0, none⟩ = some v0) (h1 : W.cell? ⟨g, 1, none⟩ = some v1) (h2 : W.cell? ⟨g, 2, none⟩ = some v2) (h3 : W.cell? ⟨g, 3, none⟩ = some v3) (h4 : W.cell? ⟨g, 4, none⟩ = some v4) (h5 : W.cell? ⟨g, 5, none⟩ = some v5) (h6 : W.cell? ⟨g, 6, none⟩ = some v6) (h7 : W.cell? ⟨g, 7, none⟩ = some v7) (h8 : W.cell? ⟨g, 8, none⟩ = some v8) (h9 : W.cell? ⟨g, 9, none⟩ = some v9) (h10 : W.cell? ⟨g, 10, none⟩ = some v10) (h11 : W.cell? ⟨g, 11, none⟩ = some v11) (h12 : W.cell? ⟨g, 12, none⟩ = some v12) (h13 : W.cell? ⟨g, 13, none⟩ = some v13) (h14 : W.cell? ⟨g, 14, none⟩ = some v14) (h15 : W.cell? ⟨g, 15, none⟩ = some v15) (h16 : W.cell? ⟨g, 16, none⟩ = some v16) (h17 : W.cell? ⟨g, 17, none⟩ = some v17) (h18 : W.cell? ⟨g, 18, none⟩ = some v18) (h19 : W.cell? ⟨g, 19, none⟩ = some v19) (h20 : W.cell? ⟨g, 20, none⟩ = some v20) (h21 : W.cell? ⟨g, 21, none⟩ = some v21) (h22 : W.cell? ⟨g, 22, none⟩ = some v22) (h23 : W.cell? ⟨g, 23, none⟩ = some v23) (h24 : W.cell? ⟨g, 24, none⟩ = some v24) (h25 : W.cell? ⟨g, 25, none⟩ = some v25) (h26 : W.cell? ⟨g, 26, none⟩ = some v26) (h27 : W.cell? ⟨g, 27, none⟩ = some v27) (h28 : W.cell? ⟨g, 28, none⟩ = some v28) (h29 : W.cell? ⟨g, 29, none⟩ = some v29) (h30 : W.cell? ⟨g, 30, none⟩ = some v30) (h31 : W.cell? ⟨g, 31, none⟩ = some v31)
    (h : wpList Try.prog ops Q rest (a.put o.dst (.agg #[v0, v1, v2, v3, v4, v5, v6, v7, v8, v9, v10, v11, v12, v13, v14, v15, v16, v17, v18, v19, v20, v21, v22, v23, v24, v25, v26, v27, v28, v29, v30, v31])) W) : wpList Try.prog ops Q (o :: rest) a W :=
  load_event hgd ho he Try.underlying68 rfl size68 h0 (r := [v1, v2, v3, v4, v5, v6, v7, v8, v9, v10, v11, v12, v13, v14, v15, v16, v17, v18, v19, v20, v21, v22, v23, v24, v25, v26, v27, v28, v29, v30, v31]) ⟨(by rw [Nat.zero_add]; exact h1), (by rw [Nat.zero_add]; exact h2), (by rw [Nat.zero_add]; exact h3), (by rw [Nat.zero_add]; exact h4), (by rw [Nat.zero_add]; exact h5), (by rw [Nat.zero_add]; exact h6), (by rw [Nat.zero_add]; exact h7), (by rw [Nat.zero_add]; exact h8), (by rw [Nat.zero_add]; exact h9), (by rw [Nat.zero_add]; exact h10), (by rw [Nat.zero_add]; exact h11), (by rw [Nat.zero_add]; exact h12), (by rw [Nat.zero_add]; exact h13), (by rw [Nat.zero_add]; exact h14), (by rw [Nat.zero_add]; exact h15), (by rw [Nat.zero_add]; exact h16), (by rw [Nat.zero_add]; exact h17), (by rw [Nat.zero_add]; exact h18), (by rw [Nat.zero_add]; exact h19), (by rw [Nat.zero_add]; exact h20), (by rw [Nat.zero_add]; exact h21), (by rw [Nat.zero_add]; exact h22), (by rw [Nat.zero_add]; exact h23), (by rw [Nat.zero_add]; exact h24), (by rw [Nat.zero_add]; exact h25), (by rw [Nat.zero_add]; exact h26), (by rw [Nat.zero_add]; exact h27), (by rw [Nat.zero_add]; exact h28), (by rw [Nat.zero_add]; exact h29), (by rw [Nat.zero_add]; exact h30), (by rw [Nat.zero_add]; exact h31), trivial⟩ h
theorem eqA31 (d : Nat) (w : World) (x0 y0 : ByteArray) (x1 y1 : ByteArray) :
    (Op.equalIn (d + 2) 31 (.agg #[.string x0, .string x1]) (.agg #[.string y0, .string y1])).run Try.prog w = .ok (x0.toList == y0.toList && (x1.toList == y1.toList)) w := by
  refine eqA_of Try.underlying31 (by kernel_rfl) ?_
  refine eqf_cons (by rfl) (by go_simp; rfl) (by go_simp; rfl) (by go_simp) ?_
  exact eqf_last (by rfl) (by go_simp; rfl) (by go_simp; rfl) (by go_simp)
structure S31 where
  f0 : ByteArray
  f1 : ByteArray
def z31 : S31 := ⟨(⟨#[]⟩ : ByteArray), (⟨#[]⟩ : ByteArray)⟩
def k31 : Kd S31 := Kd.iso (Kd.pair Kd.string Kd.string) (fun x : S31 => (x.f0, x.f1))
theorem k31_open {w : World} {x : S31} {cs : List Value} (h : k31.K w x cs) : cs = [.string x.f0, .string x.f1] := by
  obtain ⟨_, _, rfl, rfl, rfl⟩ := h
  exact rfl
theorem k31_mkM (w : World) (base : Nat) (ok : Nat → Prop) (x : S31)  : k31.M w base ok x [.string x.f0, .string x.f1] := ⟨[.string x.f0], [.string x.f1], rfl, rfl, rfl⟩
def rd_T31 (xs : List S31) (i : Int) : S31 := xs.getD i.toNat z31
theorem at_T31 {w : World} {A : Option Addr} {n : Nat} {xs : List S31} (h : Kd.C k31 w A n xs) (i : Int) (h0 : 0 ≤ i) (h1 : i < n) : ∃ ad , A = some ad ∧ w.cell? (ad.add (i.toNat * 2)) = some (.string (rd_T31 xs i).f0) ∧ w.cell? ⟨(ad.add (i.toNat * 2)).block, (ad.add (i.toNat * 2)).off + 1, none⟩ = some (.string (rd_T31 xs i).f1) := by
  obtain ⟨ad, c, e, _, hK, hc0⟩ := Kd.C_get h z31 i h0 h1
  have hc : ∀ j u, c[j]? = some u → w.cell? (ad.add (i.toNat * 2 + j)) = some u := hc0
  obtain rfl := k31_open hK
  exact ⟨ad, e, hc 0 _ rfl, by rw [← add_field _ _ 1 (by omega)]; exact hc 1 _ rfl⟩
structure S64 where
  f0 : Int
  f1 : Int
def z64 : S64 := ⟨(0 : Int), (0 : Int)⟩
def k64 : Kd S64 := Kd.iso (Kd.pair (Kd.int .i64) (Kd.int .i64)) (fun x : S64 => (x.f0, x.f1))
theorem k64_open {w : World} {x : S64} {cs : List Value} (h : k64.K w x cs) : cs = [.int .i64 x.f0, .int .i64 x.f1] := by
  obtain ⟨_, _, rfl, rfl, rfl⟩ := h
  exact rfl
theorem k64_openM {w : World} {base : Nat} {ok : Nat → Prop} {x : S64} {cs : List Value} (h : k64.M w base ok x cs) : cs = [.int .i64 x.f0, .int .i64 x.f1] := by
  obtain ⟨_, _, rfl, rfl, rfl⟩ := h
  exact rfl
theorem k64_mkM (w : World) (base : Nat) (ok : Nat → Prop) (x : S64)  : k64.M w base ok x [.int .i64 x.f0, .int .i64 x.f1] := ⟨[.int .i64 x.f0], [.int .i64 x.f1], rfl, rfl, rfl⟩
structure S68 where
  f0 : Int
  f1 : ByteArray
  f2 : Int
  f3 : Int
  f4 : (List S31)
  f5 : S64
  f6 : Bool
  f7 : Bool
  f8 : Bool
  f9 : Int
  f10 : ByteArray
  f11 : ByteArray
  f12 : ByteArray
  f13 : Int
  f14 : Bool
  f15 : Bool
  f16 : S64
  f17 : ByteArray
  f18 : Int
  f19 : Int
  f20 : Int
  f21 : Int
  f22 : Int
  f23 : Bool
  f24 : Int
  f25 : (List S31)
  f26 : Int
  f27 : ByteArray
  f28 : Int
  f29 : Int
def z68 : S68 := ⟨(0 : Int), (⟨#[]⟩ : ByteArray), (0 : Int), (0 : Int), ([] : List S31), z64, false, false, false, (0 : Int), (⟨#[]⟩ : ByteArray), (⟨#[]⟩ : ByteArray), (⟨#[]⟩ : ByteArray), (0 : Int), false, false, z64, (⟨#[]⟩ : ByteArray), (0 : Int), (0 : Int), (0 : Int), (0 : Int), (0 : Int), false, (0 : Int), ([] : List S31), (0 : Int), (⟨#[]⟩ : ByteArray), (0 : Int), (0 : Int)⟩
def k68 : Kd S68 := Kd.iso (Kd.pair (Kd.int .i64) (Kd.pair Kd.string (Kd.pair (Kd.int .i64) (Kd.pair (Kd.int .i64) (Kd.pair (Kd.slice 31 k31) (Kd.pair k64 (Kd.pair Kd.bool (Kd.pair Kd.bool (Kd.pair Kd.bool (Kd.pair (Kd.int .i64) (Kd.pair Kd.string (Kd.pair Kd.string (Kd.pair Kd.string (Kd.pair (Kd.int .i64) (Kd.pair Kd.bool (Kd.pair Kd.bool (Kd.pair k64 (Kd.pair Kd.string (Kd.pair (Kd.int .i64) (Kd.pair (Kd.int .i64) (Kd.pair (Kd.int .i64) (Kd.pair (Kd.int .i64) (Kd.pair (Kd.int .i64) (Kd.pair Kd.bool (Kd.pair (Kd.int .u64) (Kd.pair (Kd.slice 31 k31) (Kd.pair (Kd.int .i64) (Kd.pair Kd.string (Kd.pair (Kd.int .i64) (Kd.int .i64)))))))))))))))))))))))))))))) (fun x : S68 => (x.f0, x.f1, x.f2, x.f3, x.f4, x.f5, x.f6, x.f7, x.f8, x.f9, x.f10, x.f11, x.f12, x.f13, x.f14, x.f15, x.f16, x.f17, x.f18, x.f19, x.f20, x.f21, x.f22, x.f23, x.f24, x.f25, x.f26, x.f27, x.f28, x.f29))
theorem k68_open {w : World} {x : S68} {cs : List Value} (h : k68.K w x cs) : ∃ A4 c4 A27 c27, cs = [.int .i64 x.f0, .string x.f1, .int .i64 x.f2, .int .i64 x.f3, .slice A4 x.f4.length c4, .int .i64 x.f5.f0, .int .i64 x.f5.f1, .bool x.f6, .bool x.f7, .bool x.f8, .int .i64 x.f9, .string x.f10, .string x.f11, .string x.f12, .int .i64 x.f13, .bool x.f14, .bool x.f15, .int .i64 x.f16.f0, .int .i64 x.f16.f1, .string x.f17, .int .i64 x.f18, .int .i64 x.f19, .int .i64 x.f20, .int .i64 x.f21, .int .i64 x.f22, .bool x.f23, .int .u64 x.f24, .slice A27 x.f25.length c27, .int .i64 x.f26, .string x.f27, .int .i64 x.f28, .int .i64 x.f29] ∧ x.f4.length ≤ c4 ∧ k31.C w A4 x.f4.length x.f4 ∧ x.f25.length ≤ c27 ∧ k31.C w A27 x.f25.length x.f25 := by
  obtain ⟨_, _, rfl, rfl, ⟨_, _, rfl, rfl, ⟨_, _, rfl, rfl, ⟨_, _, rfl, rfl, ⟨_, _, rfl, ⟨A4, c4, rfl, l4, g4⟩, ⟨_, _, rfl, s5, ⟨_, _, rfl, rfl, ⟨_, _, rfl, rfl, ⟨_, _, rfl, rfl, ⟨_, _, rfl, rfl, ⟨_, _, rfl, rfl, ⟨_, _, rfl, rfl, ⟨_, _, rfl, rfl, ⟨_, _, rfl, rfl, ⟨_, _, rfl, rfl, ⟨_, _, rfl, rfl, ⟨_, _, rfl, s17, ⟨_, _, rfl, rfl, ⟨_, _, rfl, rfl, ⟨_, _, rfl, rfl, ⟨_, _, rfl, rfl, ⟨_, _, rfl, rfl, ⟨_, _, rfl, rfl, ⟨_, _, rfl, rfl, ⟨_, _, rfl, rfl, ⟨_, _, rfl, ⟨A27, c27, rfl, l27, g27⟩, ⟨_, _, rfl, rfl, ⟨_, _, rfl, rfl, ⟨_, _, rfl, rfl, rfl⟩⟩⟩⟩⟩⟩⟩⟩⟩⟩⟩⟩⟩⟩⟩⟩⟩⟩⟩⟩⟩⟩⟩⟩⟩⟩⟩⟩⟩ := h
  obtain rfl := k64_open s5
  obtain rfl := k64_open s17
  exact ⟨A4, c4, A27, c27, rfl, l4, g4, l27, g27⟩
theorem k68_openM {w : World} {base : Nat} {ok : Nat → Prop} {x : S68} {cs : List Value} (h : k68.M w base ok x cs) : ∃ v4 v27, cs = [.int .i64 x.f0, .string x.f1, .int .i64 x.f2, .int .i64 x.f3, v4, .int .i64 x.f5.f0, .int .i64 x.f5.f1, .bool x.f6, .bool x.f7, .bool x.f8, .int .i64 x.f9, .string x.f10, .string x.f11, .string x.f12, .int .i64 x.f13, .bool x.f14, .bool x.f15, .int .i64 x.f16.f0, .int .i64 x.f16.f1, .string x.f17, .int .i64 x.f18, .int .i64 x.f19, .int .i64 x.f20, .int .i64 x.f21, .int .i64 x.f22, .bool x.f23, .int .u64 x.f24, v27, .int .i64 x.f26, .string x.f27, .int .i64 x.f28, .int .i64 x.f29] ∧ k31.R 31 w base ok v4 x.f4 ∧ k31.R 31 w base ok v27 x.f25 := by
  obtain ⟨_, _, rfl, rfl, ⟨_, _, rfl, rfl, ⟨_, _, rfl, rfl, ⟨_, _, rfl, rfl, ⟨_, _, rfl, ⟨v4, rfl, g4⟩, ⟨_, _, rfl, s5, ⟨_, _, rfl, rfl, ⟨_, _, rfl, rfl, ⟨_, _, rfl, rfl, ⟨_, _, rfl, rfl, ⟨_, _, rfl, rfl, ⟨_, _, rfl, rfl, ⟨_, _, rfl, rfl, ⟨_, _, rfl, rfl, ⟨_, _, rfl, rfl, ⟨_, _, rfl, rfl, ⟨_, _, rfl, s17, ⟨_, _, rfl, rfl, ⟨_, _, rfl, rfl, ⟨_, _, rfl, rfl, ⟨_, _, rfl, rfl, ⟨_, _, rfl, rfl, ⟨_, _, rfl, rfl, ⟨_, _, rfl, rfl, ⟨_, _, rfl, rfl, ⟨_, _, rfl, ⟨v27, rfl, g27⟩, ⟨_, _, rfl, rfl, ⟨_, _, rfl, rfl, ⟨_, _, rfl, rfl, rfl⟩⟩⟩⟩⟩⟩⟩⟩⟩⟩⟩⟩⟩⟩⟩⟩⟩⟩⟩⟩⟩⟩⟩⟩⟩⟩⟩⟩⟩ := h
  obtain rfl := k64_openM s5
  obtain rfl := k64_openM s17
  exact ⟨v4, v27, rfl, g4, g27⟩
theorem k68_mkM (w : World) (base : Nat) (ok : Nat → Prop) (x : S68) {v4 : Value} (g4 : k31.R 31 w base ok v4 x.f4) {v27 : Value} (g27 : k31.R 31 w base ok v27 x.f25) : k68.M w base ok x [.int .i64 x.f0, .string x.f1, .int .i64 x.f2, .int .i64 x.f3, v4, .int .i64 x.f5.f0, .int .i64 x.f5.f1, .bool x.f6, .bool x.f7, .bool x.f8, .int .i64 x.f9, .string x.f10, .string x.f11, .string x.f12, .int .i64 x.f13, .bool x.f14, .bool x.f15, .int .i64 x.f16.f0, .int .i64 x.f16.f1, .string x.f17, .int .i64 x.f18, .int .i64 x.f19, .int .i64 x.f20, .int .i64 x.f21, .int .i64 x.f22, .bool x.f23, .int .u64 x.f24, v27, .int .i64 x.f26, .string x.f27, .int .i64 x.f28, .int .i64 x.f29] := ⟨[.int .i64 x.f0], [.string x.f1, .int .i64 x.f2, .int .i64 x.f3, v4, .int .i64 x.f5.f0, .int .i64 x.f5.f1, .bool x.f6, .bool x.f7, .bool x.f8, .int .i64 x.f9, .string x.f10, .string x.f11, .string x.f12, .int .i64 x.f13, .bool x.f14, .bool x.f15, .int .i64 x.f16.f0, .int .i64 x.f16.f1, .string x.f17, .int .i64 x.f18, .int .i64 x.f19, .int .i64 x.f20, .int .i64 x.f21, .int .i64 x.f22, .bool x.f23, .int .u64 x.f24, v27, .int .i64 x.f26, .string x.f27, .int .i64 x.f28, .int .i64 x.f29], rfl, rfl, ⟨[.string x.f1], [.int .i64 x.f2, .int .i64 x.f3, v4, .int .i64 x.f5.f0, .int .i64 x.f5.f1, .bool x.f6, .bool x.f7, .bool x.f8, .int .i64 x.f9, .string x.f10, .string x.f11, .string x.f12, .int .i64 x.f13, .bool x.f14, .bool x.f15, .int .i64 x.f16.f0, .int .i64 x.f16.f1, .string x.f17, .int .i64 x.f18, .int .i64 x.f19, .int .i64 x.f20, .int .i64 x.f21, .int .i64 x.f22, .bool x.f23, .int .u64 x.f24, v27, .int .i64 x.f26, .string x.f27, .int .i64 x.f28, .int .i64 x.f29], rfl, rfl, ⟨[.int .i64 x.f2], [.int .i64 x.f3, v4, .int .i64 x.f5.f0, .int .i64 x.f5.f1, .bool x.f6, .bool x.f7, .bool x.f8, .int .i64 x.f9, .string x.f10, .string x.f11, .string x.f12, .int .i64 x.f13, .bool x.f14, .bool x.f15, .int .i64 x.f16.f0, .int .i64 x.f16.f1, .string x.f17, .int .i64 x.f18, .int .i64 x.f19, .int .i64 x.f20, .int .i64 x.f21, .int .i64 x.f22, .bool x.f23, .int .u64 x.f24, v27, .int .i64 x.f26, .string x.f27, .int .i64 x.f28, .int .i64 x.f29], rfl, rfl, ⟨[.int .i64 x.f3], [v4, .int .i64 x.f5.f0, .int .i64 x.f5.f1, .bool x.f6, .bool x.f7, .bool x.f8, .int .i64 x.f9, .string x.f10, .string x.f11, .string x.f12, .int .i64 x.f13, .bool x.f14, .bool x.f15, .int .i64 x.f16.f0, .int .i64 x.f16.f1, .string x.f17, .int .i64 x.f18, .int .i64 x.f19, .int .i64 x.f20, .int .i64 x.f21, .int .i64 x.f22, .bool x.f23, .int .u64 x.f24, v27, .int .i64 x.f26, .string x.f27, .int .i64 x.f28, .int .i64 x.f29], rfl, rfl, ⟨[v4], [.int .i64 x.f5.f0, .int .i64 x.f5.f1, .bool x.f6, .bool x.f7, .bool x.f8, .int .i64 x.f9, .string x.f10, .string x.f11, .string x.f12, .int .i64 x.f13, .bool x.f14, .bool x.f15, .int .i64 x.f16.f0, .int .i64 x.f16.f1, .string x.f17, .int .i64 x.f18, .int .i64 x.f19, .int .i64 x.f20, .int .i64 x.f21, .int .i64 x.f22, .bool x.f23, .int .u64 x.f24, v27, .int .i64 x.f26, .string x.f27, .int .i64 x.f28, .int .i64 x.f29], rfl, ⟨v4, rfl, g4⟩, ⟨[.int .i64 x.f5.f0, .int .i64 x.f5.f1], [.bool x.f6, .bool x.f7, .bool x.f8, .int .i64 x.f9, .string x.f10, .string x.f11, .string x.f12, .int .i64 x.f13, .bool x.f14, .bool x.f15, .int .i64 x.f16.f0, .int .i64 x.f16.f1, .string x.f17, .int .i64 x.f18, .int .i64 x.f19, .int .i64 x.f20, .int .i64 x.f21, .int .i64 x.f22, .bool x.f23, .int .u64 x.f24, v27, .int .i64 x.f26, .string x.f27, .int .i64 x.f28, .int .i64 x.f29], rfl, (k64_mkM w base ok x.f5 ), ⟨[.bool x.f6], [.bool x.f7, .bool x.f8, .int .i64 x.f9, .string x.f10, .string x.f11, .string x.f12, .int .i64 x.f13, .bool x.f14, .bool x.f15, .int .i64 x.f16.f0, .int .i64 x.f16.f1, .string x.f17, .int .i64 x.f18, .int .i64 x.f19, .int .i64 x.f20, .int .i64 x.f21, .int .i64 x.f22, .bool x.f23, .int .u64 x.f24, v27, .int .i64 x.f26, .string x.f27, .int .i64 x.f28, .int .i64 x.f29], rfl, rfl, ⟨[.bool x.f7], [.bool x.f8, .int .i64 x.f9, .string x.f10, .string x.f11, .string x.f12, .int .i64 x.f13, .bool x.f14, .bool x.f15, .int .i64 x.f16.f0, .int .i64 x.f16.f1, .string x.f17, .int .i64 x.f18, .int .i64 x.f19, .int .i64 x.f20, .int .i64 x.f21, .int .i64 x.f22, .bool x.f23, .int .u64 x.f24, v27, .int .i64 x.f26, .string x.f27, .int .i64 x.f28, .int .i64 x.f29], rfl, rfl, ⟨[.bool x.f8], [.int .i64 x.f9, .string x.f10, .string x.f11, .string x.f12, .int .i64 x.f13, .bool x.f14, .bool x.f15, .int .i64 x.f16.f0, .int .i64 x.f16.f1, .string x.f17, .int .i64 x.f18, .int .i64 x.f19, .int .i64 x.f20, .int .i64 x.f21, .int .i64 x.f22, .bool x.f23, .int .u64 x.f24, v27, .int .i64 x.f26, .string x.f27, .int .i64 x.f28, .int .i64 x.f29], rfl, rfl, ⟨[.int .i64 x.f9], [.string x.f10, .string x.f11, .string x.f12, .int .i64 x.f13, .bool x.f14, .bool x.f15, .int .i64 x.f16.f0, .int .i64 x.f16.f1, .string x.f17, .int .i64 x.f18, .int .i64 x.f19, .int .i64 x.f20, .int .i64 x.f21, .int .i64 x.f22, .bool x.f23, .int .u64 x.f24, v27, .int .i64 x.f26, .string x.f27, .int .i64 x.f28, .int .i64 x.f29], rfl, rfl, ⟨[.string x.f10], [.string x.f11, .string x.f12, .int .i64 x.f13, .bool x.f14, .bool x.f15, .int .i64 x.f16.f0, .int .i64 x.f16.f1, .string x.f17, .int .i64 x.f18, .int .i64 x.f19, .int .i64 x.f20, .int .i64 x.f21, .int .i64 x.f22, .bool x.f23, .int .u64 x.f24, v27, .int .i64 x.f26, .string x.f27, .int .i64 x.f28, .int .i64 x.f29], rfl, rfl, ⟨[.string x.f11], [.string x.f12, .int .i64 x.f13, .bool x.f14, .bool x.f15, .int .i64 x.f16.f0, .int .i64 x.f16.f1, .string x.f17, .int .i64 x.f18, .int .i64 x.f19, .int .i64 x.f20, .int .i64 x.f21, .int .i64 x.f22, .bool x.f23, .int .u64 x.f24, v27, .int .i64 x.f26, .string x.f27, .int .i64 x.f28, .int .i64 x.f29], rfl, rfl, ⟨[.string x.f12], [.int .i64 x.f13, .bool x.f14, .bool x.f15, .int .i64 x.f16.f0, .int .i64 x.f16.f1, .string x.f17, .int .i64 x.f18, .int .i64 x.f19, .int .i64 x.f20, .int .i64 x.f21, .int .i64 x.f22, .bool x.f23, .int .u64 x.f24, v27, .int .i64 x.f26, .string x.f27, .int .i64 x.f28, .int .i64 x.f29], rfl, rfl, ⟨[.int .i64 x.f13], [.bool x.f14, .bool x.f15, .int .i64 x.f16.f0, .int .i64 x.f16.f1, .string x.f17, .int .i64 x.f18, .int .i64 x.f19, .int .i64 x.f20, .int .i64 x.f21, .int .i64 x.f22, .bool x.f23, .int .u64 x.f24, v27, .int .i64 x.f26, .string x.f27, .int .i64 x.f28, .int .i64 x.f29], rfl, rfl, ⟨[.bool x.f14], [.bool x.f15, .int .i64 x.f16.f0, .int .i64 x.f16.f1, .string x.f17, .int .i64 x.f18, .int .i64 x.f19, .int .i64 x.f20, .int .i64 x.f21, .int .i64 x.f22, .bool x.f23, .int .u64 x.f24, v27, .int .i64 x.f26, .string x.f27, .int .i64 x.f28, .int .i64 x.f29], rfl, rfl, ⟨[.bool x.f15], [.int .i64 x.f16.f0, .int .i64 x.f16.f1, .string x.f17, .int .i64 x.f18, .int .i64 x.f19, .int .i64 x.f20, .int .i64 x.f21, .int .i64 x.f22, .bool x.f23, .int .u64 x.f24, v27, .int .i64 x.f26, .string x.f27, .int .i64 x.f28, .int .i64 x.f29], rfl, rfl, ⟨[.int .i64 x.f16.f0, .int .i64 x.f16.f1], [.string x.f17, .int .i64 x.f18, .int .i64 x.f19, .int .i64 x.f20, .int .i64 x.f21, .int .i64 x.f22, .bool x.f23, .int .u64 x.f24, v27, .int .i64 x.f26, .string x.f27, .int .i64 x.f28, .int .i64 x.f29], rfl, (k64_mkM w base ok x.f16 ), ⟨[.string x.f17], [.int .i64 x.f18, .int .i64 x.f19, .int .i64 x.f20, .int .i64 x.f21, .int .i64 x.f22, .bool x.f23, .int .u64 x.f24, v27, .int .i64 x.f26, .string x.f27, .int .i64 x.f28, .int .i64 x.f29], rfl, rfl, ⟨[.int .i64 x.f18], [.int .i64 x.f19, .int .i64 x.f20, .int .i64 x.f21, .int .i64 x.f22, .bool x.f23, .int .u64 x.f24, v27, .int .i64 x.f26, .string x.f27, .int .i64 x.f28, .int .i64 x.f29], rfl, rfl, ⟨[.int .i64 x.f19], [.int .i64 x.f20, .int .i64 x.f21, .int .i64 x.f22, .bool x.f23, .int .u64 x.f24, v27, .int .i64 x.f26, .string x.f27, .int .i64 x.f28, .int .i64 x.f29], rfl, rfl, ⟨[.int .i64 x.f20], [.int .i64 x.f21, .int .i64 x.f22, .bool x.f23, .int .u64 x.f24, v27, .int .i64 x.f26, .string x.f27, .int .i64 x.f28, .int .i64 x.f29], rfl, rfl, ⟨[.int .i64 x.f21], [.int .i64 x.f22, .bool x.f23, .int .u64 x.f24, v27, .int .i64 x.f26, .string x.f27, .int .i64 x.f28, .int .i64 x.f29], rfl, rfl, ⟨[.int .i64 x.f22], [.bool x.f23, .int .u64 x.f24, v27, .int .i64 x.f26, .string x.f27, .int .i64 x.f28, .int .i64 x.f29], rfl, rfl, ⟨[.bool x.f23], [.int .u64 x.f24, v27, .int .i64 x.f26, .string x.f27, .int .i64 x.f28, .int .i64 x.f29], rfl, rfl, ⟨[.int .u64 x.f24], [v27, .int .i64 x.f26, .string x.f27, .int .i64 x.f28, .int .i64 x.f29], rfl, rfl, ⟨[v27], [.int .i64 x.f26, .string x.f27, .int .i64 x.f28, .int .i64 x.f29], rfl, ⟨v27, rfl, g27⟩, ⟨[.int .i64 x.f26], [.string x.f27, .int .i64 x.f28, .int .i64 x.f29], rfl, rfl, ⟨[.string x.f27], [.int .i64 x.f28, .int .i64 x.f29], rfl, rfl, ⟨[.int .i64 x.f28], [.int .i64 x.f29], rfl, rfl, rfl⟩⟩⟩⟩⟩⟩⟩⟩⟩⟩⟩⟩⟩⟩⟩⟩⟩⟩⟩⟩⟩⟩⟩⟩⟩⟩⟩⟩⟩
def rd_T68 (xs : List S68) (i : Int) : S68 := xs.getD i.toNat z68
theorem at_T68 {w : World} {A : Option Addr} {n : Nat} {xs : List S68} (h : Kd.C k68 w A n xs) (i : Int) (h0 : 0 ≤ i) (h1 : i < n) : ∃ ad A4 c4 A27 c27, A = some ad ∧ w.cell? (ad.add (i.toNat * 32)) = some (.int .i64 (rd_T68 xs i).f0) ∧ w.cell? ⟨(ad.add (i.toNat * 32)).block, (ad.add (i.toNat * 32)).off + 1, none⟩ = some (.string (rd_T68 xs i).f1) ∧ w.cell? ⟨(ad.add (i.toNat * 32)).block, (ad.add (i.toNat * 32)).off + 2, none⟩ = some (.int .i64 (rd_T68 xs i).f2) ∧ w.cell? ⟨(ad.add (i.toNat * 32)).block, (ad.add (i.toNat * 32)).off + 3, none⟩ = some (.int .i64 (rd_T68 xs i).f3) ∧ w.cell? ⟨(ad.add (i.toNat * 32)).block, (ad.add (i.toNat * 32)).off + 4, none⟩ = some (.slice A4 (rd_T68 xs i).f4.length c4) ∧ w.cell? ⟨(ad.add (i.toNat * 32)).block, (ad.add (i.toNat * 32)).off + 5, none⟩ = some (.int .i64 (rd_T68 xs i).f5.f0) ∧ w.cell? ⟨(ad.add (i.toNat * 32)).block, (ad.add (i.toNat * 32)).off + 6, none⟩ = some (.int .i64 (rd_T68 xs i).f5.f1) ∧ w.cell? ⟨(ad.add (i.toNat * 32)).block, (ad.add (i.toNat * 32)).off + 7, none⟩ = some (.bool (rd_T68 xs i).f6) ∧ w.cell? ⟨(ad.add (i.toNat * 32)).block, (ad.add (i.toNat * 32)).off + 8, none⟩ = some (.bool (rd_T68 xs i).f7) ∧ w.cell? ⟨(ad.add (i.toNat * 32)).block, (ad.add (i.toNat * 32)).off + 9, none⟩ = some (.bool (rd_T68 xs i).f8) ∧ w.cell? ⟨(ad.add (i.toNat * 32)).block, (ad.add (i.toNat * 32)).off + 10, none⟩ = some (.int .i64 (rd_T68 xs i).f9) ∧ w.cell? ⟨(ad.add (i.toNat * 32)).block, (ad.add (i.toNat * 32)).off + 11, none⟩ = some (.string (rd_T68 xs i).f10) ∧ w.cell? ⟨(ad.add (i.toNat * 32)).block, (ad.add (i.toNat * 32)).off + 12, none⟩ = some (.string (rd_T68 xs i).f11) ∧ w.cell? ⟨(ad.add (i.toNat * 32)).block, (ad.add (i.toNat * 32)).off + 13, none⟩ = some (.string (rd_T68 xs i).f12) ∧ w.cell? ⟨(ad.add (i.toNat * 32)).block, (ad.add (i.toNat * 32)).off + 14, none⟩ = some (.int .i64 (rd_T68 xs i).f13) ∧ w.cell? ⟨(ad.add (i.toNat * 32)).block, (ad.add (i.toNat * 32)).off + 15, none⟩ = some (.bool (rd_T68 xs i).f14) ∧ w.cell? ⟨(ad.add (i.toNat * 32)).block, (ad.add (i.toNat * 32)).off + 16, none⟩ = some (.bool (rd_T68 xs i).f15) ∧ w.cell? ⟨(ad.add (i.toNat * 32)).block, (ad.add (i.toNat * 32)).off + 17, none⟩ = some (.int .i64 (rd_T68 xs i).f16.f0) ∧ w.cell? ⟨(ad.add (i.toNat * 32)).block, (ad.add (i.toNat * 32)).off + 18, none⟩ = some (.int .i64 (rd_T68 xs i).f16.f1) ∧ w.cell? ⟨(ad.add (i.toNat * 32)).block, (ad.add (i.toNat * 32)).off + 19, none⟩ = some (.string (rd_T68 xs i).f17) ∧ w.cell? ⟨(ad.add (i.toNat * 32)).block, (ad.add (i.toNat * 32)).off + 20, none⟩ = some (.int .i64 (rd_T68 xs i).f18) ∧ w.cell? ⟨(ad.add (i.toNat * 32)).block, (ad.add (i.toNat * 32)).off + 21, none⟩ = some (.int .i64 (rd_T68 xs i).f19) ∧ w.cell? ⟨(ad.add (i.toNat * 32)).block, (ad.add (i.toNat * 32)).off + 22, none⟩ = some (.int .i64 (rd_T68 xs i).f20) ∧ w.cell? ⟨(ad.add (i.toNat * 32)).block, (ad.add (i.toNat * 32)).off + 23, none⟩ = some (.int .i64 (rd_T68 xs i).f21) ∧ w.cell? ⟨(ad.add (i.toNat * 32)).block, (ad.add (i.toNat * 32)).off + 24, none⟩ = some (.int .i64 (rd_T68 xs i).f22) ∧ w.cell? ⟨(ad.add (i.toNat * 32)).block, (ad.add (i.toNat * 32)).off + 25, none⟩ = some (.bool (rd_T68 xs i).f23) ∧ w.cell? ⟨(ad.add (i.toNat * 32)).block, (ad.add (i.toNat * 32)).off + 26, none⟩ = some (.int .u64 (rd_T68 xs i).f24) ∧ w.cell? ⟨(ad.add (i.toNat * 32)).block, (ad.add (i.toNat * 32)).off + 27, none⟩ = some (.slice A27 (rd_T68 xs i).f25.length c27) ∧ w.cell? ⟨(ad.add (i.toNat * 32)).block, (ad.add (i.toNat * 32)).off + 28, none⟩ = some (.int .i64 (rd_T68 xs i).f26) ∧ w.cell? ⟨(ad.add (i.toNat * 32)).block, (ad.add (i.toNat * 32)).off + 29, none⟩ = some (.string (rd_T68 xs i).f27) ∧ w.cell? ⟨(ad.add (i.toNat * 32)).block, (ad.add (i.toNat * 32)).off + 30, none⟩ = some (.int .i64 (rd_T68 xs i).f28) ∧ w.cell? ⟨(ad.add (i.toNat * 32)).block, (ad.add (i.toNat * 32)).off + 31, none⟩ = some (.int .i64 (rd_T68 xs i).f29) ∧ (rd_T68 xs i).f4.length ≤ c4 ∧ k31.C w A4 (rd_T68 xs i).f4.length (rd_T68 xs i).f4 ∧ (rd_T68 xs i).f25.length ≤ c27 ∧ k31.C w A27 (rd_T68 xs i).f25.length (rd_T68 xs i).f25 := by
  obtain ⟨ad, c, e, _, hK, hc0⟩ := Kd.C_get h z68 i h0 h1
  have hc : ∀ j u, c[j]? = some u → w.cell? (ad.add (i.toNat * 32 + j)) = some u := hc0
  obtain ⟨A4, c4, A27, c27, rfl, l4, g4, l27, g27⟩ := k68_open hK
  exact ⟨ad, A4, c4, A27, c27, e, hc 0 _ rfl, by rw [← add_field _ _ 1 (by omega)]; exact hc 1 _ rfl, by rw [← add_field _ _ 2 (by omega)]; exact hc 2 _ rfl, by rw [← add_field _ _ 3 (by omega)]; exact hc 3 _ rfl, by rw [← add_field _ _ 4 (by omega)]; exact hc 4 _ rfl, by rw [← add_field _ _ 5 (by omega)]; exact hc 5 _ rfl, by rw [← add_field _ _ 6 (by omega)]; exact hc 6 _ rfl, by rw [← add_field _ _ 7 (by omega)]; exact hc 7 _ rfl, by rw [← add_field _ _ 8 (by omega)]; exact hc 8 _ rfl, by rw [← add_field _ _ 9 (by omega)]; exact hc 9 _ rfl, by rw [← add_field _ _ 10 (by omega)]; exact hc 10 _ rfl, by rw [← add_field _ _ 11 (by omega)]; exact hc 11 _ rfl, by rw [← add_field _ _ 12 (by omega)]; exact hc 12 _ rfl, by rw [← add_field _ _ 13 (by omega)]; exact hc 13 _ rfl, by rw [← add_field _ _ 14 (by omega)]; exact hc 14 _ rfl, by rw [← add_field _ _ 15 (by omega)]; exact hc 15 _ rfl, by rw [← add_field _ _ 16 (by omega)]; exact hc 16 _ rfl, by rw [← add_field _ _ 17 (by omega)]; exact hc 17 _ rfl, by rw [← add_field _ _ 18 (by omega)]; exact hc 18 _ rfl, by rw [← add_field _ _ 19 (by omega)]; exact hc 19 _ rfl, by rw [← add_field _ _ 20 (by omega)]; exact hc 20 _ rfl, by rw [← add_field _ _ 21 (by omega)]; exact hc 21 _ rfl, by rw [← add_field _ _ 22 (by omega)]; exact hc 22 _ rfl, by rw [← add_field _ _ 23 (by omega)]; exact hc 23 _ rfl, by rw [← add_field _ _ 24 (by omega)]; exact hc 24 _ rfl, by rw [← add_field _ _ 25 (by omega)]; exact hc 25 _ rfl, by rw [← add_field _ _ 26 (by omega)]; exact hc 26 _ rfl, by rw [← add_field _ _ 27 (by omega)]; exact hc 27 _ rfl, by rw [← add_field _ _ 28 (by omega)]; exact hc 28 _ rfl, by rw [← add_field _ _ 29 (by omega)]; exact hc 29 _ rfl, by rw [← add_field _ _ 30 (by omega)]; exact hc 30 _ rfl, by rw [← add_field _ _ 31 (by omega)]; exact hc 31 _ rfl, l4, g4, l27, g27⟩
structure S59 where
  f0 : (List S68)
  f1 : (List S68)
  f2 : (List S68)
  f3 : (List S68)
structure S137 where
  f0 : Int
  f1 : ByteArray
structure S139 where
  f0 : S137
  f1 : Bool
  f2 : S68
structure S82 where
  f0 : Int
  f1 : (List S139)
structure S36 where
  f0 : Int
  f1 : Int
  f2 : Bool
structure S39 where
  f0 : Int
  f1 : Int
structure S154 where
  f0 : Int
  f1 : S68
  f2 : Int
  f3 : ByteArray
  f4 : Int
  f5 : ByteArray
  f6 : Int
  f7 : Bool
  f8 : Int
  f9 : ByteArray
  f10 : Int
end Go.Proofs.Ytamjjeakkkdfhaa.K
end
section
namespace Go.Proofs.YtamjjeakkkdfhaaRF
open Go Go.RowKit
def Keep (S : Nat → Prop) (A B : World) : Prop := A.heap.size ≤ B.heap.size ∧ ∀ k, S k → k < A.heap.size → B.heap[k]? = A.heap[k]?
theorem Keep.refl (S : Nat → Prop) (A : World) : Keep S A A := ⟨Nat.le_refl _, fun _ _ _ => rfl⟩
theorem Keep.trans {S : Nat → Prop} {A B C : World} (h : Keep S A B) (k : Keep S B C) : Keep S A C :=
  ⟨Nat.le_trans h.1 k.1, fun i hi hl => (k.2 i hi (Nat.lt_of_lt_of_le hl h.1)).trans (h.2 i hi hl)⟩
theorem Keep.mono {S S' : Nat → Prop} {A B : World} (h : Keep S A B) (hs : ∀ k, S' k → S k) : Keep S' A B := ⟨h.1, fun k hk hl => h.2 k (hs k hk) hl⟩
theorem Keep.grown {S : Nat → Prop} {A B : World} {row : Option Nat} (hg : A.grownBy B row) (hr : ∀ r, row = some r → ¬ S r) : Keep S A B :=
  ⟨hg.size, fun k hk hl => hg.block k hl (fun e => hr k e.symm hk)⟩
theorem Keep.below {S : Nat → Prop} {A B : World} {n : Nat} (hb : Below n A B) (hs : ∀ k, S k → k < n) : Keep S A B := ⟨hb.size, fun k hk _ => hb.block k (hs k hk)⟩
def Stp (T : Nat → Prop) (A B : World) : Prop := ∃ row, A.grownBy B row ∧ ∀ r, row = some r → T r
def Firm (T : Nat → Prop) (J : World → Prop) : Prop := ∀ A B, J A → Stp T A B → J B
def Its (T : Nat → Prop) (b c k : Nat) : Prop := T k ∨ (b ≤ k ∧ k < b + c)
def IterAt (P : Program) (g : Nat) (lb : Array Value) (rows : List (Array Value)) (S T : Nat → Prop) (c : Nat) (w0 : World) : Prop :=
  ∀ (l : Nat) (J Jx : Nat → World → Prop) (W : World), Keep S w0 W → (∀ i, Firm (Its T W.heap.size c) (J i)) → (∀ i, Firm (Its T W.heap.size c) (Jx i)) →
    (∀ (i : Nat) (W1 : World) (x : Array Value), rows[i]? = some x → J i W1 → W.heap.size + c ≤ W1.heap.size → YieldAt Fence.wide 0 P l x W1 fun e W' =>
      (e = .returned (.bool true) ∧ J (i + 1) W' ∧ Keep (Its S W.heap.size c) W1 W') ∨ (e = .returned (.bool false) ∧ Jx (i + 1) W')) →
    J 0 W → CallsIn Fence.wide 0 P g (#[.func (.yield l) #[] #[]] ++ lb) W fun e W' => (∃ v, e = .returned v) ∧ (J rows.length W' ∨ ∃ i, i ≤ rows.length ∧ Jx i W')
def Books (b : Nat) (W W' : World) : Prop := W.heap.size ≤ W'.heap.size ∧ ∀ k o, (k = b ∨ k = b + 1) → W.heap[k]? = some o → W'.heap[k]? = some o
theorem Books.refl (b : Nat) (W : World) : Books b W W := ⟨Nat.le_refl _, fun _ _ _ h => h⟩
theorem Books.trans {b : Nat} {X Y Z : World} (h : Books b X Y) (k : Books b Y Z) : Books b X Z := ⟨Nat.le_trans h.1 k.1, fun i o hi ho => k.2 i o hi (h.2 i o hi ho)⟩
theorem Books.grown {b : Nat} {A B : World} {row : Option Nat} (hg : A.grownBy B row) (hr : ∀ r, row = some r → r ≠ b ∧ r ≠ b + 1) : Books b A B :=
  ⟨hg.size, fun k o hk ho => (hg.block k (Array.getElem?_eq_some_iff.1 ho).1 (fun e => by have := hr k e.symm; omega)).trans ho⟩
theorem Books.below {b n : Nat} {A B : World} (hb : Below n A B) (hn : b + 1 < n) : Books b A B := ⟨hb.size, fun k o hk ho => (hb.block k (by omega)).trans ho⟩
def roundEnd (b c : Nat) (S : Nat → Prop) (I : Nat → World → Prop) (Ix : Code → Nat → World → Prop) (i : Nat) (W : World) : Exit → Act → World → Prop
  | .normal, _, W' => Books b W W' ∧ Keep (Its S (b + 2) c) W W' ∧ I i W'
  | .ret, _, W' => Books b W W' ∧ Ix .ret i W'
  | .exit id, _, W' => Books b W W' ∧ Ix (.exit id) i W'
  | .goto t, _, W' => Books b W W' ∧ Ix (.goto t) i W'
  | .panic _, _, _ => False
  | .outgrown, _, _ => False
theorem firm_putObj {T : Nat → Prop} {J : World → Prop} (h : Firm T J) {W : World} {l : Nat} (o : Obj) (hJ : J W) (hT : T l) : J (W.putObj l o) :=
  h _ _ hJ ⟨some l, grownBy_putObj' W l o, fun r e => by cases e; exact hT⟩
theorem firm_alloc {T : Nat → Prop} {J : World → Prop} (h : Firm T J) {W : World} (o : Obj) (hJ : J W) : J (W.alloc o) :=
  h _ _ hJ ⟨none, World.grownBy_alloc W o none, fun r e => by cases e⟩
variable {P : Program} {FR : Option Nat}
theorem wpIn_range {g : Operand} {ps : Array Tmp} {assign body : Code} {Q : Exit → Act → World → Prop} {a : Act} {w : World}
    {gf : Nat} {lb : Array Value} (hg : a.eval g = .func (.func gf) #[] lb) (eg : ∀ args w, (callFunc gf args).run P w = .ok (.enter gf args) w)
    {rows : List (Array Value)} {S T : Nat → Prop} {c : Nat} (it : IterAt P gf lb rows S T c w) (hS : ∀ k, S k → k < w.heap.size) (hT : ∀ k, T k → S k) (hps : ∀ (i : Nat) (x : Array Value), rows[i]? = some x → x.size = ps.size)
    (I : Nat → World → Prop) (Ix : Code → Nat → World → Prop) (Ax : Nat → Act → World → Prop)
    (hI : ∀ i, Firm (Its T w.heap.size (c + 2)) (I i)) (hIx : ∀ cd i, Firm (Its T w.heap.size (c + 2)) (Ix cd i)) (hAx : ∀ i a', Firm (Its T w.heap.size (c + 2)) (Ax i a')) (h0 : I 0 w)
    (hassign : ∀ (l i : Nat) (W : World) (x : Array Value) (K : Act → World → Prop), rows[i]? = some x → I i W → w.heap.size + 2 + c ≤ W.heap.size →
      (∀ a' W', Books w.heap.size W W' → Keep (Its S (w.heap.size + 2) c) W W' → Ax i a' W' → K a' W') →
      assign.wpIn (Fence.wide.inRound l) 0 P (Exit.then K (fun _ _ _ => False)) { tmps := (ps.zip x).foldl (fun t (p, v) => t.setIfInBounds p v) a.tmps, defers := [] } W)
    (hbody : ∀ (l i : Nat) (a' : Act) (W : World), i < rows.length → Ax i a' W → w.heap.size + 2 + c ≤ W.heap.size → body.wpIn (Fence.wide.inRound l) 0 P (roundEnd w.heap.size c S I Ix (i + 1) W) a' W)
    (hdone : ∀ (W : World), I rows.length W → W.heap[w.heap.size]? = some (.deferred (some [])) → w.heap.size + 2 ≤ W.heap.size → Q .normal { a with defers := { target := .collected w.heap.size, args := #[] } :: a.defers } W)
    (hstop : ∀ (cd : Code) (i : Nat) (W : World), i ≤ rows.length → Ix cd i W → W.heap[w.heap.size]? = some (.deferred (some [])) → w.heap.size + 2 ≤ W.heap.size → cd.wpIn Fence.wide 0 P Q { a with defers := { target := .collected w.heap.size, args := #[] } :: a.defers } W) :
    (Code.rangeFunc g ps assign body).wpIn Fence.wide 0 P Q a w := by
  refine wpIn_rangeFunc ?_
  intro fn hfn
  obtain ⟨rec, hrec⟩ : ∃ rec : LoopState → Option Code → Loop, rec = fun st pe => { state := st, pending := pe, fn, tmps := a.tmps, params := ps, assign, body, defers := w.heap.size } := ⟨_, rfl⟩
  obtain ⟨W1, hW1⟩ : ∃ W1, (w.alloc (.deferred (some []))).alloc (.loop (rec .ready none)) = W1 := ⟨_, rfl⟩
  have hz1 : W1.heap.size = w.heap.size + 2 := by rw [← hW1]; simp
  have hL1 : W1.heap[w.heap.size + 1]? = some (.loop (rec .ready none)) := by
    rw [← hW1]; have := World.alloc_heap_new (w.alloc (.deferred (some []))) (.loop (rec .ready none)); rwa [World.size_alloc] at this
  have hK1 : W1.heap[w.heap.size]? = some (.deferred (some [])) := by
    rw [← hW1]; exact (Below.heap_alloc _ _ _ (by simp)).trans (World.alloc_heap_new w _)
  have hI1 : I 0 W1 := by rw [← hW1]; exact firm_alloc (hI 0) _ (firm_alloc (hI 0) _ h0)
  have hb1 : Below w.heap.size w W1 := by
    rw [← hW1]; exact ((Below.refl _ w).alloc (Nat.le_refl _) _).alloc (by simp) _
  have up : ∀ k, Its T W1.heap.size c k → Its T w.heap.size (c + 2) k := fun k h => by
    rcases h with h | ⟨h1, h2⟩
    · exact .inl h
    · exact .inr ⟨by omega, by omega⟩
  have off : ∀ k, Its T W1.heap.size c k → k ≠ w.heap.size ∧ k ≠ w.heap.size + 1 := fun k h => by
    rcases h with h | ⟨h1, h2⟩
    · have := hS k (hT k h); omega
    · omega
  have upS : ∀ k, Its S (w.heap.size + 2) c k → Its S W1.heap.size c k := fun k h => by rw [hz1]; exact h
  have e1 : Its T w.heap.size (c + 2) (w.heap.size + 1) := .inr ⟨by omega, by omega⟩
  have e0 : Its T w.heap.size (c + 2) w.heap.size := .inr ⟨by omega, by omega⟩
  refine ⟨w.heap.size + 1, [{ target := .collected w.heap.size, args := #[] }], W1, { target := .fn (.func gf) lb, args := #[.func (.yield (w.heap.size + 1)) #[] #[]] }, W1, gf,
    #[.func (.yield (w.heap.size + 1)) #[] #[]] ++ lb, W1, ?_, ?_, ?_, ?_, fun h => by simp [Fence.wide] at h, ?_⟩
  · rw [← hW1, hrec]; exact run_enterLoop_outer _ _ _ _ _
  · simp only [resolve, hg]
    simp [go_sem]
  · intro f' _; trivial
  · simp [invoke, go_sem, eg]
  · refine (it (w.heap.size + 1)
      (fun i W => I i W ∧ W.heap[w.heap.size + 1]? = some (.loop (rec .ready none)) ∧ W.heap[w.heap.size]? = some (.deferred (some [])) ∧ w.heap.size + 2 ≤ W.heap.size)
      (fun i W => ∃ cd, Ix cd i W ∧ W.heap[w.heap.size + 1]? = some (.loop (rec .done (some cd))) ∧ W.heap[w.heap.size]? = some (.deferred (some [])) ∧ w.heap.size + 2 ≤ W.heap.size)
      W1 (Keep.below hb1 hS)
      (fun i A B hs hst => by
        obtain ⟨row, hg', hr⟩ := hst
        have bk := Books.grown (b := w.heap.size) hg' (fun r e => off r (hr r e))
        exact ⟨hI i A B hs.1 ⟨row, hg', fun r e => up r (hr r e)⟩, bk.2 _ _ (.inr rfl) hs.2.1, bk.2 _ _ (.inl rfl) hs.2.2.1, Nat.le_trans hs.2.2.2 hg'.size⟩)
      (fun i A B hs hst => by
        obtain ⟨cd, h1, h2, h3, h4⟩ := hs
        obtain ⟨row, hg', hr⟩ := hst
        have bk := Books.grown (b := w.heap.size) hg' (fun r e => off r (hr r e))
        exact ⟨cd, hIx cd i A B h1 ⟨row, hg', fun r e => up r (hr r e)⟩, bk.2 _ _ (.inr rfl) h2, bk.2 _ _ (.inl rfl) h3, Nat.le_trans h4 hg'.size⟩)
      ?_ ⟨hI1, hL1, hK1, by omega⟩).mono ?_
    ·
      rintro i W x hx ⟨hi, hl, hk, hz⟩ hzc
      have hil : i < rows.length := (List.getElem?_eq_some_iff.1 hx).1
      have hy := run_yield (P := P) (args := x) hl (by rw [hrec]; exact hps i x hx)
      rw [hrec] at hy
      refine ⟨fn, _, assign, body, hy, roundIn_of_wpIn hfn (hassign _ i W x _ hx hi (by omega) ?_)⟩
      clear hy
      intro a' Wa hbk hkp hax
      have hl' := hbk.2 _ _ (.inr rfl) hl
      have hk' := hbk.2 _ _ (.inl rfl) hk
      have hza : w.heap.size + 2 + c ≤ Wa.heap.size := by have := hbk.1; omega
      have hlt : w.heap.size + 1 < Wa.heap.size := by omega
      refine ⟨_, run_beginRound hl' (by rw [hrec]), ?_⟩
      have hl2 : (Wa.putObj (w.heap.size + 1) (.loop { rec .ready none with state := .busy })).heap[w.heap.size + 1]? = some (.loop { rec .ready none with state := .busy }) := World.putObj_heap_same hlt
      have hk2 : (Wa.putObj (w.heap.size + 1) (.loop { rec .ready none with state := .busy })).heap[w.heap.size]? = some (.deferred (some [])) := (World.putObj_heap_other (by omega)).trans hk'
      have notS : ¬ Its S W1.heap.size c (w.heap.size + 1) := fun h => by
        rcases h with h | ⟨h1, h2⟩
        · have := hS _ h; omega
        · omega
      have hw2 : Keep (Its S W1.heap.size c) Wa (Wa.putObj (w.heap.size + 1) (.loop { rec .ready none with state := .busy })) := Keep.grown (grownBy_putObj' _ _ _) (fun r e => by cases e; exact notS)
      refine wpIn_mono (hbody _ i a' _ hil (firm_putObj (hAx i a') _ hax e1) (by simp; omega)) ?_
      have fin : ∀ (jump : Option Code) (W3 : World), Books w.heap.size (Wa.putObj (w.heap.size + 1) (.loop { rec .ready none with state := .busy })) W3 →
          (Instr.endRound (w.heap.size + 1) jump).run P W3 = .ok (.bool jump.isNone) (W3.putObj (w.heap.size + 1) (.loop (rec (if jump.isNone then .ready else .done) jump))) ∧
          W3.heap[w.heap.size + 1]? = some (.loop { rec .ready none with state := .busy }) ∧
          (W3.putObj (w.heap.size + 1) (.loop (rec (if jump.isNone then .ready else .done) jump))).heap[w.heap.size + 1]? = some (.loop (rec (if jump.isNone then .ready else .done) jump)) ∧
          (W3.putObj (w.heap.size + 1) (.loop (rec (if jump.isNone then .ready else .done) jump))).heap[w.heap.size]? = some (.deferred (some [])) ∧
          w.heap.size + 2 ≤ (W3.putObj (w.heap.size + 1) (.loop (rec (if jump.isNone then .ready else .done) jump))).heap.size := fun jump W3 hk3 => by
        have hl3 := hk3.2 _ _ (.inr rfl) hl2
        have := run_endRound (P := P) jump hl3
        rw [hrec] at this ⊢
        have hz3 := hk3.1
        simp only [World.putObj_size] at hz3
        exact ⟨this, by rw [hrec] at hl3; exact hl3, World.putObj_heap_same (Array.getElem?_eq_some_iff.1 hl3).1, (World.putObj_heap_other (by omega)).trans (hk3.2 _ _ (.inl rfl) hk2), by simp; omega⟩
      rintro e a3 W3 hp
      cases e with
      | normal =>
        obtain ⟨hk3, hkp3, hi3⟩ := hp
        obtain ⟨hr, hl3, hl4, hk4, hz4⟩ := fin none W3 hk3
        exact ⟨_, _, hr, .inl ⟨rfl, ⟨firm_putObj (hI _) _ hi3 e1, hl4, hk4, hz4⟩, (hkp.mono (fun k h => by rw [← hz1]; exact h)).trans (hw2.trans ((hkp3.mono (fun k h => by rw [← hz1]; exact h)).trans (Keep.grown (grownBy_putObj' _ _ _) (fun r e => by cases e; exact notS))))⟩⟩
      | ret =>
        obtain ⟨hk3, hi3⟩ := hp
        obtain ⟨hr, hl3, hl4, hk4, hz4⟩ := fin (some .ret) W3 hk3
        exact ⟨_, _, hr, .inr ⟨rfl, .ret, firm_putObj (hIx _ _) _ hi3 e1, hl4, hk4, hz4⟩⟩
      | exit id =>
        obtain ⟨hk3, hi3⟩ := hp
        obtain ⟨hr, hl3, hl4, hk4, hz4⟩ := fin (some (.exit id)) W3 hk3
        exact ⟨_, _, hr, .inr ⟨rfl, .exit id, firm_putObj (hIx _ _) _ hi3 e1, hl4, hk4, hz4⟩⟩
      | goto t =>
        obtain ⟨hk3, hi3⟩ := hp
        obtain ⟨hr, hl3, hl4, hk4, hz4⟩ := fin (some (.goto t)) W3 hk3
        exact ⟨_, _, hr, .inr ⟨rfl, .goto t, firm_putObj (hIx _ _) _ hi3 e1, hl4, hk4, hz4⟩⟩
      | panic ch => exact hp.elim
      | outgrown => exact hp.elim
    ·
      rintro e W2 ⟨⟨v, rfl⟩, (⟨hi, hl, hk, hz⟩ | ⟨i, hil, cd, hi, hl, hk, hz⟩)⟩
      · exact ⟨none, _, by have := run_endLoop (P := P) hl (by rw [hrec]; simp); rw [hrec] at this; exact this, hdone _ (firm_putObj (hI _) _ hi e1) ((World.putObj_heap_other (by omega)).trans hk) (by simp; exact hz)⟩
      · exact ⟨some cd, _, by have := run_endLoop (P := P) hl (by rw [hrec]; simp); rw [hrec] at this; exact this, hstop cd i _ hil (firm_putObj (hIx cd i) _ hi e1) ((World.putObj_heap_other (by omega)).trans hk) (by simp; exact hz)⟩
end Go.Proofs.YtamjjeakkkdfhaaRF
end
section
namespace Go.Proofs.Ytamjjeakkkdfhaa.G
open Go.RowKit Go.Proofs.YtamjjeakkkdfhaaW.PrintWords Go.Proofs.YtamjjeakkkdfhaaW.PrintLast Go.Proofs.YtamjjeakkkdfhaaW.PrintMore
open Go.Proofs.Ytamjjeakkkdfhaa.K Go.Proofs.YtamjjeakkkdfhaaE
set_option linter.unusedVariables false
set_option linter.unusedSimpArgs false
def PredK (g : Nat) (lb : Array Value) (p : S68 → Bool) (w0 : World) : Prop :=
  ∀ (W : World) (x : S68) (cs : List Value), Below w0.heap.size w0 W → k68.K W x cs → Calls Try.prog g (#[.agg cs.toArray] ++ lb) W fun e w' => e = .returned (.bool (p x)) ∧ Below W.heap.size W w'
theorem retI {a b : Int} (h : a = b) : Ending.returned (.int .i64 a) = Ending.returned (.int .i64 b) := by rw [h]
theorem retB {a b : Bool} (h : a = b) : Ending.returned (.bool a) = Ending.returned (.bool b) := by rw [h]
def zcObj : Array Value := #[.int .i64 0, .string (⟨#[]⟩ : ByteArray), .int .i64 0, .int .i64 0, .slice none 0 0, .int .i64 0, .int .i64 0, .bool false, .bool false, .bool false, .int .i64 0, .string (⟨#[]⟩ : ByteArray), .string (⟨#[]⟩ : ByteArray), .string (⟨#[]⟩ : ByteArray), .int .i64 0, .bool false, .bool false, .int .i64 0, .int .i64 0, .string (⟨#[]⟩ : ByteArray), .int .i64 0, .int .i64 0, .int .i64 0, .int .i64 0, .int .i64 0, .bool false, .int .u64 0, .slice none 0 0, .int .i64 0, .string (⟨#[]⟩ : ByteArray), .int .i64 0, .int .i64 0]
set_option maxRecDepth 100000 in
set_option maxHeartbeats 2000000 in
theorem alloc_obj {ops : Array Oper} {rest : List Oper} {o : Oper} {a : Act} {Q : Exit → Act → World → Prop} {W : World} (ho : o.op = .alloc 68) (hgd : o.guard = none) {N : Tmp} (hd : o.dst = some N)
    (h : ∀ g, g = W.heap.size → ∀ w1, w1.heap[g]? = some (.cells zcObj 68 (0, 0)) → Below W.heap.size W w1 → wpList Try.prog ops Q rest (a.put o.dst (.pointer (some ⟨g, 0, none⟩))) w1) : wpList Try.prog ops Q (o :: rest) a W := by
  refine box_event hgd hd (t := 68) (cs := zcObj) ?_ h
  unfold zcObj execOp
  rw [ho]
  first | (go_simp; done) | (go_simp; rfl)
set_option maxRecDepth 100000 in
set_option maxHeartbeats 2000000 in
theorem build_obj {ops : Array Oper} {rest : List Oper} {o : Oper} {a : Act} {Q : Exit → Act → World → Prop} {W : World} (ho : o.op = .build 68 #[]) (hgd : o.guard = none)
    (h : wpList Try.prog ops Q rest (a.put o.dst (.agg zcObj)) W) : wpList Try.prog ops Q (o :: rest) a W := by
  refine wpList_plain hgd fun K hK => ?_
  have hrun : (execOp a.eval o).run Try.prog W = .ok (.value (.agg zcObj)) W := by
    unfold zcObj execOp
    rw [ho]
    first | (go_simp; done) | (go_simp; rfl)
  unfold Oper.wp
  rw [hrun]
  exact hK _ _ h
theorem zc_one : zcObj.toList.all (·.oneCell') = true := rfl
theorem zc_size : zcObj.size = 32 := rfl
theorem results_obj_bool {fn : Func} {p u : Tmp} (h : fn.results = #[.cell p 68, .tmp u]) (tmps : Array Value) (w : World) (g : Nat) (cs : Array Value) (hp : tmps.getD p undef = .pointer (some ⟨g, 0, none⟩)) (hg : w.heap[g]? = some (.cells cs 68 (0, 0))) (hs : cs.size = 32) :
    (results fn tmps).run Try.prog w = .ok (.tuple #[.agg cs, tmps.getD u undef]) w := by
  have hl := run_loadVar_row (P := Try.prog) w g 68 68 cs (0, 0) _ hg Try.underlying68 rfl (by rw [hs]; exact size68)
  rw [results_cell_tmp h, hp]
  have ha : (asAddr (.pointer (some ⟨g, 0, none⟩))).run Try.prog w = .ok ⟨g, 0, none⟩ w := by simp [asAddr]
  rw [ha]
  simp only [Result.andThen_ok, hl]
def idxOf (p : S68 → Bool) (l : List S68) : Int := match l.findIdx? p with | some i => (i : Int) | none => -1
theorem rd_get {l : List S68} {k : Nat} (h : k < l.length) : rd_T68 l (k : Int) = l[k] := by simp [rd_T68, List.getD_eq_getElem?_getD, h]
theorem idx_at {p : S68 → Bool} {l : List S68} {k : Nat} (h : k < l.length) (hn : ∀ j (hj : j < l.length), j < k → p l[j] = false) (hk : p (rd_T68 l (k : Int)) = true) : idxOf p l = (k : Int) := by
  have : l.findIdx? p = some k := by
    rw [List.findIdx?_eq_some_iff_getElem]
    rw [rd_get h] at hk
    exact ⟨h, hk, fun j hj => by rw [hn j (by omega) hj]; simp⟩
  simp [idxOf, this]
theorem idx_none {p : S68 → Bool} {l : List S68} (hn : ∀ j (hj : j < l.length), j < l.length → p l[j] = false) : idxOf p l = -1 := by
  have : l.findIdx? p = none := by
    rw [List.findIdx?_eq_none_iff]
    intro x hx
    obtain ⟨j, hj, rfl⟩ := List.mem_iff_getElem.1 hx
    exact hn j hj hj
  simp [idxOf, this]
set_option maxRecDepth 100000 in
set_option maxHeartbeats 2000000 in
theorem slices_IndexFunc_obj.calls (A0 : Option Addr) (c0 : Nat) (l0 : List S68) (g : Nat) (lb : Array Value) (p : S68 → Bool) (w : World) (hr0 : k68.C w A0 l0.length l0) (hp : PredK g lb p w) (eg : ∀ args w, (callFunc g args).run Try.prog w = .ok (.enter g args) w) :
    Calls Try.prog 125 #[.slice A0 l0.length c0, .func (.func g) #[] lb] w fun e w' => e = .returned (.int .i64 (idxOf p l0)) ∧ Below w.heap.size w w' := by
  have hl0 := hr0.2.1
  have HR0 := Aside0.mk hr0
  have HP := Aside0.mk hp
  clear hr0 hp
  go_enter Try.func125, Try.ntmps125
  go_wp2
  go_loopw [8] (fun i wr => ∃ k : Nat, k ≤ l0.length ∧ i = .int .i64 k ∧ Aside0 (∀ j (hj : j < l0.length), j < k → p l0[j] = false) ∧ Aside0 (Below w.heap.size w wr)) (fun i _ => l0.length - (intOf i).toNat)
  case atStart => exact ⟨0, Nat.zero_le _, rfl, ⟨fun _ _ h => absurd h (by omega)⟩, ⟨Below.refl _ _⟩⟩
  case round =>
    obtain ⟨k, hk, rfl, HN, HB⟩ := hrel
    by_cases hlt : k < l0.length
    · obtain ⟨ad, cs, e, hcl, hK, hcells⟩ := Kd.C_get (Kd.C_below HR0.out HB.out) z68 (k : Int) (by omega) (by omega)
      have HK := Aside0.mk hK
      have HC := Aside0.mk (fun (j : Nat) (v : Value) (h : cs[j]? = some v) => (show wr.cell? ((ad.add (k * 32)).add j) = some v by rw [addr_add_add]; have := hcells j v h; rwa [Int.toNat_natCast] at this))
      have HCL := Aside0.mk (show (Try.prog.info? 68).map (fun i => i.size) = some cs.length by rw [hcl]; exact size68)
      clear hcells hK hcl
      cases e
      go_wp2_with ((with_reducible refine gate_load (t := 68) rfl ?_); refine load_list rfl rfl rfl Try.underlying68 rfl HCL.out HC.out ?_)
      refine (HP.out wr (rd_T68 l0 (k : Int)) cs HB.out HK.out).mono ?_
      rintro e w1 ⟨rfl, hb⟩
      have HB1 := Aside0.mk (below_step HB.out hb)
      clear hb HC HCL HK
      by_cases hpk : p (rd_T68 l0 (k : Int)) = true
      · have HI := Aside0.mk (idx_at hlt HN.out hpk)
        rw [hpk]
        clear hpk
        go_wp2
        go_ret
        exact ⟨retI HI.out.symm, HB1.out⟩
      · have hpf : p (rd_T68 l0 (k : Int)) = false := Bool.eq_false_iff.mpr hpk
        have HN' := Aside0.mk (show ∀ j (hj : j < l0.length), j < k + 1 → p l0[j] = false from fun j hj hj' => by
          by_cases hjk : j = k
          · subst hjk; rw [← rd_get hj]; exact hpf
          · exact HN.out j hj (by omega))
        rw [hpf]
        clear hpk hpf HN
        go_wp2
        go_roundw
        case rel => exact ⟨k + 1, by omega, by simp, HN', HB1⟩
        case measure => simp [intOf]; omega
    · obtain rfl : k = l0.length := by omega
      have HI := Aside0.mk (idx_none HN.out)
      go_wp2
      go_ret
      exact ⟨retI HI.out.symm, HB.out⟩
def countL (p : S68 → Bool) (l : List S68) : Nat := (l.filter p).length
theorem count_succ {p : S68 → Bool} {l : List S68} {k : Nat} (h : k < l.length) : countL p (l.take (k + 1)) = countL p (l.take k) + if p (rd_T68 l (k : Int)) = true then 1 else 0 := by
  rw [List.take_succ_eq_append_getElem h, rd_get h]
  unfold countL
  rw [List.filter_append, List.length_append]
  by_cases hp : p l[k] = true <;> simp [hp]
theorem count_le (p : S68 → Bool) (l : List S68) (k : Nat) : countL p (l.take k) ≤ k := Nat.le_trans (List.length_filter_le _ _) (List.length_take_le _ _)
set_option maxRecDepth 100000 in
set_option maxHeartbeats 2000000 in
theorem rules_count_obj.calls (A0 : Option Addr) (c0 : Nat) (l0 : List S68) (g : Nat) (lb : Array Value) (p : S68 → Bool) (w : World) (hr0 : k68.C w A0 l0.length l0) (hp : PredK g lb p w) (eg : ∀ args w, (callFunc g args).run Try.prog w = .ok (.enter g args) w) :
    Calls Try.prog 85 #[.slice A0 l0.length c0, .func (.func g) #[] lb] w fun e w' => e = .returned (.int .i64 (countL p l0)) ∧ Below w.heap.size w w' := by
  have hl0 := hr0.2.1
  have HR0 := Aside0.mk hr0
  have HP := Aside0.mk hp
  clear hr0 hp
  go_enter Try.func85, Try.ntmps85
  go_wp2
  go_loopw [5, 10] (fun n i wr => ∃ k : Nat, k ≤ l0.length ∧ i = .int .i64 k ∧ n = .int .i64 (countL p (l0.take k)) ∧ Aside0 (Below w.heap.size w wr)) (fun _ i _ => l0.length - (intOf i).toNat)
  case atStart => exact ⟨0, Nat.zero_le _, rfl, rfl, ⟨Below.refl _ _⟩⟩
  case round =>
    obtain ⟨k, hk, rfl, rfl, HB⟩ := hrel
    have hcl := count_le p l0 k
    by_cases hlt : k < l0.length
    · obtain ⟨ad, cs, e, hcl', hK, hcells⟩ := Kd.C_get HR0.out z68 (k : Int) (by omega) (by omega)
      have HK := Aside0.mk hK
      have HC := Aside0.mk (fun (j : Nat) (v : Value) (h : cs[j]? = some v) => (show wr.cell? ((ad.add (k * 32)).add j) = some v by rw [addr_add_add]; have := hcells j v h; rw [Int.toNat_natCast] at this; exact (HB.out.cell (World.block_lt_of_cell? w _ this)).trans this))
      have HCL := Aside0.mk (show (Try.prog.info? 68).map (fun i => i.size) = some cs.length by rw [hcl']; exact size68)
      have HO := Aside0.mk (k68.K_one hK)
      have HS := Aside0.mk (count_succ (p := p) hlt)
      have HLN := Aside0.mk hcl'
      clear hcells hK hcl'
      cases e
      go_wp2_with (first | ((with_reducible refine gate_load (t := 68) rfl ?_); refine load_list rfl rfl rfl Try.underlying68 rfl HCL.out HC.out ?_) | ((with_reducible refine gate_dst (N := 7) rfl ?_); refine hold ?_))
      refine Hold.intro (alloc_obj rfl rfl rfl ?_)
      intro gb hgb w2 hbox hb
      have HB2 := Aside0.mk (below_step HB.out hb)
      have HGE := Aside0.mk (show w.heap.size ≤ gb by rw [hgb]; exact HB.out.size)
      have HX2 := Aside0.mk hbox
      clear hgb hbox hb HC
      go_wp2_with ((with_reducible refine gate_store (t := 68) (p := 7) rfl ?_); refine hold ?_)
      refine Hold.intro (box_store_event (t := 68) (ty := 68) (p := 7) (x := .tmp 13) (g := gb) (cs := zcObj) (cs' := cs.toArray) rfl rfl rfl rfl rfl (by rw [HCL.out, List.size_toArray]) HX2.out (by rw [List.size_toArray, HLN.out]; rfl) (by simpa using HO.out) ?_)
      intro w3 hbox3 hg3
      have HX3 := Aside0.mk hbox3
      have HB3 := Aside0.mk (Below.grown HB2.out hg3 HB2.out.size (fun k_ e_ => by injection e_ with e_; subst e_; exact HGE.out))
      have HC3 := Aside0.mk (fun (j : Nat) (v : Value) (h : cs[j]? = some v) => (show w3.cell? ((⟨gb, 0, none⟩ : Addr).add j) = some v by rw [add_plain, blk_cell hbox3 j]; simpa using h))
      clear hbox3 hg3
      go_wp2_with ((with_reducible refine gate_load (t := 68) rfl ?_); refine load_list rfl rfl rfl Try.underlying68 rfl HCL.out HC3.out ?_)
      refine (HP.out w3 (rd_T68 l0 (k : Int)) cs HB3.out (k68.K_below HB3.out HK.out)).mono ?_
      rintro e w4 ⟨rfl, hb⟩
      have HB4 := Aside0.mk (below_step HB3.out hb)
      clear hb HCL HK HX2 HX3 HC3 HO HLN
      by_cases hpk : p (rd_T68 l0 (k : Int)) = true
      · have HS' := Aside0.mk (show countL p (l0.take (k + 1)) = countL p (l0.take k) + 1 by rw [HS.out, if_pos hpk])
        rw [hpk]
        clear hpk HS
        go_wp2
        go_roundw
        case rel => exact ⟨k + 1, by omega, by simp, by rw [HS'.out]; simp, HB4⟩
        case measure => simp [intOf]; omega
      · have HS' := Aside0.mk (show countL p (l0.take (k + 1)) = countL p (l0.take k) by rw [HS.out, if_neg hpk, Nat.add_zero])
        rw [Bool.eq_false_iff.mpr hpk]
        clear hpk HS
        go_wp2
        go_roundw
        case rel => exact ⟨k + 1, by omega, by simp, by rw [HS'.out], HB4⟩
        case measure => simp [intOf]; omega
    · obtain rfl : k = l0.length := by omega
      go_wp2
      go_ret
      exact ⟨by simp, HB.out⟩
theorem K_cells {w : World} {x : S68} {cs : List Value} (h : k68.K w x cs) : cs[1]? = some (.string x.f1) ∧ cs[11]? = some (.string x.f10) ∧ cs[16]? = some (.bool x.f15) ∧ cs[15]? = some (.bool x.f14) := by
  obtain ⟨A4, c4, A27, c27, rfl, _⟩ := k68_open h
  exact ⟨rfl, rfl, rfl, rfl⟩
def isNamed (name : ByteArray) (x : S68) : Bool := x.f1.toList == name.toList
def isOwned (d : ByteArray) (x : S68) : Bool := x.f10.toList == d.toList && !x.f15
def isReady (d : ByteArray) (x : S68) : Bool := x.f10.toList == d.toList && (!x.f15 && x.f14)
set_option maxRecDepth 100000 in
set_option maxHeartbeats 2000000 in
theorem find_1 (B : Nat) (name : ByteArray) (w0 : World) (hB : w0.heap[B]? = some (.cells #[.string name] 9 (0, 0))) : PredK 126 #[.pointer (some ⟨B, 0, none⟩)] (isNamed name) w0 := by
  intro W x cs hW hK
  obtain ⟨h1, h11, h16, h15⟩ := K_cells hK
  have hb := blk_below hB hW
  have hc : W.cell? ⟨B, 0, none⟩ = some (.string name) := blk_cell hb 0
  have hlt := blk_lt hb
  clear hB hW hK hb
  go_enter Try.func126, Try.ntmps126
  go_wp2
  go_ret
  exact ⟨rfl, below_alloc (Below.refl _ _) _⟩
set_option maxRecDepth 100000 in
set_option maxHeartbeats 2000000 in
theorem Owned_1 (B : Nat) (name : ByteArray) (w0 : World) (hB : w0.heap[B]? = some (.cells #[.string name] 9 (0, 0))) : PredK 86 #[.pointer (some ⟨B, 0, none⟩)] (isOwned name) w0 := by
  intro W x cs hW hK
  obtain ⟨h1, h11, h16, h15⟩ := K_cells hK
  have hb := blk_below hB hW
  have hc : W.cell? ⟨B, 0, none⟩ = some (.string name) := blk_cell hb 0
  have hlt := blk_lt hb
  clear hB hW hK hb
  by_cases he : (x.f10.toList == name.toList) = true
  · have HE := Aside0.mk he
    go_enter Try.func86, Try.ntmps86
    go_wp2
    go_ret
    exact ⟨retB (by unfold isOwned; rw [HE.out]; simp), below_alloc (Below.refl _ _) _⟩
  · have he' := Bool.eq_false_iff.mpr he
    have HE := Aside0.mk he'
    clear he
    go_enter Try.func86, Try.ntmps86
    go_wp2
    go_ret
    exact ⟨retB (by unfold isOwned; rw [HE.out]; simp), below_alloc (Below.refl _ _) _⟩
set_option maxRecDepth 100000 in
set_option maxHeartbeats 2000000 in
theorem Ready_1 (B : Nat) (name : ByteArray) (w0 : World) (hB : w0.heap[B]? = some (.cells #[.string name] 9 (0, 0))) : PredK 87 #[.pointer (some ⟨B, 0, none⟩)] (isReady name) w0 := by
  intro W x cs hW hK
  obtain ⟨h1, h11, h16, h15⟩ := K_cells hK
  have hb := blk_below hB hW
  have hc : W.cell? ⟨B, 0, none⟩ = some (.string name) := blk_cell hb 0
  have hlt := blk_lt hb
  clear hB hW hK hb
  by_cases he : (x.f10.toList == name.toList) = true
  · have HE := Aside0.mk he
    cases hg : x.f15
    · have HG := Aside0.mk hg
      rw [hg] at h16
      clear hg
      go_enter Try.func87, Try.ntmps87
      go_wp2
      go_ret
      exact ⟨retB (by unfold isReady; rw [HE.out, HG.out]; simp), below_alloc (Below.refl _ _) _⟩
    · have HG := Aside0.mk hg
      rw [hg] at h16
      clear hg
      go_enter Try.func87, Try.ntmps87
      go_wp2
      go_ret
      exact ⟨retB (by unfold isReady; rw [HE.out, HG.out]; simp), below_alloc (Below.refl _ _) _⟩
  · have he' := Bool.eq_false_iff.mpr he
    have HE := Aside0.mk he'
    clear he
    go_enter Try.func87, Try.ntmps87
    go_wp2
    go_ret
    exact ⟨retB (by unfold isReady; rw [HE.out]; simp), below_alloc (Below.refl _ _) _⟩
def rules_Owned.f (l0_0 l0_1 l0_2 l0_3 : List S68) (a1 : ByteArray) : Option Int := some (countL (isOwned a1) l0_1)
def rules_Ready.f (l0_0 l0_1 l0_2 l0_3 : List S68) (a1 : ByteArray) : Option Int := some (countL (isReady a1) l0_1)
set_option maxRecDepth 100000 in
set_option maxHeartbeats 2000000 in
theorem rules_Owned.calls (A0_0 : Option Addr) (c0_0 : Nat) (l0_0 : List S68) (A0_1 : Option Addr) (c0_1 : Nat) (l0_1 : List S68) (A0_2 : Option Addr) (c0_2 : Nat) (l0_2 : List S68) (A0_3 : Option Addr) (c0_3 : Nat) (l0_3 : List S68) (a1 : ByteArray) (r : Int) (w : World)
    (hr0_0 : k68.C w A0_0 l0_0.length l0_0) (hc0_0 : l0_0.length ≤ c0_0) (hr0_1 : k68.C w A0_1 l0_1.length l0_1) (hc0_1 : l0_1.length ≤ c0_1) (hr0_2 : k68.C w A0_2 l0_2.length l0_2) (hc0_2 : l0_2.length ≤ c0_2) (hr0_3 : k68.C w A0_3 l0_3.length l0_3) (hc0_3 : l0_3.length ≤ c0_3) (h : rules_Owned.f l0_0 l0_1 l0_2 l0_3 a1 = some r) :
    Calls Try.prog 34 #[.agg #[.slice A0_0 l0_0.length c0_0, .slice A0_1 l0_1.length c0_1, .slice A0_2 l0_2.length c0_2, .slice A0_3 l0_3.length c0_3], .string a1] w fun e w' => e = .returned (.int .i64 r) ∧ Below w.heap.size w w' := by
  obtain rfl := Option.some.inj h
  have HR := Aside0.mk hr0_1
  clear hr0_0 hc0_0 hr0_1 hc0_1 hr0_2 hc0_2 hr0_3 hc0_3 h
  go_enter Try.func34, Try.ntmps34
  go_wp2_with (go_at_call 85; refine hold ?_)
  refine Hold.intro ((rules_count_obj.calls _ _ l0_1 86 _ (isOwned a1) _ (Kd.C_alloc (Kd.C_alloc HR.out _) _) (Owned_1 _ a1 _ (by rw [← World.size_alloc (w := w)]; exact blk_new _ _)) (enters_of Try.func86 (by kernel_rfl) rfl)).mono ?_)
  rintro e w1 ⟨rfl, hb⟩
  have HB := Aside0.mk (below_step (below_alloc (below_alloc (Below.refl _ w) _) _) hb)
  clear hb
  go_wp2
  go_ret
  exact ⟨rfl, HB.out⟩
set_option maxRecDepth 100000 in
set_option maxHeartbeats 2000000 in
theorem rules_Ready.calls (A0_0 : Option Addr) (c0_0 : Nat) (l0_0 : List S68) (A0_1 : Option Addr) (c0_1 : Nat) (l0_1 : List S68) (A0_2 : Option Addr) (c0_2 : Nat) (l0_2 : List S68) (A0_3 : Option Addr) (c0_3 : Nat) (l0_3 : List S68) (a1 : ByteArray) (r : Int) (w : World)
    (hr0_0 : k68.C w A0_0 l0_0.length l0_0) (hc0_0 : l0_0.length ≤ c0_0) (hr0_1 : k68.C w A0_1 l0_1.length l0_1) (hc0_1 : l0_1.length ≤ c0_1) (hr0_2 : k68.C w A0_2 l0_2.length l0_2) (hc0_2 : l0_2.length ≤ c0_2) (hr0_3 : k68.C w A0_3 l0_3.length l0_3) (hc0_3 : l0_3.length ≤ c0_3) (h : rules_Ready.f l0_0 l0_1 l0_2 l0_3 a1 = some r) :
    Calls Try.prog 36 #[.agg #[.slice A0_0 l0_0.length c0_0, .slice A0_1 l0_1.length c0_1, .slice A0_2 l0_2.length c0_2, .slice A0_3 l0_3.length c0_3], .string a1] w fun e w' => e = .returned (.int .i64 r) ∧ Below w.heap.size w w' := by
  obtain rfl := Option.some.inj h
  have HR := Aside0.mk hr0_1
  clear hr0_0 hc0_0 hr0_1 hc0_1 hr0_2 hc0_2 hr0_3 hc0_3 h
  go_enter Try.func36, Try.ntmps36
  go_wp2_with (go_at_call 85; refine hold ?_)
  refine Hold.intro ((rules_count_obj.calls _ _ l0_1 87 _ (isReady a1) _ (Kd.C_alloc (Kd.C_alloc HR.out _) _) (Ready_1 _ a1 _ (by rw [← World.size_alloc (w := w)]; exact blk_new _ _)) (enters_of Try.func87 (by kernel_rfl) rfl)).mono ?_)
  rintro e w1 ⟨rfl, hb⟩
  have HB := Aside0.mk (below_step (below_alloc (below_alloc (Below.refl _ w) _) _) hb)
  clear hb
  go_wp2
  go_ret
  exact ⟨rfl, HB.out⟩
def findL (name : ByteArray) (l : List S68) : Option S68 := l.find? (isNamed name)
theorem findL_idx {name : ByteArray} {l : List S68} {x : S68} (h : findL name l = some x) : ∃ k : Nat, ∃ hk : k < l.length, idxOf (isNamed name) l = (k : Int) ∧ l[k] = x := by
  unfold findL at h
  rw [List.find?_eq_some_iff_getElem] at h
  obtain ⟨hx, k, hk, e, hn⟩ := h
  refine ⟨k, hk, ?_, e⟩
  refine idx_at hk (fun j hj hjk => by have := hn j hjk; simpa using this) ?_
  rw [rd_get hk, e]; exact hx
theorem findL_none {name : ByteArray} {l : List S68} (h : findL name l = none) : idxOf (isNamed name) l = -1 := by
  unfold findL at h
  rw [List.find?_eq_none] at h
  exact idx_none (fun j hj _ => by have := h _ (List.getElem_mem hj); simpa using this)
set_option maxRecDepth 100000 in
set_option maxHeartbeats 2000000 in
theorem rules_find.none_ (A0 : Option Addr) (c0 : Nat) (l0 : List S68) (name : ByteArray) (w : World) (hr0 : k68.C w A0 l0.length l0) (hf : findL name l0 = none) :
    Calls Try.prog 103 #[.slice A0 l0.length c0, .string name] w fun e w' => e = .returned (.tuple #[.agg zcObj, .bool false]) ∧ Below w.heap.size w w' := by
  have HR := Aside0.mk hr0
  have HI := Aside0.mk (findL_none hf)
  clear hr0 hf
  go_enter Try.func103, Try.ntmps103
  go_wp2_with ((with_reducible refine gate_dst (N := 4) rfl ?_); refine hold ?_)
  refine Hold.intro (alloc_obj rfl rfl rfl ?_)
  intro gb hgb w2 hbox hb
  have HB2 := Aside0.mk (below_step (below_alloc (Below.refl _ w) _) hb)
  have HGE := Aside0.mk (show w.heap.size ≤ gb by rw [hgb]; exact (below_alloc (Below.refl _ w) _).size)
  have HX2 := Aside0.mk hbox
  have HN2 := Aside0.mk (blk_below (blk_new w (.cells #[.string name] 9)) hb)
  clear hgb hbox hb
  go_wp2_with (go_at_call 125; refine hold ?_)
  refine Hold.intro ((slices_IndexFunc_obj.calls _ _ l0 126 _ (isNamed name) w2 (Kd.C_below HR.out HB2.out) (find_1 _ name _ HN2.out) (enters_of Try.func126 (by kernel_rfl) rfl)).mono ?_)
  rw [HI.out]
  rintro e w3 ⟨rfl, hb⟩
  have HB3 := Aside0.mk (below_step HB2.out hb)
  have HX3 := Aside0.mk (blk_below HX2.out hb)
  clear hb HX2 HN2 HI HB2
  go_wp2_with ((with_reducible refine gate_dst (N := 12) rfl ?_); refine build_obj rfl rfl ?_; refine hold ?_)
  refine Hold.intro (box_store_event (t := 68) (ty := 68) (p := 4) (x := .tmp 12) (g := gb) (cs := zcObj) (cs' := zcObj) rfl rfl rfl rfl rfl (by rw [zc_size]; exact size68) HX3.out rfl zc_one ?_)
  intro w4 hbox4 hg4
  have HB4 := Aside0.mk (Below.grown HB3.out hg4 HB3.out.size (fun k_ e_ => by injection e_ with e_; subst e_; exact HGE.out))
  have HX4 := Aside0.mk hbox4
  clear hbox4 hg4 HX3 HB3
  go_wp2
  refine bodyPost_ret (results_obj_bool rfl _ _ gb zcObj rfl HX4.out zc_size) rfl ⟨rfl, HB4.out⟩
set_option maxRecDepth 100000 in
set_option maxHeartbeats 2000000 in
theorem rules_find.some_ (A0 : Option Addr) (c0 : Nat) (l0 : List S68) (name : ByteArray) (x : S68) (w : World) (hr0 : k68.C w A0 l0.length l0) (hf : findL name l0 = some x) :
    Calls Try.prog 103 #[.slice A0 l0.length c0, .string name] w fun e w' => (∃ cs : List Value, e = .returned (.tuple #[.agg cs.toArray, .bool true]) ∧ k68.K w' x cs) ∧ Below w.heap.size w w' := by
  have hl0 := hr0.2.1
  have HR := Aside0.mk hr0
  obtain ⟨k, hk, hi, hx⟩ := findL_idx hf
  have HI := Aside0.mk hi
  have HE := Aside0.mk hx
  clear hr0 hf hi hx
  go_enter Try.func103, Try.ntmps103
  go_wp2_with ((with_reducible refine gate_dst (N := 4) rfl ?_); refine hold ?_)
  refine Hold.intro (alloc_obj rfl rfl rfl ?_)
  intro gb hgb w2 hbox hb
  have HB2 := Aside0.mk (below_step (below_alloc (Below.refl _ w) _) hb)
  have HGE := Aside0.mk (show w.heap.size ≤ gb by rw [hgb]; exact (below_alloc (Below.refl _ w) _).size)
  have HX2 := Aside0.mk hbox
  have HN2 := Aside0.mk (blk_below (blk_new w (.cells #[.string name] 9)) hb)
  clear hgb hbox hb
  go_wp2_with (go_at_call 125; refine hold ?_)
  refine Hold.intro ((slices_IndexFunc_obj.calls _ _ l0 126 _ (isNamed name) w2 (Kd.C_below HR.out HB2.out) (find_1 _ name _ HN2.out) (enters_of Try.func126 (by kernel_rfl) rfl)).mono ?_)
  rw [HI.out]
  rintro e w3 ⟨rfl, hb⟩
  have HB3 := Aside0.mk (below_step HB2.out hb)
  have HX3 := Aside0.mk (blk_below HX2.out hb)
  clear hb HX2 HN2 HI HB2
  obtain ⟨ad, cs, e, hcl', hK, hcells⟩ := Kd.C_get HR.out z68 (k : Int) (by omega) (by omega)
  have HK := Aside0.mk (show k68.K w x cs by rw [← HE.out, ← rd_get hk]; exact hK)
  have HC := Aside0.mk (fun (j : Nat) (v : Value) (h : cs[j]? = some v) => (show w3.cell? ((ad.add (k * 32)).add j) = some v by rw [addr_add_add]; have := hcells j v h; rw [Int.toNat_natCast] at this; exact (HB3.out.cell (World.block_lt_of_cell? w _ this)).trans this))
  have HCL := Aside0.mk (show (Try.prog.info? 68).map (fun i => i.size) = some cs.length by rw [hcl']; exact size68)
  have HO := Aside0.mk (k68.K_one hK)
  have HLN := Aside0.mk hcl'
  clear hcells hK hcl'
  cases e
  go_wp2_with (first | ((with_reducible refine gate_load (t := 68) rfl ?_); refine load_list rfl rfl rfl Try.underlying68 rfl HCL.out HC.out ?_) | ((with_reducible refine gate_store (t := 68) (p := 4) rfl ?_); refine hold ?_))
  refine Hold.intro (box_store_event (t := 68) (ty := 68) (p := 4) (x := .tmp 16) (g := gb) (cs := zcObj) (cs' := cs.toArray) rfl rfl rfl rfl rfl (by rw [HCL.out, List.size_toArray]) HX3.out (by rw [List.size_toArray, HLN.out]; rfl) (by simpa using HO.out) ?_)
  intro w4 hbox4 hg4
  have HB4 := Aside0.mk (Below.grown HB3.out hg4 HB3.out.size (fun k_ e_ => by injection e_ with e_; subst e_; exact HGE.out))
  have HX4 := Aside0.mk hbox4
  clear hbox4 hg4 HX3 HB3 HC
  go_wp2
  refine bodyPost_ret (results_obj_bool rfl _ _ gb cs.toArray rfl HX4.out (by rw [List.size_toArray, HLN.out]; rfl)) rfl ⟨⟨cs, rfl, k68.K_below HB4.out HK.out⟩, HB4.out⟩
def flatFound (x : S68) : Int × ByteArray × Int × Int × Int × Int × Bool × Bool × Bool × Int × ByteArray × ByteArray × ByteArray × Int × Bool × Bool × Int × Int × ByteArray × Int × Int × Int × Int × Int × Bool × Int × Int × ByteArray × Int × Int × Bool := (x.f0, x.f1, x.f2, x.f3, x.f5.f0, x.f5.f1, x.f6, x.f7, x.f8, x.f9, x.f10, x.f11, x.f12, x.f13, x.f14, x.f15, x.f16.f0, x.f16.f1, x.f17, x.f18, x.f19, x.f20, x.f21, x.f22, x.f23, x.f24, x.f26, x.f27, x.f28, x.f29, true)
def rules_find.f (l0 : List S68) (a1 : ByteArray) : Option (Int × ByteArray × Int × Int × Int × Int × Bool × Bool × Bool × Int × ByteArray × ByteArray × ByteArray × Int × Bool × Bool × Int × Int × ByteArray × Int × Int × Int × Int × Int × Bool × Int × Int × ByteArray × Int × Int × Bool) := match findL a1 l0 with | some x => some (flatFound x) | none => some (0, (⟨#[]⟩ : ByteArray), 0, 0, 0, 0, false, false, false, 0, (⟨#[]⟩ : ByteArray), (⟨#[]⟩ : ByteArray), (⟨#[]⟩ : ByteArray), 0, false, false, 0, 0, (⟨#[]⟩ : ByteArray), 0, 0, 0, 0, 0, false, 0, 0, (⟨#[]⟩ : ByteArray), 0, 0, false)
theorem rules_find.calls (A0 : Option Addr) (c0 : Nat) (l0 : List S68) (a1 : ByteArray) (r1 : Int) (r2 : ByteArray) (r3 : Int) (r4 : Int) (r5 : Int) (r6 : Int) (r7 : Bool) (r8 : Bool) (r9 : Bool) (r10 : Int) (r11 : ByteArray) (r12 : ByteArray) (r13 : ByteArray) (r14 : Int) (r15 : Bool) (r16 : Bool) (r17 : Int) (r18 : Int) (r19 : ByteArray) (r20 : Int) (r21 : Int) (r22 : Int) (r23 : Int) (r24 : Int) (r25 : Bool) (r26 : Int) (r27 : Int) (r28 : ByteArray) (r29 : Int) (r30 : Int) (r31 : Bool) (w : World) (hr0 : k68.C w A0 l0.length l0) (hc0 : l0.length ≤ c0) (h : rules_find.f l0 a1 = some (r1, r2, r3, r4, r5, r6, r7, r8, r9, r10, r11, r12, r13, r14, r15, r16, r17, r18, r19, r20, r21, r22, r23, r24, r25, r26, r27, r28, r29, r30, r31)) :
    Calls Try.prog 103 #[.slice A0 l0.length c0, .string a1] w fun e w' => ∃ (A4 : Option Addr) (n4 c4 : Nat) (A27 : Option Addr) (n27 c27 : Nat), e = .returned (.tuple #[.agg #[.int .i64 r1, .string r2, .int .i64 r3, .int .i64 r4, .slice A4 n4 c4, .int .i64 r5, .int .i64 r6, .bool r7, .bool r8, .bool r9, .int .i64 r10, .string r11, .string r12, .string r13, .int .i64 r14, .bool r15, .bool r16, .int .i64 r17, .int .i64 r18, .string r19, .int .i64 r20, .int .i64 r21, .int .i64 r22, .int .i64 r23, .int .i64 r24, .bool r25, .int .u64 r26, .slice A27 n27 c27, .int .i64 r27, .string r28, .int .i64 r29, .int .i64 r30], .bool r31]) ∧ Below w.heap.size w w' := by
  unfold rules_find.f at h
  cases hf : findL a1 l0 with
  | none =>
    rw [hf] at h
    simp only [Option.some.injEq, Prod.mk.injEq] at h
    obtain ⟨rfl, rfl, rfl, rfl, rfl, rfl, rfl, rfl, rfl, rfl, rfl, rfl, rfl, rfl, rfl, rfl, rfl, rfl, rfl, rfl, rfl, rfl, rfl, rfl, rfl, rfl, rfl, rfl, rfl, rfl, rfl⟩ := h
    exact (rules_find.none_ A0 c0 l0 a1 w hr0 hf).mono (fun e w' ⟨he, hb⟩ => ⟨none, 0, 0, none, 0, 0, he, hb⟩)
  | some x =>
    rw [hf] at h
    simp only [Option.some.injEq, flatFound, Prod.mk.injEq] at h
    obtain ⟨rfl, rfl, rfl, rfl, rfl, rfl, rfl, rfl, rfl, rfl, rfl, rfl, rfl, rfl, rfl, rfl, rfl, rfl, rfl, rfl, rfl, rfl, rfl, rfl, rfl, rfl, rfl, rfl, rfl, rfl, rfl⟩ := h
    refine (rules_find.some_ A0 c0 l0 a1 x w hr0 hf).mono (fun e w' ⟨⟨cs, he, hK⟩, hb⟩ => ?_)
    obtain ⟨A4, c4, A27, c27, rfl, _⟩ := k68_open hK
    exact ⟨A4, _, c4, A27, _, c27, he, hb⟩
end Go.Proofs.Ytamjjeakkkdfhaa.G
end
section
namespace Go.Proofs.Ytamjjeakkkdfhaa.G
open Go.RowKit Go.Maps Go.Proofs.YtamjjeakkkdfhaaW.PrintWords Go.Proofs.YtamjjeakkkdfhaaW.PrintLast Go.Proofs.YtamjjeakkkdfhaaW.PrintMore
open Go.Proofs.Ytamjjeakkkdfhaa.K Go.Proofs.YtamjjeakkkdfhaaE Go.WideMaps
set_option linter.unusedVariables false
set_option linter.unusedSimpArgs false
def namedL (l : List S68) (s : List UInt8) : Bool := l.any fun x => x.f1.data.toList == s
def twiceFrom : List S68 → List S68 → Int → Int
  | _, [], _ => -1
  | pre, x :: r, i => if namedL pre x.f1.data.toList then i else twiceFrom (pre ++ [x]) r (i + 1)
def twiceL (l : List S68) : Int := twiceFrom [] l 0
theorem twice_step {l : List S68} {k : Nat} (h : k < l.length) : twiceFrom (l.take k) (l.drop k) k = if namedL (l.take k) (rd_T68 l (k : Int)).f1.data.toList then (k : Int) else twiceFrom (l.take (k + 1)) (l.drop (k + 1)) ((k + 1 : Nat) : Int) := by
  rw [List.drop_eq_getElem_cons h, List.take_succ_eq_append_getElem h, rd_get h]
  simp [twiceFrom]
theorem twice_end (l : List S68) : twiceFrom (l.take l.length) (l.drop l.length) l.length = -1 := by simp [twiceFrom]
def SeenOK (D : DataW Unit) (l : List S68) : Prop := IsMap D ∧ ∀ s : List UInt8, D.atKey (.string s) (.lit (.int .i64 0)) = .lit (.int .i64 (if namedL l s then 1 else 0))
theorem seen_nil : SeenOK (.map []) [] := ⟨isMap_empty, fun s => rfl⟩
theorem seen_put {D : DataW Unit} {l : List S68} (h : SeenOK D l) (x : S68) : SeenOK (D.put (.string x.f1.data.toList) (.lit (.int .i64 1))) (l ++ [x]) := by
  obtain ⟨hm, hs⟩ := h
  refine ⟨?_, fun s => ?_⟩
  · obtain ⟨es, rfl⟩ := hm; exact ⟨_, rfl⟩
  · by_cases e : s = x.f1.data.toList
    · subst e
      rw [atKey_put_same hm (by trivial)]
      simp [namedL]
    · rw [atKey_put_other (by intro h; injection h with h; exact e h), hs s]
      have : (x.f1.data.toList == s) = false := by rw [beq_eq_false_iff_ne]; exact fun h => e h.symm
      simp [namedL, List.any_append, this]
theorem zero_int (w : World) : (zeroValue 3).run Try.prog w = .ok (.int .i64 0) w := by kernel_rfl
def rules_twice.f (l0 : List S68) : Option Int := if l0.all (fun x => decide (x.f1.size ≤ 9223372036854775807)) = true then some (twiceL l0) else none
set_option maxRecDepth 100000 in
set_option maxHeartbeats 4000000 in
theorem rules_twice.calls (A0 : Option Addr) (c0 : Nat) (l0 : List S68) (r : Int) (w : World) (hr0 : k68.C w A0 l0.length l0) (hc0 : l0.length ≤ c0) (h : rules_twice.f l0 = some r) :
    Calls Try.prog 100 #[.slice A0 l0.length c0] w fun e w' => e = .returned (.int .i64 r) ∧ Below w.heap.size w w' := by
  unfold rules_twice.f at h
  by_cases hz : l0.all (fun x => decide (x.f1.size ≤ 9223372036854775807)) = true
  · rw [if_pos hz] at h
    have HR := Aside0.mk (Option.some.inj h)
    have HA := Aside0.mk hz
    have hl0 := hr0.2.1
    have HR0 := Aside0.mk hr0
    clear hr0 hc0 h hz
    have hmm := @run_makeMap Try.prog
    go_enter Try.func100, Try.ntmps100
    go_wp2
    go_loopw [9] (fun i wr => ∃ k : Nat, k ≤ l0.length ∧ i = .int .i64 k ∧ Aside0 (twiceFrom (l0.take k) (l0.drop k) k = twiceL l0) ∧ Aside0 (∃ D, SeenOK D (l0.take k) ∧ wr.ownsMap Try.prog 9 (plainElem Try.prog 3) w.heap.size k D) ∧ Aside0 (Below w.heap.size w wr)) (fun i _ => l0.length - (intOf i).toNat)
    case atStart => exact ⟨0, Nat.zero_le _, rfl, ⟨by simp [twiceL]⟩, ⟨_, by simpa using seen_nil, World.ownsMap_made _ _ _ _⟩, ⟨below_alloc (Below.refl _ _) _⟩⟩
    case round =>
      clear hmm
      obtain ⟨k, hk, rfl, HT, HD, HB⟩ := hrel
      by_cases hlt : k < l0.length
      · obtain ⟨ad, cs, e, hcl, hK, hcells⟩ := Kd.C_get HR0.out z68 (k : Int) (by omega) (by omega)
        obtain ⟨x, hx⟩ : ∃ x, x = rd_T68 l0 (k : Int) := ⟨_, rfl⟩
        have hK' : k68.K w x cs := by rw [hx]; exact hK
        have hns : x.f1.size ≤ 9223372036854775807 := by have := List.all_eq_true.1 HA.out _ (List.getElem_mem hlt); rw [hx, rd_get hlt]; simpa using this
        have HTs := Aside0.mk (show l0.take (k + 1) = l0.take k ++ [x] by rw [List.take_succ_eq_append_getElem hlt, hx, rd_get hlt])
        have HST := Aside0.mk (show twiceL l0 = if namedL (l0.take k) x.f1.data.toList then (k : Int) else twiceFrom (l0.take (k + 1)) (l0.drop (k + 1)) ((k + 1 : Nat) : Int) by rw [hx, ← HT.out]; exact twice_step hlt)
        obtain ⟨h1, -, -, -⟩ := K_cells hK'
        have HC1 := Aside0.mk h1
        have HKY := Aside0.mk (keyOf_string_mk (P := Try.prog) (k := 9) Try.underlying9 (s := x.f1) (by unfold maxLen; exact hns))
        have HC := Aside0.mk (fun (j : Nat) (v : Value) (h : cs[j]? = some v) => (show wr.cell? ((ad.add (k * 32)).add j) = some v by rw [addr_add_add]; have := hcells j v h; rw [Int.toNat_natCast] at this; exact (HB.out.cell (World.block_lt_of_cell? w _ this)).trans this))
        have HCL := Aside0.mk (show (Try.prog.info? 68).map (fun i => i.size) = some cs.length by rw [hcl]; exact size68)
        have HO := Aside0.mk (k68.K_one hK')
        have HLN := Aside0.mk hcl
        obtain ⟨D, hseen, hown⟩ := HD.out
        have HSN := Aside0.mk hseen
        have HOW := Aside0.mk hown
        clear hcells hK hcl hK' hx hns h1 hseen hown HD HT
        cases e
        go_wp2_with (first | ((with_reducible refine gate_load (t := 68) rfl ?_); refine load_list rfl rfl rfl Try.underlying68 rfl HCL.out HC.out ?_) | ((with_reducible refine gate_dst (N := 5) rfl ?_); refine hold ?_))
        refine Hold.intro (alloc_obj rfl rfl rfl ?_)
        intro gb hgb w2 hbox hb
        have HB2 := Aside0.mk (below_step HB.out hb)
        have HGE := Aside0.mk (show w.heap.size ≤ gb by rw [hgb]; exact HB.out.size)
        have HGN := Aside0.mk (show some w.heap.size ≠ some gb from fun e_ => by have h_ := HOW.out.lt; rw [hgb] at e_; injection e_ with e_; omega)
        have HX2 := Aside0.mk hbox
        have HOW2 := Aside0.mk (HOW.out.kept (grown_of_below hb none) (by simp))
        clear hgb hbox hb HC HOW
        go_wp2_with ((with_reducible refine gate_store (t := 68) (p := 5) rfl ?_); refine hold ?_)
        refine Hold.intro (box_store_event (t := 68) (ty := 68) (p := 5) (x := .tmp 13) (g := gb) (cs := zcObj) (cs' := cs.toArray) rfl rfl rfl rfl rfl (by rw [HCL.out, List.size_toArray]) HX2.out (by rw [List.size_toArray, HLN.out]; rfl) (by simpa using HO.out) ?_)
        intro w3 hbox3 hg3
        have HB3 := Aside0.mk (Below.grown HB2.out hg3 HB2.out.size (fun k_ e_ => by injection e_ with e_; subst e_; exact HGE.out))
        have HOW3 := Aside0.mk (HOW2.out.kept hg3 HGN.out)
        have hc1 : w3.cell? ⟨gb, 1, none⟩ = some (.string x.f1) := by rw [blk_cell hbox3 1]; simpa using HC1.out
        have HX3 := Aside0.mk hbox3
        clear hbox3 hg3 HX2 HOW2 HCL HO HLN HC1 HB2
        go_wp2_with (at_lookup; refine hold ?_)
        refine Hold.intro (wpList_lookup_own_int _ rfl _ _ 170 rfl 9 3 .i64 (string_keyed Try.underlying9) Try.underlying170 Try.underlying3 (zero_int _) w.heap.size k _ rfl HOW3.out _ _ rfl HKY.out ?_)
        intro c hat hwc
        have hc := HSN.out.2 x.f1.data.toList
        rw [hat] at hc
        simp only [DataW.lit.injEq, Lit.int.injEq, true_and] at hc
        clear hat hwc
        by_cases hnm : namedL (l0.take k) x.f1.data.toList = true
        · rw [if_pos hnm] at hc
          have HE := Aside0.mk (show twiceL l0 = (k : Int) by rw [HST.out, if_pos hnm])
          subst hc
          clear hnm HST HSN HTs
          go_wp2
          go_ret
          exact ⟨retI (by rw [← HR.out, HE.out]), HB3.out⟩
        · rw [if_neg hnm] at hc
          have HE := Aside0.mk (show twiceFrom (l0.take (k + 1)) (l0.drop (k + 1)) ((k + 1 : Nat) : Int) = twiceL l0 by rw [HST.out, if_neg hnm])
          have HNM := Aside0.mk hnm
          subst hc
          clear hnm HST
          have hmx : k < maxLen := by unfold maxLen; omega
          go_wp2_with (at_lookup; refine hold ?_)
          refine Hold.intro (wpList_lookup_own_int _ rfl _ _ 170 rfl 9 3 .i64 (string_keyed Try.underlying9) Try.underlying170 Try.underlying3 (zero_int _) w.heap.size k _ rfl HOW3.out _ _ rfl HKY.out ?_)
          intro c hat hwc
          have hc := HSN.out.2 x.f1.data.toList
          rw [hat, if_neg HNM.out] at hc
          simp only [DataW.lit.injEq, Lit.int.injEq, true_and] at hc
          subst hc
          clear hat hwc
          go_wp2_with (at_mapUpdate; refine hold ?_)
          refine Hold.intro (wpList_mapUpdate_own _ rfl _ _ _ 170 rfl 9 3 (string_keyed Try.underlying9) Try.underlying170 _ w.heap.size k _ rfl HOW3.out hmx _ _ _ rfl rfl HKY.out (.lit (.int .i64 1)) [] (plainElem_int Try.underlying3 (by decide)) ?_)
          intro w5 hown5 hg5
          have HB5 := Aside0.mk (Below.grown HB3.out hg5 HB3.out.size (fun k_ e_ => by injection e_ with e_; subst e_; exact Nat.le_refl _))
          have HD5 := Aside0.mk (show ∃ D, SeenOK D (l0.take (k + 1)) ∧ w5.ownsMap Try.prog 9 (plainElem Try.prog 3) w.heap.size (k + 1) D from ⟨_, by rw [HTs.out]; exact seen_put HSN.out x, hown5⟩)
          clear hown5 hg5 HSN HOW3 HNM HTs hmx
          go_wp2
          go_roundw
          case rel => exact ⟨k + 1, by omega, by simp, HE, HD5, HB5⟩
          case measure => simp [intOf]; omega
      · obtain rfl : k = l0.length := by omega
        have HE := Aside0.mk (show twiceL l0 = -1 by rw [← HT.out]; exact twice_end l0)
        go_wp2
        go_ret
        exact ⟨retI (by rw [← HR.out, HE.out]), HB.out⟩
  · rw [if_neg hz] at h; exact absurd h (by simp)
end Go.Proofs.Ytamjjeakkkdfhaa.G
end
section
namespace Go.Proofs.Ytamjjeakkkdfhaa.PB
open Go.RowKit Go.Proofs.YtamjjeakkkdfhaaW.PrintWords Go.Proofs.YtamjjeakkkdfhaaW.PrintLast Go.Proofs.YtamjjeakkkdfhaaW.PrintMore
open Go.Proofs.Ytamjjeakkkdfhaa.K Go.Proofs.Ytamjjeakkkdfhaa.G Go.Proofs.YtamjjeakkkdfhaaE
attribute [local go_sem] max2_int min2_int max_two min_two max_three min_three max_four min_four
set_option linter.unusedVariables false
set_option linter.unusedSimpArgs false
def rules_held.f (a0 : Int) : Option (Int) := some (mn (mx a0 (-1125899906842624)) 1125899906842624)
set_option maxHeartbeats 8000000 in
set_option maxRecDepth 100000 in
theorem rules_held.calls (a0 : Int) (r : Int) (w : World) (h : rules_held.f a0 = some r) :
    Calls Try.prog 105 #[.int .i64 a0] w fun e w' => e = .returned (.int .i64 r) ∧ Below w.heap.size w w' := by
  have HB := Aside0.mk (Below.refl w.heap.size w)
  have H : (some (mn (mx a0 (-1125899906842624)) 1125899906842624)) = some r := h
  clear h
  obtain ⟨ji2, hji2⟩ : ∃ j_ : Int, (mx a0 (-1125899906842624)) = j_ := ⟨_, rfl⟩
  replace H : (some (mn (ji2) 1125899906842624)) = some r := by first | (rw [hji2] at H; exact H) | (simp only [hji2] at H ⊢; exact H)
  have hji2_ : (if a0 < (-1125899906842624) then (-1125899906842624) else a0) = ji2 := hji2
  obtain ⟨ji3, hji3⟩ : ∃ j_ : Int, (mn (ji2) 1125899906842624) = j_ := ⟨_, rfl⟩
  replace H : (some ji3) = some r := by first | (rw [hji3] at H; exact H) | (simp only [hji3] at H ⊢; exact H)
  have hji3_ : (if 1125899906842624 < (ji2) then 1125899906842624 else (ji2)) = ji3 := hji3
  obtain rfl := Option.some.inj H
  go_enter Try.func105, Try.ntmps105
  go_wp2
  go_ret
  exact ⟨by first | rfl | (simp [errW_none, errW_some] <;> rfl) | (simp only [← hji2, ← hji3]; first | rfl | (simp [errW_none, errW_some] <;> rfl)) | (simp [*, errW_none, errW_some] <;> rfl), by repeat (first | (with_reducible first | exact HB.out | apply below_alloc | apply pw_below_drewN | apply below_drew1) | exact HB.out)⟩
end Go.Proofs.Ytamjjeakkkdfhaa.PB
end
section
namespace Go.Proofs.Ytamjjeakkkdfhaa.PB
open Go.RowKit Go.Proofs.YtamjjeakkkdfhaaW.PrintWords Go.Proofs.YtamjjeakkkdfhaaW.PrintLast Go.Proofs.YtamjjeakkkdfhaaW.PrintMore
open Go.Proofs.Ytamjjeakkkdfhaa.K Go.Proofs.Ytamjjeakkkdfhaa.G Go.Proofs.YtamjjeakkkdfhaaE
attribute [local go_sem] max2_int min2_int max_two min_two max_three min_three max_four min_four
set_option linter.unusedVariables false
set_option linter.unusedSimpArgs false
def rules_both.f (a0_0 : Int) (a0_1 : Int) (a1_0 : Int) (a1_1 : Int) : Option (Int × Int) := (rules_held.f a1_0).bind fun t272 => ((rules_held.f a1_1).bind fun t273 => (some (mn (wrap64 (a0_0 + (mx t272 0))) 1125899906842624, mn (wrap64 (a0_1 + (mx t273 0))) 1125899906842624)))
def rules_both.T1 : Bool × List (List Nat × List Nat) := (true, [([], []), ([0], [0]), ([], []), ([2], [2]), ([3], [3]), ([4], [4]), ([1, 5], [1, 5]), ([6], [6]), ([], []), ([8], [8]), ([], []), ([10], [10]), ([11, 4], [11]), ([12], [12]), ([9, 13], [9, 13]), ([14], [14]), ([7, 15], [7, 15]), ([16, 12, 0, 1, 2, 3, 4, 5, 6, 7, 8, 9, 10, 11, 12, 13, 14, 15, 16], [16])])
def rules_both.B1 : List Nat := [0, 1, 0, 4, 12, 28, 63, 127, 0, 256, 0, 1024, 3100, 7196, 16156, 32540, 65535, 131071]
theorem rules_both.tab1 : rtab .any (opsOf Try.f88 1) = rules_both.T1 := by kernel_rfl
theorem rules_both.bits1 : waitsOk rules_both.T1.2 rules_both.B1 = true := by kernel_rfl
set_option maxHeartbeats 8000000 in
set_option maxRecDepth 100000 in
theorem rules_both.calls (a0_0 : Int) (a0_1 : Int) (a1_0 : Int) (a1_1 : Int) (r1 : Int) (r2 : Int) (w : World) (h : rules_both.f a0_0 a0_1 a1_0 a1_1 = some (r1, r2)) :
    Calls Try.prog 88 #[.agg #[.int .i64 a0_0, .int .i64 a0_1], .agg #[.int .i64 a1_0, .int .i64 a1_1]] w fun e w' => e = .returned (.agg #[.int .i64 r1, .int .i64 r2]) ∧ Below w.heap.size w w' := by
  have hu64 := Try.underlying64
  have HB := Aside0.mk (Below.refl w.heap.size w)
  have H : ((rules_held.f a1_0).bind fun t272 => ((rules_held.f a1_1).bind fun t273 => (some (mn (wrap64 (a0_0 + (mx t272 0))) 1125899906842624, mn (wrap64 (a0_1 + (mx t273 0))) 1125899906842624)))) = some (r1, r2) := h
  clear h
  replace H := Option.bind_eq_some_iff.mp H
  obtain ⟨t272, A30, H⟩ := H
  replace H : ((rules_held.f a1_1).bind fun t273 => (some (mn (wrap64 (a0_0 + (mx t272 0))) 1125899906842624, mn (wrap64 (a0_1 + (mx t273 0))) 1125899906842624))) = some (r1, r2) := H
  have A3 := Aside0.mk A30
  clear A30
  obtain ⟨ji4, hji4⟩ : ∃ j_ : Int, (mx t272 0) = j_ := ⟨_, rfl⟩
  replace H : ((rules_held.f a1_1).bind fun t273 => (some (mn (wrap64 (a0_0 + (ji4))) 1125899906842624, mn (wrap64 (a0_1 + (mx t273 0))) 1125899906842624))) = some (r1, r2) := by first | (rw [hji4] at H; exact H) | (simp only [hji4] at H ⊢; exact H)
  (try rw [hji4] at A3)
  (try (have hji4l : 0 ≤ ji4 := by (rw [← hji4]; unfold mx; (repeat' split) <;> omega)))
  (try (have hji4m : 0 ≤ ji4 := by omega))
  have hji4_ : (if t272 < 0 then 0 else t272) = ji4 := hji4
  obtain ⟨ji5, hji5⟩ : ∃ j_ : Int, (mn (wrap64 (a0_0 + (ji4))) 1125899906842624) = j_ := ⟨_, rfl⟩
  replace H : ((rules_held.f a1_1).bind fun t273 => (some (ji5, mn (wrap64 (a0_1 + (mx t273 0))) 1125899906842624))) = some (r1, r2) := by first | (rw [hji5] at H; exact H) | (simp only [hji5] at H ⊢; exact H)
  (try rw [hji5] at A3)
  have hji5_ : (if 1125899906842624 < (wrap64 (a0_0 + (ji4))) then 1125899906842624 else (wrap64 (a0_0 + (ji4)))) = ji5 := hji5
  replace H := Option.bind_eq_some_iff.mp H
  obtain ⟨t273, A60, H⟩ := H
  replace H : (some (ji5, mn (wrap64 (a0_1 + (mx t273 0))) 1125899906842624)) = some (r1, r2) := H
  have A6 := Aside0.mk A60
  clear A60
  obtain ⟨ji7, hji7⟩ : ∃ j_ : Int, (mx t273 0) = j_ := ⟨_, rfl⟩
  replace H : (some (ji5, mn (wrap64 (a0_1 + (ji7))) 1125899906842624)) = some (r1, r2) := by first | (rw [hji7] at H; exact H) | (simp only [hji7] at H ⊢; exact H)
  (try rw [hji7] at A3)
  (try rw [hji7] at A6)
  (try (have hji7l : 0 ≤ ji7 := by (rw [← hji7]; unfold mx; (repeat' split) <;> omega)))
  (try (have hji7m : 0 ≤ ji7 := by omega))
  have hji7_ : (if t273 < 0 then 0 else t273) = ji7 := hji7
  obtain ⟨ji8, hji8⟩ : ∃ j_ : Int, (mn (wrap64 (a0_1 + (ji7))) 1125899906842624) = j_ := ⟨_, rfl⟩
  replace H : (some (ji5, ji8)) = some (r1, r2) := by first | (rw [hji8] at H; exact H) | (simp only [hji8] at H ⊢; exact H)
  (try rw [hji8] at A3)
  (try rw [hji8] at A6)
  have hji8_ : (if 1125899906842624 < (wrap64 (a0_1 + (ji7))) then 1125899906842624 else (wrap64 (a0_1 + (ji7)))) = ji8 := hji8
  simp only [Option.some.injEq, Prod.mk.injEq] at H
  obtain ⟨rfl, rfl⟩ := H
  go_enter Try.func88, Try.ntmps88
  try go_wp2_with (first | ((with_reducible refine gate_dst (N := 2) rfl ?_); refine box_event ?hg (N := 2) ?hd (cs := #[.int .i64 a0_0, .int .i64 a0_1]) (t := 64) ?hr ?_; (case hd => rfl); (case hg => rfl); (case hr => first | (go_simp; done) | (go_simp; rfl)); intro gb269 hg w9 hbox hb; have n0_ := Aside0.mk (below_step (by repeat (first | (with_reducible first | exact HB.out | apply below_alloc | apply pw_below_drewN | apply below_drew1) | exact HB.out)) hb); have n1_ := Aside0.mk (hbox); have n2_ := Aside0.mk ((by rw [hg]; exact (below_size (by repeat (first | (with_reducible first | exact HB.out | apply below_alloc | apply pw_below_drewN | apply below_drew1) | exact HB.out))) : w.heap.size ≤ gb269)); have n3_ := Aside0.mk ((by rw [hg]; exact (below_size (by repeat (first | (with_reducible first | exact HB.out | apply below_alloc | apply pw_below_drewN | apply below_drew1) | exact HB.out))) : w.heap.size ≤ gb269)); clear HB; have HB := n0_; have BK269 := n1_; have GW269 := n2_; have GE269 := n3_; clear n0_ n1_ n2_ n3_; clear hb hbox hg) | ((with_reducible refine gate_dst (N := 3) rfl ?_); refine box_event ?hg (N := 3) ?hd (cs := #[.int .i64 a1_0, .int .i64 a1_1]) (t := 64) ?hr ?_; (case hd => rfl); (case hg => rfl); (case hr => first | (go_simp; done) | (go_simp; rfl)); intro gb270 hg w10 hbox hb; have n0_ := Aside0.mk (blk_below (g := gb269) (o := .cells #[.int .i64 a0_0, .int .i64 a0_1] 64 (0, 0)) (by (with_reducible repeat (first | refine blk_drewN ?_ _ | refine blk_drew ?_ | refine blk_alloc ?_ _)); exact BK269.out) hb); have n1_ := Aside0.mk (below_step (by repeat (first | (with_reducible first | exact HB.out | apply below_alloc | apply pw_below_drewN | apply below_drew1 | refine below_set ?_ GE269.out) | exact HB.out)) hb); have n2_ := Aside0.mk (hbox); have n3_ := Aside0.mk ((by rw [hg]; exact (below_size (by repeat (first | (with_reducible first | exact HB.out | apply below_alloc | apply pw_below_drewN | apply below_drew1 | refine below_set ?_ GE269.out) | exact HB.out))) : w.heap.size ≤ gb270)); have n4_ := Aside0.mk ((by rw [hg]; exact (below_size (by repeat (first | (with_reducible first | exact HB.out | apply below_alloc | apply pw_below_drewN | apply below_drew1 | refine below_set ?_ GE269.out) | exact HB.out))) : w.heap.size ≤ gb270)); have n5_ := Aside0.mk ((by rw [hg]; exact Nat.ne_of_lt (blk_lt (g := gb269) (o := .cells #[.int .i64 a0_0, .int .i64 a0_1] 64 (0, 0)) (by (with_reducible repeat (first | refine blk_drewN ?_ _ | refine blk_drew ?_ | refine blk_alloc ?_ _)); exact BK269.out)) : gb269 ≠ gb270)); have n6_ := Aside0.mk ((by rw [hg]; exact Nat.ne_of_gt (blk_lt (g := gb269) (o := .cells #[.int .i64 a0_0, .int .i64 a0_1] 64 (0, 0)) (by (with_reducible repeat (first | refine blk_drewN ?_ _ | refine blk_drew ?_ | refine blk_alloc ?_ _)); exact BK269.out)) : gb270 ≠ gb269)); clear BK269; clear HB; have BK269 := n0_; have HB := n1_; have BK270 := n2_; have GW270 := n3_; have GE270 := n4_; have NB269_270 := n5_; have NB270_269 := n6_; clear n0_ n1_ n2_ n3_ n4_ n5_ n6_; clear hb hbox hg) | ((with_reducible refine gate_dst (N := 4) rfl ?_); refine box_event ?hg (N := 4) ?hd (cs := #[.int .i64 0, .int .i64 0]) (t := 64) ?hr ?_; (case hd => rfl); (case hg => rfl); (case hr => first | (go_simp; done) | (go_simp; rfl)); intro gb271 hg w11 hbox hb; have n0_ := Aside0.mk (blk_below (g := gb269) (o := .cells #[.int .i64 a0_0, .int .i64 a0_1] 64 (0, 0)) (by (with_reducible repeat (first | refine blk_drewN ?_ _ | refine blk_drew ?_ | refine blk_alloc ?_ _)); exact BK269.out) hb); have n1_ := Aside0.mk (blk_below (g := gb270) (o := .cells #[.int .i64 a1_0, .int .i64 a1_1] 64 (0, 0)) (by (with_reducible repeat (first | refine blk_drewN ?_ _ | refine blk_drew ?_ | refine blk_alloc ?_ _)); exact BK270.out) hb); have n2_ := Aside0.mk (below_step (by repeat (first | (with_reducible first | exact HB.out | apply below_alloc | apply pw_below_drewN | apply below_drew1 | refine below_set ?_ GE269.out | refine below_set ?_ GE270.out) | exact HB.out)) hb); have n3_ := Aside0.mk (hbox); have n4_ := Aside0.mk ((by rw [hg]; exact (below_size (by repeat (first | (with_reducible first | exact HB.out | apply below_alloc | apply pw_below_drewN | apply below_drew1 | refine below_set ?_ GE269.out | refine below_set ?_ GE270.out) | exact HB.out))) : w.heap.size ≤ gb271)); have n5_ := Aside0.mk ((by rw [hg]; exact (below_size (by repeat (first | (with_reducible first | exact HB.out | apply below_alloc | apply pw_below_drewN | apply below_drew1 | refine below_set ?_ GE269.out | refine below_set ?_ GE270.out) | exact HB.out))) : w.heap.size ≤ gb271)); have n6_ := Aside0.mk ((by rw [hg]; exact Nat.ne_of_lt (blk_lt (g := gb269) (o := .cells #[.int .i64 a0_0, .int .i64 a0_1] 64 (0, 0)) (by (with_reducible repeat (first | refine blk_drewN ?_ _ | refine blk_drew ?_ | refine blk_alloc ?_ _)); exact BK269.out)) : gb269 ≠ gb271)); have n7_ := Aside0.mk ((by rw [hg]; exact Nat.ne_of_gt (blk_lt (g := gb269) (o := .cells #[.int .i64 a0_0, .int .i64 a0_1] 64 (0, 0)) (by (with_reducible repeat (first | refine blk_drewN ?_ _ | refine blk_drew ?_ | refine blk_alloc ?_ _)); exact BK269.out)) : gb271 ≠ gb269)); have n8_ := Aside0.mk ((by rw [hg]; exact Nat.ne_of_lt (blk_lt (g := gb270) (o := .cells #[.int .i64 a1_0, .int .i64 a1_1] 64 (0, 0)) (by (with_reducible repeat (first | refine blk_drewN ?_ _ | refine blk_drew ?_ | refine blk_alloc ?_ _)); exact BK270.out)) : gb270 ≠ gb271)); have n9_ := Aside0.mk ((by rw [hg]; exact Nat.ne_of_gt (blk_lt (g := gb270) (o := .cells #[.int .i64 a1_0, .int .i64 a1_1] 64 (0, 0)) (by (with_reducible repeat (first | refine blk_drewN ?_ _ | refine blk_drew ?_ | refine blk_alloc ?_ _)); exact BK270.out)) : gb271 ≠ gb270)); clear BK269; clear BK270; clear HB; have BK269 := n0_; have BK270 := n1_; have HB := n2_; have BK271 := n3_; have GW271 := n4_; have GE271 := n5_; have NB269_271 := n6_; have NB271_269 := n7_; have NB270_271 := n8_; have NB271_270 := n9_; clear n0_ n1_ n2_ n3_ n4_ n5_ n6_ n7_ n8_ n9_; clear hb hbox hg))
  have n0_ := Aside0.mk (blk_drew BK269.out)
  have n1_ := Aside0.mk (blk_drew BK270.out)
  have n2_ := Aside0.mk (blk_drew BK271.out)
  have n3_ := Aside0.mk (below_drew1 HB.out)
  clear BK269
  clear BK270
  clear BK271
  clear HB
  have BK269 := n0_
  have BK270 := n1_
  have BK271 := n2_
  have HB := n3_
  clear n0_ n1_ n2_ n3_
  refine start_ (n := 18) (S := fun w' => w'.cell? ⟨gb269, 0, none⟩ = some (.int .i64 a0_0) ∧ w'.cell? ⟨gb269, 1, none⟩ = some (.int .i64 a0_1) ∧ w'.cell? ⟨gb270, 0, none⟩ = some (.int .i64 a1_0) ∧ w'.cell? ⟨gb270, 1, none⟩ = some (.int .i64 a1_1)) (ds := []) #[false, false, false, false, false, false, false, false, false, false, false, false, false, false, false, false, false, false] (by kernel_rfl) rfl rfl ⟨(blk_cell BK269.out 0).trans rfl, (blk_cell BK269.out 1).trans rfl, (blk_cell BK270.out 0).trans rfl, (blk_cell BK270.out 1).trans rfl⟩ (fun hHeld => ?_); refine with_tabW rules_both.tab1 rules_both.bits1 (fun HT_ HW_ => ?_)
  generalize w11.drew = w12 at BK269 BK270 BK271 HB hHeld ⊢
  refine pure_ (i := 0) (N := some 5) (v := ?_) (a' := ?_) #[true, false, false, false, false, false, false, false, false, false, false, false, false, false, false, false, false, false] rfl rfl (any_of HT_.out (by kernel_rfl)) (fun _ _ _ h => h) (Or.inl ⟨by rfl, ?_⟩) ?_ ?_
  rotate_left
  · intro w'
    go_simp
    with_reducible rfl
  rotate_left
  · simp only [Act.put, List.setIfInBounds_toArray, List.set_cons_zero, List.set_cons_succ, i64_w, i32_w]
    rfl
  refine pure_ (i := 2) (N := some 7) (v := ?_) (a' := ?_) #[true, false, true, false, false, false, false, false, false, false, false, false, false, false, false, false, false, false] rfl rfl (any_of HT_.out (by kernel_rfl)) (fun _ _ _ h => h) (Or.inl ⟨by rfl, ?_⟩) ?_ ?_
  rotate_left
  · intro w'
    go_simp
    with_reducible rfl
  rotate_left
  · simp only [Act.put, List.setIfInBounds_toArray, List.set_cons_zero, List.set_cons_succ, i64_w, i32_w]
    rfl
  refine pure_ (i := 8) (N := some 13) (v := ?_) (a' := ?_) #[true, false, true, false, false, false, false, false, true, false, false, false, false, false, false, false, false, false] rfl rfl (any_of HT_.out (by kernel_rfl)) (fun _ _ _ h => h) (Or.inl ⟨by rfl, ?_⟩) ?_ ?_
  rotate_left
  · intro w'
    go_simp
    with_reducible rfl
  rotate_left
  · simp only [Act.put, List.setIfInBounds_toArray, List.set_cons_zero, List.set_cons_succ, i64_w, i32_w]
    rfl
  refine pure_ (i := 10) (N := some 15) (v := ?_) (a' := ?_) #[true, false, true, false, false, false, false, false, true, false, true, false, false, false, false, false, false, false] rfl rfl (any_of HT_.out (by kernel_rfl)) (fun _ _ _ h => h) (Or.inl ⟨by rfl, ?_⟩) ?_ ?_
  rotate_left
  · intro w'
    go_simp
    with_reducible rfl
  rotate_left
  · simp only [Act.put, List.setIfInBounds_toArray, List.set_cons_zero, List.set_cons_succ, i64_w, i32_w]
    rfl
  refine take_ (i := 1) (N := some 6) (v := ?_) (a' := ?_) #[true, true, true, false, false, false, false, false, true, false, true, false, false, false, false, false, false, false] rfl rfl (take_ofW HT_.out HW_.out (by kernel_rfl)) (fun _ _ _ h => h) (Or.inl ⟨by rfl, ?_⟩) hHeld ?_ ?_
  rotate_left
  · rintro w' ⟨s0, s1, s2, s3⟩
    go_simp
    with_reducible rfl
  rotate_left
  · simp only [Act.put, List.setIfInBounds_toArray, List.set_cons_zero, List.set_cons_succ, i64_w, i32_w]
    rfl
  refine take_ (i := 3) (N := some 8) (v := ?_) (a' := ?_) #[true, true, true, true, false, false, false, false, true, false, true, false, false, false, false, false, false, false] rfl rfl (take_ofW HT_.out HW_.out (by kernel_rfl)) (fun _ _ _ h => h) (Or.inl ⟨by rfl, ?_⟩) hHeld ?_ ?_
  rotate_left
  · rintro w' ⟨s0, s1, s2, s3⟩
    go_simp
    with_reducible rfl
  rotate_left
  · simp only [Act.put, List.setIfInBounds_toArray, List.set_cons_zero, List.set_cons_succ, i64_w, i32_w]
    rfl
  refine take_ (i := 9) (N := some 14) (v := ?_) (a' := ?_) #[true, true, true, true, false, false, false, false, true, true, true, false, false, false, false, false, false, false] rfl rfl (take_ofW HT_.out HW_.out (by kernel_rfl)) (fun _ _ _ h => h) (Or.inl ⟨by rfl, ?_⟩) hHeld ?_ ?_
  rotate_left
  · rintro w' ⟨s0, s1, s2, s3⟩
    go_simp
    with_reducible rfl
  rotate_left
  · simp only [Act.put, List.setIfInBounds_toArray, List.set_cons_zero, List.set_cons_succ, i64_w, i32_w]
    rfl
  refine take_ (i := 11) (N := some 16) (v := ?_) (a' := ?_) #[true, true, true, true, false, false, false, false, true, true, true, true, false, false, false, false, false, false] rfl rfl (take_ofW HT_.out HW_.out (by kernel_rfl)) (fun _ _ _ h => h) (Or.inl ⟨by rfl, ?_⟩) hHeld ?_ ?_
  rotate_left
  · rintro w' ⟨s0, s1, s2, s3⟩
    go_simp
    with_reducible rfl
  rotate_left
  · simp only [Act.put, List.setIfInBounds_toArray, List.set_cons_zero, List.set_cons_succ, i64_w, i32_w]
    rfl
  refine one_ (i := 4) (N := some 9) #[true, true, true, true, true, false, false, false, true, true, true, true, false, false, false, false, false, false] rfl rfl (one_of HT_.out (by kernel_rfl)) (by decide) (fun K hK => ?_)
  refine goes_ Try.func105 (by kernel_rfl) rfl #[.int .i64 a1_0] (by rfl) rfl rfl (by (try simp only [List.map_toArray, List.map_cons, List.map_nil]); first | done | rfl | (simp only [List.length_drop, List.length_take]; rfl)) ?_
  with_reducible refine (rules_held.calls a1_0 t272 _ A3.out).mono ?_
  rintro e w13 ⟨rfl, hb⟩
  refine ⟨_, rfl, ?_⟩
  have n0_ := Aside0.mk (blk_below (g := gb269) (o := .cells #[.int .i64 a0_0, .int .i64 a0_1] 64 (0, 0)) (by (with_reducible repeat (first | refine blk_drewN ?_ _ | refine blk_drew ?_ | refine blk_alloc ?_ _)); exact BK269.out) hb)
  have n1_ := Aside0.mk (blk_below (g := gb270) (o := .cells #[.int .i64 a1_0, .int .i64 a1_1] 64 (0, 0)) (by (with_reducible repeat (first | refine blk_drewN ?_ _ | refine blk_drew ?_ | refine blk_alloc ?_ _)); exact BK270.out) hb)
  have n2_ := Aside0.mk (blk_below (g := gb271) (o := .cells #[.int .i64 0, .int .i64 0] 64 (0, 0)) (by (with_reducible repeat (first | refine blk_drewN ?_ _ | refine blk_drew ?_ | refine blk_alloc ?_ _)); exact BK271.out) hb)
  have n3_ := Aside0.mk (below_step (by repeat (first | (with_reducible first | exact HB.out | apply below_alloc | apply pw_below_drewN | apply below_drew1 | refine below_set ?_ GE269.out | refine below_set ?_ GE270.out | refine below_set ?_ GE271.out) | exact HB.out)) hb)
  clear BK269
  clear BK270
  clear BK271
  clear HB
  have BK269 := n0_
  have BK270 := n1_
  have BK271 := n2_
  have HB := n3_
  clear n0_ n1_ n2_ n3_
  (try clear hb)
  (try clear hb2)
  (try clear hk)
  (try clear hi)
  refine hK.out _ _ ⟨(blk_cell BK269.out 0).trans rfl, (blk_cell BK269.out 1).trans rfl, (blk_cell BK270.out 0).trans rfl, (blk_cell BK270.out 1).trans rfl⟩ (fun hHeld => ?_)
  clear hK K
  refine norm_ (a' := ?_) ?_ ?_
  rotate_left
  · show Act.put _ (some 9) _ = _
    simp only [Act.put, List.setIfInBounds_toArray, List.set_cons_zero, List.set_cons_succ, i64_w, i32_w]
    rfl
  refine pure_ (i := 5) (N := some 10) (v := ?_) (a' := ?_) #[true, true, true, true, true, true, false, false, true, true, true, true, false, false, false, false, false, false] rfl rfl (any_of HT_.out (by kernel_rfl)) (fun _ _ _ h => h) (Or.inl ⟨by rfl, ?_⟩) ?_ ?_
  rotate_left
  · intro w'
    go_simp
    with_reducible rfl
  rotate_left
  · simp only [Act.put, List.setIfInBounds_toArray, List.set_cons_zero, List.set_cons_succ, i64_w, i32_w]
    rfl
  refine pure_ (i := 6) (N := some 11) (v := ?_) (a' := ?_) #[true, true, true, true, true, true, true, false, true, true, true, true, false, false, false, false, false, false] rfl rfl (any_of HT_.out (by kernel_rfl)) (fun _ _ _ h => h) (Or.inl ⟨by rfl, ?_⟩) ?_ ?_
  rotate_left
  · intro w'
    go_simp
    with_reducible rfl
  rotate_left
  · simp only [Act.put, List.setIfInBounds_toArray, List.set_cons_zero, List.set_cons_succ, i64_w, i32_w]
    rfl
  refine pure_ (i := 7) (N := some 12) (v := ?_) (a' := ?_) #[true, true, true, true, true, true, true, true, true, true, true, true, false, false, false, false, false, false] rfl rfl (any_of HT_.out (by kernel_rfl)) (fun _ _ _ h => h) (Or.inl ⟨by rfl, ?_⟩) ?_ ?_
  rotate_left
  · intro w'
    go_simp
    with_reducible rfl
  rotate_left
  · simp only [Act.put, List.setIfInBounds_toArray, List.set_cons_zero, List.set_cons_succ, i64_w, i32_w]
    rfl
  refine one_ (i := 12) (N := some 17) #[true, true, true, true, true, true, true, true, true, true, true, true, true, false, false, false, false, false] rfl rfl (one_of HT_.out (by kernel_rfl)) (by decide) (fun K hK => ?_)
  refine goes_ Try.func105 (by kernel_rfl) rfl #[.int .i64 a1_1] (by rfl) rfl rfl (by (try simp only [List.map_toArray, List.map_cons, List.map_nil]); first | done | rfl | (simp only [List.length_drop, List.length_take]; rfl)) ?_
  with_reducible refine (rules_held.calls a1_1 t273 _ A6.out).mono ?_
  rintro e w14 ⟨rfl, hb⟩
  refine ⟨_, rfl, ?_⟩
  have n0_ := Aside0.mk (blk_below (g := gb269) (o := .cells #[.int .i64 a0_0, .int .i64 a0_1] 64 (0, 0)) (by (with_reducible repeat (first | refine blk_drewN ?_ _ | refine blk_drew ?_ | refine blk_alloc ?_ _)); exact BK269.out) hb)
  have n1_ := Aside0.mk (blk_below (g := gb270) (o := .cells #[.int .i64 a1_0, .int .i64 a1_1] 64 (0, 0)) (by (with_reducible repeat (first | refine blk_drewN ?_ _ | refine blk_drew ?_ | refine blk_alloc ?_ _)); exact BK270.out) hb)
  have n2_ := Aside0.mk (blk_below (g := gb271) (o := .cells #[.int .i64 0, .int .i64 0] 64 (0, 0)) (by (with_reducible repeat (first | refine blk_drewN ?_ _ | refine blk_drew ?_ | refine blk_alloc ?_ _)); exact BK271.out) hb)
  have n3_ := Aside0.mk (below_step (by repeat (first | (with_reducible first | exact HB.out | apply below_alloc | apply pw_below_drewN | apply below_drew1 | refine below_set ?_ GE269.out | refine below_set ?_ GE270.out | refine below_set ?_ GE271.out) | exact HB.out)) hb)
  clear BK269
  clear BK270
  clear BK271
  clear HB
  have BK269 := n0_
  have BK270 := n1_
  have BK271 := n2_
  have HB := n3_
  clear n0_ n1_ n2_ n3_
  (try clear hb)
  (try clear hb2)
  (try clear hk)
  (try clear hi)
  refine hK.out _ _ ⟨(blk_cell BK269.out 0).trans rfl, (blk_cell BK269.out 1).trans rfl, (blk_cell BK270.out 0).trans rfl, (blk_cell BK270.out 1).trans rfl⟩ (fun hHeld => ?_)
  clear hK K
  refine norm_ (a' := ?_) ?_ ?_
  rotate_left
  · show Act.put _ (some 17) _ = _
    simp only [Act.put, List.setIfInBounds_toArray, List.set_cons_zero, List.set_cons_succ, i64_w, i32_w]
    rfl
  refine pure_ (i := 13) (N := some 18) (v := ?_) (a' := ?_) #[true, true, true, true, true, true, true, true, true, true, true, true, true, true, false, false, false, false] rfl rfl (any_of HT_.out (by kernel_rfl)) (fun _ _ _ h => h) (Or.inl ⟨by rfl, ?_⟩) ?_ ?_
  rotate_left
  · intro w'
    go_simp
    with_reducible rfl
  rotate_left
  · simp only [Act.put, List.setIfInBounds_toArray, List.set_cons_zero, List.set_cons_succ, i64_w, i32_w]
    rfl
  refine pure_ (i := 14) (N := some 19) (v := ?_) (a' := ?_) #[true, true, true, true, true, true, true, true, true, true, true, true, true, true, true, false, false, false] rfl rfl (any_of HT_.out (by kernel_rfl)) (fun _ _ _ h => h) (Or.inl ⟨by rfl, ?_⟩) ?_ ?_
  rotate_left
  · intro w'
    go_simp
    with_reducible rfl
  rotate_left
  · simp only [Act.put, List.setIfInBounds_toArray, List.set_cons_zero, List.set_cons_succ, i64_w, i32_w]
    rfl
  refine pure_ (i := 15) (N := some 20) (v := ?_) (a' := ?_) #[true, true, true, true, true, true, true, true, true, true, true, true, true, true, true, true, false, false] rfl rfl (any_of HT_.out (by kernel_rfl)) (fun _ _ _ h => h) (Or.inl ⟨by rfl, ?_⟩) ?_ ?_
  rotate_left
  · intro w'
    go_simp
    with_reducible rfl
  rotate_left
  · simp only [Act.put, List.setIfInBounds_toArray, List.set_cons_zero, List.set_cons_succ, i64_w, i32_w]
    rfl
  refine pure_ (i := 16) (N := some 21) (v := ?_) (a' := ?_) #[true, true, true, true, true, true, true, true, true, true, true, true, true, true, true, true, true, false] rfl rfl (any_of HT_.out (by kernel_rfl)) (fun _ _ _ h => h) (Or.inl ⟨by rfl, ?_⟩) ?_ ?_
  rotate_left
  · intro w'
    go_simp
    with_reducible rfl
  rotate_left
  · simp only [Act.put, List.setIfInBounds_toArray, List.set_cons_zero, List.set_cons_succ, i64_w, i32_w]
    rfl
  refine one_ (i := 17) (N := none) #[true, true, true, true, true, true, true, true, true, true, true, true, true, true, true, true, true, true] rfl rfl (one_of HT_.out (by kernel_rfl)) (by decide) (fun K hK => ?_)
  have hs15 : w14.cell? ⟨gb271, 0, none⟩ = some (.int .i64 0) := (blk_cell BK271.out 0).trans rfl
  have hfs15 := blk_frozen BK271.out 0
  have hns15_0 := NB269_271.out
  have hns15_1 := NB270_271.out
  have hms15_0 := NB271_269.out
  have hms15_1 := NB271_270.out
  have hs16 : w14.cell? ⟨gb271, 1, none⟩ = some (.int .i64 0) := (blk_cell BK271.out 1).trans rfl
  have hfs16 := blk_frozen BK271.out 1
  have hns16_0 := NB269_271.out
  have hns16_1 := NB270_271.out
  have hms16_0 := NB271_269.out
  have hms16_1 := NB271_270.out
  refine skip_ (w1 := ?_) (by rfl) rfl ?_ ?_
  rotate_left
  · go_simp
    rfl
  refine hK.out _ _ ⟨((cell_far (p := ⟨gb271, _, none⟩) NB269_271.out _).trans (((cell_far (p := ⟨gb271, _, none⟩) NB269_271.out _).trans (hHeld.1)))), ((cell_far (p := ⟨gb271, _, none⟩) NB269_271.out _).trans (((cell_far (p := ⟨gb271, _, none⟩) NB269_271.out _).trans (hHeld.2.1)))), ((cell_far (p := ⟨gb271, _, none⟩) NB270_271.out _).trans (((cell_far (p := ⟨gb271, _, none⟩) NB270_271.out _).trans (hHeld.2.2.1)))), ((cell_far (p := ⟨gb271, _, none⟩) NB270_271.out _).trans (((cell_far (p := ⟨gb271, _, none⟩) NB270_271.out _).trans (hHeld.2.2.2))))⟩ (fun hHeld => ?_)
  clear hK K
  refine done_ (done_of HT_.out (by kernel_rfl)) ?_
  try go_wp2
  refine bodyPost_ret (results_cell_row rfl _ _ gb271 64 #[.int .i64 ji5, .int .i64 ji8] (0, 0) _ rfl (by (with_reducible repeat (first | refine blk_drewN ?_ _ | refine blk_drew ?_ | refine blk_alloc ?_ _)); refine blk_put (cs := #[.int .i64 ji5, .int .i64 0]) ?_ 1 _ rfl; (with_reducible repeat (first | refine blk_drewN ?_ _ | refine blk_drew ?_ | refine blk_alloc ?_ _)); refine blk_put (cs := #[.int .i64 0, .int .i64 0]) ?_ 0 _ rfl; (with_reducible repeat (first | refine blk_drewN ?_ _ | refine blk_drew ?_ | refine blk_alloc ?_ _)); exact BK271.out) Try.underlying64 rfl (by kernel_rfl)) rfl ?_
  exact ⟨by first | rfl | (simp [errW_none, errW_some] <;> rfl) | (simp only [← hji4, ← hji5, ← hji7, ← hji8]; first | rfl | (simp [errW_none, errW_some] <;> rfl)) | (simp [*, errW_none, errW_some] <;> rfl), by repeat (first | (with_reducible first | exact HB.out | apply below_alloc | apply pw_below_drewN | apply below_drew1 | refine below_set ?_ GE269.out | refine below_set ?_ GE270.out | refine below_set ?_ GE271.out) | exact HB.out)⟩
end Go.Proofs.Ytamjjeakkkdfhaa.PB
end
section
namespace Go.Proofs.Ytamjjeakkkdfhaa.PB
open Go.RowKit Go.Proofs.YtamjjeakkkdfhaaW.PrintWords Go.Proofs.YtamjjeakkkdfhaaW.PrintLast Go.Proofs.YtamjjeakkkdfhaaW.PrintMore
open Go.Proofs.Ytamjjeakkkdfhaa.K Go.Proofs.Ytamjjeakkkdfhaa.G Go.Proofs.YtamjjeakkkdfhaaE
attribute [local go_sem] max2_int min2_int max_two min_two max_three min_three max_four min_four
set_option linter.unusedVariables false
set_option linter.unusedSimpArgs false
def rules_Used.l0 : Nat → ByteArray → List (S68) → Int → Int → Int → Int → Option (Int × Int)
  | 0, _, _, _, _, _, _ => none
  | k + 1, x1, x9, x10, x11, x277000, x277001 => if x11 < x10 then (if 0 ≤ x11 then (if x11 < (x9.length : Int) then (if x1.toList = ([] : List UInt8) then (rules_Used.l0 k x1 x9 x10 (wrap64 (x11 + 1)) x277000 x277001) else (if ((rd_T68 x9 x11).f12).toList = x1.toList then ((rules_both.f x277000 x277001 ((rd_T68 x9 x11).f16.f0) ((rd_T68 x9 x11).f16.f1)).bind fun bt279 => (rules_Used.l0 k x1 x9 x10 (wrap64 (x11 + 1)) bt279.1 bt279.2)) else (rules_Used.l0 k x1 x9 x10 (wrap64 (x11 + 1)) x277000 x277001))) else (none)) else (none)) else (some (x277000, x277001))
def rules_Used.f (k : Nat) (l0_0 : List (S68)) (l0_1 : List (S68)) (l0_2 : List (S68)) (l0_3 : List (S68)) (a1 : ByteArray) : Option (Int × Int) := rules_Used.l0 k a1 l0_1 (l0_1.length : Int) 0 0 0
set_option maxHeartbeats 8000000 in
set_option maxRecDepth 100000 in
theorem rules_Used.calls (k : Nat) (A0_0 : Option Addr) (c0_0 : Nat) (l0_0 : List (S68)) (A0_1 : Option Addr) (c0_1 : Nat) (l0_1 : List (S68)) (A0_2 : Option Addr) (c0_2 : Nat) (l0_2 : List (S68)) (A0_3 : Option Addr) (c0_3 : Nat) (l0_3 : List (S68)) (a1 : ByteArray) (r1 : Int) (r2 : Int) (w : World) (hr0_0 : Kd.C k68 w A0_0 l0_0.length l0_0) (hc0_0 : l0_0.length ≤ c0_0) (hr0_1 : Kd.C k68 w A0_1 l0_1.length l0_1) (hc0_1 : l0_1.length ≤ c0_1) (hr0_2 : Kd.C k68 w A0_2 l0_2.length l0_2) (hc0_2 : l0_2.length ≤ c0_2) (hr0_3 : Kd.C k68 w A0_3 l0_3.length l0_3) (hc0_3 : l0_3.length ≤ c0_3) (h : rules_Used.f k l0_0 l0_1 l0_2 l0_3 a1 = some (r1, r2)) :
    Calls Try.prog 38 #[.agg #[.slice A0_0 l0_0.length c0_0, .slice A0_1 l0_1.length c0_1, .slice A0_2 l0_2.length c0_2, .slice A0_3 l0_3.length c0_3], .string a1] w fun e w' => e = .returned (.agg #[.int .i64 r1, .int .i64 r2]) ∧ Below w.heap.size w w' := by
  have hu59 := Try.underlying59
  have hu64 := Try.underlying64
  have hu68 := Try.underlying68
  have HR0_0 := Aside0.mk hr0_0
  have HC0_0 := Aside0.mk hc0_0
  clear hr0_0 hc0_0
  have HR0_1 := Aside0.mk hr0_1
  have HC0_1 := Aside0.mk hc0_1
  clear hr0_1 hc0_1
  have HR0_2 := Aside0.mk hr0_2
  have HC0_2 := Aside0.mk hc0_2
  clear hr0_2 hc0_2
  have HR0_3 := Aside0.mk hr0_3
  have HC0_3 := Aside0.mk hc0_3
  clear hr0_3 hc0_3
  have HB := Aside0.mk (Below.refl w.heap.size w)
  have H : (rules_Used.l0 k a1 l0_1 (l0_1.length : Int) 0 0 0) = some (r1, r2) := h
  clear h
  have H' := Aside0.mk H
  clear H
  go_enter Try.func38, Try.ntmps38
  go_wp2_with (first | ((with_reducible refine gate_load (t := 68) rfl ?_); first | (refine load68_box rfl rfl rfl (by with_reducible assumption) (by with_reducible assumption) (by with_reducible assumption) (by with_reducible assumption) (by with_reducible assumption) (by with_reducible assumption) (by with_reducible assumption) (by with_reducible assumption) (by with_reducible assumption) (by with_reducible assumption) (by with_reducible assumption) (by with_reducible assumption) (by with_reducible assumption) (by with_reducible assumption) (by with_reducible assumption) (by with_reducible assumption) (by with_reducible assumption) (by with_reducible assumption) (by with_reducible assumption) (by with_reducible assumption) (by with_reducible assumption) (by with_reducible assumption) (by with_reducible assumption) (by with_reducible assumption) (by with_reducible assumption) (by with_reducible assumption) (by with_reducible assumption) (by with_reducible assumption) (by with_reducible assumption) (by with_reducible assumption) (by with_reducible assumption) (by with_reducible assumption) ?_) | (refine load68_at rfl rfl rfl (by with_reducible assumption) (by with_reducible assumption) (by with_reducible assumption) (by with_reducible assumption) (by with_reducible assumption) (by with_reducible assumption) (by with_reducible assumption) (by with_reducible assumption) (by with_reducible assumption) (by with_reducible assumption) (by with_reducible assumption) (by with_reducible assumption) (by with_reducible assumption) (by with_reducible assumption) (by with_reducible assumption) (by with_reducible assumption) (by with_reducible assumption) (by with_reducible assumption) (by with_reducible assumption) (by with_reducible assumption) (by with_reducible assumption) (by with_reducible assumption) (by with_reducible assumption) (by with_reducible assumption) (by with_reducible assumption) (by with_reducible assumption) (by with_reducible assumption) (by with_reducible assumption) (by with_reducible assumption) (by with_reducible assumption) (by with_reducible assumption) (by with_reducible assumption) ?_)) | ((with_reducible refine gate_dst (N := 2) rfl ?_); refine box_event ?hg (N := 2) ?hd (cs := #[.slice A0_0 l0_0.length c0_0, .slice A0_1 l0_1.length c0_1, .slice A0_2 l0_2.length c0_2, .slice A0_3 l0_3.length c0_3]) (t := 59) ?hr ?_; (case hd => rfl); (case hg => rfl); (case hr => first | (go_simp; done) | (go_simp; rfl)); intro gb274 hg w3 hbox hb; have n0_ := Aside0.mk (below_step (by repeat (first | (with_reducible first | exact HB.out | apply below_alloc | apply pw_below_drewN | apply below_drew1) | exact HB.out)) hb); have n1_ := Aside0.mk (hbox); have n2_ := Aside0.mk ((by rw [hg]; exact (below_size (by repeat (first | (with_reducible first | exact HB.out | apply below_alloc | apply pw_below_drewN | apply below_drew1) | exact HB.out))) : w.heap.size ≤ gb274)); have n3_ := Aside0.mk ((by rw [hg]; exact (below_size (by repeat (first | (with_reducible first | exact HB.out | apply below_alloc | apply pw_below_drewN | apply below_drew1) | exact HB.out))) : w.heap.size ≤ gb274)); clear HB; have HB := n0_; have BK274 := n1_; have GW274 := n2_; have GE274 := n3_; clear n0_ n1_ n2_ n3_; clear hb hbox hg) | ((with_reducible refine gate_dst (N := 4) rfl ?_); refine box_event ?hg (N := 4) ?hd (cs := #[.int .i64 0, .int .i64 0]) (t := 64) ?hr ?_; (case hd => rfl); (case hg => rfl); (case hr => first | (go_simp; done) | (go_simp; rfl)); intro gb275 hg w4 hbox hb; have n0_ := Aside0.mk (blk_below (g := gb274) (o := .cells #[.slice A0_0 l0_0.length c0_0, .slice A0_1 l0_1.length c0_1, .slice A0_2 l0_2.length c0_2, .slice A0_3 l0_3.length c0_3] 59 (0, 0)) (by (with_reducible repeat (first | refine blk_drewN ?_ _ | refine blk_drew ?_ | refine blk_alloc ?_ _)); exact BK274.out) hb); have n1_ := Aside0.mk (below_step (by repeat (first | (with_reducible first | exact HB.out | apply below_alloc | apply pw_below_drewN | apply below_drew1 | refine below_set ?_ GE274.out) | exact HB.out)) hb); have n2_ := Aside0.mk (hbox); have n3_ := Aside0.mk ((by rw [hg]; exact (below_size (by repeat (first | (with_reducible first | exact HB.out | apply below_alloc | apply pw_below_drewN | apply below_drew1 | refine below_set ?_ GE274.out) | exact HB.out))) : w.heap.size ≤ gb275)); have n4_ := Aside0.mk ((by rw [hg]; exact (below_size (by repeat (first | (with_reducible first | exact HB.out | apply below_alloc | apply pw_below_drewN | apply below_drew1 | refine below_set ?_ GE274.out) | exact HB.out))) : w.heap.size ≤ gb275)); have n5_ := Aside0.mk ((by rw [hg]; exact Nat.ne_of_lt (blk_lt (g := gb274) (o := .cells #[.slice A0_0 l0_0.length c0_0, .slice A0_1 l0_1.length c0_1, .slice A0_2 l0_2.length c0_2, .slice A0_3 l0_3.length c0_3] 59 (0, 0)) (by (with_reducible repeat (first | refine blk_drewN ?_ _ | refine blk_drew ?_ | refine blk_alloc ?_ _)); exact BK274.out)) : gb274 ≠ gb275)); have n6_ := Aside0.mk ((by rw [hg]; exact Nat.ne_of_gt (blk_lt (g := gb274) (o := .cells #[.slice A0_0 l0_0.length c0_0, .slice A0_1 l0_1.length c0_1, .slice A0_2 l0_2.length c0_2, .slice A0_3 l0_3.length c0_3] 59 (0, 0)) (by (with_reducible repeat (first | refine blk_drewN ?_ _ | refine blk_drew ?_ | refine blk_alloc ?_ _)); exact BK274.out)) : gb275 ≠ gb274)); clear BK274; clear HB; have BK274 := n0_; have HB := n1_; have BK275 := n2_; have GW275 := n3_; have GE275 := n4_; have NB274_275 := n5_; have NB275_274 := n6_; clear n0_ n1_ n2_ n3_ n4_ n5_ n6_; clear hb hbox hg) | ((with_reducible refine gate_dst (N := 5) rfl ?_); refine box_event ?hg (N := 5) ?hd (cs := #[.int .i64 0, .int .i64 0]) (t := 64) ?hr ?_; (case hd => rfl); (case hg => rfl); (case hr => first | (go_simp; done) | (go_simp; rfl)); intro gb276 hg w5 hbox hb; have n0_ := Aside0.mk (blk_below (g := gb274) (o := .cells #[.slice A0_0 l0_0.length c0_0, .slice A0_1 l0_1.length c0_1, .slice A0_2 l0_2.length c0_2, .slice A0_3 l0_3.length c0_3] 59 (0, 0)) (by (with_reducible repeat (first | refine blk_drewN ?_ _ | refine blk_drew ?_ | refine blk_alloc ?_ _)); exact BK274.out) hb); have n1_ := Aside0.mk (blk_below (g := gb275) (o := .cells #[.int .i64 0, .int .i64 0] 64 (0, 0)) (by (with_reducible repeat (first | refine blk_drewN ?_ _ | refine blk_drew ?_ | refine blk_alloc ?_ _)); exact BK275.out) hb); have n2_ := Aside0.mk (below_step (by repeat (first | (with_reducible first | exact HB.out | apply below_alloc | apply pw_below_drewN | apply below_drew1 | refine below_set ?_ GE274.out | refine below_set ?_ GE275.out) | exact HB.out)) hb); have n3_ := Aside0.mk (hbox); have n4_ := Aside0.mk ((by rw [hg]; exact (below_size (by repeat (first | (with_reducible first | exact HB.out | apply below_alloc | apply pw_below_drewN | apply below_drew1 | refine below_set ?_ GE274.out | refine below_set ?_ GE275.out) | exact HB.out))) : w.heap.size ≤ gb276)); have n5_ := Aside0.mk ((by rw [hg]; exact (below_size (by repeat (first | (with_reducible first | exact HB.out | apply below_alloc | apply pw_below_drewN | apply below_drew1 | refine below_set ?_ GE274.out | refine below_set ?_ GE275.out) | exact HB.out))) : w.heap.size ≤ gb276)); have n6_ := Aside0.mk ((by rw [hg]; exact Nat.ne_of_lt (blk_lt (g := gb274) (o := .cells #[.slice A0_0 l0_0.length c0_0, .slice A0_1 l0_1.length c0_1, .slice A0_2 l0_2.length c0_2, .slice A0_3 l0_3.length c0_3] 59 (0, 0)) (by (with_reducible repeat (first | refine blk_drewN ?_ _ | refine blk_drew ?_ | refine blk_alloc ?_ _)); exact BK274.out)) : gb274 ≠ gb276)); have n7_ := Aside0.mk ((by rw [hg]; exact Nat.ne_of_gt (blk_lt (g := gb274) (o := .cells #[.slice A0_0 l0_0.length c0_0, .slice A0_1 l0_1.length c0_1, .slice A0_2 l0_2.length c0_2, .slice A0_3 l0_3.length c0_3] 59 (0, 0)) (by (with_reducible repeat (first | refine blk_drewN ?_ _ | refine blk_drew ?_ | refine blk_alloc ?_ _)); exact BK274.out)) : gb276 ≠ gb274)); have n8_ := Aside0.mk ((by rw [hg]; exact Nat.ne_of_lt (blk_lt (g := gb275) (o := .cells #[.int .i64 0, .int .i64 0] 64 (0, 0)) (by (with_reducible repeat (first | refine blk_drewN ?_ _ | refine blk_drew ?_ | refine blk_alloc ?_ _)); exact BK275.out)) : gb275 ≠ gb276)); have n9_ := Aside0.mk ((by rw [hg]; exact Nat.ne_of_gt (blk_lt (g := gb275) (o := .cells #[.int .i64 0, .int .i64 0] 64 (0, 0)) (by (with_reducible repeat (first | refine blk_drewN ?_ _ | refine blk_drew ?_ | refine blk_alloc ?_ _)); exact BK275.out)) : gb276 ≠ gb275)); clear BK274; clear BK275; clear HB; have BK274 := n0_; have BK275 := n1_; have HB := n2_; have BK276 := n3_; have GW276 := n4_; have GE276 := n5_; have NB274_276 := n6_; have NB276_274 := n7_; have NB275_276 := n8_; have NB276_275 := n9_; clear n0_ n1_ n2_ n3_ n4_ n5_ n6_ n7_ n8_ n9_; clear hb hbox hg; have hnb6 := NB274_275.out; have hnc6 := NB275_274.out; have hnb7 := NB274_276.out; have hnc7 := NB276_274.out; have hcz8_0 : w5.cell? ⟨gb274, 0, none⟩ = some (.slice A0_0 l0_0.length c0_0) := (blk_cell BK274.out 0).trans rfl; have hcz8_1 : w5.cell? ⟨gb274, 1, none⟩ = some (.slice A0_1 l0_1.length c0_1) := (blk_cell BK274.out 1).trans rfl; have hcz8_2 : w5.cell? ⟨gb274, 2, none⟩ = some (.slice A0_2 l0_2.length c0_2) := (blk_cell BK274.out 2).trans rfl; have hcz8_3 : w5.cell? ⟨gb274, 3, none⟩ = some (.slice A0_3 l0_3.length c0_3) := (blk_cell BK274.out 3).trans rfl; have hfz8_0 := blk_frozen BK274.out 0; have hfz8_1 := blk_frozen BK274.out 1; have hfz8_2 := blk_frozen BK274.out 2; have hfz8_3 := blk_frozen BK274.out 3))
  go_loopg [11] k (fun kq v11 w' => ∃ (x11_1 : Int) (x277000_1 : Int) (x277001_1 : Int), v11 = .int .i64 x11_1 ∧ Aside0 (rules_Used.l0 kq a1 l0_1 (l0_1.length : Int) x11_1 x277000_1 x277001_1 = some (r1, r2)) ∧ Aside0 (kq ≤ k) ∧ Aside0 (w'.heap[gb274]? = some (.cells #[(.slice A0_0 l0_0.length c0_0), (.slice A0_1 l0_1.length c0_1), (.slice A0_2 l0_2.length c0_2), (.slice A0_3 l0_3.length c0_3)] 59 (0, 0))) ∧ Aside0 (w'.heap[gb275]? = some (.cells #[.int .i64 0, .int .i64 0] 64 (0, 0))) ∧ Aside0 (w'.heap[gb276]? = some (.cells #[.int .i64 x277000_1, .int .i64 x277001_1] 64 (0, 0))) ∧ Aside0 (Below w.heap.size w w'))
  case atStart => exact ⟨(0), (0), (0), (by first | rfl | (simp; done) | (simp [*]; done)), H', ⟨Nat.le_refl _⟩, ⟨by (with_reducible repeat (first | refine blk_drewN ?_ _ | refine blk_drew ?_ | refine blk_alloc ?_ _)); exact BK274.out⟩, ⟨by (with_reducible repeat (first | refine blk_drewN ?_ _ | refine blk_drew ?_ | refine blk_alloc ?_ _)); exact BK275.out⟩, ⟨by (with_reducible repeat (first | refine blk_drewN ?_ _ | refine blk_drew ?_ | refine blk_alloc ?_ _)); exact BK276.out⟩, ⟨by repeat (first | (with_reducible first | exact HB.out | apply below_alloc | apply pw_below_drewN | apply below_drew1 | refine below_set ?_ GE274.out | refine below_set ?_ GE275.out | refine below_set ?_ GE276.out) | exact HB.out)⟩⟩
  case round =>
    clear H'
    try clear p2
    try clear c3
    try clear c6
    try clear c7
    try clear hcz8_0
    try clear hcz8_1
    try clear hcz8_2
    try clear hcz8_3
    try clear hfz8_0
    try clear hfz8_1
    try clear hfz8_2
    try clear hfz8_3
    obtain ⟨x11_1, x277000_1, x277001_1, rfl, HA, HK1, BK274, BK275, BK276, HB⟩ := hrel
    cases gk with
    | zero => exact absurd HA.out (by simp [rules_Used.l0])
    | succ k1 =>
      have H := HA.out
      clear HA
      simp only [rules_Used.l0] at H
      by_cases c9 : x11_1 < (l0_1.length : Int)
      · rw [if_pos c9] at H
        have c9b0 : decide (x11_1 < (l0_1.length : Int)) = true := decide_eq_true c9
        clear c9
        by_cases c10 : 0 ≤ x11_1
        · rw [if_pos c10] at H
          have c10b0 : decide (0 ≤ x11_1) = true := decide_eq_true c10
          clear c10
          by_cases c11 : x11_1 < (l0_1.length : Int)
          · rw [if_pos c11] at H
            have c11b0 : decide (x11_1 < (l0_1.length : Int)) = true := decide_eq_true c11
            clear c11
            by_cases c12 : a1.toList = ([] : List UInt8)
            · rw [if_pos c12] at H
              have c12b0 : (a1.toList == ([] : List UInt8)) = true := beq_iff_eq.mpr c12
              have c12b1 : (a1.toList != ([] : List UInt8)) = false := bne_eq_false_iff_eq.mpr c12
              clear c12
              have H' := Aside0.mk H
              clear H
              have p277 : 0 ≤ (x11_1 : Int) := of_decide_eq_true (by first | (with_reducible assumption) | assumption)
              have q277 : x11_1 < (l0_1.length : Int) := of_decide_eq_true (by first | (with_reducible assumption) | assumption)
              obtain ⟨ad277, A277_4, c277_4, A277_27, c277_27, e277, hx277_0, hx277_1, hx277_2, hx277_3, hx277_4, hx277_5, hx277_6, hx277_7, hx277_8, hx277_9, hx277_10, hx277_11, hx277_12, hx277_13, hx277_14, hx277_15, hx277_16, hx277_17, hx277_18, hx277_19, hx277_20, hx277_21, hx277_22, hx277_23, hx277_24, hx277_25, hx277_26, hx277_27, hx277_28, hx277_29, hx277_30, hx277_31, hl277_4, hi277_4, hl277_27, hi277_27⟩ := at_T68 HR0_1.out x11_1 p277 q277
              cases e277
              replace hx277_0 := (HB.out.cell (World.block_lt_of_cell? w _ hx277_0)).trans hx277_0
              replace hx277_1 := (HB.out.cell (World.block_lt_of_cell? w _ hx277_1)).trans hx277_1
              replace hx277_2 := (HB.out.cell (World.block_lt_of_cell? w _ hx277_2)).trans hx277_2
              replace hx277_3 := (HB.out.cell (World.block_lt_of_cell? w _ hx277_3)).trans hx277_3
              replace hx277_4 := (HB.out.cell (World.block_lt_of_cell? w _ hx277_4)).trans hx277_4
              replace hx277_5 := (HB.out.cell (World.block_lt_of_cell? w _ hx277_5)).trans hx277_5
              replace hx277_6 := (HB.out.cell (World.block_lt_of_cell? w _ hx277_6)).trans hx277_6
              replace hx277_7 := (HB.out.cell (World.block_lt_of_cell? w _ hx277_7)).trans hx277_7
              replace hx277_8 := (HB.out.cell (World.block_lt_of_cell? w _ hx277_8)).trans hx277_8
              replace hx277_9 := (HB.out.cell (World.block_lt_of_cell? w _ hx277_9)).trans hx277_9
              replace hx277_10 := (HB.out.cell (World.block_lt_of_cell? w _ hx277_10)).trans hx277_10
              replace hx277_11 := (HB.out.cell (World.block_lt_of_cell? w _ hx277_11)).trans hx277_11
              replace hx277_12 := (HB.out.cell (World.block_lt_of_cell? w _ hx277_12)).trans hx277_12
              replace hx277_13 := (HB.out.cell (World.block_lt_of_cell? w _ hx277_13)).trans hx277_13
              replace hx277_14 := (HB.out.cell (World.block_lt_of_cell? w _ hx277_14)).trans hx277_14
              replace hx277_15 := (HB.out.cell (World.block_lt_of_cell? w _ hx277_15)).trans hx277_15
              replace hx277_16 := (HB.out.cell (World.block_lt_of_cell? w _ hx277_16)).trans hx277_16
              replace hx277_17 := (HB.out.cell (World.block_lt_of_cell? w _ hx277_17)).trans hx277_17
              replace hx277_18 := (HB.out.cell (World.block_lt_of_cell? w _ hx277_18)).trans hx277_18
              replace hx277_19 := (HB.out.cell (World.block_lt_of_cell? w _ hx277_19)).trans hx277_19
              replace hx277_20 := (HB.out.cell (World.block_lt_of_cell? w _ hx277_20)).trans hx277_20
              replace hx277_21 := (HB.out.cell (World.block_lt_of_cell? w _ hx277_21)).trans hx277_21
              replace hx277_22 := (HB.out.cell (World.block_lt_of_cell? w _ hx277_22)).trans hx277_22
              replace hx277_23 := (HB.out.cell (World.block_lt_of_cell? w _ hx277_23)).trans hx277_23
              replace hx277_24 := (HB.out.cell (World.block_lt_of_cell? w _ hx277_24)).trans hx277_24
              replace hx277_25 := (HB.out.cell (World.block_lt_of_cell? w _ hx277_25)).trans hx277_25
              replace hx277_26 := (HB.out.cell (World.block_lt_of_cell? w _ hx277_26)).trans hx277_26
              replace hx277_27 := (HB.out.cell (World.block_lt_of_cell? w _ hx277_27)).trans hx277_27
              replace hx277_28 := (HB.out.cell (World.block_lt_of_cell? w _ hx277_28)).trans hx277_28
              replace hx277_29 := (HB.out.cell (World.block_lt_of_cell? w _ hx277_29)).trans hx277_29
              replace hx277_30 := (HB.out.cell (World.block_lt_of_cell? w _ hx277_30)).trans hx277_30
              replace hx277_31 := (HB.out.cell (World.block_lt_of_cell? w _ hx277_31)).trans hx277_31
              have HR277_4 := Aside0.mk hi277_4
              have HC277_4 := Aside0.mk hl277_4
              clear hi277_4 hl277_4
              have HR277_27 := Aside0.mk hi277_27
              have HC277_27 := Aside0.mk hl277_27
              clear hi277_27 hl277_27
              replace p277 := eq_true p277
              replace q277 := eq_true q277
              go_wp2_with (first | ((with_reducible refine gate_load (t := 68) rfl ?_); first | (refine load68_box rfl rfl rfl (by with_reducible assumption) (by with_reducible assumption) (by with_reducible assumption) (by with_reducible assumption) (by with_reducible assumption) (by with_reducible assumption) (by with_reducible assumption) (by with_reducible assumption) (by with_reducible assumption) (by with_reducible assumption) (by with_reducible assumption) (by with_reducible assumption) (by with_reducible assumption) (by with_reducible assumption) (by with_reducible assumption) (by with_reducible assumption) (by with_reducible assumption) (by with_reducible assumption) (by with_reducible assumption) (by with_reducible assumption) (by with_reducible assumption) (by with_reducible assumption) (by with_reducible assumption) (by with_reducible assumption) (by with_reducible assumption) (by with_reducible assumption) (by with_reducible assumption) (by with_reducible assumption) (by with_reducible assumption) (by with_reducible assumption) (by with_reducible assumption) (by with_reducible assumption) ?_) | (refine load68_at rfl rfl rfl (by with_reducible assumption) (by with_reducible assumption) (by with_reducible assumption) (by with_reducible assumption) (by with_reducible assumption) (by with_reducible assumption) (by with_reducible assumption) (by with_reducible assumption) (by with_reducible assumption) (by with_reducible assumption) (by with_reducible assumption) (by with_reducible assumption) (by with_reducible assumption) (by with_reducible assumption) (by with_reducible assumption) (by with_reducible assumption) (by with_reducible assumption) (by with_reducible assumption) (by with_reducible assumption) (by with_reducible assumption) (by with_reducible assumption) (by with_reducible assumption) (by with_reducible assumption) (by with_reducible assumption) (by with_reducible assumption) (by with_reducible assumption) (by with_reducible assumption) (by with_reducible assumption) (by with_reducible assumption) (by with_reducible assumption) (by with_reducible assumption) (by with_reducible assumption) ?_)) | ((with_reducible refine gate_dst (N := 7) rfl ?_); refine box_event ?hg (N := 7) ?hd (cs := #[.int .i64 0, .string (⟨#[]⟩ : ByteArray), .int .i64 0, .int .i64 0, .slice none 0 0, .int .i64 0, .int .i64 0, .bool false, .bool false, .bool false, .int .i64 0, .string (⟨#[]⟩ : ByteArray), .string (⟨#[]⟩ : ByteArray), .string (⟨#[]⟩ : ByteArray), .int .i64 0, .bool false, .bool false, .int .i64 0, .int .i64 0, .string (⟨#[]⟩ : ByteArray), .int .i64 0, .int .i64 0, .int .i64 0, .int .i64 0, .int .i64 0, .bool false, .int .u64 0, .slice none 0 0, .int .i64 0, .string (⟨#[]⟩ : ByteArray), .int .i64 0, .int .i64 0]) (t := 68) ?hr ?_; (case hd => rfl); (case hg => rfl); (case hr => first | (go_simp; done) | (go_simp; rfl)); intro gb278 hg w13 hbox hb; have n0_ := Aside0.mk (blk_below (g := gb274) (o := .cells #[.slice A0_0 l0_0.length c0_0, .slice (some ad277) l0_1.length c0_1, .slice A0_2 l0_2.length c0_2, .slice A0_3 l0_3.length c0_3] 59 (0, 0)) (by (with_reducible repeat (first | refine blk_drewN ?_ _ | refine blk_drew ?_ | refine blk_alloc ?_ _)); exact BK274.out) hb); have n1_ := Aside0.mk (blk_below (g := gb275) (o := .cells #[.int .i64 0, .int .i64 0] 64 (0, 0)) (by (with_reducible repeat (first | refine blk_drewN ?_ _ | refine blk_drew ?_ | refine blk_alloc ?_ _)); exact BK275.out) hb); have n2_ := Aside0.mk (blk_below (g := gb276) (o := .cells #[.int .i64 x277000_1, .int .i64 x277001_1] 64 (0, 0)) (by (with_reducible repeat (first | refine blk_drewN ?_ _ | refine blk_drew ?_ | refine blk_alloc ?_ _)); exact BK276.out) hb); have n3_ := Aside0.mk (below_step (by repeat (first | (with_reducible first | exact HB.out | apply below_alloc | apply pw_below_drewN | apply below_drew1 | refine below_set ?_ GE274.out | refine below_set ?_ GE275.out | refine below_set ?_ GE276.out) | exact HB.out)) hb); have n4_ := Aside0.mk (hbox); have n5_ := Aside0.mk ((by rw [hg]; exact (below_size (by repeat (first | (with_reducible first | exact HB.out | apply below_alloc | apply pw_below_drewN | apply below_drew1 | refine below_set ?_ GE274.out | refine below_set ?_ GE275.out | refine below_set ?_ GE276.out) | exact HB.out))) : w.heap.size ≤ gb278)); have n6_ := Aside0.mk ((by rw [hg]; exact (below_size (by repeat (first | (with_reducible first | exact HB.out | apply below_alloc | apply pw_below_drewN | apply below_drew1 | refine below_set ?_ GE274.out | refine below_set ?_ GE275.out | refine below_set ?_ GE276.out) | exact HB.out))) : w.heap.size ≤ gb278)); have n7_ := Aside0.mk ((by rw [hg]; exact Nat.ne_of_lt (blk_lt (g := gb274) (o := .cells #[.slice A0_0 l0_0.length c0_0, .slice (some ad277) l0_1.length c0_1, .slice A0_2 l0_2.length c0_2, .slice A0_3 l0_3.length c0_3] 59 (0, 0)) (by (with_reducible repeat (first | refine blk_drewN ?_ _ | refine blk_drew ?_ | refine blk_alloc ?_ _)); exact BK274.out)) : gb274 ≠ gb278)); have n8_ := Aside0.mk ((by rw [hg]; exact Nat.ne_of_gt (blk_lt (g := gb274) (o := .cells #[.slice A0_0 l0_0.length c0_0, .slice (some ad277) l0_1.length c0_1, .slice A0_2 l0_2.length c0_2, .slice A0_3 l0_3.length c0_3] 59 (0, 0)) (by (with_reducible repeat (first | refine blk_drewN ?_ _ | refine blk_drew ?_ | refine blk_alloc ?_ _)); exact BK274.out)) : gb278 ≠ gb274)); have n9_ := Aside0.mk ((by rw [hg]; exact Nat.ne_of_lt (blk_lt (g := gb275) (o := .cells #[.int .i64 0, .int .i64 0] 64 (0, 0)) (by (with_reducible repeat (first | refine blk_drewN ?_ _ | refine blk_drew ?_ | refine blk_alloc ?_ _)); exact BK275.out)) : gb275 ≠ gb278)); have n10_ := Aside0.mk ((by rw [hg]; exact Nat.ne_of_gt (blk_lt (g := gb275) (o := .cells #[.int .i64 0, .int .i64 0] 64 (0, 0)) (by (with_reducible repeat (first | refine blk_drewN ?_ _ | refine blk_drew ?_ | refine blk_alloc ?_ _)); exact BK275.out)) : gb278 ≠ gb275)); have n11_ := Aside0.mk ((by rw [hg]; exact Nat.ne_of_lt (blk_lt (g := gb276) (o := .cells #[.int .i64 x277000_1, .int .i64 x277001_1] 64 (0, 0)) (by (with_reducible repeat (first | refine blk_drewN ?_ _ | refine blk_drew ?_ | refine blk_alloc ?_ _)); exact BK276.out)) : gb276 ≠ gb278)); have n12_ := Aside0.mk ((by rw [hg]; exact Nat.ne_of_gt (blk_lt (g := gb276) (o := .cells #[.int .i64 x277000_1, .int .i64 x277001_1] 64 (0, 0)) (by (with_reducible repeat (first | refine blk_drewN ?_ _ | refine blk_drew ?_ | refine blk_alloc ?_ _)); exact BK276.out)) : gb278 ≠ gb276)); clear BK274; clear BK275; clear BK276; clear HB; have BK274 := n0_; have BK275 := n1_; have BK276 := n2_; have HB := n3_; have BK278 := n4_; have GW278 := n5_; have GE278 := n6_; have NB274_278 := n7_; have NB278_274 := n8_; have NB275_278 := n9_; have NB278_275 := n10_; have NB276_278 := n11_; have NB278_276 := n12_; clear n0_ n1_ n2_ n3_ n4_ n5_ n6_ n7_ n8_ n9_ n10_ n11_ n12_; clear hb hbox hg; have hnb14 := NB278_274.out; have hnc14 := NB274_278.out; have hnb15 := NB278_275.out; have hnc15 := NB275_278.out; have hnb16 := NB278_276.out; have hnc16 := NB276_278.out; have hcz17_0 : w13.cell? ⟨gb278, 0, none⟩ = some (.int .i64 0) := (blk_cell BK278.out 0).trans rfl; have hcz17_1 : w13.cell? ⟨gb278, 1, none⟩ = some (.string (⟨#[]⟩ : ByteArray)) := (blk_cell BK278.out 1).trans rfl; have hcz17_2 : w13.cell? ⟨gb278, 2, none⟩ = some (.int .i64 0) := (blk_cell BK278.out 2).trans rfl; have hcz17_3 : w13.cell? ⟨gb278, 3, none⟩ = some (.int .i64 0) := (blk_cell BK278.out 3).trans rfl; have hcz17_4 : w13.cell? ⟨gb278, 4, none⟩ = some (.slice none 0 0) := (blk_cell BK278.out 4).trans rfl; have hcz17_5 : w13.cell? ⟨gb278, 5, none⟩ = some (.int .i64 0) := (blk_cell BK278.out 5).trans rfl; have hcz17_6 : w13.cell? ⟨gb278, 6, none⟩ = some (.int .i64 0) := (blk_cell BK278.out 6).trans rfl; have hcz17_7 : w13.cell? ⟨gb278, 7, none⟩ = some (.bool false) := (blk_cell BK278.out 7).trans rfl; have hcz17_8 : w13.cell? ⟨gb278, 8, none⟩ = some (.bool false) := (blk_cell BK278.out 8).trans rfl; have hcz17_9 : w13.cell? ⟨gb278, 9, none⟩ = some (.bool false) := (blk_cell BK278.out 9).trans rfl; have hcz17_10 : w13.cell? ⟨gb278, 10, none⟩ = some (.int .i64 0) := (blk_cell BK278.out 10).trans rfl; have hcz17_11 : w13.cell? ⟨gb278, 11, none⟩ = some (.string (⟨#[]⟩ : ByteArray)) := (blk_cell BK278.out 11).trans rfl; have hcz17_12 : w13.cell? ⟨gb278, 12, none⟩ = some (.string (⟨#[]⟩ : ByteArray)) := (blk_cell BK278.out 12).trans rfl; have hcz17_13 : w13.cell? ⟨gb278, 13, none⟩ = some (.string (⟨#[]⟩ : ByteArray)) := (blk_cell BK278.out 13).trans rfl; have hcz17_14 : w13.cell? ⟨gb278, 14, none⟩ = some (.int .i64 0) := (blk_cell BK278.out 14).trans rfl; have hcz17_15 : w13.cell? ⟨gb278, 15, none⟩ = some (.bool false) := (blk_cell BK278.out 15).trans rfl; have hcz17_16 : w13.cell? ⟨gb278, 16, none⟩ = some (.bool false) := (blk_cell BK278.out 16).trans rfl; have hcz17_17 : w13.cell? ⟨gb278, 17, none⟩ = some (.int .i64 0) := (blk_cell BK278.out 17).trans rfl; have hcz17_18 : w13.cell? ⟨gb278, 18, none⟩ = some (.int .i64 0) := (blk_cell BK278.out 18).trans rfl; have hcz17_19 : w13.cell? ⟨gb278, 19, none⟩ = some (.string (⟨#[]⟩ : ByteArray)) := (blk_cell BK278.out 19).trans rfl; have hcz17_20 : w13.cell? ⟨gb278, 20, none⟩ = some (.int .i64 0) := (blk_cell BK278.out 20).trans rfl; have hcz17_21 : w13.cell? ⟨gb278, 21, none⟩ = some (.int .i64 0) := (blk_cell BK278.out 21).trans rfl; have hcz17_22 : w13.cell? ⟨gb278, 22, none⟩ = some (.int .i64 0) := (blk_cell BK278.out 22).trans rfl; have hcz17_23 : w13.cell? ⟨gb278, 23, none⟩ = some (.int .i64 0) := (blk_cell BK278.out 23).trans rfl; have hcz17_24 : w13.cell? ⟨gb278, 24, none⟩ = some (.int .i64 0) := (blk_cell BK278.out 24).trans rfl; have hcz17_25 : w13.cell? ⟨gb278, 25, none⟩ = some (.bool false) := (blk_cell BK278.out 25).trans rfl; have hcz17_26 : w13.cell? ⟨gb278, 26, none⟩ = some (.int .u64 0) := (blk_cell BK278.out 26).trans rfl; have hcz17_27 : w13.cell? ⟨gb278, 27, none⟩ = some (.slice none 0 0) := (blk_cell BK278.out 27).trans rfl; have hcz17_28 : w13.cell? ⟨gb278, 28, none⟩ = some (.int .i64 0) := (blk_cell BK278.out 28).trans rfl; have hcz17_29 : w13.cell? ⟨gb278, 29, none⟩ = some (.string (⟨#[]⟩ : ByteArray)) := (blk_cell BK278.out 29).trans rfl; have hcz17_30 : w13.cell? ⟨gb278, 30, none⟩ = some (.int .i64 0) := (blk_cell BK278.out 30).trans rfl; have hcz17_31 : w13.cell? ⟨gb278, 31, none⟩ = some (.int .i64 0) := (blk_cell BK278.out 31).trans rfl; have hfz17_0 := blk_frozen BK278.out 0; have hfz17_1 := blk_frozen BK278.out 1; have hfz17_2 := blk_frozen BK278.out 2; have hfz17_3 := blk_frozen BK278.out 3; have hfz17_4 := blk_frozen BK278.out 4; have hfz17_5 := blk_frozen BK278.out 5; have hfz17_6 := blk_frozen BK278.out 6; have hfz17_7 := blk_frozen BK278.out 7; have hfz17_8 := blk_frozen BK278.out 8; have hfz17_9 := blk_frozen BK278.out 9; have hfz17_10 := blk_frozen BK278.out 10; have hfz17_11 := blk_frozen BK278.out 11; have hfz17_12 := blk_frozen BK278.out 12; have hfz17_13 := blk_frozen BK278.out 13; have hfz17_14 := blk_frozen BK278.out 14; have hfz17_15 := blk_frozen BK278.out 15; have hfz17_16 := blk_frozen BK278.out 16; have hfz17_17 := blk_frozen BK278.out 17; have hfz17_18 := blk_frozen BK278.out 18; have hfz17_19 := blk_frozen BK278.out 19; have hfz17_20 := blk_frozen BK278.out 20; have hfz17_21 := blk_frozen BK278.out 21; have hfz17_22 := blk_frozen BK278.out 22; have hfz17_23 := blk_frozen BK278.out 23; have hfz17_24 := blk_frozen BK278.out 24; have hfz17_25 := blk_frozen BK278.out 25; have hfz17_26 := blk_frozen BK278.out 26; have hfz17_27 := blk_frozen BK278.out 27; have hfz17_28 := blk_frozen BK278.out 28; have hfz17_29 := blk_frozen BK278.out 29; have hfz17_30 := blk_frozen BK278.out 30; have hfz17_31 := blk_frozen BK278.out 31) | ((with_reducible refine gate_store (t := 68) (p := 7) rfl ?_); refine box_store_event (t := 68) (ty := 68) (p := 7) (x := ?vo_w18) (g := gb278) (cs := #[.int .i64 0, .string (⟨#[]⟩ : ByteArray), .int .i64 0, .int .i64 0, .slice none 0 0, .int .i64 0, .int .i64 0, .bool false, .bool false, .bool false, .int .i64 0, .string (⟨#[]⟩ : ByteArray), .string (⟨#[]⟩ : ByteArray), .string (⟨#[]⟩ : ByteArray), .int .i64 0, .bool false, .bool false, .int .i64 0, .int .i64 0, .string (⟨#[]⟩ : ByteArray), .int .i64 0, .int .i64 0, .int .i64 0, .int .i64 0, .int .i64 0, .bool false, .int .u64 0, .slice none 0 0, .int .i64 0, .string (⟨#[]⟩ : ByteArray), .int .i64 0, .int .i64 0]) (cs' := #[.int .i64 ((rd_T68 l0_1 x11_1).f0), .string ((rd_T68 l0_1 x11_1).f1), .int .i64 ((rd_T68 l0_1 x11_1).f2), .int .i64 ((rd_T68 l0_1 x11_1).f3), .slice A277_4 ((rd_T68 l0_1 x11_1).f4).length c277_4, .int .i64 ((rd_T68 l0_1 x11_1).f5.f0), .int .i64 ((rd_T68 l0_1 x11_1).f5.f1), .bool ((rd_T68 l0_1 x11_1).f6), .bool ((rd_T68 l0_1 x11_1).f7), .bool ((rd_T68 l0_1 x11_1).f8), .int .i64 ((rd_T68 l0_1 x11_1).f9), .string ((rd_T68 l0_1 x11_1).f10), .string ((rd_T68 l0_1 x11_1).f11), .string ((rd_T68 l0_1 x11_1).f12), .int .i64 ((rd_T68 l0_1 x11_1).f13), .bool ((rd_T68 l0_1 x11_1).f14), .bool ((rd_T68 l0_1 x11_1).f15), .int .i64 ((rd_T68 l0_1 x11_1).f16.f0), .int .i64 ((rd_T68 l0_1 x11_1).f16.f1), .string ((rd_T68 l0_1 x11_1).f17), .int .i64 ((rd_T68 l0_1 x11_1).f18), .int .i64 ((rd_T68 l0_1 x11_1).f19), .int .i64 ((rd_T68 l0_1 x11_1).f20), .int .i64 ((rd_T68 l0_1 x11_1).f21), .int .i64 ((rd_T68 l0_1 x11_1).f22), .bool ((rd_T68 l0_1 x11_1).f23), .int .u64 ((rd_T68 l0_1 x11_1).f24), .slice A277_27 ((rd_T68 l0_1 x11_1).f25).length c277_27, .int .i64 ((rd_T68 l0_1 x11_1).f26), .string ((rd_T68 l0_1 x11_1).f27), .int .i64 ((rd_T68 l0_1 x11_1).f28), .int .i64 ((rd_T68 l0_1 x11_1).f29)]) ?hgd ?ho ?hN ?he ?hv ?hi ?hb ?hs ?h1 ?_; (case ho => rfl); (case hgd => rfl); (case hN => rfl); (case he => rfl); (case hv => first | rfl | (simp; done)); (case hi => exact size68); (case hb => (with_reducible repeat (first | refine blk_drewN ?_ _ | refine blk_drew ?_ | refine blk_alloc ?_ _)); exact BK278.out); (case hs => rfl); (case h1 => rfl); intro w18 hbox hg; have n0_ := Aside0.mk (blk_grown (by (with_reducible repeat (first | refine blk_drewN ?_ _ | refine blk_drew ?_ | refine blk_alloc ?_ _)); exact BK274.out) hg (fun e_ => NB274_278.out (Option.some.inj e_))); have n1_ := Aside0.mk (blk_grown (by (with_reducible repeat (first | refine blk_drewN ?_ _ | refine blk_drew ?_ | refine blk_alloc ?_ _)); exact BK275.out) hg (fun e_ => NB275_278.out (Option.some.inj e_))); have n2_ := Aside0.mk (blk_grown (by (with_reducible repeat (first | refine blk_drewN ?_ _ | refine blk_drew ?_ | refine blk_alloc ?_ _)); exact BK276.out) hg (fun e_ => NB276_278.out (Option.some.inj e_))); have n3_ := Aside0.mk (hbox); have n4_ := Aside0.mk (Below.grown (by repeat (first | (with_reducible first | exact HB.out | apply below_alloc | apply pw_below_drewN | apply below_drew1 | refine below_set ?_ GE274.out | refine below_set ?_ GE275.out | refine below_set ?_ GE276.out | refine below_set ?_ GE278.out) | exact HB.out)) hg (below_size (by repeat (first | (with_reducible first | exact HB.out | apply below_alloc | apply pw_below_drewN | apply below_drew1 | refine below_set ?_ GE274.out | refine below_set ?_ GE275.out | refine below_set ?_ GE276.out | refine below_set ?_ GE278.out) | exact HB.out))) (fun k_ e_ => by injection e_ with e_; subst e_; exact GE278.out)); clear BK274; clear BK275; clear BK276; clear BK278; clear HB; have BK274 := n0_; have BK275 := n1_; have BK276 := n2_; have BK278 := n3_; have HB := n4_; clear n0_ n1_ n2_ n3_ n4_; clear hbox hg))
              go_roundg k1
              case measure => have := HK1.out; omega
              case rel => exact ⟨(wrap64 (x11_1 + 1)), (x277000_1), (x277001_1), (by first | rfl | (simp; done) | (simp [*]; done)), H', ⟨by have := HK1.out; omega⟩, ⟨by (with_reducible repeat (first | refine blk_drewN ?_ _ | refine blk_drew ?_ | refine blk_alloc ?_ _)); exact BK274.out⟩, ⟨by (with_reducible repeat (first | refine blk_drewN ?_ _ | refine blk_drew ?_ | refine blk_alloc ?_ _)); exact BK275.out⟩, ⟨by (with_reducible repeat (first | refine blk_drewN ?_ _ | refine blk_drew ?_ | refine blk_alloc ?_ _)); exact BK276.out⟩, ⟨by repeat (first | (with_reducible first | exact HB.out | apply below_alloc | apply pw_below_drewN | apply below_drew1 | refine below_set ?_ GE274.out | refine below_set ?_ GE275.out | refine below_set ?_ GE276.out | refine below_set ?_ GE278.out) | exact HB.out)⟩⟩
            · rw [if_neg c12] at H
              have c12b0 : (a1.toList == ([] : List UInt8)) = false := beq_eq_false_iff_ne.mpr c12
              have c12b1 : (a1.toList != ([] : List UInt8)) = true := bne_iff_ne.mpr c12
              by_cases c19 : ((rd_T68 l0_1 x11_1).f12).toList = a1.toList
              · rw [if_pos c19] at H
                have c19b0 : (((rd_T68 l0_1 x11_1).f12).toList == a1.toList) = true := beq_iff_eq.mpr c19
                have c19b1 : (((rd_T68 l0_1 x11_1).f12).toList != a1.toList) = false := bne_eq_false_iff_eq.mpr c19
                clear c19
                replace H := Option.bind_eq_some_iff.mp H
                obtain ⟨⟨t279, t280⟩, A200, H⟩ := H
                replace H : (rules_Used.l0 k1 a1 l0_1 (l0_1.length : Int) (wrap64 (x11_1 + 1)) t279 t280) = some (r1, r2) := H
                have A20 := Aside0.mk A200
                clear A200
                have H' := Aside0.mk H
                clear H
                have p277 : 0 ≤ (x11_1 : Int) := of_decide_eq_true (by first | (with_reducible assumption) | assumption)
                have q277 : x11_1 < (l0_1.length : Int) := of_decide_eq_true (by first | (with_reducible assumption) | assumption)
                obtain ⟨ad277, A277_4, c277_4, A277_27, c277_27, e277, hx277_0, hx277_1, hx277_2, hx277_3, hx277_4, hx277_5, hx277_6, hx277_7, hx277_8, hx277_9, hx277_10, hx277_11, hx277_12, hx277_13, hx277_14, hx277_15, hx277_16, hx277_17, hx277_18, hx277_19, hx277_20, hx277_21, hx277_22, hx277_23, hx277_24, hx277_25, hx277_26, hx277_27, hx277_28, hx277_29, hx277_30, hx277_31, hl277_4, hi277_4, hl277_27, hi277_27⟩ := at_T68 HR0_1.out x11_1 p277 q277
                cases e277
                replace hx277_0 := (HB.out.cell (World.block_lt_of_cell? w _ hx277_0)).trans hx277_0
                replace hx277_1 := (HB.out.cell (World.block_lt_of_cell? w _ hx277_1)).trans hx277_1
                replace hx277_2 := (HB.out.cell (World.block_lt_of_cell? w _ hx277_2)).trans hx277_2
                replace hx277_3 := (HB.out.cell (World.block_lt_of_cell? w _ hx277_3)).trans hx277_3
                replace hx277_4 := (HB.out.cell (World.block_lt_of_cell? w _ hx277_4)).trans hx277_4
                replace hx277_5 := (HB.out.cell (World.block_lt_of_cell? w _ hx277_5)).trans hx277_5
                replace hx277_6 := (HB.out.cell (World.block_lt_of_cell? w _ hx277_6)).trans hx277_6
                replace hx277_7 := (HB.out.cell (World.block_lt_of_cell? w _ hx277_7)).trans hx277_7
                replace hx277_8 := (HB.out.cell (World.block_lt_of_cell? w _ hx277_8)).trans hx277_8
                replace hx277_9 := (HB.out.cell (World.block_lt_of_cell? w _ hx277_9)).trans hx277_9
                replace hx277_10 := (HB.out.cell (World.block_lt_of_cell? w _ hx277_10)).trans hx277_10
                replace hx277_11 := (HB.out.cell (World.block_lt_of_cell? w _ hx277_11)).trans hx277_11
                replace hx277_12 := (HB.out.cell (World.block_lt_of_cell? w _ hx277_12)).trans hx277_12
                replace hx277_13 := (HB.out.cell (World.block_lt_of_cell? w _ hx277_13)).trans hx277_13
                replace hx277_14 := (HB.out.cell (World.block_lt_of_cell? w _ hx277_14)).trans hx277_14
                replace hx277_15 := (HB.out.cell (World.block_lt_of_cell? w _ hx277_15)).trans hx277_15
                replace hx277_16 := (HB.out.cell (World.block_lt_of_cell? w _ hx277_16)).trans hx277_16
                replace hx277_17 := (HB.out.cell (World.block_lt_of_cell? w _ hx277_17)).trans hx277_17
                replace hx277_18 := (HB.out.cell (World.block_lt_of_cell? w _ hx277_18)).trans hx277_18
                replace hx277_19 := (HB.out.cell (World.block_lt_of_cell? w _ hx277_19)).trans hx277_19
                replace hx277_20 := (HB.out.cell (World.block_lt_of_cell? w _ hx277_20)).trans hx277_20
                replace hx277_21 := (HB.out.cell (World.block_lt_of_cell? w _ hx277_21)).trans hx277_21
                replace hx277_22 := (HB.out.cell (World.block_lt_of_cell? w _ hx277_22)).trans hx277_22
                replace hx277_23 := (HB.out.cell (World.block_lt_of_cell? w _ hx277_23)).trans hx277_23
                replace hx277_24 := (HB.out.cell (World.block_lt_of_cell? w _ hx277_24)).trans hx277_24
                replace hx277_25 := (HB.out.cell (World.block_lt_of_cell? w _ hx277_25)).trans hx277_25
                replace hx277_26 := (HB.out.cell (World.block_lt_of_cell? w _ hx277_26)).trans hx277_26
                replace hx277_27 := (HB.out.cell (World.block_lt_of_cell? w _ hx277_27)).trans hx277_27
                replace hx277_28 := (HB.out.cell (World.block_lt_of_cell? w _ hx277_28)).trans hx277_28
                replace hx277_29 := (HB.out.cell (World.block_lt_of_cell? w _ hx277_29)).trans hx277_29
                replace hx277_30 := (HB.out.cell (World.block_lt_of_cell? w _ hx277_30)).trans hx277_30
                replace hx277_31 := (HB.out.cell (World.block_lt_of_cell? w _ hx277_31)).trans hx277_31
                have HR277_4 := Aside0.mk hi277_4
                have HC277_4 := Aside0.mk hl277_4
                clear hi277_4 hl277_4
                have HR277_27 := Aside0.mk hi277_27
                have HC277_27 := Aside0.mk hl277_27
                clear hi277_27 hl277_27
                replace p277 := eq_true p277
                replace q277 := eq_true q277
                go_wp2_with (first | ((with_reducible refine gate_load (t := 68) rfl ?_); first | (refine load68_box rfl rfl rfl (by with_reducible assumption) (by with_reducible assumption) (by with_reducible assumption) (by with_reducible assumption) (by with_reducible assumption) (by with_reducible assumption) (by with_reducible assumption) (by with_reducible assumption) (by with_reducible assumption) (by with_reducible assumption) (by with_reducible assumption) (by with_reducible assumption) (by with_reducible assumption) (by with_reducible assumption) (by with_reducible assumption) (by with_reducible assumption) (by with_reducible assumption) (by with_reducible assumption) (by with_reducible assumption) (by with_reducible assumption) (by with_reducible assumption) (by with_reducible assumption) (by with_reducible assumption) (by with_reducible assumption) (by with_reducible assumption) (by with_reducible assumption) (by with_reducible assumption) (by with_reducible assumption) (by with_reducible assumption) (by with_reducible assumption) (by with_reducible assumption) (by with_reducible assumption) ?_) | (refine load68_at rfl rfl rfl (by with_reducible assumption) (by with_reducible assumption) (by with_reducible assumption) (by with_reducible assumption) (by with_reducible assumption) (by with_reducible assumption) (by with_reducible assumption) (by with_reducible assumption) (by with_reducible assumption) (by with_reducible assumption) (by with_reducible assumption) (by with_reducible assumption) (by with_reducible assumption) (by with_reducible assumption) (by with_reducible assumption) (by with_reducible assumption) (by with_reducible assumption) (by with_reducible assumption) (by with_reducible assumption) (by with_reducible assumption) (by with_reducible assumption) (by with_reducible assumption) (by with_reducible assumption) (by with_reducible assumption) (by with_reducible assumption) (by with_reducible assumption) (by with_reducible assumption) (by with_reducible assumption) (by with_reducible assumption) (by with_reducible assumption) (by with_reducible assumption) (by with_reducible assumption) ?_)) | ((with_reducible refine gate_dst (N := 7) rfl ?_); refine box_event ?hg (N := 7) ?hd (cs := #[.int .i64 0, .string (⟨#[]⟩ : ByteArray), .int .i64 0, .int .i64 0, .slice none 0 0, .int .i64 0, .int .i64 0, .bool false, .bool false, .bool false, .int .i64 0, .string (⟨#[]⟩ : ByteArray), .string (⟨#[]⟩ : ByteArray), .string (⟨#[]⟩ : ByteArray), .int .i64 0, .bool false, .bool false, .int .i64 0, .int .i64 0, .string (⟨#[]⟩ : ByteArray), .int .i64 0, .int .i64 0, .int .i64 0, .int .i64 0, .int .i64 0, .bool false, .int .u64 0, .slice none 0 0, .int .i64 0, .string (⟨#[]⟩ : ByteArray), .int .i64 0, .int .i64 0]) (t := 68) ?hr ?_; (case hd => rfl); (case hg => rfl); (case hr => first | (go_simp; done) | (go_simp; rfl)); intro gb278 hg w21 hbox hb; have n0_ := Aside0.mk (blk_below (g := gb274) (o := .cells #[.slice A0_0 l0_0.length c0_0, .slice (some ad277) l0_1.length c0_1, .slice A0_2 l0_2.length c0_2, .slice A0_3 l0_3.length c0_3] 59 (0, 0)) (by (with_reducible repeat (first | refine blk_drewN ?_ _ | refine blk_drew ?_ | refine blk_alloc ?_ _)); exact BK274.out) hb); have n1_ := Aside0.mk (blk_below (g := gb275) (o := .cells #[.int .i64 0, .int .i64 0] 64 (0, 0)) (by (with_reducible repeat (first | refine blk_drewN ?_ _ | refine blk_drew ?_ | refine blk_alloc ?_ _)); exact BK275.out) hb); have n2_ := Aside0.mk (blk_below (g := gb276) (o := .cells #[.int .i64 x277000_1, .int .i64 x277001_1] 64 (0, 0)) (by (with_reducible repeat (first | refine blk_drewN ?_ _ | refine blk_drew ?_ | refine blk_alloc ?_ _)); exact BK276.out) hb); have n3_ := Aside0.mk (below_step (by repeat (first | (with_reducible first | exact HB.out | apply below_alloc | apply pw_below_drewN | apply below_drew1 | refine below_set ?_ GE274.out | refine below_set ?_ GE275.out | refine below_set ?_ GE276.out) | exact HB.out)) hb); have n4_ := Aside0.mk (hbox); have n5_ := Aside0.mk ((by rw [hg]; exact (below_size (by repeat (first | (with_reducible first | exact HB.out | apply below_alloc | apply pw_below_drewN | apply below_drew1 | refine below_set ?_ GE274.out | refine below_set ?_ GE275.out | refine below_set ?_ GE276.out) | exact HB.out))) : w.heap.size ≤ gb278)); have n6_ := Aside0.mk ((by rw [hg]; exact (below_size (by repeat (first | (with_reducible first | exact HB.out | apply below_alloc | apply pw_below_drewN | apply below_drew1 | refine below_set ?_ GE274.out | refine below_set ?_ GE275.out | refine below_set ?_ GE276.out) | exact HB.out))) : w.heap.size ≤ gb278)); have n7_ := Aside0.mk ((by rw [hg]; exact Nat.ne_of_lt (blk_lt (g := gb274) (o := .cells #[.slice A0_0 l0_0.length c0_0, .slice (some ad277) l0_1.length c0_1, .slice A0_2 l0_2.length c0_2, .slice A0_3 l0_3.length c0_3] 59 (0, 0)) (by (with_reducible repeat (first | refine blk_drewN ?_ _ | refine blk_drew ?_ | refine blk_alloc ?_ _)); exact BK274.out)) : gb274 ≠ gb278)); have n8_ := Aside0.mk ((by rw [hg]; exact Nat.ne_of_gt (blk_lt (g := gb274) (o := .cells #[.slice A0_0 l0_0.length c0_0, .slice (some ad277) l0_1.length c0_1, .slice A0_2 l0_2.length c0_2, .slice A0_3 l0_3.length c0_3] 59 (0, 0)) (by (with_reducible repeat (first | refine blk_drewN ?_ _ | refine blk_drew ?_ | refine blk_alloc ?_ _)); exact BK274.out)) : gb278 ≠ gb274)); have n9_ := Aside0.mk ((by rw [hg]; exact Nat.ne_of_lt (blk_lt (g := gb275) (o := .cells #[.int .i64 0, .int .i64 0] 64 (0, 0)) (by (with_reducible repeat (first | refine blk_drewN ?_ _ | refine blk_drew ?_ | refine blk_alloc ?_ _)); exact BK275.out)) : gb275 ≠ gb278)); have n10_ := Aside0.mk ((by rw [hg]; exact Nat.ne_of_gt (blk_lt (g := gb275) (o := .cells #[.int .i64 0, .int .i64 0] 64 (0, 0)) (by (with_reducible repeat (first | refine blk_drewN ?_ _ | refine blk_drew ?_ | refine blk_alloc ?_ _)); exact BK275.out)) : gb278 ≠ gb275)); have n11_ := Aside0.mk ((by rw [hg]; exact Nat.ne_of_lt (blk_lt (g := gb276) (o := .cells #[.int .i64 x277000_1, .int .i64 x277001_1] 64 (0, 0)) (by (with_reducible repeat (first | refine blk_drewN ?_ _ | refine blk_drew ?_ | refine blk_alloc ?_ _)); exact BK276.out)) : gb276 ≠ gb278)); have n12_ := Aside0.mk ((by rw [hg]; exact Nat.ne_of_gt (blk_lt (g := gb276) (o := .cells #[.int .i64 x277000_1, .int .i64 x277001_1] 64 (0, 0)) (by (with_reducible repeat (first | refine blk_drewN ?_ _ | refine blk_drew ?_ | refine blk_alloc ?_ _)); exact BK276.out)) : gb278 ≠ gb276)); clear BK274; clear BK275; clear BK276; clear HB; have BK274 := n0_; have BK275 := n1_; have BK276 := n2_; have HB := n3_; have BK278 := n4_; have GW278 := n5_; have GE278 := n6_; have NB274_278 := n7_; have NB278_274 := n8_; have NB275_278 := n9_; have NB278_275 := n10_; have NB276_278 := n11_; have NB278_276 := n12_; clear n0_ n1_ n2_ n3_ n4_ n5_ n6_ n7_ n8_ n9_ n10_ n11_ n12_; clear hb hbox hg; have hnb22 := NB278_274.out; have hnc22 := NB274_278.out; have hnb23 := NB278_275.out; have hnc23 := NB275_278.out; have hnb24 := NB278_276.out; have hnc24 := NB276_278.out; have hcz25_0 : w21.cell? ⟨gb278, 0, none⟩ = some (.int .i64 0) := (blk_cell BK278.out 0).trans rfl; have hcz25_1 : w21.cell? ⟨gb278, 1, none⟩ = some (.string (⟨#[]⟩ : ByteArray)) := (blk_cell BK278.out 1).trans rfl; have hcz25_2 : w21.cell? ⟨gb278, 2, none⟩ = some (.int .i64 0) := (blk_cell BK278.out 2).trans rfl; have hcz25_3 : w21.cell? ⟨gb278, 3, none⟩ = some (.int .i64 0) := (blk_cell BK278.out 3).trans rfl; have hcz25_4 : w21.cell? ⟨gb278, 4, none⟩ = some (.slice none 0 0) := (blk_cell BK278.out 4).trans rfl; have hcz25_5 : w21.cell? ⟨gb278, 5, none⟩ = some (.int .i64 0) := (blk_cell BK278.out 5).trans rfl; have hcz25_6 : w21.cell? ⟨gb278, 6, none⟩ = some (.int .i64 0) := (blk_cell BK278.out 6).trans rfl; have hcz25_7 : w21.cell? ⟨gb278, 7, none⟩ = some (.bool false) := (blk_cell BK278.out 7).trans rfl; have hcz25_8 : w21.cell? ⟨gb278, 8, none⟩ = some (.bool false) := (blk_cell BK278.out 8).trans rfl; have hcz25_9 : w21.cell? ⟨gb278, 9, none⟩ = some (.bool false) := (blk_cell BK278.out 9).trans rfl; have hcz25_10 : w21.cell? ⟨gb278, 10, none⟩ = some (.int .i64 0) := (blk_cell BK278.out 10).trans rfl; have hcz25_11 : w21.cell? ⟨gb278, 11, none⟩ = some (.string (⟨#[]⟩ : ByteArray)) := (blk_cell BK278.out 11).trans rfl; have hcz25_12 : w21.cell? ⟨gb278, 12, none⟩ = some (.string (⟨#[]⟩ : ByteArray)) := (blk_cell BK278.out 12).trans rfl; have hcz25_13 : w21.cell? ⟨gb278, 13, none⟩ = some (.string (⟨#[]⟩ : ByteArray)) := (blk_cell BK278.out 13).trans rfl; have hcz25_14 : w21.cell? ⟨gb278, 14, none⟩ = some (.int .i64 0) := (blk_cell BK278.out 14).trans rfl; have hcz25_15 : w21.cell? ⟨gb278, 15, none⟩ = some (.bool false) := (blk_cell BK278.out 15).trans rfl; have hcz25_16 : w21.cell? ⟨gb278, 16, none⟩ = some (.bool false) := (blk_cell BK278.out 16).trans rfl; have hcz25_17 : w21.cell? ⟨gb278, 17, none⟩ = some (.int .i64 0) := (blk_cell BK278.out 17).trans rfl; have hcz25_18 : w21.cell? ⟨gb278, 18, none⟩ = some (.int .i64 0) := (blk_cell BK278.out 18).trans rfl; have hcz25_19 : w21.cell? ⟨gb278, 19, none⟩ = some (.string (⟨#[]⟩ : ByteArray)) := (blk_cell BK278.out 19).trans rfl; have hcz25_20 : w21.cell? ⟨gb278, 20, none⟩ = some (.int .i64 0) := (blk_cell BK278.out 20).trans rfl; have hcz25_21 : w21.cell? ⟨gb278, 21, none⟩ = some (.int .i64 0) := (blk_cell BK278.out 21).trans rfl; have hcz25_22 : w21.cell? ⟨gb278, 22, none⟩ = some (.int .i64 0) := (blk_cell BK278.out 22).trans rfl; have hcz25_23 : w21.cell? ⟨gb278, 23, none⟩ = some (.int .i64 0) := (blk_cell BK278.out 23).trans rfl; have hcz25_24 : w21.cell? ⟨gb278, 24, none⟩ = some (.int .i64 0) := (blk_cell BK278.out 24).trans rfl; have hcz25_25 : w21.cell? ⟨gb278, 25, none⟩ = some (.bool false) := (blk_cell BK278.out 25).trans rfl; have hcz25_26 : w21.cell? ⟨gb278, 26, none⟩ = some (.int .u64 0) := (blk_cell BK278.out 26).trans rfl; have hcz25_27 : w21.cell? ⟨gb278, 27, none⟩ = some (.slice none 0 0) := (blk_cell BK278.out 27).trans rfl; have hcz25_28 : w21.cell? ⟨gb278, 28, none⟩ = some (.int .i64 0) := (blk_cell BK278.out 28).trans rfl; have hcz25_29 : w21.cell? ⟨gb278, 29, none⟩ = some (.string (⟨#[]⟩ : ByteArray)) := (blk_cell BK278.out 29).trans rfl; have hcz25_30 : w21.cell? ⟨gb278, 30, none⟩ = some (.int .i64 0) := (blk_cell BK278.out 30).trans rfl; have hcz25_31 : w21.cell? ⟨gb278, 31, none⟩ = some (.int .i64 0) := (blk_cell BK278.out 31).trans rfl; have hfz25_0 := blk_frozen BK278.out 0; have hfz25_1 := blk_frozen BK278.out 1; have hfz25_2 := blk_frozen BK278.out 2; have hfz25_3 := blk_frozen BK278.out 3; have hfz25_4 := blk_frozen BK278.out 4; have hfz25_5 := blk_frozen BK278.out 5; have hfz25_6 := blk_frozen BK278.out 6; have hfz25_7 := blk_frozen BK278.out 7; have hfz25_8 := blk_frozen BK278.out 8; have hfz25_9 := blk_frozen BK278.out 9; have hfz25_10 := blk_frozen BK278.out 10; have hfz25_11 := blk_frozen BK278.out 11; have hfz25_12 := blk_frozen BK278.out 12; have hfz25_13 := blk_frozen BK278.out 13; have hfz25_14 := blk_frozen BK278.out 14; have hfz25_15 := blk_frozen BK278.out 15; have hfz25_16 := blk_frozen BK278.out 16; have hfz25_17 := blk_frozen BK278.out 17; have hfz25_18 := blk_frozen BK278.out 18; have hfz25_19 := blk_frozen BK278.out 19; have hfz25_20 := blk_frozen BK278.out 20; have hfz25_21 := blk_frozen BK278.out 21; have hfz25_22 := blk_frozen BK278.out 22; have hfz25_23 := blk_frozen BK278.out 23; have hfz25_24 := blk_frozen BK278.out 24; have hfz25_25 := blk_frozen BK278.out 25; have hfz25_26 := blk_frozen BK278.out 26; have hfz25_27 := blk_frozen BK278.out 27; have hfz25_28 := blk_frozen BK278.out 28; have hfz25_29 := blk_frozen BK278.out 29; have hfz25_30 := blk_frozen BK278.out 30; have hfz25_31 := blk_frozen BK278.out 31) | ((with_reducible refine gate_store (t := 68) (p := 7) rfl ?_); refine box_store_event (t := 68) (ty := 68) (p := 7) (x := ?vo_w26) (g := gb278) (cs := #[.int .i64 0, .string (⟨#[]⟩ : ByteArray), .int .i64 0, .int .i64 0, .slice none 0 0, .int .i64 0, .int .i64 0, .bool false, .bool false, .bool false, .int .i64 0, .string (⟨#[]⟩ : ByteArray), .string (⟨#[]⟩ : ByteArray), .string (⟨#[]⟩ : ByteArray), .int .i64 0, .bool false, .bool false, .int .i64 0, .int .i64 0, .string (⟨#[]⟩ : ByteArray), .int .i64 0, .int .i64 0, .int .i64 0, .int .i64 0, .int .i64 0, .bool false, .int .u64 0, .slice none 0 0, .int .i64 0, .string (⟨#[]⟩ : ByteArray), .int .i64 0, .int .i64 0]) (cs' := #[.int .i64 ((rd_T68 l0_1 x11_1).f0), .string ((rd_T68 l0_1 x11_1).f1), .int .i64 ((rd_T68 l0_1 x11_1).f2), .int .i64 ((rd_T68 l0_1 x11_1).f3), .slice A277_4 ((rd_T68 l0_1 x11_1).f4).length c277_4, .int .i64 ((rd_T68 l0_1 x11_1).f5.f0), .int .i64 ((rd_T68 l0_1 x11_1).f5.f1), .bool ((rd_T68 l0_1 x11_1).f6), .bool ((rd_T68 l0_1 x11_1).f7), .bool ((rd_T68 l0_1 x11_1).f8), .int .i64 ((rd_T68 l0_1 x11_1).f9), .string ((rd_T68 l0_1 x11_1).f10), .string ((rd_T68 l0_1 x11_1).f11), .string ((rd_T68 l0_1 x11_1).f12), .int .i64 ((rd_T68 l0_1 x11_1).f13), .bool ((rd_T68 l0_1 x11_1).f14), .bool ((rd_T68 l0_1 x11_1).f15), .int .i64 ((rd_T68 l0_1 x11_1).f16.f0), .int .i64 ((rd_T68 l0_1 x11_1).f16.f1), .string ((rd_T68 l0_1 x11_1).f17), .int .i64 ((rd_T68 l0_1 x11_1).f18), .int .i64 ((rd_T68 l0_1 x11_1).f19), .int .i64 ((rd_T68 l0_1 x11_1).f20), .int .i64 ((rd_T68 l0_1 x11_1).f21), .int .i64 ((rd_T68 l0_1 x11_1).f22), .bool ((rd_T68 l0_1 x11_1).f23), .int .u64 ((rd_T68 l0_1 x11_1).f24), .slice A277_27 ((rd_T68 l0_1 x11_1).f25).length c277_27, .int .i64 ((rd_T68 l0_1 x11_1).f26), .string ((rd_T68 l0_1 x11_1).f27), .int .i64 ((rd_T68 l0_1 x11_1).f28), .int .i64 ((rd_T68 l0_1 x11_1).f29)]) ?hgd ?ho ?hN ?he ?hv ?hi ?hb ?hs ?h1 ?_; (case ho => rfl); (case hgd => rfl); (case hN => rfl); (case he => rfl); (case hv => first | rfl | (simp; done)); (case hi => exact size68); (case hb => (with_reducible repeat (first | refine blk_drewN ?_ _ | refine blk_drew ?_ | refine blk_alloc ?_ _)); exact BK278.out); (case hs => rfl); (case h1 => rfl); intro w26 hbox hg; have n0_ := Aside0.mk (blk_grown (by (with_reducible repeat (first | refine blk_drewN ?_ _ | refine blk_drew ?_ | refine blk_alloc ?_ _)); exact BK274.out) hg (fun e_ => NB274_278.out (Option.some.inj e_))); have n1_ := Aside0.mk (blk_grown (by (with_reducible repeat (first | refine blk_drewN ?_ _ | refine blk_drew ?_ | refine blk_alloc ?_ _)); exact BK275.out) hg (fun e_ => NB275_278.out (Option.some.inj e_))); have n2_ := Aside0.mk (blk_grown (by (with_reducible repeat (first | refine blk_drewN ?_ _ | refine blk_drew ?_ | refine blk_alloc ?_ _)); exact BK276.out) hg (fun e_ => NB276_278.out (Option.some.inj e_))); have n3_ := Aside0.mk (hbox); have n4_ := Aside0.mk (Below.grown (by repeat (first | (with_reducible first | exact HB.out | apply below_alloc | apply pw_below_drewN | apply below_drew1 | refine below_set ?_ GE274.out | refine below_set ?_ GE275.out | refine below_set ?_ GE276.out | refine below_set ?_ GE278.out) | exact HB.out)) hg (below_size (by repeat (first | (with_reducible first | exact HB.out | apply below_alloc | apply pw_below_drewN | apply below_drew1 | refine below_set ?_ GE274.out | refine below_set ?_ GE275.out | refine below_set ?_ GE276.out | refine below_set ?_ GE278.out) | exact HB.out))) (fun k_ e_ => by injection e_ with e_; subst e_; exact GE278.out)); clear BK274; clear BK275; clear BK276; clear BK278; clear HB; have BK274 := n0_; have BK275 := n1_; have BK276 := n2_; have BK278 := n3_; have HB := n4_; clear n0_ n1_ n2_ n3_ n4_; clear hbox hg; have hcz27_0 : w26.cell? ⟨gb278, 0, none⟩ = some (.int .i64 ((rd_T68 l0_1 x11_1).f0)) := (blk_cell BK278.out 0).trans rfl; have hcz27_1 : w26.cell? ⟨gb278, 1, none⟩ = some (.string ((rd_T68 l0_1 x11_1).f1)) := (blk_cell BK278.out 1).trans rfl; have hcz27_2 : w26.cell? ⟨gb278, 2, none⟩ = some (.int .i64 ((rd_T68 l0_1 x11_1).f2)) := (blk_cell BK278.out 2).trans rfl; have hcz27_3 : w26.cell? ⟨gb278, 3, none⟩ = some (.int .i64 ((rd_T68 l0_1 x11_1).f3)) := (blk_cell BK278.out 3).trans rfl; have hcz27_4 : w26.cell? ⟨gb278, 4, none⟩ = some (.slice A277_4 ((rd_T68 l0_1 x11_1).f4).length c277_4) := (blk_cell BK278.out 4).trans rfl; have hcz27_5 : w26.cell? ⟨gb278, 5, none⟩ = some (.int .i64 ((rd_T68 l0_1 x11_1).f5.f0)) := (blk_cell BK278.out 5).trans rfl; have hcz27_6 : w26.cell? ⟨gb278, 6, none⟩ = some (.int .i64 ((rd_T68 l0_1 x11_1).f5.f1)) := (blk_cell BK278.out 6).trans rfl; have hcz27_7 : w26.cell? ⟨gb278, 7, none⟩ = some (.bool ((rd_T68 l0_1 x11_1).f6)) := (blk_cell BK278.out 7).trans rfl; have hcz27_8 : w26.cell? ⟨gb278, 8, none⟩ = some (.bool ((rd_T68 l0_1 x11_1).f7)) := (blk_cell BK278.out 8).trans rfl; have hcz27_9 : w26.cell? ⟨gb278, 9, none⟩ = some (.bool ((rd_T68 l0_1 x11_1).f8)) := (blk_cell BK278.out 9).trans rfl; have hcz27_10 : w26.cell? ⟨gb278, 10, none⟩ = some (.int .i64 ((rd_T68 l0_1 x11_1).f9)) := (blk_cell BK278.out 10).trans rfl; have hcz27_11 : w26.cell? ⟨gb278, 11, none⟩ = some (.string ((rd_T68 l0_1 x11_1).f10)) := (blk_cell BK278.out 11).trans rfl; have hcz27_12 : w26.cell? ⟨gb278, 12, none⟩ = some (.string ((rd_T68 l0_1 x11_1).f11)) := (blk_cell BK278.out 12).trans rfl; have hcz27_13 : w26.cell? ⟨gb278, 13, none⟩ = some (.string ((rd_T68 l0_1 x11_1).f12)) := (blk_cell BK278.out 13).trans rfl; have hcz27_14 : w26.cell? ⟨gb278, 14, none⟩ = some (.int .i64 ((rd_T68 l0_1 x11_1).f13)) := (blk_cell BK278.out 14).trans rfl; have hcz27_15 : w26.cell? ⟨gb278, 15, none⟩ = some (.bool ((rd_T68 l0_1 x11_1).f14)) := (blk_cell BK278.out 15).trans rfl; have hcz27_16 : w26.cell? ⟨gb278, 16, none⟩ = some (.bool ((rd_T68 l0_1 x11_1).f15)) := (blk_cell BK278.out 16).trans rfl; have hcz27_17 : w26.cell? ⟨gb278, 17, none⟩ = some (.int .i64 ((rd_T68 l0_1 x11_1).f16.f0)) := (blk_cell BK278.out 17).trans rfl; have hcz27_18 : w26.cell? ⟨gb278, 18, none⟩ = some (.int .i64 ((rd_T68 l0_1 x11_1).f16.f1)) := (blk_cell BK278.out 18).trans rfl; have hcz27_19 : w26.cell? ⟨gb278, 19, none⟩ = some (.string ((rd_T68 l0_1 x11_1).f17)) := (blk_cell BK278.out 19).trans rfl; have hcz27_20 : w26.cell? ⟨gb278, 20, none⟩ = some (.int .i64 ((rd_T68 l0_1 x11_1).f18)) := (blk_cell BK278.out 20).trans rfl; have hcz27_21 : w26.cell? ⟨gb278, 21, none⟩ = some (.int .i64 ((rd_T68 l0_1 x11_1).f19)) := (blk_cell BK278.out 21).trans rfl; have hcz27_22 : w26.cell? ⟨gb278, 22, none⟩ = some (.int .i64 ((rd_T68 l0_1 x11_1).f20)) := (blk_cell BK278.out 22).trans rfl; have hcz27_23 : w26.cell? ⟨gb278, 23, none⟩ = some (.int .i64 ((rd_T68 l0_1 x11_1).f21)) := (blk_cell BK278.out 23).trans rfl; have hcz27_24 : w26.cell? ⟨gb278, 24, none⟩ = some (.int .i64 ((rd_T68 l0_1 x11_1).f22)) := (blk_cell BK278.out 24).trans rfl; have hcz27_25 : w26.cell? ⟨gb278, 25, none⟩ = some (.bool ((rd_T68 l0_1 x11_1).f23)) := (blk_cell BK278.out 25).trans rfl; have hcz27_26 : w26.cell? ⟨gb278, 26, none⟩ = some (.int .u64 ((rd_T68 l0_1 x11_1).f24)) := (blk_cell BK278.out 26).trans rfl; have hcz27_27 : w26.cell? ⟨gb278, 27, none⟩ = some (.slice A277_27 ((rd_T68 l0_1 x11_1).f25).length c277_27) := (blk_cell BK278.out 27).trans rfl; have hcz27_28 : w26.cell? ⟨gb278, 28, none⟩ = some (.int .i64 ((rd_T68 l0_1 x11_1).f26)) := (blk_cell BK278.out 28).trans rfl; have hcz27_29 : w26.cell? ⟨gb278, 29, none⟩ = some (.string ((rd_T68 l0_1 x11_1).f27)) := (blk_cell BK278.out 29).trans rfl; have hcz27_30 : w26.cell? ⟨gb278, 30, none⟩ = some (.int .i64 ((rd_T68 l0_1 x11_1).f28)) := (blk_cell BK278.out 30).trans rfl; have hcz27_31 : w26.cell? ⟨gb278, 31, none⟩ = some (.int .i64 ((rd_T68 l0_1 x11_1).f29)) := (blk_cell BK278.out 31).trans rfl; have hfz27_0 := blk_frozen BK278.out 0; have hfz27_1 := blk_frozen BK278.out 1; have hfz27_2 := blk_frozen BK278.out 2; have hfz27_3 := blk_frozen BK278.out 3; have hfz27_4 := blk_frozen BK278.out 4; have hfz27_5 := blk_frozen BK278.out 5; have hfz27_6 := blk_frozen BK278.out 6; have hfz27_7 := blk_frozen BK278.out 7; have hfz27_8 := blk_frozen BK278.out 8; have hfz27_9 := blk_frozen BK278.out 9; have hfz27_10 := blk_frozen BK278.out 10; have hfz27_11 := blk_frozen BK278.out 11; have hfz27_12 := blk_frozen BK278.out 12; have hfz27_13 := blk_frozen BK278.out 13; have hfz27_14 := blk_frozen BK278.out 14; have hfz27_15 := blk_frozen BK278.out 15; have hfz27_16 := blk_frozen BK278.out 16; have hfz27_17 := blk_frozen BK278.out 17; have hfz27_18 := blk_frozen BK278.out 18; have hfz27_19 := blk_frozen BK278.out 19; have hfz27_20 := blk_frozen BK278.out 20; have hfz27_21 := blk_frozen BK278.out 21; have hfz27_22 := blk_frozen BK278.out 22; have hfz27_23 := blk_frozen BK278.out 23; have hfz27_24 := blk_frozen BK278.out 24; have hfz27_25 := blk_frozen BK278.out 25; have hfz27_26 := blk_frozen BK278.out 26; have hfz27_27 := blk_frozen BK278.out 27; have hfz27_28 := blk_frozen BK278.out 28; have hfz27_29 := blk_frozen BK278.out 29; have hfz27_30 := blk_frozen BK278.out 30; have hfz27_31 := blk_frozen BK278.out 31; have hnb28 := NB276_274.out; have hnc28 := NB274_276.out; have hnb29 := NB276_275.out; have hnc29 := NB275_276.out; have hcz30_0 : w26.cell? ⟨gb276, 0, none⟩ = some (.int .i64 x277000_1) := (blk_cell BK276.out 0).trans rfl; have hcz30_1 : w26.cell? ⟨gb276, 1, none⟩ = some (.int .i64 x277001_1) := (blk_cell BK276.out 1).trans rfl; have hfz30_0 := blk_frozen BK276.out 0; have hfz30_1 := blk_frozen BK276.out 1) | ((with_reducible refine gate_callee (f := 88) rfl ?_); refine goesL_ (some 26) rfl rfl Try.func88 (by kernel_rfl) rfl #[.agg #[.int .i64 x277000_1, .int .i64 x277001_1], .agg #[.int .i64 ((rd_T68 l0_1 x11_1).f16.f0), .int .i64 ((rd_T68 l0_1 x11_1).f16.f1)]] rfl (by (try simp only [List.map_toArray, List.map_cons, List.map_nil]); first | done | rfl | (simp only [List.length_drop, List.length_take]; rfl)) ?_; (with_reducible refine (rules_both.calls x277000_1 x277001_1 ((rd_T68 l0_1 x11_1).f16.f0) ((rd_T68 l0_1 x11_1).f16.f1) t279 t280 _ A20.out).mono ?_); rintro e w31 ⟨rfl, hb⟩; refine ⟨_, rfl, ?_⟩; have n0_ := Aside0.mk (blk_below (g := gb274) (o := .cells #[.slice A0_0 l0_0.length c0_0, .slice (some ad277) l0_1.length c0_1, .slice A0_2 l0_2.length c0_2, .slice A0_3 l0_3.length c0_3] 59 (0, 0)) (by (with_reducible repeat (first | refine blk_drewN ?_ _ | refine blk_drew ?_ | refine blk_alloc ?_ _)); exact BK274.out) hb); have n1_ := Aside0.mk (blk_below (g := gb275) (o := .cells #[.int .i64 0, .int .i64 0] 64 (0, 0)) (by (with_reducible repeat (first | refine blk_drewN ?_ _ | refine blk_drew ?_ | refine blk_alloc ?_ _)); exact BK275.out) hb); have n2_ := Aside0.mk (blk_below (g := gb276) (o := .cells #[.int .i64 x277000_1, .int .i64 x277001_1] 64 (0, 0)) (by (with_reducible repeat (first | refine blk_drewN ?_ _ | refine blk_drew ?_ | refine blk_alloc ?_ _)); exact BK276.out) hb); have n3_ := Aside0.mk (blk_below (g := gb278) (o := .cells #[.int .i64 ((rd_T68 l0_1 x11_1).f0), .string ((rd_T68 l0_1 x11_1).f1), .int .i64 ((rd_T68 l0_1 x11_1).f2), .int .i64 ((rd_T68 l0_1 x11_1).f3), .slice A277_4 ((rd_T68 l0_1 x11_1).f4).length c277_4, .int .i64 ((rd_T68 l0_1 x11_1).f5.f0), .int .i64 ((rd_T68 l0_1 x11_1).f5.f1), .bool ((rd_T68 l0_1 x11_1).f6), .bool ((rd_T68 l0_1 x11_1).f7), .bool ((rd_T68 l0_1 x11_1).f8), .int .i64 ((rd_T68 l0_1 x11_1).f9), .string ((rd_T68 l0_1 x11_1).f10), .string ((rd_T68 l0_1 x11_1).f11), .string ((rd_T68 l0_1 x11_1).f12), .int .i64 ((rd_T68 l0_1 x11_1).f13), .bool ((rd_T68 l0_1 x11_1).f14), .bool ((rd_T68 l0_1 x11_1).f15), .int .i64 ((rd_T68 l0_1 x11_1).f16.f0), .int .i64 ((rd_T68 l0_1 x11_1).f16.f1), .string ((rd_T68 l0_1 x11_1).f17), .int .i64 ((rd_T68 l0_1 x11_1).f18), .int .i64 ((rd_T68 l0_1 x11_1).f19), .int .i64 ((rd_T68 l0_1 x11_1).f20), .int .i64 ((rd_T68 l0_1 x11_1).f21), .int .i64 ((rd_T68 l0_1 x11_1).f22), .bool ((rd_T68 l0_1 x11_1).f23), .int .u64 ((rd_T68 l0_1 x11_1).f24), .slice A277_27 ((rd_T68 l0_1 x11_1).f25).length c277_27, .int .i64 ((rd_T68 l0_1 x11_1).f26), .string ((rd_T68 l0_1 x11_1).f27), .int .i64 ((rd_T68 l0_1 x11_1).f28), .int .i64 ((rd_T68 l0_1 x11_1).f29)] 68 (0, 0)) (by (with_reducible repeat (first | refine blk_drewN ?_ _ | refine blk_drew ?_ | refine blk_alloc ?_ _)); exact BK278.out) hb); have n4_ := Aside0.mk (below_step (by repeat (first | (with_reducible first | exact HB.out | apply below_alloc | apply pw_below_drewN | apply below_drew1 | refine below_set ?_ GE274.out | refine below_set ?_ GE275.out | refine below_set ?_ GE276.out | refine below_set ?_ GE278.out) | exact HB.out)) hb); clear BK274; clear BK275; clear BK276; clear BK278; clear HB; have BK274 := n0_; have BK275 := n1_; have BK276 := n2_; have BK278 := n3_; have HB := n4_; clear n0_ n1_ n2_ n3_ n4_; (try clear hb); (try clear hb2); (try clear hk); (try clear hi); have hcz32_0 : w31.cell? ⟨gb276, 0, none⟩ = some (.int .i64 x277000_1) := (blk_cell BK276.out 0).trans rfl; have hcz32_1 : w31.cell? ⟨gb276, 1, none⟩ = some (.int .i64 x277001_1) := (blk_cell BK276.out 1).trans rfl; have hfz32_0 := blk_frozen BK276.out 0; have hfz32_1 := blk_frozen BK276.out 1) | ((with_reducible refine gate_store (t := 64) (p := 5) rfl ?_); refine store_event (t := 64) (p := 5) (v := ?vo_w33) (w1 := ((w31.setCell ⟨gb276, 0, none⟩ (.int .i64 t279)).setCell ⟨gb276, 1, none⟩ (.int .i64 t280))) ?hg ?ho ?hn ?hr ?_; (case ho => rfl); (case hg => rfl); (case hn => rfl); (case hr => first | (go_simp; done) | (go_simp; rfl)); intro w33 hw; have n0_ : Aside0 (w33.heap[gb274]? = some (.cells #[.slice A0_0 l0_0.length c0_0, .slice (some ad277) l0_1.length c0_1, .slice A0_2 l0_2.length c0_2, .slice A0_3 l0_3.length c0_3] 59 (0, 0))) := ⟨(by rw [hw]; exact (by (with_reducible repeat (first | refine blk_drewN ?_ _ | refine blk_drew ?_ | refine blk_alloc ?_ _)); refine blk_far ?_ NB274_276.out _; (with_reducible repeat (first | refine blk_drewN ?_ _ | refine blk_drew ?_ | refine blk_alloc ?_ _)); refine blk_far ?_ NB274_276.out _; (with_reducible repeat (first | refine blk_drewN ?_ _ | refine blk_drew ?_ | refine blk_alloc ?_ _)); exact BK274.out))⟩; have n1_ : Aside0 (w33.heap[gb275]? = some (.cells #[.int .i64 0, .int .i64 0] 64 (0, 0))) := ⟨(by rw [hw]; exact (by (with_reducible repeat (first | refine blk_drewN ?_ _ | refine blk_drew ?_ | refine blk_alloc ?_ _)); refine blk_far ?_ NB275_276.out _; (with_reducible repeat (first | refine blk_drewN ?_ _ | refine blk_drew ?_ | refine blk_alloc ?_ _)); refine blk_far ?_ NB275_276.out _; (with_reducible repeat (first | refine blk_drewN ?_ _ | refine blk_drew ?_ | refine blk_alloc ?_ _)); exact BK275.out))⟩; have n2_ : Aside0 (w33.heap[gb276]? = some (.cells #[.int .i64 t279, .int .i64 t280] 64 (0, 0))) := ⟨(by rw [hw]; exact (by (with_reducible repeat (first | refine blk_drewN ?_ _ | refine blk_drew ?_ | refine blk_alloc ?_ _)); refine blk_put (cs := #[.int .i64 t279, .int .i64 x277001_1]) ?_ 1 _ rfl; (with_reducible repeat (first | refine blk_drewN ?_ _ | refine blk_drew ?_ | refine blk_alloc ?_ _)); refine blk_put (cs := #[.int .i64 x277000_1, .int .i64 x277001_1]) ?_ 0 _ rfl; (with_reducible repeat (first | refine blk_drewN ?_ _ | refine blk_drew ?_ | refine blk_alloc ?_ _)); exact BK276.out))⟩; have n3_ : Aside0 (w33.heap[gb278]? = some (.cells #[.int .i64 ((rd_T68 l0_1 x11_1).f0), .string ((rd_T68 l0_1 x11_1).f1), .int .i64 ((rd_T68 l0_1 x11_1).f2), .int .i64 ((rd_T68 l0_1 x11_1).f3), .slice A277_4 ((rd_T68 l0_1 x11_1).f4).length c277_4, .int .i64 ((rd_T68 l0_1 x11_1).f5.f0), .int .i64 ((rd_T68 l0_1 x11_1).f5.f1), .bool ((rd_T68 l0_1 x11_1).f6), .bool ((rd_T68 l0_1 x11_1).f7), .bool ((rd_T68 l0_1 x11_1).f8), .int .i64 ((rd_T68 l0_1 x11_1).f9), .string ((rd_T68 l0_1 x11_1).f10), .string ((rd_T68 l0_1 x11_1).f11), .string ((rd_T68 l0_1 x11_1).f12), .int .i64 ((rd_T68 l0_1 x11_1).f13), .bool ((rd_T68 l0_1 x11_1).f14), .bool ((rd_T68 l0_1 x11_1).f15), .int .i64 ((rd_T68 l0_1 x11_1).f16.f0), .int .i64 ((rd_T68 l0_1 x11_1).f16.f1), .string ((rd_T68 l0_1 x11_1).f17), .int .i64 ((rd_T68 l0_1 x11_1).f18), .int .i64 ((rd_T68 l0_1 x11_1).f19), .int .i64 ((rd_T68 l0_1 x11_1).f20), .int .i64 ((rd_T68 l0_1 x11_1).f21), .int .i64 ((rd_T68 l0_1 x11_1).f22), .bool ((rd_T68 l0_1 x11_1).f23), .int .u64 ((rd_T68 l0_1 x11_1).f24), .slice A277_27 ((rd_T68 l0_1 x11_1).f25).length c277_27, .int .i64 ((rd_T68 l0_1 x11_1).f26), .string ((rd_T68 l0_1 x11_1).f27), .int .i64 ((rd_T68 l0_1 x11_1).f28), .int .i64 ((rd_T68 l0_1 x11_1).f29)] 68 (0, 0))) := ⟨(by rw [hw]; exact (by (with_reducible repeat (first | refine blk_drewN ?_ _ | refine blk_drew ?_ | refine blk_alloc ?_ _)); refine blk_far ?_ NB278_276.out _; (with_reducible repeat (first | refine blk_drewN ?_ _ | refine blk_drew ?_ | refine blk_alloc ?_ _)); refine blk_far ?_ NB278_276.out _; (with_reducible repeat (first | refine blk_drewN ?_ _ | refine blk_drew ?_ | refine blk_alloc ?_ _)); exact BK278.out))⟩; have n4_ : Aside0 (Below w.heap.size w w33) := ⟨(by rw [hw]; exact (by repeat (first | (with_reducible first | exact HB.out | apply below_alloc | apply pw_below_drewN | apply below_drew1 | refine below_set ?_ GE274.out | refine below_set ?_ GE275.out | refine below_set ?_ GE276.out | refine below_set ?_ GE278.out) | exact HB.out)))⟩; clear hw; clear BK274; clear BK275; clear BK276; clear BK278; clear HB; have BK274 := n0_; have BK275 := n1_; have BK276 := n2_; have BK278 := n3_; have HB := n4_; clear n0_ n1_ n2_ n3_ n4_))
                go_roundg k1
                case measure => have := HK1.out; omega
                case rel => exact ⟨(wrap64 (x11_1 + 1)), (t279), (t280), (by first | rfl | (simp; done) | (simp [*]; done)), H', ⟨by have := HK1.out; omega⟩, ⟨by (with_reducible repeat (first | refine blk_drewN ?_ _ | refine blk_drew ?_ | refine blk_alloc ?_ _)); exact BK274.out⟩, ⟨by (with_reducible repeat (first | refine blk_drewN ?_ _ | refine blk_drew ?_ | refine blk_alloc ?_ _)); exact BK275.out⟩, ⟨by (with_reducible repeat (first | refine blk_drewN ?_ _ | refine blk_drew ?_ | refine blk_alloc ?_ _)); exact BK276.out⟩, ⟨by repeat (first | (with_reducible first | exact HB.out | apply below_alloc | apply pw_below_drewN | apply below_drew1 | refine below_set ?_ GE274.out | refine below_set ?_ GE275.out | refine below_set ?_ GE276.out | refine below_set ?_ GE278.out) | exact HB.out)⟩⟩
              · rw [if_neg c19] at H
                have c19b0 : (((rd_T68 l0_1 x11_1).f12).toList == a1.toList) = false := beq_eq_false_iff_ne.mpr c19
                have c19b1 : (((rd_T68 l0_1 x11_1).f12).toList != a1.toList) = true := bne_iff_ne.mpr c19
                have H' := Aside0.mk H
                clear H
                have p277 : 0 ≤ (x11_1 : Int) := of_decide_eq_true (by first | (with_reducible assumption) | assumption)
                have q277 : x11_1 < (l0_1.length : Int) := of_decide_eq_true (by first | (with_reducible assumption) | assumption)
                obtain ⟨ad277, A277_4, c277_4, A277_27, c277_27, e277, hx277_0, hx277_1, hx277_2, hx277_3, hx277_4, hx277_5, hx277_6, hx277_7, hx277_8, hx277_9, hx277_10, hx277_11, hx277_12, hx277_13, hx277_14, hx277_15, hx277_16, hx277_17, hx277_18, hx277_19, hx277_20, hx277_21, hx277_22, hx277_23, hx277_24, hx277_25, hx277_26, hx277_27, hx277_28, hx277_29, hx277_30, hx277_31, hl277_4, hi277_4, hl277_27, hi277_27⟩ := at_T68 HR0_1.out x11_1 p277 q277
                cases e277
                replace hx277_0 := (HB.out.cell (World.block_lt_of_cell? w _ hx277_0)).trans hx277_0
                replace hx277_1 := (HB.out.cell (World.block_lt_of_cell? w _ hx277_1)).trans hx277_1
                replace hx277_2 := (HB.out.cell (World.block_lt_of_cell? w _ hx277_2)).trans hx277_2
                replace hx277_3 := (HB.out.cell (World.block_lt_of_cell? w _ hx277_3)).trans hx277_3
                replace hx277_4 := (HB.out.cell (World.block_lt_of_cell? w _ hx277_4)).trans hx277_4
                replace hx277_5 := (HB.out.cell (World.block_lt_of_cell? w _ hx277_5)).trans hx277_5
                replace hx277_6 := (HB.out.cell (World.block_lt_of_cell? w _ hx277_6)).trans hx277_6
                replace hx277_7 := (HB.out.cell (World.block_lt_of_cell? w _ hx277_7)).trans hx277_7
                replace hx277_8 := (HB.out.cell (World.block_lt_of_cell? w _ hx277_8)).trans hx277_8
                replace hx277_9 := (HB.out.cell (World.block_lt_of_cell? w _ hx277_9)).trans hx277_9
                replace hx277_10 := (HB.out.cell (World.block_lt_of_cell? w _ hx277_10)).trans hx277_10
                replace hx277_11 := (HB.out.cell (World.block_lt_of_cell? w _ hx277_11)).trans hx277_11
                replace hx277_12 := (HB.out.cell (World.block_lt_of_cell? w _ hx277_12)).trans hx277_12
                replace hx277_13 := (HB.out.cell (World.block_lt_of_cell? w _ hx277_13)).trans hx277_13
                replace hx277_14 := (HB.out.cell (World.block_lt_of_cell? w _ hx277_14)).trans hx277_14
                replace hx277_15 := (HB.out.cell (World.block_lt_of_cell? w _ hx277_15)).trans hx277_15
                replace hx277_16 := (HB.out.cell (World.block_lt_of_cell? w _ hx277_16)).trans hx277_16
                replace hx277_17 := (HB.out.cell (World.block_lt_of_cell? w _ hx277_17)).trans hx277_17
                replace hx277_18 := (HB.out.cell (World.block_lt_of_cell? w _ hx277_18)).trans hx277_18
                replace hx277_19 := (HB.out.cell (World.block_lt_of_cell? w _ hx277_19)).trans hx277_19
                replace hx277_20 := (HB.out.cell (World.block_lt_of_cell? w _ hx277_20)).trans hx277_20
                replace hx277_21 := (HB.out.cell (World.block_lt_of_cell? w _ hx277_21)).trans hx277_21
                replace hx277_22 := (HB.out.cell (World.block_lt_of_cell? w _ hx277_22)).trans hx277_22
                replace hx277_23 := (HB.out.cell (World.block_lt_of_cell? w _ hx277_23)).trans hx277_23
                replace hx277_24 := (HB.out.cell (World.block_lt_of_cell? w _ hx277_24)).trans hx277_24
                replace hx277_25 := (HB.out.cell (World.block_lt_of_cell? w _ hx277_25)).trans hx277_25
                replace hx277_26 := (HB.out.cell (World.block_lt_of_cell? w _ hx277_26)).trans hx277_26
                replace hx277_27 := (HB.out.cell (World.block_lt_of_cell? w _ hx277_27)).trans hx277_27
                replace hx277_28 := (HB.out.cell (World.block_lt_of_cell? w _ hx277_28)).trans hx277_28
                replace hx277_29 := (HB.out.cell (World.block_lt_of_cell? w _ hx277_29)).trans hx277_29
                replace hx277_30 := (HB.out.cell (World.block_lt_of_cell? w _ hx277_30)).trans hx277_30
                replace hx277_31 := (HB.out.cell (World.block_lt_of_cell? w _ hx277_31)).trans hx277_31
                have HR277_4 := Aside0.mk hi277_4
                have HC277_4 := Aside0.mk hl277_4
                clear hi277_4 hl277_4
                have HR277_27 := Aside0.mk hi277_27
                have HC277_27 := Aside0.mk hl277_27
                clear hi277_27 hl277_27
                replace p277 := eq_true p277
                replace q277 := eq_true q277
                go_wp2_with (first | ((with_reducible refine gate_load (t := 68) rfl ?_); first | (refine load68_box rfl rfl rfl (by with_reducible assumption) (by with_reducible assumption) (by with_reducible assumption) (by with_reducible assumption) (by with_reducible assumption) (by with_reducible assumption) (by with_reducible assumption) (by with_reducible assumption) (by with_reducible assumption) (by with_reducible assumption) (by with_reducible assumption) (by with_reducible assumption) (by with_reducible assumption) (by with_reducible assumption) (by with_reducible assumption) (by with_reducible assumption) (by with_reducible assumption) (by with_reducible assumption) (by with_reducible assumption) (by with_reducible assumption) (by with_reducible assumption) (by with_reducible assumption) (by with_reducible assumption) (by with_reducible assumption) (by with_reducible assumption) (by with_reducible assumption) (by with_reducible assumption) (by with_reducible assumption) (by with_reducible assumption) (by with_reducible assumption) (by with_reducible assumption) (by with_reducible assumption) ?_) | (refine load68_at rfl rfl rfl (by with_reducible assumption) (by with_reducible assumption) (by with_reducible assumption) (by with_reducible assumption) (by with_reducible assumption) (by with_reducible assumption) (by with_reducible assumption) (by with_reducible assumption) (by with_reducible assumption) (by with_reducible assumption) (by with_reducible assumption) (by with_reducible assumption) (by with_reducible assumption) (by with_reducible assumption) (by with_reducible assumption) (by with_reducible assumption) (by with_reducible assumption) (by with_reducible assumption) (by with_reducible assumption) (by with_reducible assumption) (by with_reducible assumption) (by with_reducible assumption) (by with_reducible assumption) (by with_reducible assumption) (by with_reducible assumption) (by with_reducible assumption) (by with_reducible assumption) (by with_reducible assumption) (by with_reducible assumption) (by with_reducible assumption) (by with_reducible assumption) (by with_reducible assumption) ?_)) | ((with_reducible refine gate_dst (N := 7) rfl ?_); refine box_event ?hg (N := 7) ?hd (cs := #[.int .i64 0, .string (⟨#[]⟩ : ByteArray), .int .i64 0, .int .i64 0, .slice none 0 0, .int .i64 0, .int .i64 0, .bool false, .bool false, .bool false, .int .i64 0, .string (⟨#[]⟩ : ByteArray), .string (⟨#[]⟩ : ByteArray), .string (⟨#[]⟩ : ByteArray), .int .i64 0, .bool false, .bool false, .int .i64 0, .int .i64 0, .string (⟨#[]⟩ : ByteArray), .int .i64 0, .int .i64 0, .int .i64 0, .int .i64 0, .int .i64 0, .bool false, .int .u64 0, .slice none 0 0, .int .i64 0, .string (⟨#[]⟩ : ByteArray), .int .i64 0, .int .i64 0]) (t := 68) ?hr ?_; (case hd => rfl); (case hg => rfl); (case hr => first | (go_simp; done) | (go_simp; rfl)); intro gb278 hg w34 hbox hb; have n0_ := Aside0.mk (blk_below (g := gb274) (o := .cells #[.slice A0_0 l0_0.length c0_0, .slice (some ad277) l0_1.length c0_1, .slice A0_2 l0_2.length c0_2, .slice A0_3 l0_3.length c0_3] 59 (0, 0)) (by (with_reducible repeat (first | refine blk_drewN ?_ _ | refine blk_drew ?_ | refine blk_alloc ?_ _)); exact BK274.out) hb); have n1_ := Aside0.mk (blk_below (g := gb275) (o := .cells #[.int .i64 0, .int .i64 0] 64 (0, 0)) (by (with_reducible repeat (first | refine blk_drewN ?_ _ | refine blk_drew ?_ | refine blk_alloc ?_ _)); exact BK275.out) hb); have n2_ := Aside0.mk (blk_below (g := gb276) (o := .cells #[.int .i64 x277000_1, .int .i64 x277001_1] 64 (0, 0)) (by (with_reducible repeat (first | refine blk_drewN ?_ _ | refine blk_drew ?_ | refine blk_alloc ?_ _)); exact BK276.out) hb); have n3_ := Aside0.mk (below_step (by repeat (first | (with_reducible first | exact HB.out | apply below_alloc | apply pw_below_drewN | apply below_drew1 | refine below_set ?_ GE274.out | refine below_set ?_ GE275.out | refine below_set ?_ GE276.out) | exact HB.out)) hb); have n4_ := Aside0.mk (hbox); have n5_ := Aside0.mk ((by rw [hg]; exact (below_size (by repeat (first | (with_reducible first | exact HB.out | apply below_alloc | apply pw_below_drewN | apply below_drew1 | refine below_set ?_ GE274.out | refine below_set ?_ GE275.out | refine below_set ?_ GE276.out) | exact HB.out))) : w.heap.size ≤ gb278)); have n6_ := Aside0.mk ((by rw [hg]; exact (below_size (by repeat (first | (with_reducible first | exact HB.out | apply below_alloc | apply pw_below_drewN | apply below_drew1 | refine below_set ?_ GE274.out | refine below_set ?_ GE275.out | refine below_set ?_ GE276.out) | exact HB.out))) : w.heap.size ≤ gb278)); have n7_ := Aside0.mk ((by rw [hg]; exact Nat.ne_of_lt (blk_lt (g := gb274) (o := .cells #[.slice A0_0 l0_0.length c0_0, .slice (some ad277) l0_1.length c0_1, .slice A0_2 l0_2.length c0_2, .slice A0_3 l0_3.length c0_3] 59 (0, 0)) (by (with_reducible repeat (first | refine blk_drewN ?_ _ | refine blk_drew ?_ | refine blk_alloc ?_ _)); exact BK274.out)) : gb274 ≠ gb278)); have n8_ := Aside0.mk ((by rw [hg]; exact Nat.ne_of_gt (blk_lt (g := gb274) (o := .cells #[.slice A0_0 l0_0.length c0_0, .slice (some ad277) l0_1.length c0_1, .slice A0_2 l0_2.length c0_2, .slice A0_3 l0_3.length c0_3] 59 (0, 0)) (by (with_reducible repeat (first | refine blk_drewN ?_ _ | refine blk_drew ?_ | refine blk_alloc ?_ _)); exact BK274.out)) : gb278 ≠ gb274)); have n9_ := Aside0.mk ((by rw [hg]; exact Nat.ne_of_lt (blk_lt (g := gb275) (o := .cells #[.int .i64 0, .int .i64 0] 64 (0, 0)) (by (with_reducible repeat (first | refine blk_drewN ?_ _ | refine blk_drew ?_ | refine blk_alloc ?_ _)); exact BK275.out)) : gb275 ≠ gb278)); have n10_ := Aside0.mk ((by rw [hg]; exact Nat.ne_of_gt (blk_lt (g := gb275) (o := .cells #[.int .i64 0, .int .i64 0] 64 (0, 0)) (by (with_reducible repeat (first | refine blk_drewN ?_ _ | refine blk_drew ?_ | refine blk_alloc ?_ _)); exact BK275.out)) : gb278 ≠ gb275)); have n11_ := Aside0.mk ((by rw [hg]; exact Nat.ne_of_lt (blk_lt (g := gb276) (o := .cells #[.int .i64 x277000_1, .int .i64 x277001_1] 64 (0, 0)) (by (with_reducible repeat (first | refine blk_drewN ?_ _ | refine blk_drew ?_ | refine blk_alloc ?_ _)); exact BK276.out)) : gb276 ≠ gb278)); have n12_ := Aside0.mk ((by rw [hg]; exact Nat.ne_of_gt (blk_lt (g := gb276) (o := .cells #[.int .i64 x277000_1, .int .i64 x277001_1] 64 (0, 0)) (by (with_reducible repeat (first | refine blk_drewN ?_ _ | refine blk_drew ?_ | refine blk_alloc ?_ _)); exact BK276.out)) : gb278 ≠ gb276)); clear BK274; clear BK275; clear BK276; clear HB; have BK274 := n0_; have BK275 := n1_; have BK276 := n2_; have HB := n3_; have BK278 := n4_; have GW278 := n5_; have GE278 := n6_; have NB274_278 := n7_; have NB278_274 := n8_; have NB275_278 := n9_; have NB278_275 := n10_; have NB276_278 := n11_; have NB278_276 := n12_; clear n0_ n1_ n2_ n3_ n4_ n5_ n6_ n7_ n8_ n9_ n10_ n11_ n12_; clear hb hbox hg; have hnb35 := NB278_274.out; have hnc35 := NB274_278.out; have hnb36 := NB278_275.out; have hnc36 := NB275_278.out; have hnb37 := NB278_276.out; have hnc37 := NB276_278.out; have hcz38_0 : w34.cell? ⟨gb278, 0, none⟩ = some (.int .i64 0) := (blk_cell BK278.out 0).trans rfl; have hcz38_1 : w34.cell? ⟨gb278, 1, none⟩ = some (.string (⟨#[]⟩ : ByteArray)) := (blk_cell BK278.out 1).trans rfl; have hcz38_2 : w34.cell? ⟨gb278, 2, none⟩ = some (.int .i64 0) := (blk_cell BK278.out 2).trans rfl; have hcz38_3 : w34.cell? ⟨gb278, 3, none⟩ = some (.int .i64 0) := (blk_cell BK278.out 3).trans rfl; have hcz38_4 : w34.cell? ⟨gb278, 4, none⟩ = some (.slice none 0 0) := (blk_cell BK278.out 4).trans rfl; have hcz38_5 : w34.cell? ⟨gb278, 5, none⟩ = some (.int .i64 0) := (blk_cell BK278.out 5).trans rfl; have hcz38_6 : w34.cell? ⟨gb278, 6, none⟩ = some (.int .i64 0) := (blk_cell BK278.out 6).trans rfl; have hcz38_7 : w34.cell? ⟨gb278, 7, none⟩ = some (.bool false) := (blk_cell BK278.out 7).trans rfl; have hcz38_8 : w34.cell? ⟨gb278, 8, none⟩ = some (.bool false) := (blk_cell BK278.out 8).trans rfl; have hcz38_9 : w34.cell? ⟨gb278, 9, none⟩ = some (.bool false) := (blk_cell BK278.out 9).trans rfl; have hcz38_10 : w34.cell? ⟨gb278, 10, none⟩ = some (.int .i64 0) := (blk_cell BK278.out 10).trans rfl; have hcz38_11 : w34.cell? ⟨gb278, 11, none⟩ = some (.string (⟨#[]⟩ : ByteArray)) := (blk_cell BK278.out 11).trans rfl; have hcz38_12 : w34.cell? ⟨gb278, 12, none⟩ = some (.string (⟨#[]⟩ : ByteArray)) := (blk_cell BK278.out 12).trans rfl; have hcz38_13 : w34.cell? ⟨gb278, 13, none⟩ = some (.string (⟨#[]⟩ : ByteArray)) := (blk_cell BK278.out 13).trans rfl; have hcz38_14 : w34.cell? ⟨gb278, 14, none⟩ = some (.int .i64 0) := (blk_cell BK278.out 14).trans rfl; have hcz38_15 : w34.cell? ⟨gb278, 15, none⟩ = some (.bool false) := (blk_cell BK278.out 15).trans rfl; have hcz38_16 : w34.cell? ⟨gb278, 16, none⟩ = some (.bool false) := (blk_cell BK278.out 16).trans rfl; have hcz38_17 : w34.cell? ⟨gb278, 17, none⟩ = some (.int .i64 0) := (blk_cell BK278.out 17).trans rfl; have hcz38_18 : w34.cell? ⟨gb278, 18, none⟩ = some (.int .i64 0) := (blk_cell BK278.out 18).trans rfl; have hcz38_19 : w34.cell? ⟨gb278, 19, none⟩ = some (.string (⟨#[]⟩ : ByteArray)) := (blk_cell BK278.out 19).trans rfl; have hcz38_20 : w34.cell? ⟨gb278, 20, none⟩ = some (.int .i64 0) := (blk_cell BK278.out 20).trans rfl; have hcz38_21 : w34.cell? ⟨gb278, 21, none⟩ = some (.int .i64 0) := (blk_cell BK278.out 21).trans rfl; have hcz38_22 : w34.cell? ⟨gb278, 22, none⟩ = some (.int .i64 0) := (blk_cell BK278.out 22).trans rfl; have hcz38_23 : w34.cell? ⟨gb278, 23, none⟩ = some (.int .i64 0) := (blk_cell BK278.out 23).trans rfl; have hcz38_24 : w34.cell? ⟨gb278, 24, none⟩ = some (.int .i64 0) := (blk_cell BK278.out 24).trans rfl; have hcz38_25 : w34.cell? ⟨gb278, 25, none⟩ = some (.bool false) := (blk_cell BK278.out 25).trans rfl; have hcz38_26 : w34.cell? ⟨gb278, 26, none⟩ = some (.int .u64 0) := (blk_cell BK278.out 26).trans rfl; have hcz38_27 : w34.cell? ⟨gb278, 27, none⟩ = some (.slice none 0 0) := (blk_cell BK278.out 27).trans rfl; have hcz38_28 : w34.cell? ⟨gb278, 28, none⟩ = some (.int .i64 0) := (blk_cell BK278.out 28).trans rfl; have hcz38_29 : w34.cell? ⟨gb278, 29, none⟩ = some (.string (⟨#[]⟩ : ByteArray)) := (blk_cell BK278.out 29).trans rfl; have hcz38_30 : w34.cell? ⟨gb278, 30, none⟩ = some (.int .i64 0) := (blk_cell BK278.out 30).trans rfl; have hcz38_31 : w34.cell? ⟨gb278, 31, none⟩ = some (.int .i64 0) := (blk_cell BK278.out 31).trans rfl; have hfz38_0 := blk_frozen BK278.out 0; have hfz38_1 := blk_frozen BK278.out 1; have hfz38_2 := blk_frozen BK278.out 2; have hfz38_3 := blk_frozen BK278.out 3; have hfz38_4 := blk_frozen BK278.out 4; have hfz38_5 := blk_frozen BK278.out 5; have hfz38_6 := blk_frozen BK278.out 6; have hfz38_7 := blk_frozen BK278.out 7; have hfz38_8 := blk_frozen BK278.out 8; have hfz38_9 := blk_frozen BK278.out 9; have hfz38_10 := blk_frozen BK278.out 10; have hfz38_11 := blk_frozen BK278.out 11; have hfz38_12 := blk_frozen BK278.out 12; have hfz38_13 := blk_frozen BK278.out 13; have hfz38_14 := blk_frozen BK278.out 14; have hfz38_15 := blk_frozen BK278.out 15; have hfz38_16 := blk_frozen BK278.out 16; have hfz38_17 := blk_frozen BK278.out 17; have hfz38_18 := blk_frozen BK278.out 18; have hfz38_19 := blk_frozen BK278.out 19; have hfz38_20 := blk_frozen BK278.out 20; have hfz38_21 := blk_frozen BK278.out 21; have hfz38_22 := blk_frozen BK278.out 22; have hfz38_23 := blk_frozen BK278.out 23; have hfz38_24 := blk_frozen BK278.out 24; have hfz38_25 := blk_frozen BK278.out 25; have hfz38_26 := blk_frozen BK278.out 26; have hfz38_27 := blk_frozen BK278.out 27; have hfz38_28 := blk_frozen BK278.out 28; have hfz38_29 := blk_frozen BK278.out 29; have hfz38_30 := blk_frozen BK278.out 30; have hfz38_31 := blk_frozen BK278.out 31) | ((with_reducible refine gate_store (t := 68) (p := 7) rfl ?_); refine box_store_event (t := 68) (ty := 68) (p := 7) (x := ?vo_w39) (g := gb278) (cs := #[.int .i64 0, .string (⟨#[]⟩ : ByteArray), .int .i64 0, .int .i64 0, .slice none 0 0, .int .i64 0, .int .i64 0, .bool false, .bool false, .bool false, .int .i64 0, .string (⟨#[]⟩ : ByteArray), .string (⟨#[]⟩ : ByteArray), .string (⟨#[]⟩ : ByteArray), .int .i64 0, .bool false, .bool false, .int .i64 0, .int .i64 0, .string (⟨#[]⟩ : ByteArray), .int .i64 0, .int .i64 0, .int .i64 0, .int .i64 0, .int .i64 0, .bool false, .int .u64 0, .slice none 0 0, .int .i64 0, .string (⟨#[]⟩ : ByteArray), .int .i64 0, .int .i64 0]) (cs' := #[.int .i64 ((rd_T68 l0_1 x11_1).f0), .string ((rd_T68 l0_1 x11_1).f1), .int .i64 ((rd_T68 l0_1 x11_1).f2), .int .i64 ((rd_T68 l0_1 x11_1).f3), .slice A277_4 ((rd_T68 l0_1 x11_1).f4).length c277_4, .int .i64 ((rd_T68 l0_1 x11_1).f5.f0), .int .i64 ((rd_T68 l0_1 x11_1).f5.f1), .bool ((rd_T68 l0_1 x11_1).f6), .bool ((rd_T68 l0_1 x11_1).f7), .bool ((rd_T68 l0_1 x11_1).f8), .int .i64 ((rd_T68 l0_1 x11_1).f9), .string ((rd_T68 l0_1 x11_1).f10), .string ((rd_T68 l0_1 x11_1).f11), .string ((rd_T68 l0_1 x11_1).f12), .int .i64 ((rd_T68 l0_1 x11_1).f13), .bool ((rd_T68 l0_1 x11_1).f14), .bool ((rd_T68 l0_1 x11_1).f15), .int .i64 ((rd_T68 l0_1 x11_1).f16.f0), .int .i64 ((rd_T68 l0_1 x11_1).f16.f1), .string ((rd_T68 l0_1 x11_1).f17), .int .i64 ((rd_T68 l0_1 x11_1).f18), .int .i64 ((rd_T68 l0_1 x11_1).f19), .int .i64 ((rd_T68 l0_1 x11_1).f20), .int .i64 ((rd_T68 l0_1 x11_1).f21), .int .i64 ((rd_T68 l0_1 x11_1).f22), .bool ((rd_T68 l0_1 x11_1).f23), .int .u64 ((rd_T68 l0_1 x11_1).f24), .slice A277_27 ((rd_T68 l0_1 x11_1).f25).length c277_27, .int .i64 ((rd_T68 l0_1 x11_1).f26), .string ((rd_T68 l0_1 x11_1).f27), .int .i64 ((rd_T68 l0_1 x11_1).f28), .int .i64 ((rd_T68 l0_1 x11_1).f29)]) ?hgd ?ho ?hN ?he ?hv ?hi ?hb ?hs ?h1 ?_; (case ho => rfl); (case hgd => rfl); (case hN => rfl); (case he => rfl); (case hv => first | rfl | (simp; done)); (case hi => exact size68); (case hb => (with_reducible repeat (first | refine blk_drewN ?_ _ | refine blk_drew ?_ | refine blk_alloc ?_ _)); exact BK278.out); (case hs => rfl); (case h1 => rfl); intro w39 hbox hg; have n0_ := Aside0.mk (blk_grown (by (with_reducible repeat (first | refine blk_drewN ?_ _ | refine blk_drew ?_ | refine blk_alloc ?_ _)); exact BK274.out) hg (fun e_ => NB274_278.out (Option.some.inj e_))); have n1_ := Aside0.mk (blk_grown (by (with_reducible repeat (first | refine blk_drewN ?_ _ | refine blk_drew ?_ | refine blk_alloc ?_ _)); exact BK275.out) hg (fun e_ => NB275_278.out (Option.some.inj e_))); have n2_ := Aside0.mk (blk_grown (by (with_reducible repeat (first | refine blk_drewN ?_ _ | refine blk_drew ?_ | refine blk_alloc ?_ _)); exact BK276.out) hg (fun e_ => NB276_278.out (Option.some.inj e_))); have n3_ := Aside0.mk (hbox); have n4_ := Aside0.mk (Below.grown (by repeat (first | (with_reducible first | exact HB.out | apply below_alloc | apply pw_below_drewN | apply below_drew1 | refine below_set ?_ GE274.out | refine below_set ?_ GE275.out | refine below_set ?_ GE276.out | refine below_set ?_ GE278.out) | exact HB.out)) hg (below_size (by repeat (first | (with_reducible first | exact HB.out | apply below_alloc | apply pw_below_drewN | apply below_drew1 | refine below_set ?_ GE274.out | refine below_set ?_ GE275.out | refine below_set ?_ GE276.out | refine below_set ?_ GE278.out) | exact HB.out))) (fun k_ e_ => by injection e_ with e_; subst e_; exact GE278.out)); clear BK274; clear BK275; clear BK276; clear BK278; clear HB; have BK274 := n0_; have BK275 := n1_; have BK276 := n2_; have BK278 := n3_; have HB := n4_; clear n0_ n1_ n2_ n3_ n4_; clear hbox hg; have hcz40_0 : w39.cell? ⟨gb278, 0, none⟩ = some (.int .i64 ((rd_T68 l0_1 x11_1).f0)) := (blk_cell BK278.out 0).trans rfl; have hcz40_1 : w39.cell? ⟨gb278, 1, none⟩ = some (.string ((rd_T68 l0_1 x11_1).f1)) := (blk_cell BK278.out 1).trans rfl; have hcz40_2 : w39.cell? ⟨gb278, 2, none⟩ = some (.int .i64 ((rd_T68 l0_1 x11_1).f2)) := (blk_cell BK278.out 2).trans rfl; have hcz40_3 : w39.cell? ⟨gb278, 3, none⟩ = some (.int .i64 ((rd_T68 l0_1 x11_1).f3)) := (blk_cell BK278.out 3).trans rfl; have hcz40_4 : w39.cell? ⟨gb278, 4, none⟩ = some (.slice A277_4 ((rd_T68 l0_1 x11_1).f4).length c277_4) := (blk_cell BK278.out 4).trans rfl; have hcz40_5 : w39.cell? ⟨gb278, 5, none⟩ = some (.int .i64 ((rd_T68 l0_1 x11_1).f5.f0)) := (blk_cell BK278.out 5).trans rfl; have hcz40_6 : w39.cell? ⟨gb278, 6, none⟩ = some (.int .i64 ((rd_T68 l0_1 x11_1).f5.f1)) := (blk_cell BK278.out 6).trans rfl; have hcz40_7 : w39.cell? ⟨gb278, 7, none⟩ = some (.bool ((rd_T68 l0_1 x11_1).f6)) := (blk_cell BK278.out 7).trans rfl; have hcz40_8 : w39.cell? ⟨gb278, 8, none⟩ = some (.bool ((rd_T68 l0_1 x11_1).f7)) := (blk_cell BK278.out 8).trans rfl; have hcz40_9 : w39.cell? ⟨gb278, 9, none⟩ = some (.bool ((rd_T68 l0_1 x11_1).f8)) := (blk_cell BK278.out 9).trans rfl; have hcz40_10 : w39.cell? ⟨gb278, 10, none⟩ = some (.int .i64 ((rd_T68 l0_1 x11_1).f9)) := (blk_cell BK278.out 10).trans rfl; have hcz40_11 : w39.cell? ⟨gb278, 11, none⟩ = some (.string ((rd_T68 l0_1 x11_1).f10)) := (blk_cell BK278.out 11).trans rfl; have hcz40_12 : w39.cell? ⟨gb278, 12, none⟩ = some (.string ((rd_T68 l0_1 x11_1).f11)) := (blk_cell BK278.out 12).trans rfl; have hcz40_13 : w39.cell? ⟨gb278, 13, none⟩ = some (.string ((rd_T68 l0_1 x11_1).f12)) := (blk_cell BK278.out 13).trans rfl; have hcz40_14 : w39.cell? ⟨gb278, 14, none⟩ = some (.int .i64 ((rd_T68 l0_1 x11_1).f13)) := (blk_cell BK278.out 14).trans rfl; have hcz40_15 : w39.cell? ⟨gb278, 15, none⟩ = some (.bool ((rd_T68 l0_1 x11_1).f14)) := (blk_cell BK278.out 15).trans rfl; have hcz40_16 : w39.cell? ⟨gb278, 16, none⟩ = some (.bool ((rd_T68 l0_1 x11_1).f15)) := (blk_cell BK278.out 16).trans rfl; have hcz40_17 : w39.cell? ⟨gb278, 17, none⟩ = some (.int .i64 ((rd_T68 l0_1 x11_1).f16.f0)) := (blk_cell BK278.out 17).trans rfl; have hcz40_18 : w39.cell? ⟨gb278, 18, none⟩ = some (.int .i64 ((rd_T68 l0_1 x11_1).f16.f1)) := (blk_cell BK278.out 18).trans rfl; have hcz40_19 : w39.cell? ⟨gb278, 19, none⟩ = some (.string ((rd_T68 l0_1 x11_1).f17)) := (blk_cell BK278.out 19).trans rfl; have hcz40_20 : w39.cell? ⟨gb278, 20, none⟩ = some (.int .i64 ((rd_T68 l0_1 x11_1).f18)) := (blk_cell BK278.out 20).trans rfl; have hcz40_21 : w39.cell? ⟨gb278, 21, none⟩ = some (.int .i64 ((rd_T68 l0_1 x11_1).f19)) := (blk_cell BK278.out 21).trans rfl; have hcz40_22 : w39.cell? ⟨gb278, 22, none⟩ = some (.int .i64 ((rd_T68 l0_1 x11_1).f20)) := (blk_cell BK278.out 22).trans rfl; have hcz40_23 : w39.cell? ⟨gb278, 23, none⟩ = some (.int .i64 ((rd_T68 l0_1 x11_1).f21)) := (blk_cell BK278.out 23).trans rfl; have hcz40_24 : w39.cell? ⟨gb278, 24, none⟩ = some (.int .i64 ((rd_T68 l0_1 x11_1).f22)) := (blk_cell BK278.out 24).trans rfl; have hcz40_25 : w39.cell? ⟨gb278, 25, none⟩ = some (.bool ((rd_T68 l0_1 x11_1).f23)) := (blk_cell BK278.out 25).trans rfl; have hcz40_26 : w39.cell? ⟨gb278, 26, none⟩ = some (.int .u64 ((rd_T68 l0_1 x11_1).f24)) := (blk_cell BK278.out 26).trans rfl; have hcz40_27 : w39.cell? ⟨gb278, 27, none⟩ = some (.slice A277_27 ((rd_T68 l0_1 x11_1).f25).length c277_27) := (blk_cell BK278.out 27).trans rfl; have hcz40_28 : w39.cell? ⟨gb278, 28, none⟩ = some (.int .i64 ((rd_T68 l0_1 x11_1).f26)) := (blk_cell BK278.out 28).trans rfl; have hcz40_29 : w39.cell? ⟨gb278, 29, none⟩ = some (.string ((rd_T68 l0_1 x11_1).f27)) := (blk_cell BK278.out 29).trans rfl; have hcz40_30 : w39.cell? ⟨gb278, 30, none⟩ = some (.int .i64 ((rd_T68 l0_1 x11_1).f28)) := (blk_cell BK278.out 30).trans rfl; have hcz40_31 : w39.cell? ⟨gb278, 31, none⟩ = some (.int .i64 ((rd_T68 l0_1 x11_1).f29)) := (blk_cell BK278.out 31).trans rfl; have hfz40_0 := blk_frozen BK278.out 0; have hfz40_1 := blk_frozen BK278.out 1; have hfz40_2 := blk_frozen BK278.out 2; have hfz40_3 := blk_frozen BK278.out 3; have hfz40_4 := blk_frozen BK278.out 4; have hfz40_5 := blk_frozen BK278.out 5; have hfz40_6 := blk_frozen BK278.out 6; have hfz40_7 := blk_frozen BK278.out 7; have hfz40_8 := blk_frozen BK278.out 8; have hfz40_9 := blk_frozen BK278.out 9; have hfz40_10 := blk_frozen BK278.out 10; have hfz40_11 := blk_frozen BK278.out 11; have hfz40_12 := blk_frozen BK278.out 12; have hfz40_13 := blk_frozen BK278.out 13; have hfz40_14 := blk_frozen BK278.out 14; have hfz40_15 := blk_frozen BK278.out 15; have hfz40_16 := blk_frozen BK278.out 16; have hfz40_17 := blk_frozen BK278.out 17; have hfz40_18 := blk_frozen BK278.out 18; have hfz40_19 := blk_frozen BK278.out 19; have hfz40_20 := blk_frozen BK278.out 20; have hfz40_21 := blk_frozen BK278.out 21; have hfz40_22 := blk_frozen BK278.out 22; have hfz40_23 := blk_frozen BK278.out 23; have hfz40_24 := blk_frozen BK278.out 24; have hfz40_25 := blk_frozen BK278.out 25; have hfz40_26 := blk_frozen BK278.out 26; have hfz40_27 := blk_frozen BK278.out 27; have hfz40_28 := blk_frozen BK278.out 28; have hfz40_29 := blk_frozen BK278.out 29; have hfz40_30 := blk_frozen BK278.out 30; have hfz40_31 := blk_frozen BK278.out 31))
                go_roundg k1
                case measure => have := HK1.out; omega
                case rel => exact ⟨(wrap64 (x11_1 + 1)), (x277000_1), (x277001_1), (by first | rfl | (simp; done) | (simp [*]; done)), H', ⟨by have := HK1.out; omega⟩, ⟨by (with_reducible repeat (first | refine blk_drewN ?_ _ | refine blk_drew ?_ | refine blk_alloc ?_ _)); exact BK274.out⟩, ⟨by (with_reducible repeat (first | refine blk_drewN ?_ _ | refine blk_drew ?_ | refine blk_alloc ?_ _)); exact BK275.out⟩, ⟨by (with_reducible repeat (first | refine blk_drewN ?_ _ | refine blk_drew ?_ | refine blk_alloc ?_ _)); exact BK276.out⟩, ⟨by repeat (first | (with_reducible first | exact HB.out | apply below_alloc | apply pw_below_drewN | apply below_drew1 | refine below_set ?_ GE274.out | refine below_set ?_ GE275.out | refine below_set ?_ GE276.out | refine below_set ?_ GE278.out) | exact HB.out)⟩⟩
          · rw [if_neg c11] at H
            exact absurd H (by simp)
        · rw [if_neg c10] at H
          exact absurd H (by simp)
      · rw [if_neg c9] at H
        have c9b0 : decide (x11_1 < (l0_1.length : Int)) = false := decide_eq_false c9
        clear c9
        simp only [Option.some.injEq, Prod.mk.injEq] at H
        obtain ⟨rfl, rfl⟩ := H
        have hnb41 := NB276_274.out
        have hnc41 := NB274_276.out
        have hnb42 := NB276_275.out
        have hnc42 := NB275_276.out
        have hcz43_0 : wr.cell? ⟨gb276, 0, none⟩ = some (.int .i64 x277000_1) := (blk_cell BK276.out 0).trans rfl
        have hcz43_1 : wr.cell? ⟨gb276, 1, none⟩ = some (.int .i64 x277001_1) := (blk_cell BK276.out 1).trans rfl
        have hfz43_0 := blk_frozen BK276.out 0
        have hfz43_1 := blk_frozen BK276.out 1
        have hnb44 := NB275_274.out
        have hnc44 := NB274_275.out
        have hcz45_0 : wr.cell? ⟨gb275, 0, none⟩ = some (.int .i64 0) := (blk_cell BK275.out 0).trans rfl
        have hcz45_1 : wr.cell? ⟨gb275, 1, none⟩ = some (.int .i64 0) := (blk_cell BK275.out 1).trans rfl
        have hfz45_0 := blk_frozen BK275.out 0
        have hfz45_1 := blk_frozen BK275.out 1
        go_wp2_with (first | ((with_reducible refine gate_load (t := 68) rfl ?_); first | (refine load68_box rfl rfl rfl (by with_reducible assumption) (by with_reducible assumption) (by with_reducible assumption) (by with_reducible assumption) (by with_reducible assumption) (by with_reducible assumption) (by with_reducible assumption) (by with_reducible assumption) (by with_reducible assumption) (by with_reducible assumption) (by with_reducible assumption) (by with_reducible assumption) (by with_reducible assumption) (by with_reducible assumption) (by with_reducible assumption) (by with_reducible assumption) (by with_reducible assumption) (by with_reducible assumption) (by with_reducible assumption) (by with_reducible assumption) (by with_reducible assumption) (by with_reducible assumption) (by with_reducible assumption) (by with_reducible assumption) (by with_reducible assumption) (by with_reducible assumption) (by with_reducible assumption) (by with_reducible assumption) (by with_reducible assumption) (by with_reducible assumption) (by with_reducible assumption) (by with_reducible assumption) ?_) | (refine load68_at rfl rfl rfl (by with_reducible assumption) (by with_reducible assumption) (by with_reducible assumption) (by with_reducible assumption) (by with_reducible assumption) (by with_reducible assumption) (by with_reducible assumption) (by with_reducible assumption) (by with_reducible assumption) (by with_reducible assumption) (by with_reducible assumption) (by with_reducible assumption) (by with_reducible assumption) (by with_reducible assumption) (by with_reducible assumption) (by with_reducible assumption) (by with_reducible assumption) (by with_reducible assumption) (by with_reducible assumption) (by with_reducible assumption) (by with_reducible assumption) (by with_reducible assumption) (by with_reducible assumption) (by with_reducible assumption) (by with_reducible assumption) (by with_reducible assumption) (by with_reducible assumption) (by with_reducible assumption) (by with_reducible assumption) (by with_reducible assumption) (by with_reducible assumption) (by with_reducible assumption) ?_)) | ((with_reducible refine gate_store (t := 64) (p := 4) rfl ?_); refine store_event (t := 64) (p := 4) (v := ?vo_w46) (w1 := ((wr.setCell ⟨gb275, 0, none⟩ (.int .i64 x277000_1)).setCell ⟨gb275, 1, none⟩ (.int .i64 x277001_1))) ?hg ?ho ?hn ?hr ?_; (case ho => rfl); (case hg => rfl); (case hn => rfl); (case hr => first | (go_simp; done) | (go_simp; rfl)); intro w46 hw; have n0_ : Aside0 (w46.heap[gb274]? = some (.cells #[.slice A0_0 l0_0.length c0_0, .slice A0_1 l0_1.length c0_1, .slice A0_2 l0_2.length c0_2, .slice A0_3 l0_3.length c0_3] 59 (0, 0))) := ⟨(by rw [hw]; exact (by (with_reducible repeat (first | refine blk_drewN ?_ _ | refine blk_drew ?_ | refine blk_alloc ?_ _)); refine blk_far ?_ NB274_275.out _; (with_reducible repeat (first | refine blk_drewN ?_ _ | refine blk_drew ?_ | refine blk_alloc ?_ _)); refine blk_far ?_ NB274_275.out _; (with_reducible repeat (first | refine blk_drewN ?_ _ | refine blk_drew ?_ | refine blk_alloc ?_ _)); exact BK274.out))⟩; have n1_ : Aside0 (w46.heap[gb275]? = some (.cells #[.int .i64 x277000_1, .int .i64 x277001_1] 64 (0, 0))) := ⟨(by rw [hw]; exact (by (with_reducible repeat (first | refine blk_drewN ?_ _ | refine blk_drew ?_ | refine blk_alloc ?_ _)); refine blk_put (cs := #[.int .i64 x277000_1, .int .i64 0]) ?_ 1 _ rfl; (with_reducible repeat (first | refine blk_drewN ?_ _ | refine blk_drew ?_ | refine blk_alloc ?_ _)); refine blk_put (cs := #[.int .i64 0, .int .i64 0]) ?_ 0 _ rfl; (with_reducible repeat (first | refine blk_drewN ?_ _ | refine blk_drew ?_ | refine blk_alloc ?_ _)); exact BK275.out))⟩; have n2_ : Aside0 (w46.heap[gb276]? = some (.cells #[.int .i64 x277000_1, .int .i64 x277001_1] 64 (0, 0))) := ⟨(by rw [hw]; exact (by (with_reducible repeat (first | refine blk_drewN ?_ _ | refine blk_drew ?_ | refine blk_alloc ?_ _)); refine blk_far ?_ NB276_275.out _; (with_reducible repeat (first | refine blk_drewN ?_ _ | refine blk_drew ?_ | refine blk_alloc ?_ _)); refine blk_far ?_ NB276_275.out _; (with_reducible repeat (first | refine blk_drewN ?_ _ | refine blk_drew ?_ | refine blk_alloc ?_ _)); exact BK276.out))⟩; have n3_ : Aside0 (Below w.heap.size w w46) := ⟨(by rw [hw]; exact (by repeat (first | (with_reducible first | exact HB.out | apply below_alloc | apply pw_below_drewN | apply below_drew1 | refine below_set ?_ GE274.out | refine below_set ?_ GE275.out | refine below_set ?_ GE276.out) | exact HB.out)))⟩; clear hw; clear BK274; clear BK275; clear BK276; clear HB; have BK274 := n0_; have BK275 := n1_; have BK276 := n2_; have HB := n3_; clear n0_ n1_ n2_ n3_))
        refine bodyPost_ret (results_cell_row rfl _ _ gb275 64 #[.int .i64 x277000_1, .int .i64 x277001_1] (0, 0) _ rfl (by (with_reducible repeat (first | refine blk_drewN ?_ _ | refine blk_drew ?_ | refine blk_alloc ?_ _)); exact BK275.out) Try.underlying64 rfl (by kernel_rfl)) rfl ?_
        exact ⟨by first | rfl | (simp [errW_none, errW_some] <;> rfl) | (simp [*, errW_none, errW_some] <;> rfl), by repeat (first | (with_reducible first | exact HB.out | apply below_alloc | apply pw_below_drewN | apply below_drew1 | refine below_set ?_ GE274.out | refine below_set ?_ GE275.out | refine below_set ?_ GE276.out) | exact HB.out)⟩
end Go.Proofs.Ytamjjeakkkdfhaa.PB
end
section
namespace Go.Proofs.Ytamjjeakkkdfhaa.PB
open Go.RowKit Go.Proofs.YtamjjeakkkdfhaaW.PrintWords Go.Proofs.YtamjjeakkkdfhaaW.PrintLast Go.Proofs.YtamjjeakkkdfhaaW.PrintMore
open Go.Proofs.Ytamjjeakkkdfhaa.K Go.Proofs.Ytamjjeakkkdfhaa.G Go.Proofs.YtamjjeakkkdfhaaE
attribute [local go_sem] max2_int min2_int max_two min_two max_three min_three max_four min_four
set_option linter.unusedVariables false
set_option linter.unusedSimpArgs false
def amount_Fits.f (a0_0 : Int) (a0_1 : Int) (a1_0 : Int) (a1_1 : Int) : Option (Bool) := if a0_0 ≤ a1_0 then (some (decide (a0_1 ≤ a1_1))) else (some false)
set_option maxHeartbeats 8000000 in
set_option maxRecDepth 100000 in
theorem amount_Fits.calls (a0_0 : Int) (a0_1 : Int) (a1_0 : Int) (a1_1 : Int) (r : Bool) (w : World) (h : amount_Fits.f a0_0 a0_1 a1_0 a1_1 = some r) :
    Calls Try.prog 102 #[.agg #[.int .i64 a0_0, .int .i64 a0_1], .agg #[.int .i64 a1_0, .int .i64 a1_1]] w fun e w' => e = .returned (.bool r) ∧ Below w.heap.size w w' := by
  have hu64 := Try.underlying64
  have HB := Aside0.mk (Below.refl w.heap.size w)
  have H : (if a0_0 ≤ a1_0 then (some (decide (a0_1 ≤ a1_1))) else (some false)) = some r := h
  clear h
  by_cases c3 : a0_0 ≤ a1_0
  · rw [if_pos c3] at H
    have c3b0 : decide (a0_0 ≤ a1_0) = true := decide_eq_true c3
    clear c3
    obtain rfl := Option.some.inj H
    go_enter Try.func102, Try.ntmps102
    go_wp2_with (first | ((with_reducible refine gate_dst (N := 2) rfl ?_); refine box_event ?hg (N := 2) ?hd (cs := #[.int .i64 a0_0, .int .i64 a0_1]) (t := 64) ?hr ?_; (case hd => rfl); (case hg => rfl); (case hr => first | (go_simp; done) | (go_simp; rfl)); intro gb327 hg w4 hbox hb; have n0_ := Aside0.mk (below_step (by repeat (first | (with_reducible first | exact HB.out | apply below_alloc | apply pw_below_drewN | apply below_drew1) | exact HB.out)) hb); have n1_ := Aside0.mk (hbox); have n2_ := Aside0.mk ((by rw [hg]; exact (below_size (by repeat (first | (with_reducible first | exact HB.out | apply below_alloc | apply pw_below_drewN | apply below_drew1) | exact HB.out))) : w.heap.size ≤ gb327)); have n3_ := Aside0.mk ((by rw [hg]; exact (below_size (by repeat (first | (with_reducible first | exact HB.out | apply below_alloc | apply pw_below_drewN | apply below_drew1) | exact HB.out))) : w.heap.size ≤ gb327)); clear HB; have HB := n0_; have BK327 := n1_; have GW327 := n2_; have GE327 := n3_; clear n0_ n1_ n2_ n3_; clear hb hbox hg) | ((with_reducible refine gate_dst (N := 3) rfl ?_); refine box_event ?hg (N := 3) ?hd (cs := #[.int .i64 a1_0, .int .i64 a1_1]) (t := 64) ?hr ?_; (case hd => rfl); (case hg => rfl); (case hr => first | (go_simp; done) | (go_simp; rfl)); intro gb328 hg w5 hbox hb; have n0_ := Aside0.mk (blk_below (g := gb327) (o := .cells #[.int .i64 a0_0, .int .i64 a0_1] 64 (0, 0)) (by (with_reducible repeat (first | refine blk_drewN ?_ _ | refine blk_drew ?_ | refine blk_alloc ?_ _)); exact BK327.out) hb); have n1_ := Aside0.mk (below_step (by repeat (first | (with_reducible first | exact HB.out | apply below_alloc | apply pw_below_drewN | apply below_drew1 | refine below_set ?_ GE327.out) | exact HB.out)) hb); have n2_ := Aside0.mk (hbox); have n3_ := Aside0.mk ((by rw [hg]; exact (below_size (by repeat (first | (with_reducible first | exact HB.out | apply below_alloc | apply pw_below_drewN | apply below_drew1 | refine below_set ?_ GE327.out) | exact HB.out))) : w.heap.size ≤ gb328)); have n4_ := Aside0.mk ((by rw [hg]; exact (below_size (by repeat (first | (with_reducible first | exact HB.out | apply below_alloc | apply pw_below_drewN | apply below_drew1 | refine below_set ?_ GE327.out) | exact HB.out))) : w.heap.size ≤ gb328)); have n5_ := Aside0.mk ((by rw [hg]; exact Nat.ne_of_lt (blk_lt (g := gb327) (o := .cells #[.int .i64 a0_0, .int .i64 a0_1] 64 (0, 0)) (by (with_reducible repeat (first | refine blk_drewN ?_ _ | refine blk_drew ?_ | refine blk_alloc ?_ _)); exact BK327.out)) : gb327 ≠ gb328)); have n6_ := Aside0.mk ((by rw [hg]; exact Nat.ne_of_gt (blk_lt (g := gb327) (o := .cells #[.int .i64 a0_0, .int .i64 a0_1] 64 (0, 0)) (by (with_reducible repeat (first | refine blk_drewN ?_ _ | refine blk_drew ?_ | refine blk_alloc ?_ _)); exact BK327.out)) : gb328 ≠ gb327)); clear BK327; clear HB; have BK327 := n0_; have HB := n1_; have BK328 := n2_; have GW328 := n3_; have GE328 := n4_; have NB327_328 := n5_; have NB328_327 := n6_; clear n0_ n1_ n2_ n3_ n4_ n5_ n6_; clear hb hbox hg; have hnb6 := NB327_328.out; have hnc6 := NB328_327.out; have hcz7_0 : w5.cell? ⟨gb327, 0, none⟩ = some (.int .i64 a0_0) := (blk_cell BK327.out 0).trans rfl; have hcz7_1 : w5.cell? ⟨gb327, 1, none⟩ = some (.int .i64 a0_1) := (blk_cell BK327.out 1).trans rfl; have hfz7_0 := blk_frozen BK327.out 0; have hfz7_1 := blk_frozen BK327.out 1; have hcz8_0 : w5.cell? ⟨gb328, 0, none⟩ = some (.int .i64 a1_0) := (blk_cell BK328.out 0).trans rfl; have hcz8_1 : w5.cell? ⟨gb328, 1, none⟩ = some (.int .i64 a1_1) := (blk_cell BK328.out 1).trans rfl; have hfz8_0 := blk_frozen BK328.out 0; have hfz8_1 := blk_frozen BK328.out 1))
    go_ret
    exact ⟨by first | rfl | (simp [errW_none, errW_some] <;> rfl) | (simp [*, errW_none, errW_some] <;> rfl), by repeat (first | (with_reducible first | exact HB.out | apply below_alloc | apply pw_below_drewN | apply below_drew1 | refine below_set ?_ GE327.out | refine below_set ?_ GE328.out) | exact HB.out)⟩
  · rw [if_neg c3] at H
    have c3b0 : decide (a0_0 ≤ a1_0) = false := decide_eq_false c3
    clear c3
    obtain rfl := Option.some.inj H
    go_enter Try.func102, Try.ntmps102
    go_wp2_with (first | ((with_reducible refine gate_dst (N := 2) rfl ?_); refine box_event ?hg (N := 2) ?hd (cs := #[.int .i64 a0_0, .int .i64 a0_1]) (t := 64) ?hr ?_; (case hd => rfl); (case hg => rfl); (case hr => first | (go_simp; done) | (go_simp; rfl)); intro gb327 hg w9 hbox hb; have n0_ := Aside0.mk (below_step (by repeat (first | (with_reducible first | exact HB.out | apply below_alloc | apply pw_below_drewN | apply below_drew1) | exact HB.out)) hb); have n1_ := Aside0.mk (hbox); have n2_ := Aside0.mk ((by rw [hg]; exact (below_size (by repeat (first | (with_reducible first | exact HB.out | apply below_alloc | apply pw_below_drewN | apply below_drew1) | exact HB.out))) : w.heap.size ≤ gb327)); have n3_ := Aside0.mk ((by rw [hg]; exact (below_size (by repeat (first | (with_reducible first | exact HB.out | apply below_alloc | apply pw_below_drewN | apply below_drew1) | exact HB.out))) : w.heap.size ≤ gb327)); clear HB; have HB := n0_; have BK327 := n1_; have GW327 := n2_; have GE327 := n3_; clear n0_ n1_ n2_ n3_; clear hb hbox hg) | ((with_reducible refine gate_dst (N := 3) rfl ?_); refine box_event ?hg (N := 3) ?hd (cs := #[.int .i64 a1_0, .int .i64 a1_1]) (t := 64) ?hr ?_; (case hd => rfl); (case hg => rfl); (case hr => first | (go_simp; done) | (go_simp; rfl)); intro gb328 hg w10 hbox hb; have n0_ := Aside0.mk (blk_below (g := gb327) (o := .cells #[.int .i64 a0_0, .int .i64 a0_1] 64 (0, 0)) (by (with_reducible repeat (first | refine blk_drewN ?_ _ | refine blk_drew ?_ | refine blk_alloc ?_ _)); exact BK327.out) hb); have n1_ := Aside0.mk (below_step (by repeat (first | (with_reducible first | exact HB.out | apply below_alloc | apply pw_below_drewN | apply below_drew1 | refine below_set ?_ GE327.out) | exact HB.out)) hb); have n2_ := Aside0.mk (hbox); have n3_ := Aside0.mk ((by rw [hg]; exact (below_size (by repeat (first | (with_reducible first | exact HB.out | apply below_alloc | apply pw_below_drewN | apply below_drew1 | refine below_set ?_ GE327.out) | exact HB.out))) : w.heap.size ≤ gb328)); have n4_ := Aside0.mk ((by rw [hg]; exact (below_size (by repeat (first | (with_reducible first | exact HB.out | apply below_alloc | apply pw_below_drewN | apply below_drew1 | refine below_set ?_ GE327.out) | exact HB.out))) : w.heap.size ≤ gb328)); have n5_ := Aside0.mk ((by rw [hg]; exact Nat.ne_of_lt (blk_lt (g := gb327) (o := .cells #[.int .i64 a0_0, .int .i64 a0_1] 64 (0, 0)) (by (with_reducible repeat (first | refine blk_drewN ?_ _ | refine blk_drew ?_ | refine blk_alloc ?_ _)); exact BK327.out)) : gb327 ≠ gb328)); have n6_ := Aside0.mk ((by rw [hg]; exact Nat.ne_of_gt (blk_lt (g := gb327) (o := .cells #[.int .i64 a0_0, .int .i64 a0_1] 64 (0, 0)) (by (with_reducible repeat (first | refine blk_drewN ?_ _ | refine blk_drew ?_ | refine blk_alloc ?_ _)); exact BK327.out)) : gb328 ≠ gb327)); clear BK327; clear HB; have BK327 := n0_; have HB := n1_; have BK328 := n2_; have GW328 := n3_; have GE328 := n4_; have NB327_328 := n5_; have NB328_327 := n6_; clear n0_ n1_ n2_ n3_ n4_ n5_ n6_; clear hb hbox hg; have hnb11 := NB327_328.out; have hnc11 := NB328_327.out; have hcz12_0 : w10.cell? ⟨gb327, 0, none⟩ = some (.int .i64 a0_0) := (blk_cell BK327.out 0).trans rfl; have hcz12_1 : w10.cell? ⟨gb327, 1, none⟩ = some (.int .i64 a0_1) := (blk_cell BK327.out 1).trans rfl; have hfz12_0 := blk_frozen BK327.out 0; have hfz12_1 := blk_frozen BK327.out 1; have hcz13_0 : w10.cell? ⟨gb328, 0, none⟩ = some (.int .i64 a1_0) := (blk_cell BK328.out 0).trans rfl; have hcz13_1 : w10.cell? ⟨gb328, 1, none⟩ = some (.int .i64 a1_1) := (blk_cell BK328.out 1).trans rfl; have hfz13_0 := blk_frozen BK328.out 0; have hfz13_1 := blk_frozen BK328.out 1))
    go_ret
    exact ⟨by first | rfl | (simp [errW_none, errW_some] <;> rfl) | (simp [*, errW_none, errW_some] <;> rfl), by repeat (first | (with_reducible first | exact HB.out | apply below_alloc | apply pw_below_drewN | apply below_drew1 | refine below_set ?_ GE327.out | refine below_set ?_ GE328.out) | exact HB.out)⟩
end Go.Proofs.Ytamjjeakkkdfhaa.PB
end
