/- Parts of the proof of RulesCounted: lemmas, put together by a program of this session (pack.py) out of the kit's words, printed contracts and texts of its own. -/
import Derived.Test.YtamjjeakkkdfhaaProg
import Derived.Below
import Derived.Deep.Draws
import Derived.Deep.AppendLies
import Derived.Maps.AppendAt
import Derived.OwnWalk
import Derived.Laws.BytesArg
import Derived.Laws.MakeOwn
import Derived.Laws.OwnMore
import Derived.Deep.OwnRows
import Derived.Tactics
import Derived.Lib.ConvBytes
import Derived.Laws.Slices
import Derived.WalkKit
import Derived.KernelRfl
import Derived.RowKit3
import Derived.Deep.LoopGhost
import Derived.Deep.QuietTactic
import Derived.BigQuiet
import Derived.WideLaws
import Derived.Deep.DeepCutAuto
import Derived.Deep.CutBlock
import Derived.Deep.RegionHeld3
import Derived.Laws.Rows
import Derived.Lib.AppendStr
import Derived.ArgAppend
import Derived.Laws.IdiomCopy
import Derived.OrdersHeld
import Derived.Laws.BitsLemmas
import Derived.RowKit
import Derived.Laws.StructEq
import Derived.RangeFuncNested
import Derived.RangeFuncBound
import Derived.RangeFuncCalls
import Derived.RangeFuncLeaves
import Derived.Shelf.Abstract
import Derived.Shelf.RegionOpen
import Derived.OwnWalkIn
import Derived.TacticsInMore
import Derived.LoopNIn
import Derived.LoopIn
import Derived.Maps.Own
import Derived.Maps.OwnOps
import Derived.Maps.Views
import Derived.StringKeys
import Derived.ChangeArms
import Derived.SizedLaws
import Derived.SliceStrings
import Derived.Test.YtamjjeakkkdfhaaZRulesCounteda
namespace Foot
end Foot
namespace Go.Proofs.Ytamjjeakkkdfhaa
end Go.Proofs.Ytamjjeakkkdfhaa
namespace Go.Proofs.Ytamjjeakkkdfhaa.G
end Go.Proofs.Ytamjjeakkkdfhaa.G
namespace Go.Proofs.Ytamjjeakkkdfhaa.K
end Go.Proofs.Ytamjjeakkkdfhaa.K
namespace Go.Proofs.Ytamjjeakkkdfhaa.OP
end Go.Proofs.Ytamjjeakkkdfhaa.OP
namespace Go.Proofs.Ytamjjeakkkdfhaa.PB
end Go.Proofs.Ytamjjeakkkdfhaa.PB
namespace Go.Proofs.Ytamjjeakkkdfhaa.PC
end Go.Proofs.Ytamjjeakkkdfhaa.PC
namespace Go.Proofs.Ytamjjeakkkdfhaa.PD
end Go.Proofs.Ytamjjeakkkdfhaa.PD
namespace Go.Proofs.Ytamjjeakkkdfhaa.rulesCounted
end Go.Proofs.Ytamjjeakkkdfhaa.rulesCounted
namespace Go.Proofs.YtamjjeakkkdfhaaE
end Go.Proofs.YtamjjeakkkdfhaaE
namespace Go.Proofs.YtamjjeakkkdfhaaRF
end Go.Proofs.YtamjjeakkkdfhaaRF
namespace Go.Proofs.YtamjjeakkkdfhaaW.PrintLast
end Go.Proofs.YtamjjeakkkdfhaaW.PrintLast
namespace Go.Proofs.YtamjjeakkkdfhaaW.PrintMore
end Go.Proofs.YtamjjeakkkdfhaaW.PrintMore
namespace Go.Proofs.YtamjjeakkkdfhaaW.PrintWords
end Go.Proofs.YtamjjeakkkdfhaaW.PrintWords
namespace Kd
end Kd
section
namespace Go.Proofs.Ytamjjeakkkdfhaa.G
end Go.Proofs.Ytamjjeakkkdfhaa.G
namespace Go.Proofs.Ytamjjeakkkdfhaa.K
open Go.RowKit Go.Proofs.YtamjjeakkkdfhaaW.PrintWords Go.Proofs.YtamjjeakkkdfhaaW.PrintLast Go.Proofs.YtamjjeakkkdfhaaW.PrintMore
open Go.Proofs.YtamjjeakkkdfhaaE
set_option linter.unusedVariables false
set_option linter.unusedSimpArgs false
def eT (c : Int) : Nat := if c < 18446744073709551616 then 114 else 145
def eV (c : Int) : Value := if c < 18446744073709551616 then .int .i64 c else .agg #[.int .i64 (c / 18446744073709551616 - 9223372036854775808), .int .i64 (c % 18446744073709551616 - 9223372036854775808)]
def errW : Option Int → Value
  | none => .nilIface
  | some c => .iface (eT c) (eV c)
theorem errW_none : errW none = .nilIface := rfl
theorem errW_some (c : Int) : errW (some c) = .iface (eT c) (eV c) := rfl
theorem info31 : (Try.prog.info? 31).map (fun i => (i.zero, i.size, i.bytes)) = some (some (.agg #[(.string ⟨#[]⟩), (.string ⟨#[]⟩)]), 2, 32) := by kernel_rfl
theorem info68 : (Try.prog.info? 68).map (fun i => (i.zero, i.size, i.bytes)) = some (some (.agg #[(.int .i64 0), (.string ⟨#[]⟩), (.int .i64 0), (.int .i64 0), (.slice none 0 0), (.int .i64 0), (.int .i64 0), (.bool false), (.bool false), (.bool false), (.int .i64 0), (.string ⟨#[]⟩), (.string ⟨#[]⟩), (.string ⟨#[]⟩), (.int .i64 0), (.bool false), (.bool false), (.int .i64 0), (.int .i64 0), (.string ⟨#[]⟩), (.int .i64 0), (.int .i64 0), (.int .i64 0), (.int .i64 0), (.int .i64 0), (.bool false), (.int .u64 0), (.slice none 0 0), (.int .i64 0), (.string ⟨#[]⟩), (.int .i64 0), (.int .i64 0)]), 32, 312) := by kernel_rfl
theorem size59 : (Try.prog.info? 59).map (fun i => i.size) = some 4 := by kernel_rfl
theorem size68 : (Try.prog.info? 68).map (fun i => i.size) = some 32 := by kernel_rfl
theorem load68_at {ops : Array Oper} {rest : List Oper} {o : Oper} {a : Act} {Q : Exit → Act → World → Prop} {W : World} {x : Operand} {a' : Addr} {v0 v1 v2 v3 v4 v5 v6 v7 v8 v9 v10 v11 v12 v13 v14 v15 v16 v17 v18 v19 v20 v21 v22 v23 v24 v25 v26 v27 v28 v29 v30 v31 : Value} (ho : o.op = .load 68 x) (hgd : o.guard = none) (he : a.eval x = .pointer (some a'))
    (h0 : W.cell? a' = some v0) (h1 : W.cell? ⟨a'.block, a'.off + 1, none⟩ = some v1) (h2 : W.cell? ⟨a'.block, a'.off + 2, none⟩ = some v2) (h3 : W.cell? ⟨a'.block, a'.off + 3, none⟩ = some v3) (h4 : W.cell? ⟨a'.block, a'.off + 4, none⟩ = some v4) (h5 : W.cell? ⟨a'.block, a'.off + 5, none⟩ = some v5) (h6 : W.cell? ⟨a'.block, a'.off + 6, none⟩ = some v6) (h7 : W.cell? ⟨a'.block, a'.off + 7, none⟩ = some v7) (h8 : W.cell? ⟨a'.block, a'.off + 8, none⟩ = some v8) (h9 : W.cell? ⟨a'.block, a'.off + 9, none⟩ = some v9) (h10 : W.cell? ⟨a'.block, a'.off + 10, none⟩ = some v10) (h11 : W.cell? ⟨a'.block, a'.off + 11, none⟩ = some v11) (h12 : W.cell? ⟨a'.block, a'.off + 12, none⟩ = some v12) (h13 : W.cell? ⟨a'.block, a'.off + 13, none⟩ = some v13) (h14 : W.cell? ⟨a'.block, a'.off + 14, none⟩ = some v14) (h15 : W.cell? ⟨a'.block, a'.off + 15, none⟩ = some v15) (h16 : W.cell? ⟨a'.block, a'.off + 16, none⟩ = some v16) (h17 : W.cell? ⟨a'.block, a'.off + 17, none⟩ = some v17) (h18 : W.cell? ⟨a'.block, a'.off + 18, none⟩ = some v18) (h19 : W.cell? ⟨a'.block, a'.off + 19, none⟩ = some v19) (h20 : W.cell? ⟨a'.block, a'.off + 20, none⟩ = some v20) (h21 : W.cell? ⟨a'.block, a'.off + 21, none⟩ = some v21) (h22 : W.cell? ⟨a'.block, a'.off + 22, none⟩ = some v22) (h23 : W.cell? ⟨a'.block, a'.off + 23, none⟩ = some v23) (h24 : W.cell? ⟨a'.block, a'.off + 24, none⟩ = some v24) (h25 : W.cell? ⟨a'.block, a'.off + 25, none⟩ = some v25) (h26 : W.cell? ⟨a'.block, a'.off + 26, none⟩ = some v26) (h27 : W.cell? ⟨a'.block, a'.off + 27, none⟩ = some v27) (h28 : W.cell? ⟨a'.block, a'.off + 28, none⟩ = some v28) (h29 : W.cell? ⟨a'.block, a'.off + 29, none⟩ = some v29) (h30 : W.cell? ⟨a'.block, a'.off + 30, none⟩ = some v30) (h31 : W.cell? ⟨a'.block, a'.off + 31, none⟩ = some v31)
    (h : wpList Try.prog ops Q rest (a.put o.dst (.agg #[v0, v1, v2, v3, v4, v5, v6, v7, v8, v9, v10, v11, v12, v13, v14, v15, v16, v17, v18, v19, v20, v21, v22, v23, v24, v25, v26, v27, v28, v29, v30, v31])) W) : wpList Try.prog ops Q (o :: rest) a W :=
  load_event hgd ho he Try.underlying68 rfl size68 h0 (r := [v1, v2, v3, v4, v5, v6, v7, v8, v9, v10, v11, v12, v13, v14, v15, v16, v17, v18, v19, v20, v21, v22, v23, v24, v25, v26, v27, v28, v29, v30, v31]) ⟨h1, h2, h3, h4, h5, h6, h7, h8, h9, h10, h11, h12, h13, h14, h15, h16, h17, h18, h19, h20, h21, h22, h23, h24, h25, h26, h27, h28, h29, h30, h31, trivial⟩ h
theorem load68_box {ops : Array Oper} {rest : List Oper} {o : Oper} {a : Act} {Q : Exit → Act → World → Prop} {W : World} {x : Operand} {g : Nat} {v0 v1 v2 v3 v4 v5 v6 v7 v8 v9 v10 v11 v12 v13 v14 v15 v16 v17 v18 v19 v20 v21 v22 v23 v24 v25 v26 v27 v28 v29 v30 v31 : Value} (ho : o.op = .load 68 x) (hgd : o.guard = none) (he : a.eval x = .pointer (some ⟨g, 0, none⟩))
    (h0 : W.cell? ⟨g, 0, none⟩ = some v0) (h1 : W.cell? ⟨g, 1, none⟩ = some v1) (h2 : W.cell? ⟨g, 2, none⟩ = some v2) (h3 : W.cell? ⟨g, 3, none⟩ = some v3) (h4 : W.cell? ⟨g, 4, none⟩ = some v4) (h5 : W.cell? ⟨g, 5, none⟩ = some v5) (h6 : W.cell? ⟨g, 6, none⟩ = some v6) (h7 : W.cell? ⟨g, 7, none⟩ = some v7) (h8 : W.cell? ⟨g, 8, none⟩ = some v8) (h9 : W.cell? ⟨g, 9, none⟩ = some v9) (h10 : W.cell? ⟨g, 10, none⟩ = some v10) (h11 : W.cell? ⟨g, 11, none⟩ = some v11) (h12 : W.cell? ⟨g, 12, none⟩ = some v12) (h13 : W.cell? ⟨g, 13, none⟩ = some v13) (h14 : W.cell? ⟨g, 14, none⟩ = some v14) (h15 : W.cell? ⟨g, 15, none⟩ = some v15) (h16 : W.cell? ⟨g, 16, none⟩ = some v16) (h17 : W.cell? ⟨g, 17, none⟩ = some v17) (h18 : W.cell? ⟨g, 18, none⟩ = some v18) (h19 : W.cell? ⟨g, 19, none⟩ = some v19) (h20 : W.cell? ⟨g, 20, none⟩ = some v20) (h21 : W.cell? ⟨g, 21, none⟩ = some v21) (h22 : W.cell? ⟨g, 22, none⟩ = some v22) (h23 : W.cell? ⟨g, 23, none⟩ = some v23) (h24 : W.cell? ⟨g, 24, none⟩ = some v24) (h25 : W.cell? ⟨g, 25, none⟩ = some v25) (h26 : W.cell? ⟨g, 26, none⟩ = some v26) (h27 : W.cell? ⟨g, 27, none⟩ = some v27) (h28 : W.cell? ⟨g, 28, none⟩ = some v28) (h29 : W.cell? ⟨g, 29, none⟩ = some v29) (h30 : W.cell? ⟨g, 30, none⟩ = some v30) (h31 : W.cell? ⟨g, 31, none⟩ = some v31)
    (h : wpList Try.prog ops Q rest (a.put o.dst (.agg #[v0, v1, v2, v3, v4, v5, v6, v7, v8, v9, v10, v11, v12, v13, v14, v15, v16, v17, v18, v19, v20, v21, v22, v23, v24, v25, v26, v27, v28, v29, v30, v31])) W) : wpList Try.prog ops Q (o :: rest) a W :=
  load_event hgd ho he Try.underlying68 rfl size68 h0 (r := [v1, v2, v3, v4, v5, v6, v7, v8, v9, v10, v11, v12, v13, v14, v15, v16, v17, v18, v19, v20, v21, v22, v23, v24, v25, v26, v27, v28, v29, v30, v31]) ⟨(by rw [Nat.zero_add]; exact h1), (by rw [Nat.zero_add]; exact h2), (by rw [Nat.zero_add]; exact h3), (by rw [Nat.zero_add]; exact h4), (by rw [Nat.zero_add]; exact h5), (by rw [Nat.zero_add]; exact h6), (by rw [Nat.zero_add]; exact h7), (by rw [Nat.zero_add]; exact h8), (by rw [Nat.zero_add]; exact h9), (by rw [Nat.zero_add]; exact h10), (by rw [Nat.zero_add]; exact h11), (by rw [Nat.zero_add]; exact h12), (by rw [Nat.zero_add]; exact h13), (by rw [Nat.zero_add]; exact h14), (by rw [Nat.zero_add]; exact h15), (by rw [Nat.zero_add]; exact h16), (by rw [Nat.zero_add]; exact h17), (by rw [Nat.zero_add]; exact h18), (by rw [Nat.zero_add]; exact h19), (by rw [Nat.zero_add]; exact h20), (by rw [Nat.zero_add]; exact h21), (by rw [Nat.zero_add]; exact h22), (by rw [Nat.zero_add]; exact h23), (by rw [Nat.zero_add]; exact h24), (by rw [Nat.zero_add]; exact h25), (by rw [Nat.zero_add]; exact h26), (by rw [Nat.zero_add]; exact h27), (by rw [Nat.zero_add]; exact h28), (by rw [Nat.zero_add]; exact h29), (by rw [Nat.zero_add]; exact h30), (by rw [Nat.zero_add]; exact h31), trivial⟩ h
theorem eqA31 (d : Nat) (w : World) (x0 y0 : ByteArray) (x1 y1 : ByteArray) :
    (Op.equalIn (d + 2) 31 (.agg #[.string x0, .string x1]) (.agg #[.string y0, .string y1])).run Try.prog w = .ok (x0.toList == y0.toList && (x1.toList == y1.toList)) w := by
  refine eqA_of Try.underlying31 (by kernel_rfl) ?_
  refine eqf_cons (by rfl) (by go_simp; rfl) (by go_simp; rfl) (by go_simp) ?_
  exact eqf_last (by rfl) (by go_simp; rfl) (by go_simp; rfl) (by go_simp)
theorem eqA64 (d : Nat) (w : World) (x0 y0 : Int) (x1 y1 : Int) :
    (Op.equalIn (d + 2) 64 (.agg #[.int .i64 x0, .int .i64 x1]) (.agg #[.int .i64 y0, .int .i64 y1])).run Try.prog w = .ok (x0 == y0 && (x1 == y1)) w := by
  refine eqA_of Try.underlying64 (by kernel_rfl) ?_
  refine eqf_cons (by rfl) (by go_simp; rfl) (by go_simp; rfl) (by go_simp) ?_
  exact eqf_last (by rfl) (by go_simp; rfl) (by go_simp; rfl) (by go_simp)
structure S31 where
  f0 : ByteArray
  f1 : ByteArray
def z31 : S31 := ⟨(⟨#[]⟩ : ByteArray), (⟨#[]⟩ : ByteArray)⟩
def k31 : Kd S31 := Kd.iso (Kd.pair Kd.string Kd.string) (fun x : S31 => (x.f0, x.f1))
theorem k31_open {w : World} {x : S31} {cs : List Value} (h : k31.K w x cs) : cs = [.string x.f0, .string x.f1] := by
  obtain ⟨_, _, rfl, rfl, rfl⟩ := h
  exact rfl
theorem k31_mkM (w : World) (base : Nat) (ok : Nat → Prop) (x : S31)  : k31.M w base ok x [.string x.f0, .string x.f1] := ⟨[.string x.f0], [.string x.f1], rfl, rfl, rfl⟩
def rd_T31 (xs : List S31) (i : Int) : S31 := xs.getD i.toNat z31
theorem at_T31 {w : World} {A : Option Addr} {n : Nat} {xs : List S31} (h : Kd.C k31 w A n xs) (i : Int) (h0 : 0 ≤ i) (h1 : i < n) : ∃ ad , A = some ad ∧ w.cell? (ad.add (i.toNat * 2)) = some (.string (rd_T31 xs i).f0) ∧ w.cell? ⟨(ad.add (i.toNat * 2)).block, (ad.add (i.toNat * 2)).off + 1, none⟩ = some (.string (rd_T31 xs i).f1) := by
  obtain ⟨ad, c, e, _, hK, hc0⟩ := Kd.C_get h z31 i h0 h1
  have hc : ∀ j u, c[j]? = some u → w.cell? (ad.add (i.toNat * 2 + j)) = some u := hc0
  obtain rfl := k31_open hK
  exact ⟨ad, e, hc 0 _ rfl, by rw [← add_field _ _ 1 (by omega)]; exact hc 1 _ rfl⟩
structure S64 where
  f0 : Int
  f1 : Int
def z64 : S64 := ⟨(0 : Int), (0 : Int)⟩
def k64 : Kd S64 := Kd.iso (Kd.pair (Kd.int .i64) (Kd.int .i64)) (fun x : S64 => (x.f0, x.f1))
theorem k64_open {w : World} {x : S64} {cs : List Value} (h : k64.K w x cs) : cs = [.int .i64 x.f0, .int .i64 x.f1] := by
  obtain ⟨_, _, rfl, rfl, rfl⟩ := h
  exact rfl
theorem k64_mk (w : World) (x : S64)  : k64.K w x [.int .i64 x.f0, .int .i64 x.f1] := ⟨[.int .i64 x.f0], [.int .i64 x.f1], rfl, rfl, rfl⟩
structure S68 where
  f0 : Int
  f1 : ByteArray
  f2 : Int
  f3 : Int
  f4 : (List S31)
  f5 : S64
  f6 : Bool
  f7 : Bool
  f8 : Bool
  f9 : Int
  f10 : ByteArray
  f11 : ByteArray
  f12 : ByteArray
  f13 : Int
  f14 : Bool
  f15 : Bool
  f16 : S64
  f17 : ByteArray
  f18 : Int
  f19 : Int
  f20 : Int
  f21 : Int
  f22 : Int
  f23 : Bool
  f24 : Int
  f25 : (List S31)
  f26 : Int
  f27 : ByteArray
  f28 : Int
  f29 : Int
def z68 : S68 := ⟨(0 : Int), (⟨#[]⟩ : ByteArray), (0 : Int), (0 : Int), ([] : List S31), z64, false, false, false, (0 : Int), (⟨#[]⟩ : ByteArray), (⟨#[]⟩ : ByteArray), (⟨#[]⟩ : ByteArray), (0 : Int), false, false, z64, (⟨#[]⟩ : ByteArray), (0 : Int), (0 : Int), (0 : Int), (0 : Int), (0 : Int), false, (0 : Int), ([] : List S31), (0 : Int), (⟨#[]⟩ : ByteArray), (0 : Int), (0 : Int)⟩
def k68 : Kd S68 := Kd.iso (Kd.pair (Kd.int .i64) (Kd.pair Kd.string (Kd.pair (Kd.int .i64) (Kd.pair (Kd.int .i64) (Kd.pair (Kd.slice 31 k31) (Kd.pair k64 (Kd.pair Kd.bool (Kd.pair Kd.bool (Kd.pair Kd.bool (Kd.pair (Kd.int .i64) (Kd.pair Kd.string (Kd.pair Kd.string (Kd.pair Kd.string (Kd.pair (Kd.int .i64) (Kd.pair Kd.bool (Kd.pair Kd.bool (Kd.pair k64 (Kd.pair Kd.string (Kd.pair (Kd.int .i64) (Kd.pair (Kd.int .i64) (Kd.pair (Kd.int .i64) (Kd.pair (Kd.int .i64) (Kd.pair (Kd.int .i64) (Kd.pair Kd.bool (Kd.pair (Kd.int .u64) (Kd.pair (Kd.slice 31 k31) (Kd.pair (Kd.int .i64) (Kd.pair Kd.string (Kd.pair (Kd.int .i64) (Kd.int .i64)))))))))))))))))))))))))))))) (fun x : S68 => (x.f0, x.f1, x.f2, x.f3, x.f4, x.f5, x.f6, x.f7, x.f8, x.f9, x.f10, x.f11, x.f12, x.f13, x.f14, x.f15, x.f16, x.f17, x.f18, x.f19, x.f20, x.f21, x.f22, x.f23, x.f24, x.f25, x.f26, x.f27, x.f28, x.f29))
theorem k68_open {w : World} {x : S68} {cs : List Value} (h : k68.K w x cs) : ∃ A4 c4 A27 c27, cs = [.int .i64 x.f0, .string x.f1, .int .i64 x.f2, .int .i64 x.f3, .slice A4 x.f4.length c4, .int .i64 x.f5.f0, .int .i64 x.f5.f1, .bool x.f6, .bool x.f7, .bool x.f8, .int .i64 x.f9, .string x.f10, .string x.f11, .string x.f12, .int .i64 x.f13, .bool x.f14, .bool x.f15, .int .i64 x.f16.f0, .int .i64 x.f16.f1, .string x.f17, .int .i64 x.f18, .int .i64 x.f19, .int .i64 x.f20, .int .i64 x.f21, .int .i64 x.f22, .bool x.f23, .int .u64 x.f24, .slice A27 x.f25.length c27, .int .i64 x.f26, .string x.f27, .int .i64 x.f28, .int .i64 x.f29] ∧ x.f4.length ≤ c4 ∧ k31.C w A4 x.f4.length x.f4 ∧ x.f25.length ≤ c27 ∧ k31.C w A27 x.f25.length x.f25 := by
  obtain ⟨_, _, rfl, rfl, ⟨_, _, rfl, rfl, ⟨_, _, rfl, rfl, ⟨_, _, rfl, rfl, ⟨_, _, rfl, ⟨A4, c4, rfl, l4, g4⟩, ⟨_, _, rfl, s5, ⟨_, _, rfl, rfl, ⟨_, _, rfl, rfl, ⟨_, _, rfl, rfl, ⟨_, _, rfl, rfl, ⟨_, _, rfl, rfl, ⟨_, _, rfl, rfl, ⟨_, _, rfl, rfl, ⟨_, _, rfl, rfl, ⟨_, _, rfl, rfl, ⟨_, _, rfl, rfl, ⟨_, _, rfl, s17, ⟨_, _, rfl, rfl, ⟨_, _, rfl, rfl, ⟨_, _, rfl, rfl, ⟨_, _, rfl, rfl, ⟨_, _, rfl, rfl, ⟨_, _, rfl, rfl, ⟨_, _, rfl, rfl, ⟨_, _, rfl, rfl, ⟨_, _, rfl, ⟨A27, c27, rfl, l27, g27⟩, ⟨_, _, rfl, rfl, ⟨_, _, rfl, rfl, ⟨_, _, rfl, rfl, rfl⟩⟩⟩⟩⟩⟩⟩⟩⟩⟩⟩⟩⟩⟩⟩⟩⟩⟩⟩⟩⟩⟩⟩⟩⟩⟩⟩⟩⟩ := h
  obtain rfl := k64_open s5
  obtain rfl := k64_open s17
  exact ⟨A4, c4, A27, c27, rfl, l4, g4, l27, g27⟩
theorem k68_mk (w : World) (x : S68) {A4 : Option Addr} {c4 : Nat} (l4 : x.f4.length ≤ c4) (g4 : k31.C w A4 x.f4.length x.f4) {A27 : Option Addr} {c27 : Nat} (l27 : x.f25.length ≤ c27) (g27 : k31.C w A27 x.f25.length x.f25) : k68.K w x [.int .i64 x.f0, .string x.f1, .int .i64 x.f2, .int .i64 x.f3, .slice A4 x.f4.length c4, .int .i64 x.f5.f0, .int .i64 x.f5.f1, .bool x.f6, .bool x.f7, .bool x.f8, .int .i64 x.f9, .string x.f10, .string x.f11, .string x.f12, .int .i64 x.f13, .bool x.f14, .bool x.f15, .int .i64 x.f16.f0, .int .i64 x.f16.f1, .string x.f17, .int .i64 x.f18, .int .i64 x.f19, .int .i64 x.f20, .int .i64 x.f21, .int .i64 x.f22, .bool x.f23, .int .u64 x.f24, .slice A27 x.f25.length c27, .int .i64 x.f26, .string x.f27, .int .i64 x.f28, .int .i64 x.f29] := ⟨[.int .i64 x.f0], [.string x.f1, .int .i64 x.f2, .int .i64 x.f3, .slice A4 x.f4.length c4, .int .i64 x.f5.f0, .int .i64 x.f5.f1, .bool x.f6, .bool x.f7, .bool x.f8, .int .i64 x.f9, .string x.f10, .string x.f11, .string x.f12, .int .i64 x.f13, .bool x.f14, .bool x.f15, .int .i64 x.f16.f0, .int .i64 x.f16.f1, .string x.f17, .int .i64 x.f18, .int .i64 x.f19, .int .i64 x.f20, .int .i64 x.f21, .int .i64 x.f22, .bool x.f23, .int .u64 x.f24, .slice A27 x.f25.length c27, .int .i64 x.f26, .string x.f27, .int .i64 x.f28, .int .i64 x.f29], rfl, rfl, ⟨[.string x.f1], [.int .i64 x.f2, .int .i64 x.f3, .slice A4 x.f4.length c4, .int .i64 x.f5.f0, .int .i64 x.f5.f1, .bool x.f6, .bool x.f7, .bool x.f8, .int .i64 x.f9, .string x.f10, .string x.f11, .string x.f12, .int .i64 x.f13, .bool x.f14, .bool x.f15, .int .i64 x.f16.f0, .int .i64 x.f16.f1, .string x.f17, .int .i64 x.f18, .int .i64 x.f19, .int .i64 x.f20, .int .i64 x.f21, .int .i64 x.f22, .bool x.f23, .int .u64 x.f24, .slice A27 x.f25.length c27, .int .i64 x.f26, .string x.f27, .int .i64 x.f28, .int .i64 x.f29], rfl, rfl, ⟨[.int .i64 x.f2], [.int .i64 x.f3, .slice A4 x.f4.length c4, .int .i64 x.f5.f0, .int .i64 x.f5.f1, .bool x.f6, .bool x.f7, .bool x.f8, .int .i64 x.f9, .string x.f10, .string x.f11, .string x.f12, .int .i64 x.f13, .bool x.f14, .bool x.f15, .int .i64 x.f16.f0, .int .i64 x.f16.f1, .string x.f17, .int .i64 x.f18, .int .i64 x.f19, .int .i64 x.f20, .int .i64 x.f21, .int .i64 x.f22, .bool x.f23, .int .u64 x.f24, .slice A27 x.f25.length c27, .int .i64 x.f26, .string x.f27, .int .i64 x.f28, .int .i64 x.f29], rfl, rfl, ⟨[.int .i64 x.f3], [.slice A4 x.f4.length c4, .int .i64 x.f5.f0, .int .i64 x.f5.f1, .bool x.f6, .bool x.f7, .bool x.f8, .int .i64 x.f9, .string x.f10, .string x.f11, .string x.f12, .int .i64 x.f13, .bool x.f14, .bool x.f15, .int .i64 x.f16.f0, .int .i64 x.f16.f1, .string x.f17, .int .i64 x.f18, .int .i64 x.f19, .int .i64 x.f20, .int .i64 x.f21, .int .i64 x.f22, .bool x.f23, .int .u64 x.f24, .slice A27 x.f25.length c27, .int .i64 x.f26, .string x.f27, .int .i64 x.f28, .int .i64 x.f29], rfl, rfl, ⟨[.slice A4 x.f4.length c4], [.int .i64 x.f5.f0, .int .i64 x.f5.f1, .bool x.f6, .bool x.f7, .bool x.f8, .int .i64 x.f9, .string x.f10, .string x.f11, .string x.f12, .int .i64 x.f13, .bool x.f14, .bool x.f15, .int .i64 x.f16.f0, .int .i64 x.f16.f1, .string x.f17, .int .i64 x.f18, .int .i64 x.f19, .int .i64 x.f20, .int .i64 x.f21, .int .i64 x.f22, .bool x.f23, .int .u64 x.f24, .slice A27 x.f25.length c27, .int .i64 x.f26, .string x.f27, .int .i64 x.f28, .int .i64 x.f29], rfl, ⟨A4, c4, rfl, l4, g4⟩, ⟨[.int .i64 x.f5.f0, .int .i64 x.f5.f1], [.bool x.f6, .bool x.f7, .bool x.f8, .int .i64 x.f9, .string x.f10, .string x.f11, .string x.f12, .int .i64 x.f13, .bool x.f14, .bool x.f15, .int .i64 x.f16.f0, .int .i64 x.f16.f1, .string x.f17, .int .i64 x.f18, .int .i64 x.f19, .int .i64 x.f20, .int .i64 x.f21, .int .i64 x.f22, .bool x.f23, .int .u64 x.f24, .slice A27 x.f25.length c27, .int .i64 x.f26, .string x.f27, .int .i64 x.f28, .int .i64 x.f29], rfl, (k64_mk w x.f5 ), ⟨[.bool x.f6], [.bool x.f7, .bool x.f8, .int .i64 x.f9, .string x.f10, .string x.f11, .string x.f12, .int .i64 x.f13, .bool x.f14, .bool x.f15, .int .i64 x.f16.f0, .int .i64 x.f16.f1, .string x.f17, .int .i64 x.f18, .int .i64 x.f19, .int .i64 x.f20, .int .i64 x.f21, .int .i64 x.f22, .bool x.f23, .int .u64 x.f24, .slice A27 x.f25.length c27, .int .i64 x.f26, .string x.f27, .int .i64 x.f28, .int .i64 x.f29], rfl, rfl, ⟨[.bool x.f7], [.bool x.f8, .int .i64 x.f9, .string x.f10, .string x.f11, .string x.f12, .int .i64 x.f13, .bool x.f14, .bool x.f15, .int .i64 x.f16.f0, .int .i64 x.f16.f1, .string x.f17, .int .i64 x.f18, .int .i64 x.f19, .int .i64 x.f20, .int .i64 x.f21, .int .i64 x.f22, .bool x.f23, .int .u64 x.f24, .slice A27 x.f25.length c27, .int .i64 x.f26, .string x.f27, .int .i64 x.f28, .int .i64 x.f29], rfl, rfl, ⟨[.bool x.f8], [.int .i64 x.f9, .string x.f10, .string x.f11, .string x.f12, .int .i64 x.f13, .bool x.f14, .bool x.f15, .int .i64 x.f16.f0, .int .i64 x.f16.f1, .string x.f17, .int .i64 x.f18, .int .i64 x.f19, .int .i64 x.f20, .int .i64 x.f21, .int .i64 x.f22, .bool x.f23, .int .u64 x.f24, .slice A27 x.f25.length c27, .int .i64 x.f26, .string x.f27, .int .i64 x.f28, .int .i64 x.f29], rfl, rfl, ⟨[.int .i64 x.f9], [.string x.f10, .string x.f11, .string x.f12, .int .i64 x.f13, .bool x.f14, .bool x.f15, .int .i64 x.f16.f0, .int .i64 x.f16.f1, .string x.f17, .int .i64 x.f18, .int .i64 x.f19, .int .i64 x.f20, .int .i64 x.f21, .int .i64 x.f22, .bool x.f23, .int .u64 x.f24, .slice A27 x.f25.length c27, .int .i64 x.f26, .string x.f27, .int .i64 x.f28, .int .i64 x.f29], rfl, rfl, ⟨[.string x.f10], [.string x.f11, .string x.f12, .int .i64 x.f13, .bool x.f14, .bool x.f15, .int .i64 x.f16.f0, .int .i64 x.f16.f1, .string x.f17, .int .i64 x.f18, .int .i64 x.f19, .int .i64 x.f20, .int .i64 x.f21, .int .i64 x.f22, .bool x.f23, .int .u64 x.f24, .slice A27 x.f25.length c27, .int .i64 x.f26, .string x.f27, .int .i64 x.f28, .int .i64 x.f29], rfl, rfl, ⟨[.string x.f11], [.string x.f12, .int .i64 x.f13, .bool x.f14, .bool x.f15, .int .i64 x.f16.f0, .int .i64 x.f16.f1, .string x.f17, .int .i64 x.f18, .int .i64 x.f19, .int .i64 x.f20, .int .i64 x.f21, .int .i64 x.f22, .bool x.f23, .int .u64 x.f24, .slice A27 x.f25.length c27, .int .i64 x.f26, .string x.f27, .int .i64 x.f28, .int .i64 x.f29], rfl, rfl, ⟨[.string x.f12], [.int .i64 x.f13, .bool x.f14, .bool x.f15, .int .i64 x.f16.f0, .int .i64 x.f16.f1, .string x.f17, .int .i64 x.f18, .int .i64 x.f19, .int .i64 x.f20, .int .i64 x.f21, .int .i64 x.f22, .bool x.f23, .int .u64 x.f24, .slice A27 x.f25.length c27, .int .i64 x.f26, .string x.f27, .int .i64 x.f28, .int .i64 x.f29], rfl, rfl, ⟨[.int .i64 x.f13], [.bool x.f14, .bool x.f15, .int .i64 x.f16.f0, .int .i64 x.f16.f1, .string x.f17, .int .i64 x.f18, .int .i64 x.f19, .int .i64 x.f20, .int .i64 x.f21, .int .i64 x.f22, .bool x.f23, .int .u64 x.f24, .slice A27 x.f25.length c27, .int .i64 x.f26, .string x.f27, .int .i64 x.f28, .int .i64 x.f29], rfl, rfl, ⟨[.bool x.f14], [.bool x.f15, .int .i64 x.f16.f0, .int .i64 x.f16.f1, .string x.f17, .int .i64 x.f18, .int .i64 x.f19, .int .i64 x.f20, .int .i64 x.f21, .int .i64 x.f22, .bool x.f23, .int .u64 x.f24, .slice A27 x.f25.length c27, .int .i64 x.f26, .string x.f27, .int .i64 x.f28, .int .i64 x.f29], rfl, rfl, ⟨[.bool x.f15], [.int .i64 x.f16.f0, .int .i64 x.f16.f1, .string x.f17, .int .i64 x.f18, .int .i64 x.f19, .int .i64 x.f20, .int .i64 x.f21, .int .i64 x.f22, .bool x.f23, .int .u64 x.f24, .slice A27 x.f25.length c27, .int .i64 x.f26, .string x.f27, .int .i64 x.f28, .int .i64 x.f29], rfl, rfl, ⟨[.int .i64 x.f16.f0, .int .i64 x.f16.f1], [.string x.f17, .int .i64 x.f18, .int .i64 x.f19, .int .i64 x.f20, .int .i64 x.f21, .int .i64 x.f22, .bool x.f23, .int .u64 x.f24, .slice A27 x.f25.length c27, .int .i64 x.f26, .string x.f27, .int .i64 x.f28, .int .i64 x.f29], rfl, (k64_mk w x.f16 ), ⟨[.string x.f17], [.int .i64 x.f18, .int .i64 x.f19, .int .i64 x.f20, .int .i64 x.f21, .int .i64 x.f22, .bool x.f23, .int .u64 x.f24, .slice A27 x.f25.length c27, .int .i64 x.f26, .string x.f27, .int .i64 x.f28, .int .i64 x.f29], rfl, rfl, ⟨[.int .i64 x.f18], [.int .i64 x.f19, .int .i64 x.f20, .int .i64 x.f21, .int .i64 x.f22, .bool x.f23, .int .u64 x.f24, .slice A27 x.f25.length c27, .int .i64 x.f26, .string x.f27, .int .i64 x.f28, .int .i64 x.f29], rfl, rfl, ⟨[.int .i64 x.f19], [.int .i64 x.f20, .int .i64 x.f21, .int .i64 x.f22, .bool x.f23, .int .u64 x.f24, .slice A27 x.f25.length c27, .int .i64 x.f26, .string x.f27, .int .i64 x.f28, .int .i64 x.f29], rfl, rfl, ⟨[.int .i64 x.f20], [.int .i64 x.f21, .int .i64 x.f22, .bool x.f23, .int .u64 x.f24, .slice A27 x.f25.length c27, .int .i64 x.f26, .string x.f27, .int .i64 x.f28, .int .i64 x.f29], rfl, rfl, ⟨[.int .i64 x.f21], [.int .i64 x.f22, .bool x.f23, .int .u64 x.f24, .slice A27 x.f25.length c27, .int .i64 x.f26, .string x.f27, .int .i64 x.f28, .int .i64 x.f29], rfl, rfl, ⟨[.int .i64 x.f22], [.bool x.f23, .int .u64 x.f24, .slice A27 x.f25.length c27, .int .i64 x.f26, .string x.f27, .int .i64 x.f28, .int .i64 x.f29], rfl, rfl, ⟨[.bool x.f23], [.int .u64 x.f24, .slice A27 x.f25.length c27, .int .i64 x.f26, .string x.f27, .int .i64 x.f28, .int .i64 x.f29], rfl, rfl, ⟨[.int .u64 x.f24], [.slice A27 x.f25.length c27, .int .i64 x.f26, .string x.f27, .int .i64 x.f28, .int .i64 x.f29], rfl, rfl, ⟨[.slice A27 x.f25.length c27], [.int .i64 x.f26, .string x.f27, .int .i64 x.f28, .int .i64 x.f29], rfl, ⟨A27, c27, rfl, l27, g27⟩, ⟨[.int .i64 x.f26], [.string x.f27, .int .i64 x.f28, .int .i64 x.f29], rfl, rfl, ⟨[.string x.f27], [.int .i64 x.f28, .int .i64 x.f29], rfl, rfl, ⟨[.int .i64 x.f28], [.int .i64 x.f29], rfl, rfl, rfl⟩⟩⟩⟩⟩⟩⟩⟩⟩⟩⟩⟩⟩⟩⟩⟩⟩⟩⟩⟩⟩⟩⟩⟩⟩⟩⟩⟩⟩
def rd_T68 (xs : List S68) (i : Int) : S68 := xs.getD i.toNat z68
theorem at_T68 {w : World} {A : Option Addr} {n : Nat} {xs : List S68} (h : Kd.C k68 w A n xs) (i : Int) (h0 : 0 ≤ i) (h1 : i < n) : ∃ ad A4 c4 A27 c27, A = some ad ∧ w.cell? (ad.add (i.toNat * 32)) = some (.int .i64 (rd_T68 xs i).f0) ∧ w.cell? ⟨(ad.add (i.toNat * 32)).block, (ad.add (i.toNat * 32)).off + 1, none⟩ = some (.string (rd_T68 xs i).f1) ∧ w.cell? ⟨(ad.add (i.toNat * 32)).block, (ad.add (i.toNat * 32)).off + 2, none⟩ = some (.int .i64 (rd_T68 xs i).f2) ∧ w.cell? ⟨(ad.add (i.toNat * 32)).block, (ad.add (i.toNat * 32)).off + 3, none⟩ = some (.int .i64 (rd_T68 xs i).f3) ∧ w.cell? ⟨(ad.add (i.toNat * 32)).block, (ad.add (i.toNat * 32)).off + 4, none⟩ = some (.slice A4 (rd_T68 xs i).f4.length c4) ∧ w.cell? ⟨(ad.add (i.toNat * 32)).block, (ad.add (i.toNat * 32)).off + 5, none⟩ = some (.int .i64 (rd_T68 xs i).f5.f0) ∧ w.cell? ⟨(ad.add (i.toNat * 32)).block, (ad.add (i.toNat * 32)).off + 6, none⟩ = some (.int .i64 (rd_T68 xs i).f5.f1) ∧ w.cell? ⟨(ad.add (i.toNat * 32)).block, (ad.add (i.toNat * 32)).off + 7, none⟩ = some (.bool (rd_T68 xs i).f6) ∧ w.cell? ⟨(ad.add (i.toNat * 32)).block, (ad.add (i.toNat * 32)).off + 8, none⟩ = some (.bool (rd_T68 xs i).f7) ∧ w.cell? ⟨(ad.add (i.toNat * 32)).block, (ad.add (i.toNat * 32)).off + 9, none⟩ = some (.bool (rd_T68 xs i).f8) ∧ w.cell? ⟨(ad.add (i.toNat * 32)).block, (ad.add (i.toNat * 32)).off + 10, none⟩ = some (.int .i64 (rd_T68 xs i).f9) ∧ w.cell? ⟨(ad.add (i.toNat * 32)).block, (ad.add (i.toNat * 32)).off + 11, none⟩ = some (.string (rd_T68 xs i).f10) ∧ w.cell? ⟨(ad.add (i.toNat * 32)).block, (ad.add (i.toNat * 32)).off + 12, none⟩ = some (.string (rd_T68 xs i).f11) ∧ w.cell? ⟨(ad.add (i.toNat * 32)).block, (ad.add (i.toNat * 32)).off + 13, none⟩ = some (.string (rd_T68 xs i).f12) ∧ w.cell? ⟨(ad.add (i.toNat * 32)).block, (ad.add (i.toNat * 32)).off + 14, none⟩ = some (.int .i64 (rd_T68 xs i).f13) ∧ w.cell? ⟨(ad.add (i.toNat * 32)).block, (ad.add (i.toNat * 32)).off + 15, none⟩ = some (.bool (rd_T68 xs i).f14) ∧ w.cell? ⟨(ad.add (i.toNat * 32)).block, (ad.add (i.toNat * 32)).off + 16, none⟩ = some (.bool (rd_T68 xs i).f15) ∧ w.cell? ⟨(ad.add (i.toNat * 32)).block, (ad.add (i.toNat * 32)).off + 17, none⟩ = some (.int .i64 (rd_T68 xs i).f16.f0) ∧ w.cell? ⟨(ad.add (i.toNat * 32)).block, (ad.add (i.toNat * 32)).off + 18, none⟩ = some (.int .i64 (rd_T68 xs i).f16.f1) ∧ w.cell? ⟨(ad.add (i.toNat * 32)).block, (ad.add (i.toNat * 32)).off + 19, none⟩ = some (.string (rd_T68 xs i).f17) ∧ w.cell? ⟨(ad.add (i.toNat * 32)).block, (ad.add (i.toNat * 32)).off + 20, none⟩ = some (.int .i64 (rd_T68 xs i).f18) ∧ w.cell? ⟨(ad.add (i.toNat * 32)).block, (ad.add (i.toNat * 32)).off + 21, none⟩ = some (.int .i64 (rd_T68 xs i).f19) ∧ w.cell? ⟨(ad.add (i.toNat * 32)).block, (ad.add (i.toNat * 32)).off + 22, none⟩ = some (.int .i64 (rd_T68 xs i).f20) ∧ w.cell? ⟨(ad.add (i.toNat * 32)).block, (ad.add (i.toNat * 32)).off + 23, none⟩ = some (.int .i64 (rd_T68 xs i).f21) ∧ w.cell? ⟨(ad.add (i.toNat * 32)).block, (ad.add (i.toNat * 32)).off + 24, none⟩ = some (.int .i64 (rd_T68 xs i).f22) ∧ w.cell? ⟨(ad.add (i.toNat * 32)).block, (ad.add (i.toNat * 32)).off + 25, none⟩ = some (.bool (rd_T68 xs i).f23) ∧ w.cell? ⟨(ad.add (i.toNat * 32)).block, (ad.add (i.toNat * 32)).off + 26, none⟩ = some (.int .u64 (rd_T68 xs i).f24) ∧ w.cell? ⟨(ad.add (i.toNat * 32)).block, (ad.add (i.toNat * 32)).off + 27, none⟩ = some (.slice A27 (rd_T68 xs i).f25.length c27) ∧ w.cell? ⟨(ad.add (i.toNat * 32)).block, (ad.add (i.toNat * 32)).off + 28, none⟩ = some (.int .i64 (rd_T68 xs i).f26) ∧ w.cell? ⟨(ad.add (i.toNat * 32)).block, (ad.add (i.toNat * 32)).off + 29, none⟩ = some (.string (rd_T68 xs i).f27) ∧ w.cell? ⟨(ad.add (i.toNat * 32)).block, (ad.add (i.toNat * 32)).off + 30, none⟩ = some (.int .i64 (rd_T68 xs i).f28) ∧ w.cell? ⟨(ad.add (i.toNat * 32)).block, (ad.add (i.toNat * 32)).off + 31, none⟩ = some (.int .i64 (rd_T68 xs i).f29) ∧ (rd_T68 xs i).f4.length ≤ c4 ∧ k31.C w A4 (rd_T68 xs i).f4.length (rd_T68 xs i).f4 ∧ (rd_T68 xs i).f25.length ≤ c27 ∧ k31.C w A27 (rd_T68 xs i).f25.length (rd_T68 xs i).f25 := by
  obtain ⟨ad, c, e, _, hK, hc0⟩ := Kd.C_get h z68 i h0 h1
  have hc : ∀ j u, c[j]? = some u → w.cell? (ad.add (i.toNat * 32 + j)) = some u := hc0
  obtain ⟨A4, c4, A27, c27, rfl, l4, g4, l27, g27⟩ := k68_open hK
  exact ⟨ad, A4, c4, A27, c27, e, hc 0 _ rfl, by rw [← add_field _ _ 1 (by omega)]; exact hc 1 _ rfl, by rw [← add_field _ _ 2 (by omega)]; exact hc 2 _ rfl, by rw [← add_field _ _ 3 (by omega)]; exact hc 3 _ rfl, by rw [← add_field _ _ 4 (by omega)]; exact hc 4 _ rfl, by rw [← add_field _ _ 5 (by omega)]; exact hc 5 _ rfl, by rw [← add_field _ _ 6 (by omega)]; exact hc 6 _ rfl, by rw [← add_field _ _ 7 (by omega)]; exact hc 7 _ rfl, by rw [← add_field _ _ 8 (by omega)]; exact hc 8 _ rfl, by rw [← add_field _ _ 9 (by omega)]; exact hc 9 _ rfl, by rw [← add_field _ _ 10 (by omega)]; exact hc 10 _ rfl, by rw [← add_field _ _ 11 (by omega)]; exact hc 11 _ rfl, by rw [← add_field _ _ 12 (by omega)]; exact hc 12 _ rfl, by rw [← add_field _ _ 13 (by omega)]; exact hc 13 _ rfl, by rw [← add_field _ _ 14 (by omega)]; exact hc 14 _ rfl, by rw [← add_field _ _ 15 (by omega)]; exact hc 15 _ rfl, by rw [← add_field _ _ 16 (by omega)]; exact hc 16 _ rfl, by rw [← add_field _ _ 17 (by omega)]; exact hc 17 _ rfl, by rw [← add_field _ _ 18 (by omega)]; exact hc 18 _ rfl, by rw [← add_field _ _ 19 (by omega)]; exact hc 19 _ rfl, by rw [← add_field _ _ 20 (by omega)]; exact hc 20 _ rfl, by rw [← add_field _ _ 21 (by omega)]; exact hc 21 _ rfl, by rw [← add_field _ _ 22 (by omega)]; exact hc 22 _ rfl, by rw [← add_field _ _ 23 (by omega)]; exact hc 23 _ rfl, by rw [← add_field _ _ 24 (by omega)]; exact hc 24 _ rfl, by rw [← add_field _ _ 25 (by omega)]; exact hc 25 _ rfl, by rw [← add_field _ _ 26 (by omega)]; exact hc 26 _ rfl, by rw [← add_field _ _ 27 (by omega)]; exact hc 27 _ rfl, by rw [← add_field _ _ 28 (by omega)]; exact hc 28 _ rfl, by rw [← add_field _ _ 29 (by omega)]; exact hc 29 _ rfl, by rw [← add_field _ _ 30 (by omega)]; exact hc 30 _ rfl, by rw [← add_field _ _ 31 (by omega)]; exact hc 31 _ rfl, l4, g4, l27, g27⟩
structure S59 where
  f0 : (List S68)
  f1 : (List S68)
  f2 : (List S68)
  f3 : (List S68)
structure S137 where
  f0 : Int
  f1 : ByteArray
structure S139 where
  f0 : S137
  f1 : Bool
  f2 : S68
structure S82 where
  f0 : Int
  f1 : (List S139)
structure S36 where
  f0 : Int
  f1 : Int
  f2 : Bool
structure S39 where
  f0 : Int
  f1 : Int
structure S154 where
  f0 : Int
  f1 : S68
  f2 : Int
  f3 : ByteArray
  f4 : Int
  f5 : ByteArray
  f6 : Int
  f7 : Bool
  f8 : Int
  f9 : ByteArray
  f10 : Int
end Go.Proofs.Ytamjjeakkkdfhaa.K
end
section
namespace Go.Proofs.YtamjjeakkkdfhaaRF
open Go Go.RowKit
def Keep (S : Nat → Prop) (A B : World) : Prop := A.heap.size ≤ B.heap.size ∧ ∀ k, S k → k < A.heap.size → B.heap[k]? = A.heap[k]?
theorem Keep.refl (S : Nat → Prop) (A : World) : Keep S A A := ⟨Nat.le_refl _, fun _ _ _ => rfl⟩
theorem Keep.trans {S : Nat → Prop} {A B C : World} (h : Keep S A B) (k : Keep S B C) : Keep S A C :=
  ⟨Nat.le_trans h.1 k.1, fun i hi hl => (k.2 i hi (Nat.lt_of_lt_of_le hl h.1)).trans (h.2 i hi hl)⟩
theorem Keep.mono {S S' : Nat → Prop} {A B : World} (h : Keep S A B) (hs : ∀ k, S' k → S k) : Keep S' A B := ⟨h.1, fun k hk hl => h.2 k (hs k hk) hl⟩
theorem Keep.grown {S : Nat → Prop} {A B : World} {row : Option Nat} (hg : A.grownBy B row) (hr : ∀ r, row = some r → ¬ S r) : Keep S A B :=
  ⟨hg.size, fun k hk hl => hg.block k hl (fun e => hr k e.symm hk)⟩
theorem Keep.below {S : Nat → Prop} {A B : World} {n : Nat} (hb : Below n A B) (hs : ∀ k, S k → k < n) : Keep S A B := ⟨hb.size, fun k hk _ => hb.block k (hs k hk)⟩
def Stp (T : Nat → Prop) (A B : World) : Prop := ∃ row, A.grownBy B row ∧ ∀ r, row = some r → T r
def Firm (T : Nat → Prop) (J : World → Prop) : Prop := ∀ A B, J A → Stp T A B → J B
def Its (T : Nat → Prop) (b c k : Nat) : Prop := T k ∨ (b ≤ k ∧ k < b + c)
def IterAt (P : Program) (g : Nat) (lb : Array Value) (rows : List (Array Value)) (S T : Nat → Prop) (c : Nat) (w0 : World) : Prop :=
  ∀ (l : Nat) (J Jx : Nat → World → Prop) (W : World), Keep S w0 W → (∀ i, Firm (Its T W.heap.size c) (J i)) → (∀ i, Firm (Its T W.heap.size c) (Jx i)) →
    (∀ (i : Nat) (W1 : World) (x : Array Value), rows[i]? = some x → J i W1 → W.heap.size + c ≤ W1.heap.size → YieldAt Fence.wide 0 P l x W1 fun e W' =>
      (e = .returned (.bool true) ∧ J (i + 1) W' ∧ Keep (Its S W.heap.size c) W1 W') ∨ (e = .returned (.bool false) ∧ Jx (i + 1) W')) →
    J 0 W → CallsIn Fence.wide 0 P g (#[.func (.yield l) #[] #[]] ++ lb) W fun e W' => (∃ v, e = .returned v) ∧ (J rows.length W' ∨ ∃ i, i ≤ rows.length ∧ Jx i W')
def Books (b : Nat) (W W' : World) : Prop := W.heap.size ≤ W'.heap.size ∧ ∀ k o, (k = b ∨ k = b + 1) → W.heap[k]? = some o → W'.heap[k]? = some o
theorem Books.refl (b : Nat) (W : World) : Books b W W := ⟨Nat.le_refl _, fun _ _ _ h => h⟩
theorem Books.trans {b : Nat} {X Y Z : World} (h : Books b X Y) (k : Books b Y Z) : Books b X Z := ⟨Nat.le_trans h.1 k.1, fun i o hi ho => k.2 i o hi (h.2 i o hi ho)⟩
theorem Books.grown {b : Nat} {A B : World} {row : Option Nat} (hg : A.grownBy B row) (hr : ∀ r, row = some r → r ≠ b ∧ r ≠ b + 1) : Books b A B :=
  ⟨hg.size, fun k o hk ho => (hg.block k (Array.getElem?_eq_some_iff.1 ho).1 (fun e => by have := hr k e.symm; omega)).trans ho⟩
theorem Books.below {b n : Nat} {A B : World} (hb : Below n A B) (hn : b + 1 < n) : Books b A B := ⟨hb.size, fun k o hk ho => (hb.block k (by omega)).trans ho⟩
def roundEnd (b c : Nat) (S : Nat → Prop) (I : Nat → World → Prop) (Ix : Code → Nat → World → Prop) (i : Nat) (W : World) : Exit → Act → World → Prop
  | .normal, _, W' => Books b W W' ∧ Keep (Its S (b + 2) c) W W' ∧ I i W'
  | .ret, _, W' => Books b W W' ∧ Ix .ret i W'
  | .exit id, _, W' => Books b W W' ∧ Ix (.exit id) i W'
  | .goto t, _, W' => Books b W W' ∧ Ix (.goto t) i W'
  | .panic _, _, _ => False
  | .outgrown, _, _ => False
theorem firm_putObj {T : Nat → Prop} {J : World → Prop} (h : Firm T J) {W : World} {l : Nat} (o : Obj) (hJ : J W) (hT : T l) : J (W.putObj l o) :=
  h _ _ hJ ⟨some l, grownBy_putObj' W l o, fun r e => by cases e; exact hT⟩
theorem firm_alloc {T : Nat → Prop} {J : World → Prop} (h : Firm T J) {W : World} (o : Obj) (hJ : J W) : J (W.alloc o) :=
  h _ _ hJ ⟨none, World.grownBy_alloc W o none, fun r e => by cases e⟩
variable {P : Program} {FR : Option Nat}
theorem wpIn_range {g : Operand} {ps : Array Tmp} {assign body : Code} {Q : Exit → Act → World → Prop} {a : Act} {w : World}
    {gf : Nat} {lb : Array Value} (hg : a.eval g = .func (.func gf) #[] lb) (eg : ∀ args w, (callFunc gf args).run P w = .ok (.enter gf args) w)
    {rows : List (Array Value)} {S T : Nat → Prop} {c : Nat} (it : IterAt P gf lb rows S T c w) (hS : ∀ k, S k → k < w.heap.size) (hT : ∀ k, T k → S k) (hps : ∀ (i : Nat) (x : Array Value), rows[i]? = some x → x.size = ps.size)
    (I : Nat → World → Prop) (Ix : Code → Nat → World → Prop) (Ax : Nat → Act → World → Prop)
    (hI : ∀ i, Firm (Its T w.heap.size (c + 2)) (I i)) (hIx : ∀ cd i, Firm (Its T w.heap.size (c + 2)) (Ix cd i)) (hAx : ∀ i a', Firm (Its T w.heap.size (c + 2)) (Ax i a')) (h0 : I 0 w)
    (hassign : ∀ (l i : Nat) (W : World) (x : Array Value) (K : Act → World → Prop), rows[i]? = some x → I i W → w.heap.size + 2 + c ≤ W.heap.size →
      (∀ a' W', Books w.heap.size W W' → Keep (Its S (w.heap.size + 2) c) W W' → Ax i a' W' → K a' W') →
      assign.wpIn (Fence.wide.inRound l) 0 P (Exit.then K (fun _ _ _ => False)) { tmps := (ps.zip x).foldl (fun t (p, v) => t.setIfInBounds p v) a.tmps, defers := [] } W)
    (hbody : ∀ (l i : Nat) (a' : Act) (W : World), i < rows.length → Ax i a' W → w.heap.size + 2 + c ≤ W.heap.size → body.wpIn (Fence.wide.inRound l) 0 P (roundEnd w.heap.size c S I Ix (i + 1) W) a' W)
    (hdone : ∀ (W : World), I rows.length W → W.heap[w.heap.size]? = some (.deferred (some [])) → w.heap.size + 2 ≤ W.heap.size → Q .normal { a with defers := { target := .collected w.heap.size, args := #[] } :: a.defers } W)
    (hstop : ∀ (cd : Code) (i : Nat) (W : World), i ≤ rows.length → Ix cd i W → W.heap[w.heap.size]? = some (.deferred (some [])) → w.heap.size + 2 ≤ W.heap.size → cd.wpIn Fence.wide 0 P Q { a with defers := { target := .collected w.heap.size, args := #[] } :: a.defers } W) :
    (Code.rangeFunc g ps assign body).wpIn Fence.wide 0 P Q a w := by
  refine wpIn_rangeFunc ?_
  intro fn hfn
  obtain ⟨rec, hrec⟩ : ∃ rec : LoopState → Option Code → Loop, rec = fun st pe => { state := st, pending := pe, fn, tmps := a.tmps, params := ps, assign, body, defers := w.heap.size } := ⟨_, rfl⟩
  obtain ⟨W1, hW1⟩ : ∃ W1, (w.alloc (.deferred (some []))).alloc (.loop (rec .ready none)) = W1 := ⟨_, rfl⟩
  have hz1 : W1.heap.size = w.heap.size + 2 := by rw [← hW1]; simp
  have hL1 : W1.heap[w.heap.size + 1]? = some (.loop (rec .ready none)) := by
    rw [← hW1]; have := World.alloc_heap_new (w.alloc (.deferred (some []))) (.loop (rec .ready none)); rwa [World.size_alloc] at this
  have hK1 : W1.heap[w.heap.size]? = some (.deferred (some [])) := by
    rw [← hW1]; exact (Below.heap_alloc _ _ _ (by simp)).trans (World.alloc_heap_new w _)
  have hI1 : I 0 W1 := by rw [← hW1]; exact firm_alloc (hI 0) _ (firm_alloc (hI 0) _ h0)
  have hb1 : Below w.heap.size w W1 := by
    rw [← hW1]; exact ((Below.refl _ w).alloc (Nat.le_refl _) _).alloc (by simp) _
  have up : ∀ k, Its T W1.heap.size c k → Its T w.heap.size (c + 2) k := fun k h => by
    rcases h with h | ⟨h1, h2⟩
    · exact .inl h
    · exact .inr ⟨by omega, by omega⟩
  have off : ∀ k, Its T W1.heap.size c k → k ≠ w.heap.size ∧ k ≠ w.heap.size + 1 := fun k h => by
    rcases h with h | ⟨h1, h2⟩
    · have := hS k (hT k h); omega
    · omega
  have upS : ∀ k, Its S (w.heap.size + 2) c k → Its S W1.heap.size c k := fun k h => by rw [hz1]; exact h
  have e1 : Its T w.heap.size (c + 2) (w.heap.size + 1) := .inr ⟨by omega, by omega⟩
  have e0 : Its T w.heap.size (c + 2) w.heap.size := .inr ⟨by omega, by omega⟩
  refine ⟨w.heap.size + 1, [{ target := .collected w.heap.size, args := #[] }], W1, { target := .fn (.func gf) lb, args := #[.func (.yield (w.heap.size + 1)) #[] #[]] }, W1, gf,
    #[.func (.yield (w.heap.size + 1)) #[] #[]] ++ lb, W1, ?_, ?_, ?_, ?_, fun h => by simp [Fence.wide] at h, ?_⟩
  · rw [← hW1, hrec]; exact run_enterLoop_outer _ _ _ _ _
  · simp only [resolve, hg]
    simp [go_sem]
  · intro f' _; trivial
  · simp [invoke, go_sem, eg]
  · refine (it (w.heap.size + 1)
      (fun i W => I i W ∧ W.heap[w.heap.size + 1]? = some (.loop (rec .ready none)) ∧ W.heap[w.heap.size]? = some (.deferred (some [])) ∧ w.heap.size + 2 ≤ W.heap.size)
      (fun i W => ∃ cd, Ix cd i W ∧ W.heap[w.heap.size + 1]? = some (.loop (rec .done (some cd))) ∧ W.heap[w.heap.size]? = some (.deferred (some [])) ∧ w.heap.size + 2 ≤ W.heap.size)
      W1 (Keep.below hb1 hS)
      (fun i A B hs hst => by
        obtain ⟨row, hg', hr⟩ := hst
        have bk := Books.grown (b := w.heap.size) hg' (fun r e => off r (hr r e))
        exact ⟨hI i A B hs.1 ⟨row, hg', fun r e => up r (hr r e)⟩, bk.2 _ _ (.inr rfl) hs.2.1, bk.2 _ _ (.inl rfl) hs.2.2.1, Nat.le_trans hs.2.2.2 hg'.size⟩)
      (fun i A B hs hst => by
        obtain ⟨cd, h1, h2, h3, h4⟩ := hs
        obtain ⟨row, hg', hr⟩ := hst
        have bk := Books.grown (b := w.heap.size) hg' (fun r e => off r (hr r e))
        exact ⟨cd, hIx cd i A B h1 ⟨row, hg', fun r e => up r (hr r e)⟩, bk.2 _ _ (.inr rfl) h2, bk.2 _ _ (.inl rfl) h3, Nat.le_trans h4 hg'.size⟩)
      ?_ ⟨hI1, hL1, hK1, by omega⟩).mono ?_
    ·
      rintro i W x hx ⟨hi, hl, hk, hz⟩ hzc
      have hil : i < rows.length := (List.getElem?_eq_some_iff.1 hx).1
      have hy := run_yield (P := P) (args := x) hl (by rw [hrec]; exact hps i x hx)
      rw [hrec] at hy
      refine ⟨fn, _, assign, body, hy, roundIn_of_wpIn hfn (hassign _ i W x _ hx hi (by omega) ?_)⟩
      clear hy
      intro a' Wa hbk hkp hax
      have hl' := hbk.2 _ _ (.inr rfl) hl
      have hk' := hbk.2 _ _ (.inl rfl) hk
      have hza : w.heap.size + 2 + c ≤ Wa.heap.size := by have := hbk.1; omega
      have hlt : w.heap.size + 1 < Wa.heap.size := by omega
      refine ⟨_, run_beginRound hl' (by rw [hrec]), ?_⟩
      have hl2 : (Wa.putObj (w.heap.size + 1) (.loop { rec .ready none with state := .busy })).heap[w.heap.size + 1]? = some (.loop { rec .ready none with state := .busy }) := World.putObj_heap_same hlt
      have hk2 : (Wa.putObj (w.heap.size + 1) (.loop { rec .ready none with state := .busy })).heap[w.heap.size]? = some (.deferred (some [])) := (World.putObj_heap_other (by omega)).trans hk'
      have notS : ¬ Its S W1.heap.size c (w.heap.size + 1) := fun h => by
        rcases h with h | ⟨h1, h2⟩
        · have := hS _ h; omega
        · omega
      have hw2 : Keep (Its S W1.heap.size c) Wa (Wa.putObj (w.heap.size + 1) (.loop { rec .ready none with state := .busy })) := Keep.grown (grownBy_putObj' _ _ _) (fun r e => by cases e; exact notS)
      refine wpIn_mono (hbody _ i a' _ hil (firm_putObj (hAx i a') _ hax e1) (by simp; omega)) ?_
      have fin : ∀ (jump : Option Code) (W3 : World), Books w.heap.size (Wa.putObj (w.heap.size + 1) (.loop { rec .ready none with state := .busy })) W3 →
          (Instr.endRound (w.heap.size + 1) jump).run P W3 = .ok (.bool jump.isNone) (W3.putObj (w.heap.size + 1) (.loop (rec (if jump.isNone then .ready else .done) jump))) ∧
          W3.heap[w.heap.size + 1]? = some (.loop { rec .ready none with state := .busy }) ∧
          (W3.putObj (w.heap.size + 1) (.loop (rec (if jump.isNone then .ready else .done) jump))).heap[w.heap.size + 1]? = some (.loop (rec (if jump.isNone then .ready else .done) jump)) ∧
          (W3.putObj (w.heap.size + 1) (.loop (rec (if jump.isNone then .ready else .done) jump))).heap[w.heap.size]? = some (.deferred (some [])) ∧
          w.heap.size + 2 ≤ (W3.putObj (w.heap.size + 1) (.loop (rec (if jump.isNone then .ready else .done) jump))).heap.size := fun jump W3 hk3 => by
        have hl3 := hk3.2 _ _ (.inr rfl) hl2
        have := run_endRound (P := P) jump hl3
        rw [hrec] at this ⊢
        have hz3 := hk3.1
        simp only [World.putObj_size] at hz3
        exact ⟨this, by rw [hrec] at hl3; exact hl3, World.putObj_heap_same (Array.getElem?_eq_some_iff.1 hl3).1, (World.putObj_heap_other (by omega)).trans (hk3.2 _ _ (.inl rfl) hk2), by simp; omega⟩
      rintro e a3 W3 hp
      cases e with
      | normal =>
        obtain ⟨hk3, hkp3, hi3⟩ := hp
        obtain ⟨hr, hl3, hl4, hk4, hz4⟩ := fin none W3 hk3
        exact ⟨_, _, hr, .inl ⟨rfl, ⟨firm_putObj (hI _) _ hi3 e1, hl4, hk4, hz4⟩, (hkp.mono (fun k h => by rw [← hz1]; exact h)).trans (hw2.trans ((hkp3.mono (fun k h => by rw [← hz1]; exact h)).trans (Keep.grown (grownBy_putObj' _ _ _) (fun r e => by cases e; exact notS))))⟩⟩
      | ret =>
        obtain ⟨hk3, hi3⟩ := hp
        obtain ⟨hr, hl3, hl4, hk4, hz4⟩ := fin (some .ret) W3 hk3
        exact ⟨_, _, hr, .inr ⟨rfl, .ret, firm_putObj (hIx _ _) _ hi3 e1, hl4, hk4, hz4⟩⟩
      | exit id =>
        obtain ⟨hk3, hi3⟩ := hp
        obtain ⟨hr, hl3, hl4, hk4, hz4⟩ := fin (some (.exit id)) W3 hk3
        exact ⟨_, _, hr, .inr ⟨rfl, .exit id, firm_putObj (hIx _ _) _ hi3 e1, hl4, hk4, hz4⟩⟩
      | goto t =>
        obtain ⟨hk3, hi3⟩ := hp
        obtain ⟨hr, hl3, hl4, hk4, hz4⟩ := fin (some (.goto t)) W3 hk3
        exact ⟨_, _, hr, .inr ⟨rfl, .goto t, firm_putObj (hIx _ _) _ hi3 e1, hl4, hk4, hz4⟩⟩
      | panic ch => exact hp.elim
      | outgrown => exact hp.elim
    ·
      rintro e W2 ⟨⟨v, rfl⟩, (⟨hi, hl, hk, hz⟩ | ⟨i, hil, cd, hi, hl, hk, hz⟩)⟩
      · exact ⟨none, _, by have := run_endLoop (P := P) hl (by rw [hrec]; simp); rw [hrec] at this; exact this, hdone _ (firm_putObj (hI _) _ hi e1) ((World.putObj_heap_other (by omega)).trans hk) (by simp; exact hz)⟩
      · exact ⟨some cd, _, by have := run_endLoop (P := P) hl (by rw [hrec]; simp); rw [hrec] at this; exact this, hstop cd i _ hil (firm_putObj (hIx cd i) _ hi e1) ((World.putObj_heap_other (by omega)).trans hk) (by simp; exact hz)⟩
end Go.Proofs.YtamjjeakkkdfhaaRF
end
section
namespace Go.Proofs.Ytamjjeakkkdfhaa.G
open Go.RowKit Go.Proofs.YtamjjeakkkdfhaaW.PrintWords Go.Proofs.YtamjjeakkkdfhaaW.PrintLast Go.Proofs.YtamjjeakkkdfhaaW.PrintMore
open Go.Proofs.Ytamjjeakkkdfhaa.K Go.Proofs.YtamjjeakkkdfhaaE
set_option linter.unusedVariables false
set_option linter.unusedSimpArgs false
def PredK (g : Nat) (lb : Array Value) (p : S68 → Bool) (w0 : World) : Prop :=
  ∀ (W : World) (x : S68) (cs : List Value), Below w0.heap.size w0 W → k68.K W x cs → Calls Try.prog g (#[.agg cs.toArray] ++ lb) W fun e w' => e = .returned (.bool (p x)) ∧ Below W.heap.size W w'
theorem retB {a b : Bool} (h : a = b) : Ending.returned (.bool a) = Ending.returned (.bool b) := by rw [h]
def zcObj : Array Value := #[.int .i64 0, .string (⟨#[]⟩ : ByteArray), .int .i64 0, .int .i64 0, .slice none 0 0, .int .i64 0, .int .i64 0, .bool false, .bool false, .bool false, .int .i64 0, .string (⟨#[]⟩ : ByteArray), .string (⟨#[]⟩ : ByteArray), .string (⟨#[]⟩ : ByteArray), .int .i64 0, .bool false, .bool false, .int .i64 0, .int .i64 0, .string (⟨#[]⟩ : ByteArray), .int .i64 0, .int .i64 0, .int .i64 0, .int .i64 0, .int .i64 0, .bool false, .int .u64 0, .slice none 0 0, .int .i64 0, .string (⟨#[]⟩ : ByteArray), .int .i64 0, .int .i64 0]
set_option maxRecDepth 100000 in
set_option maxHeartbeats 2000000 in
theorem alloc_obj {ops : Array Oper} {rest : List Oper} {o : Oper} {a : Act} {Q : Exit → Act → World → Prop} {W : World} (ho : o.op = .alloc 68) (hgd : o.guard = none) {N : Tmp} (hd : o.dst = some N)
    (h : ∀ g, g = W.heap.size → ∀ w1, w1.heap[g]? = some (.cells zcObj 68 (0, 0)) → Below W.heap.size W w1 → wpList Try.prog ops Q rest (a.put o.dst (.pointer (some ⟨g, 0, none⟩))) w1) : wpList Try.prog ops Q (o :: rest) a W := by
  refine box_event hgd hd (t := 68) (cs := zcObj) ?_ h
  unfold zcObj execOp
  rw [ho]
  first | (go_simp; done) | (go_simp; rfl)
theorem rd_get {l : List S68} {k : Nat} (h : k < l.length) : rd_T68 l (k : Int) = l[k] := by simp [rd_T68, List.getD_eq_getElem?_getD, h]
def countL (p : S68 → Bool) (l : List S68) : Nat := (l.filter p).length
theorem count_succ {p : S68 → Bool} {l : List S68} {k : Nat} (h : k < l.length) : countL p (l.take (k + 1)) = countL p (l.take k) + if p (rd_T68 l (k : Int)) = true then 1 else 0 := by
  rw [List.take_succ_eq_append_getElem h, rd_get h]
  unfold countL
  rw [List.filter_append, List.length_append]
  by_cases hp : p l[k] = true <;> simp [hp]
theorem count_le (p : S68 → Bool) (l : List S68) (k : Nat) : countL p (l.take k) ≤ k := Nat.le_trans (List.length_filter_le _ _) (List.length_take_le _ _)
set_option maxRecDepth 100000 in
set_option maxHeartbeats 2000000 in
theorem rules_count_obj.calls (A0 : Option Addr) (c0 : Nat) (l0 : List S68) (g : Nat) (lb : Array Value) (p : S68 → Bool) (w : World) (hr0 : k68.C w A0 l0.length l0) (hp : PredK g lb p w) (eg : ∀ args w, (callFunc g args).run Try.prog w = .ok (.enter g args) w) :
    Calls Try.prog 85 #[.slice A0 l0.length c0, .func (.func g) #[] lb] w fun e w' => e = .returned (.int .i64 (countL p l0)) ∧ Below w.heap.size w w' := by
  have hl0 := hr0.2.1
  have HR0 := Aside0.mk hr0
  have HP := Aside0.mk hp
  clear hr0 hp
  go_enter Try.func85, Try.ntmps85
  go_wp2
  go_loopw [5, 10] (fun n i wr => ∃ k : Nat, k ≤ l0.length ∧ i = .int .i64 k ∧ n = .int .i64 (countL p (l0.take k)) ∧ Aside0 (Below w.heap.size w wr)) (fun _ i _ => l0.length - (intOf i).toNat)
  case atStart => exact ⟨0, Nat.zero_le _, rfl, rfl, ⟨Below.refl _ _⟩⟩
  case round =>
    obtain ⟨k, hk, rfl, rfl, HB⟩ := hrel
    have hcl := count_le p l0 k
    by_cases hlt : k < l0.length
    · obtain ⟨ad, cs, e, hcl', hK, hcells⟩ := Kd.C_get HR0.out z68 (k : Int) (by omega) (by omega)
      have HK := Aside0.mk hK
      have HC := Aside0.mk (fun (j : Nat) (v : Value) (h : cs[j]? = some v) => (show wr.cell? ((ad.add (k * 32)).add j) = some v by rw [addr_add_add]; have := hcells j v h; rw [Int.toNat_natCast] at this; exact (HB.out.cell (World.block_lt_of_cell? w _ this)).trans this))
      have HCL := Aside0.mk (show (Try.prog.info? 68).map (fun i => i.size) = some cs.length by rw [hcl']; exact size68)
      have HO := Aside0.mk (k68.K_one hK)
      have HS := Aside0.mk (count_succ (p := p) hlt)
      have HLN := Aside0.mk hcl'
      clear hcells hK hcl'
      cases e
      go_wp2_with (first | ((with_reducible refine gate_load (t := 68) rfl ?_); refine load_list rfl rfl rfl Try.underlying68 rfl HCL.out HC.out ?_) | ((with_reducible refine gate_dst (N := 7) rfl ?_); refine hold ?_))
      refine Hold.intro (alloc_obj rfl rfl rfl ?_)
      intro gb hgb w2 hbox hb
      have HB2 := Aside0.mk (below_step HB.out hb)
      have HGE := Aside0.mk (show w.heap.size ≤ gb by rw [hgb]; exact HB.out.size)
      have HX2 := Aside0.mk hbox
      clear hgb hbox hb HC
      go_wp2_with ((with_reducible refine gate_store (t := 68) (p := 7) rfl ?_); refine hold ?_)
      refine Hold.intro (box_store_event (t := 68) (ty := 68) (p := 7) (x := .tmp 13) (g := gb) (cs := zcObj) (cs' := cs.toArray) rfl rfl rfl rfl rfl (by rw [HCL.out, List.size_toArray]) HX2.out (by rw [List.size_toArray, HLN.out]; rfl) (by simpa using HO.out) ?_)
      intro w3 hbox3 hg3
      have HX3 := Aside0.mk hbox3
      have HB3 := Aside0.mk (Below.grown HB2.out hg3 HB2.out.size (fun k_ e_ => by injection e_ with e_; subst e_; exact HGE.out))
      have HC3 := Aside0.mk (fun (j : Nat) (v : Value) (h : cs[j]? = some v) => (show w3.cell? ((⟨gb, 0, none⟩ : Addr).add j) = some v by rw [add_plain, blk_cell hbox3 j]; simpa using h))
      clear hbox3 hg3
      go_wp2_with ((with_reducible refine gate_load (t := 68) rfl ?_); refine load_list rfl rfl rfl Try.underlying68 rfl HCL.out HC3.out ?_)
      refine (HP.out w3 (rd_T68 l0 (k : Int)) cs HB3.out (k68.K_below HB3.out HK.out)).mono ?_
      rintro e w4 ⟨rfl, hb⟩
      have HB4 := Aside0.mk (below_step HB3.out hb)
      clear hb HCL HK HX2 HX3 HC3 HO HLN
      by_cases hpk : p (rd_T68 l0 (k : Int)) = true
      · have HS' := Aside0.mk (show countL p (l0.take (k + 1)) = countL p (l0.take k) + 1 by rw [HS.out, if_pos hpk])
        rw [hpk]
        clear hpk HS
        go_wp2
        go_roundw
        case rel => exact ⟨k + 1, by omega, by simp, by rw [HS'.out]; simp, HB4⟩
        case measure => simp [intOf]; omega
      · have HS' := Aside0.mk (show countL p (l0.take (k + 1)) = countL p (l0.take k) by rw [HS.out, if_neg hpk, Nat.add_zero])
        rw [Bool.eq_false_iff.mpr hpk]
        clear hpk HS
        go_wp2
        go_roundw
        case rel => exact ⟨k + 1, by omega, by simp, by rw [HS'.out], HB4⟩
        case measure => simp [intOf]; omega
    · obtain rfl : k = l0.length := by omega
      go_wp2
      go_ret
      exact ⟨by simp, HB.out⟩
theorem K_cells {w : World} {x : S68} {cs : List Value} (h : k68.K w x cs) : cs[1]? = some (.string x.f1) ∧ cs[11]? = some (.string x.f10) ∧ cs[16]? = some (.bool x.f15) ∧ cs[15]? = some (.bool x.f14) := by
  obtain ⟨A4, c4, A27, c27, rfl, _⟩ := k68_open h
  exact ⟨rfl, rfl, rfl, rfl⟩
def isOwned (d : ByteArray) (x : S68) : Bool := x.f10.toList == d.toList && !x.f15
def isReady (d : ByteArray) (x : S68) : Bool := x.f10.toList == d.toList && (!x.f15 && x.f14)
set_option maxRecDepth 100000 in
set_option maxHeartbeats 2000000 in
theorem Owned_1 (B : Nat) (name : ByteArray) (w0 : World) (hB : w0.heap[B]? = some (.cells #[.string name] 9 (0, 0))) : PredK 86 #[.pointer (some ⟨B, 0, none⟩)] (isOwned name) w0 := by
  intro W x cs hW hK
  obtain ⟨h1, h11, h16, h15⟩ := K_cells hK
  have hb := blk_below hB hW
  have hc : W.cell? ⟨B, 0, none⟩ = some (.string name) := blk_cell hb 0
  have hlt := blk_lt hb
  clear hB hW hK hb
  by_cases he : (x.f10.toList == name.toList) = true
  · have HE := Aside0.mk he
    go_enter Try.func86, Try.ntmps86
    go_wp2
    go_ret
    exact ⟨retB (by unfold isOwned; rw [HE.out]; simp), below_alloc (Below.refl _ _) _⟩
  · have he' := Bool.eq_false_iff.mpr he
    have HE := Aside0.mk he'
    clear he
    go_enter Try.func86, Try.ntmps86
    go_wp2
    go_ret
    exact ⟨retB (by unfold isOwned; rw [HE.out]; simp), below_alloc (Below.refl _ _) _⟩
set_option maxRecDepth 100000 in
set_option maxHeartbeats 2000000 in
theorem Ready_1 (B : Nat) (name : ByteArray) (w0 : World) (hB : w0.heap[B]? = some (.cells #[.string name] 9 (0, 0))) : PredK 87 #[.pointer (some ⟨B, 0, none⟩)] (isReady name) w0 := by
  intro W x cs hW hK
  obtain ⟨h1, h11, h16, h15⟩ := K_cells hK
  have hb := blk_below hB hW
  have hc : W.cell? ⟨B, 0, none⟩ = some (.string name) := blk_cell hb 0
  have hlt := blk_lt hb
  clear hB hW hK hb
  by_cases he : (x.f10.toList == name.toList) = true
  · have HE := Aside0.mk he
    cases hg : x.f15
    · have HG := Aside0.mk hg
      rw [hg] at h16
      clear hg
      go_enter Try.func87, Try.ntmps87
      go_wp2
      go_ret
      exact ⟨retB (by unfold isReady; rw [HE.out, HG.out]; simp), below_alloc (Below.refl _ _) _⟩
    · have HG := Aside0.mk hg
      rw [hg] at h16
      clear hg
      go_enter Try.func87, Try.ntmps87
      go_wp2
      go_ret
      exact ⟨retB (by unfold isReady; rw [HE.out, HG.out]; simp), below_alloc (Below.refl _ _) _⟩
  · have he' := Bool.eq_false_iff.mpr he
    have HE := Aside0.mk he'
    clear he
    go_enter Try.func87, Try.ntmps87
    go_wp2
    go_ret
    exact ⟨retB (by unfold isReady; rw [HE.out]; simp), below_alloc (Below.refl _ _) _⟩
def rules_Owned.f (l0_0 l0_1 l0_2 l0_3 : List S68) (a1 : ByteArray) : Option Int := some (countL (isOwned a1) l0_1)
def rules_Ready.f (l0_0 l0_1 l0_2 l0_3 : List S68) (a1 : ByteArray) : Option Int := some (countL (isReady a1) l0_1)
set_option maxRecDepth 100000 in
set_option maxHeartbeats 2000000 in
theorem rules_Owned.calls (A0_0 : Option Addr) (c0_0 : Nat) (l0_0 : List S68) (A0_1 : Option Addr) (c0_1 : Nat) (l0_1 : List S68) (A0_2 : Option Addr) (c0_2 : Nat) (l0_2 : List S68) (A0_3 : Option Addr) (c0_3 : Nat) (l0_3 : List S68) (a1 : ByteArray) (r : Int) (w : World)
    (hr0_0 : k68.C w A0_0 l0_0.length l0_0) (hc0_0 : l0_0.length ≤ c0_0) (hr0_1 : k68.C w A0_1 l0_1.length l0_1) (hc0_1 : l0_1.length ≤ c0_1) (hr0_2 : k68.C w A0_2 l0_2.length l0_2) (hc0_2 : l0_2.length ≤ c0_2) (hr0_3 : k68.C w A0_3 l0_3.length l0_3) (hc0_3 : l0_3.length ≤ c0_3) (h : rules_Owned.f l0_0 l0_1 l0_2 l0_3 a1 = some r) :
    Calls Try.prog 34 #[.agg #[.slice A0_0 l0_0.length c0_0, .slice A0_1 l0_1.length c0_1, .slice A0_2 l0_2.length c0_2, .slice A0_3 l0_3.length c0_3], .string a1] w fun e w' => e = .returned (.int .i64 r) ∧ Below w.heap.size w w' := by
  obtain rfl := Option.some.inj h
  have HR := Aside0.mk hr0_1
  clear hr0_0 hc0_0 hr0_1 hc0_1 hr0_2 hc0_2 hr0_3 hc0_3 h
  go_enter Try.func34, Try.ntmps34
  go_wp2_with (go_at_call 85; refine hold ?_)
  refine Hold.intro ((rules_count_obj.calls _ _ l0_1 86 _ (isOwned a1) _ (Kd.C_alloc (Kd.C_alloc HR.out _) _) (Owned_1 _ a1 _ (by rw [← World.size_alloc (w := w)]; exact blk_new _ _)) (enters_of Try.func86 (by kernel_rfl) rfl)).mono ?_)
  rintro e w1 ⟨rfl, hb⟩
  have HB := Aside0.mk (below_step (below_alloc (below_alloc (Below.refl _ w) _) _) hb)
  clear hb
  go_wp2
  go_ret
  exact ⟨rfl, HB.out⟩
set_option maxRecDepth 100000 in
set_option maxHeartbeats 2000000 in
theorem rules_Ready.calls (A0_0 : Option Addr) (c0_0 : Nat) (l0_0 : List S68) (A0_1 : Option Addr) (c0_1 : Nat) (l0_1 : List S68) (A0_2 : Option Addr) (c0_2 : Nat) (l0_2 : List S68) (A0_3 : Option Addr) (c0_3 : Nat) (l0_3 : List S68) (a1 : ByteArray) (r : Int) (w : World)
    (hr0_0 : k68.C w A0_0 l0_0.length l0_0) (hc0_0 : l0_0.length ≤ c0_0) (hr0_1 : k68.C w A0_1 l0_1.length l0_1) (hc0_1 : l0_1.length ≤ c0_1) (hr0_2 : k68.C w A0_2 l0_2.length l0_2) (hc0_2 : l0_2.length ≤ c0_2) (hr0_3 : k68.C w A0_3 l0_3.length l0_3) (hc0_3 : l0_3.length ≤ c0_3) (h : rules_Ready.f l0_0 l0_1 l0_2 l0_3 a1 = some r) :
    Calls Try.prog 36 #[.agg #[.slice A0_0 l0_0.length c0_0, .slice A0_1 l0_1.length c0_1, .slice A0_2 l0_2.length c0_2, .slice A0_3 l0_3.length c0_3], .string a1] w fun e w' => e = .returned (.int .i64 r) ∧ Below w.heap.size w w' := by
  obtain rfl := Option.some.inj h
  have HR := Aside0.mk hr0_1
  clear hr0_0 hc0_0 hr0_1 hc0_1 hr0_2 hc0_2 hr0_3 hc0_3 h
  go_enter Try.func36, Try.ntmps36
  go_wp2_with (go_at_call 85; refine hold ?_)
  refine Hold.intro ((rules_count_obj.calls _ _ l0_1 87 _ (isReady a1) _ (Kd.C_alloc (Kd.C_alloc HR.out _) _) (Ready_1 _ a1 _ (by rw [← World.size_alloc (w := w)]; exact blk_new _ _)) (enters_of Try.func87 (by kernel_rfl) rfl)).mono ?_)
  rintro e w1 ⟨rfl, hb⟩
  have HB := Aside0.mk (below_step (below_alloc (below_alloc (Below.refl _ w) _) _) hb)
  clear hb
  go_wp2
  go_ret
  exact ⟨rfl, HB.out⟩
end Go.Proofs.Ytamjjeakkkdfhaa.G
end
section
namespace Go.Proofs.Ytamjjeakkkdfhaa.PB
open Go.RowKit Go.Proofs.YtamjjeakkkdfhaaW.PrintWords Go.Proofs.YtamjjeakkkdfhaaW.PrintLast Go.Proofs.YtamjjeakkkdfhaaW.PrintMore
open Go.Proofs.Ytamjjeakkkdfhaa.K Go.Proofs.Ytamjjeakkkdfhaa.G Go.Proofs.YtamjjeakkkdfhaaE
attribute [local go_sem] max2_int min2_int max_two min_two max_three min_three max_four min_four
set_option linter.unusedVariables false
set_option linter.unusedSimpArgs false
def rules_held.f (a0 : Int) : Option (Int) := some (mn (mx a0 (-1125899906842624)) 1125899906842624)
set_option maxHeartbeats 8000000 in
set_option maxRecDepth 100000 in
theorem rules_held.calls (a0 : Int) (r : Int) (w : World) (h : rules_held.f a0 = some r) :
    Calls Try.prog 105 #[.int .i64 a0] w fun e w' => e = .returned (.int .i64 r) ∧ Below w.heap.size w w' := by
  have HB := Aside0.mk (Below.refl w.heap.size w)
  have H : (some (mn (mx a0 (-1125899906842624)) 1125899906842624)) = some r := h
  clear h
  obtain ⟨ji2, hji2⟩ : ∃ j_ : Int, (mx a0 (-1125899906842624)) = j_ := ⟨_, rfl⟩
  replace H : (some (mn (ji2) 1125899906842624)) = some r := by first | (rw [hji2] at H; exact H) | (simp only [hji2] at H ⊢; exact H)
  have hji2_ : (if a0 < (-1125899906842624) then (-1125899906842624) else a0) = ji2 := hji2
  obtain ⟨ji3, hji3⟩ : ∃ j_ : Int, (mn (ji2) 1125899906842624) = j_ := ⟨_, rfl⟩
  replace H : (some ji3) = some r := by first | (rw [hji3] at H; exact H) | (simp only [hji3] at H ⊢; exact H)
  have hji3_ : (if 1125899906842624 < (ji2) then 1125899906842624 else (ji2)) = ji3 := hji3
  obtain rfl := Option.some.inj H
  go_enter Try.func105, Try.ntmps105
  go_wp2
  go_ret
  exact ⟨by first | rfl | (simp [errW_none, errW_some] <;> rfl) | (simp only [← hji2, ← hji3]; first | rfl | (simp [errW_none, errW_some] <;> rfl)) | (simp [*, errW_none, errW_some] <;> rfl), by repeat (first | (with_reducible first | exact HB.out | apply below_alloc | apply pw_below_drewN | apply below_drew1) | exact HB.out)⟩
end Go.Proofs.Ytamjjeakkkdfhaa.PB
end
section
namespace Go.Proofs.Ytamjjeakkkdfhaa.PB
open Go.RowKit Go.Proofs.YtamjjeakkkdfhaaW.PrintWords Go.Proofs.YtamjjeakkkdfhaaW.PrintLast Go.Proofs.YtamjjeakkkdfhaaW.PrintMore
open Go.Proofs.Ytamjjeakkkdfhaa.K Go.Proofs.Ytamjjeakkkdfhaa.G Go.Proofs.YtamjjeakkkdfhaaE
attribute [local go_sem] max2_int min2_int max_two min_two max_three min_three max_four min_four
set_option linter.unusedVariables false
set_option linter.unusedSimpArgs false
def rules_both.f (a0_0 : Int) (a0_1 : Int) (a1_0 : Int) (a1_1 : Int) : Option (Int × Int) := (rules_held.f a1_0).bind fun t272 => ((rules_held.f a1_1).bind fun t273 => (some (mn (wrap64 (a0_0 + (mx t272 0))) 1125899906842624, mn (wrap64 (a0_1 + (mx t273 0))) 1125899906842624)))
def rules_both.T1 : Bool × List (List Nat × List Nat) := (true, [([], []), ([0], [0]), ([], []), ([2], [2]), ([3], [3]), ([4], [4]), ([1, 5], [1, 5]), ([6], [6]), ([], []), ([8], [8]), ([], []), ([10], [10]), ([11, 4], [11]), ([12], [12]), ([9, 13], [9, 13]), ([14], [14]), ([7, 15], [7, 15]), ([16, 12, 0, 1, 2, 3, 4, 5, 6, 7, 8, 9, 10, 11, 12, 13, 14, 15, 16], [16])])
def rules_both.B1 : List Nat := [0, 1, 0, 4, 12, 28, 63, 127, 0, 256, 0, 1024, 3100, 7196, 16156, 32540, 65535, 131071]
theorem rules_both.tab1 : rtab .any (opsOf Try.f88 1) = rules_both.T1 := by kernel_rfl
theorem rules_both.bits1 : waitsOk rules_both.T1.2 rules_both.B1 = true := by kernel_rfl
set_option maxHeartbeats 8000000 in
set_option maxRecDepth 100000 in
theorem rules_both.calls (a0_0 : Int) (a0_1 : Int) (a1_0 : Int) (a1_1 : Int) (r1 : Int) (r2 : Int) (w : World) (h : rules_both.f a0_0 a0_1 a1_0 a1_1 = some (r1, r2)) :
    Calls Try.prog 88 #[.agg #[.int .i64 a0_0, .int .i64 a0_1], .agg #[.int .i64 a1_0, .int .i64 a1_1]] w fun e w' => e = .returned (.agg #[.int .i64 r1, .int .i64 r2]) ∧ Below w.heap.size w w' := by
  have hu64 := Try.underlying64
  have HB := Aside0.mk (Below.refl w.heap.size w)
  have H : ((rules_held.f a1_0).bind fun t272 => ((rules_held.f a1_1).bind fun t273 => (some (mn (wrap64 (a0_0 + (mx t272 0))) 1125899906842624, mn (wrap64 (a0_1 + (mx t273 0))) 1125899906842624)))) = some (r1, r2) := h
  clear h
  replace H := Option.bind_eq_some_iff.mp H
  obtain ⟨t272, A30, H⟩ := H
  replace H : ((rules_held.f a1_1).bind fun t273 => (some (mn (wrap64 (a0_0 + (mx t272 0))) 1125899906842624, mn (wrap64 (a0_1 + (mx t273 0))) 1125899906842624))) = some (r1, r2) := H
  have A3 := Aside0.mk A30
  clear A30
  obtain ⟨ji4, hji4⟩ : ∃ j_ : Int, (mx t272 0) = j_ := ⟨_, rfl⟩
  replace H : ((rules_held.f a1_1).bind fun t273 => (some (mn (wrap64 (a0_0 + (ji4))) 1125899906842624, mn (wrap64 (a0_1 + (mx t273 0))) 1125899906842624))) = some (r1, r2) := by first | (rw [hji4] at H; exact H) | (simp only [hji4] at H ⊢; exact H)
  (try rw [hji4] at A3)
  (try (have hji4l : 0 ≤ ji4 := by (rw [← hji4]; unfold mx; (repeat' split) <;> omega)))
  (try (have hji4m : 0 ≤ ji4 := by omega))
  have hji4_ : (if t272 < 0 then 0 else t272) = ji4 := hji4
  obtain ⟨ji5, hji5⟩ : ∃ j_ : Int, (mn (wrap64 (a0_0 + (ji4))) 1125899906842624) = j_ := ⟨_, rfl⟩
  replace H : ((rules_held.f a1_1).bind fun t273 => (some (ji5, mn (wrap64 (a0_1 + (mx t273 0))) 1125899906842624))) = some (r1, r2) := by first | (rw [hji5] at H; exact H) | (simp only [hji5] at H ⊢; exact H)
  (try rw [hji5] at A3)
  have hji5_ : (if 1125899906842624 < (wrap64 (a0_0 + (ji4))) then 1125899906842624 else (wrap64 (a0_0 + (ji4)))) = ji5 := hji5
  replace H := Option.bind_eq_some_iff.mp H
  obtain ⟨t273, A60, H⟩ := H
  replace H : (some (ji5, mn (wrap64 (a0_1 + (mx t273 0))) 1125899906842624)) = some (r1, r2) := H
  have A6 := Aside0.mk A60
  clear A60
  obtain ⟨ji7, hji7⟩ : ∃ j_ : Int, (mx t273 0) = j_ := ⟨_, rfl⟩
  replace H : (some (ji5, mn (wrap64 (a0_1 + (ji7))) 1125899906842624)) = some (r1, r2) := by first | (rw [hji7] at H; exact H) | (simp only [hji7] at H ⊢; exact H)
  (try rw [hji7] at A3)
  (try rw [hji7] at A6)
  (try (have hji7l : 0 ≤ ji7 := by (rw [← hji7]; unfold mx; (repeat' split) <;> omega)))
  (try (have hji7m : 0 ≤ ji7 := by omega))
  have hji7_ : (if t273 < 0 then 0 else t273) = ji7 := hji7
  obtain ⟨ji8, hji8⟩ : ∃ j_ : Int, (mn (wrap64 (a0_1 + (ji7))) 1125899906842624) = j_ := ⟨_, rfl⟩
  replace H : (some (ji5, ji8)) = some (r1, r2) := by first | (rw [hji8] at H; exact H) | (simp only [hji8] at H ⊢; exact H)
  (try rw [hji8] at A3)
  (try rw [hji8] at A6)
  have hji8_ : (if 1125899906842624 < (wrap64 (a0_1 + (ji7))) then 1125899906842624 else (wrap64 (a0_1 + (ji7)))) = ji8 := hji8
  simp only [Option.some.injEq, Prod.mk.injEq] at H
  obtain ⟨rfl, rfl⟩ := H
  go_enter Try.func88, Try.ntmps88
  try go_wp2_with (first | ((with_reducible refine gate_dst (N := 2) rfl ?_); refine box_event ?hg (N := 2) ?hd (cs := #[.int .i64 a0_0, .int .i64 a0_1]) (t := 64) ?hr ?_; (case hd => rfl); (case hg => rfl); (case hr => first | (go_simp; done) | (go_simp; rfl)); intro gb269 hg w9 hbox hb; have n0_ := Aside0.mk (below_step (by repeat (first | (with_reducible first | exact HB.out | apply below_alloc | apply pw_below_drewN | apply below_drew1) | exact HB.out)) hb); have n1_ := Aside0.mk (hbox); have n2_ := Aside0.mk ((by rw [hg]; exact (below_size (by repeat (first | (with_reducible first | exact HB.out | apply below_alloc | apply pw_below_drewN | apply below_drew1) | exact HB.out))) : w.heap.size ≤ gb269)); have n3_ := Aside0.mk ((by rw [hg]; exact (below_size (by repeat (first | (with_reducible first | exact HB.out | apply below_alloc | apply pw_below_drewN | apply below_drew1) | exact HB.out))) : w.heap.size ≤ gb269)); clear HB; have HB := n0_; have BK269 := n1_; have GW269 := n2_; have GE269 := n3_; clear n0_ n1_ n2_ n3_; clear hb hbox hg) | ((with_reducible refine gate_dst (N := 3) rfl ?_); refine box_event ?hg (N := 3) ?hd (cs := #[.int .i64 a1_0, .int .i64 a1_1]) (t := 64) ?hr ?_; (case hd => rfl); (case hg => rfl); (case hr => first | (go_simp; done) | (go_simp; rfl)); intro gb270 hg w10 hbox hb; have n0_ := Aside0.mk (blk_below (g := gb269) (o := .cells #[.int .i64 a0_0, .int .i64 a0_1] 64 (0, 0)) (by (with_reducible repeat (first | refine blk_drewN ?_ _ | refine blk_drew ?_ | refine blk_alloc ?_ _)); exact BK269.out) hb); have n1_ := Aside0.mk (below_step (by repeat (first | (with_reducible first | exact HB.out | apply below_alloc | apply pw_below_drewN | apply below_drew1 | refine below_set ?_ GE269.out) | exact HB.out)) hb); have n2_ := Aside0.mk (hbox); have n3_ := Aside0.mk ((by rw [hg]; exact (below_size (by repeat (first | (with_reducible first | exact HB.out | apply below_alloc | apply pw_below_drewN | apply below_drew1 | refine below_set ?_ GE269.out) | exact HB.out))) : w.heap.size ≤ gb270)); have n4_ := Aside0.mk ((by rw [hg]; exact (below_size (by repeat (first | (with_reducible first | exact HB.out | apply below_alloc | apply pw_below_drewN | apply below_drew1 | refine below_set ?_ GE269.out) | exact HB.out))) : w.heap.size ≤ gb270)); have n5_ := Aside0.mk ((by rw [hg]; exact Nat.ne_of_lt (blk_lt (g := gb269) (o := .cells #[.int .i64 a0_0, .int .i64 a0_1] 64 (0, 0)) (by (with_reducible repeat (first | refine blk_drewN ?_ _ | refine blk_drew ?_ | refine blk_alloc ?_ _)); exact BK269.out)) : gb269 ≠ gb270)); have n6_ := Aside0.mk ((by rw [hg]; exact Nat.ne_of_gt (blk_lt (g := gb269) (o := .cells #[.int .i64 a0_0, .int .i64 a0_1] 64 (0, 0)) (by (with_reducible repeat (first | refine blk_drewN ?_ _ | refine blk_drew ?_ | refine blk_alloc ?_ _)); exact BK269.out)) : gb270 ≠ gb269)); clear BK269; clear HB; have BK269 := n0_; have HB := n1_; have BK270 := n2_; have GW270 := n3_; have GE270 := n4_; have NB269_270 := n5_; have NB270_269 := n6_; clear n0_ n1_ n2_ n3_ n4_ n5_ n6_; clear hb hbox hg) | ((with_reducible refine gate_dst (N := 4) rfl ?_); refine box_event ?hg (N := 4) ?hd (cs := #[.int .i64 0, .int .i64 0]) (t := 64) ?hr ?_; (case hd => rfl); (case hg => rfl); (case hr => first | (go_simp; done) | (go_simp; rfl)); intro gb271 hg w11 hbox hb; have n0_ := Aside0.mk (blk_below (g := gb269) (o := .cells #[.int .i64 a0_0, .int .i64 a0_1] 64 (0, 0)) (by (with_reducible repeat (first | refine blk_drewN ?_ _ | refine blk_drew ?_ | refine blk_alloc ?_ _)); exact BK269.out) hb); have n1_ := Aside0.mk (blk_below (g := gb270) (o := .cells #[.int .i64 a1_0, .int .i64 a1_1] 64 (0, 0)) (by (with_reducible repeat (first | refine blk_drewN ?_ _ | refine blk_drew ?_ | refine blk_alloc ?_ _)); exact BK270.out) hb); have n2_ := Aside0.mk (below_step (by repeat (first | (with_reducible first | exact HB.out | apply below_alloc | apply pw_below_drewN | apply below_drew1 | refine below_set ?_ GE269.out | refine below_set ?_ GE270.out) | exact HB.out)) hb); have n3_ := Aside0.mk (hbox); have n4_ := Aside0.mk ((by rw [hg]; exact (below_size (by repeat (first | (with_reducible first | exact HB.out | apply below_alloc | apply pw_below_drewN | apply below_drew1 | refine below_set ?_ GE269.out | refine below_set ?_ GE270.out) | exact HB.out))) : w.heap.size ≤ gb271)); have n5_ := Aside0.mk ((by rw [hg]; exact (below_size (by repeat (first | (with_reducible first | exact HB.out | apply below_alloc | apply pw_below_drewN | apply below_drew1 | refine below_set ?_ GE269.out | refine below_set ?_ GE270.out) | exact HB.out))) : w.heap.size ≤ gb271)); have n6_ := Aside0.mk ((by rw [hg]; exact Nat.ne_of_lt (blk_lt (g := gb269) (o := .cells #[.int .i64 a0_0, .int .i64 a0_1] 64 (0, 0)) (by (with_reducible repeat (first | refine blk_drewN ?_ _ | refine blk_drew ?_ | refine blk_alloc ?_ _)); exact BK269.out)) : gb269 ≠ gb271)); have n7_ := Aside0.mk ((by rw [hg]; exact Nat.ne_of_gt (blk_lt (g := gb269) (o := .cells #[.int .i64 a0_0, .int .i64 a0_1] 64 (0, 0)) (by (with_reducible repeat (first | refine blk_drewN ?_ _ | refine blk_drew ?_ | refine blk_alloc ?_ _)); exact BK269.out)) : gb271 ≠ gb269)); have n8_ := Aside0.mk ((by rw [hg]; exact Nat.ne_of_lt (blk_lt (g := gb270) (o := .cells #[.int .i64 a1_0, .int .i64 a1_1] 64 (0, 0)) (by (with_reducible repeat (first | refine blk_drewN ?_ _ | refine blk_drew ?_ | refine blk_alloc ?_ _)); exact BK270.out)) : gb270 ≠ gb271)); have n9_ := Aside0.mk ((by rw [hg]; exact Nat.ne_of_gt (blk_lt (g := gb270) (o := .cells #[.int .i64 a1_0, .int .i64 a1_1] 64 (0, 0)) (by (with_reducible repeat (first | refine blk_drewN ?_ _ | refine blk_drew ?_ | refine blk_alloc ?_ _)); exact BK270.out)) : gb271 ≠ gb270)); clear BK269; clear BK270; clear HB; have BK269 := n0_; have BK270 := n1_; have HB := n2_; have BK271 := n3_; have GW271 := n4_; have GE271 := n5_; have NB269_271 := n6_; have NB271_269 := n7_; have NB270_271 := n8_; have NB271_270 := n9_; clear n0_ n1_ n2_ n3_ n4_ n5_ n6_ n7_ n8_ n9_; clear hb hbox hg))
  have n0_ := Aside0.mk (blk_drew BK269.out)
  have n1_ := Aside0.mk (blk_drew BK270.out)
  have n2_ := Aside0.mk (blk_drew BK271.out)
  have n3_ := Aside0.mk (below_drew1 HB.out)
  clear BK269
  clear BK270
  clear BK271
  clear HB
  have BK269 := n0_
  have BK270 := n1_
  have BK271 := n2_
  have HB := n3_
  clear n0_ n1_ n2_ n3_
  refine start_ (n := 18) (S := fun w' => w'.cell? ⟨gb269, 0, none⟩ = some (.int .i64 a0_0) ∧ w'.cell? ⟨gb269, 1, none⟩ = some (.int .i64 a0_1) ∧ w'.cell? ⟨gb270, 0, none⟩ = some (.int .i64 a1_0) ∧ w'.cell? ⟨gb270, 1, none⟩ = some (.int .i64 a1_1)) (ds := []) #[false, false, false, false, false, false, false, false, false, false, false, false, false, false, false, false, false, false] (by kernel_rfl) rfl rfl ⟨(blk_cell BK269.out 0).trans rfl, (blk_cell BK269.out 1).trans rfl, (blk_cell BK270.out 0).trans rfl, (blk_cell BK270.out 1).trans rfl⟩ (fun hHeld => ?_); refine with_tabW rules_both.tab1 rules_both.bits1 (fun HT_ HW_ => ?_)
  generalize w11.drew = w12 at BK269 BK270 BK271 HB hHeld ⊢
  refine pure_ (i := 0) (N := some 5) (v := ?_) (a' := ?_) #[true, false, false, false, false, false, false, false, false, false, false, false, false, false, false, false, false, false] rfl rfl (any_of HT_.out (by kernel_rfl)) (fun _ _ _ h => h) (Or.inl ⟨by rfl, ?_⟩) ?_ ?_
  rotate_left
  · intro w'
    go_simp
    with_reducible rfl
  rotate_left
  · simp only [Act.put, List.setIfInBounds_toArray, List.set_cons_zero, List.set_cons_succ, i64_w, i32_w]
    rfl
  refine pure_ (i := 2) (N := some 7) (v := ?_) (a' := ?_) #[true, false, true, false, false, false, false, false, false, false, false, false, false, false, false, false, false, false] rfl rfl (any_of HT_.out (by kernel_rfl)) (fun _ _ _ h => h) (Or.inl ⟨by rfl, ?_⟩) ?_ ?_
  rotate_left
  · intro w'
    go_simp
    with_reducible rfl
  rotate_left
  · simp only [Act.put, List.setIfInBounds_toArray, List.set_cons_zero, List.set_cons_succ, i64_w, i32_w]
    rfl
  refine pure_ (i := 8) (N := some 13) (v := ?_) (a' := ?_) #[true, false, true, false, false, false, false, false, true, false, false, false, false, false, false, false, false, false] rfl rfl (any_of HT_.out (by kernel_rfl)) (fun _ _ _ h => h) (Or.inl ⟨by rfl, ?_⟩) ?_ ?_
  rotate_left
  · intro w'
    go_simp
    with_reducible rfl
  rotate_left
  · simp only [Act.put, List.setIfInBounds_toArray, List.set_cons_zero, List.set_cons_succ, i64_w, i32_w]
    rfl
  refine pure_ (i := 10) (N := some 15) (v := ?_) (a' := ?_) #[true, false, true, false, false, false, false, false, true, false, true, false, false, false, false, false, false, false] rfl rfl (any_of HT_.out (by kernel_rfl)) (fun _ _ _ h => h) (Or.inl ⟨by rfl, ?_⟩) ?_ ?_
  rotate_left
  · intro w'
    go_simp
    with_reducible rfl
  rotate_left
  · simp only [Act.put, List.setIfInBounds_toArray, List.set_cons_zero, List.set_cons_succ, i64_w, i32_w]
    rfl
  refine take_ (i := 1) (N := some 6) (v := ?_) (a' := ?_) #[true, true, true, false, false, false, false, false, true, false, true, false, false, false, false, false, false, false] rfl rfl (take_ofW HT_.out HW_.out (by kernel_rfl)) (fun _ _ _ h => h) (Or.inl ⟨by rfl, ?_⟩) hHeld ?_ ?_
  rotate_left
  · rintro w' ⟨s0, s1, s2, s3⟩
    go_simp
    with_reducible rfl
  rotate_left
  · simp only [Act.put, List.setIfInBounds_toArray, List.set_cons_zero, List.set_cons_succ, i64_w, i32_w]
    rfl
  refine take_ (i := 3) (N := some 8) (v := ?_) (a' := ?_) #[true, true, true, true, false, false, false, false, true, false, true, false, false, false, false, false, false, false] rfl rfl (take_ofW HT_.out HW_.out (by kernel_rfl)) (fun _ _ _ h => h) (Or.inl ⟨by rfl, ?_⟩) hHeld ?_ ?_
  rotate_left
  · rintro w' ⟨s0, s1, s2, s3⟩
    go_simp
    with_reducible rfl
  rotate_left
  · simp only [Act.put, List.setIfInBounds_toArray, List.set_cons_zero, List.set_cons_succ, i64_w, i32_w]
    rfl
  refine take_ (i := 9) (N := some 14) (v := ?_) (a' := ?_) #[true, true, true, true, false, false, false, false, true, true, true, false, false, false, false, false, false, false] rfl rfl (take_ofW HT_.out HW_.out (by kernel_rfl)) (fun _ _ _ h => h) (Or.inl ⟨by rfl, ?_⟩) hHeld ?_ ?_
  rotate_left
  · rintro w' ⟨s0, s1, s2, s3⟩
    go_simp
    with_reducible rfl
  rotate_left
  · simp only [Act.put, List.setIfInBounds_toArray, List.set_cons_zero, List.set_cons_succ, i64_w, i32_w]
    rfl
  refine take_ (i := 11) (N := some 16) (v := ?_) (a' := ?_) #[true, true, true, true, false, false, false, false, true, true, true, true, false, false, false, false, false, false] rfl rfl (take_ofW HT_.out HW_.out (by kernel_rfl)) (fun _ _ _ h => h) (Or.inl ⟨by rfl, ?_⟩) hHeld ?_ ?_
  rotate_left
  · rintro w' ⟨s0, s1, s2, s3⟩
    go_simp
    with_reducible rfl
  rotate_left
  · simp only [Act.put, List.setIfInBounds_toArray, List.set_cons_zero, List.set_cons_succ, i64_w, i32_w]
    rfl
  refine one_ (i := 4) (N := some 9) #[true, true, true, true, true, false, false, false, true, true, true, true, false, false, false, false, false, false] rfl rfl (one_of HT_.out (by kernel_rfl)) (by decide) (fun K hK => ?_)
  refine goes_ Try.func105 (by kernel_rfl) rfl #[.int .i64 a1_0] (by rfl) rfl rfl (by (try simp only [List.map_toArray, List.map_cons, List.map_nil]); first | done | rfl | (simp only [List.length_drop, List.length_take]; rfl)) ?_
  with_reducible refine (rules_held.calls a1_0 t272 _ A3.out).mono ?_
  rintro e w13 ⟨rfl, hb⟩
  refine ⟨_, rfl, ?_⟩
  have n0_ := Aside0.mk (blk_below (g := gb269) (o := .cells #[.int .i64 a0_0, .int .i64 a0_1] 64 (0, 0)) (by (with_reducible repeat (first | refine blk_drewN ?_ _ | refine blk_drew ?_ | refine blk_alloc ?_ _)); exact BK269.out) hb)
  have n1_ := Aside0.mk (blk_below (g := gb270) (o := .cells #[.int .i64 a1_0, .int .i64 a1_1] 64 (0, 0)) (by (with_reducible repeat (first | refine blk_drewN ?_ _ | refine blk_drew ?_ | refine blk_alloc ?_ _)); exact BK270.out) hb)
  have n2_ := Aside0.mk (blk_below (g := gb271) (o := .cells #[.int .i64 0, .int .i64 0] 64 (0, 0)) (by (with_reducible repeat (first | refine blk_drewN ?_ _ | refine blk_drew ?_ | refine blk_alloc ?_ _)); exact BK271.out) hb)
  have n3_ := Aside0.mk (below_step (by repeat (first | (with_reducible first | exact HB.out | apply below_alloc | apply pw_below_drewN | apply below_drew1 | refine below_set ?_ GE269.out | refine below_set ?_ GE270.out | refine below_set ?_ GE271.out) | exact HB.out)) hb)
  clear BK269
  clear BK270
  clear BK271
  clear HB
  have BK269 := n0_
  have BK270 := n1_
  have BK271 := n2_
  have HB := n3_
  clear n0_ n1_ n2_ n3_
  (try clear hb)
  (try clear hb2)
  (try clear hk)
  (try clear hi)
  refine hK.out _ _ ⟨(blk_cell BK269.out 0).trans rfl, (blk_cell BK269.out 1).trans rfl, (blk_cell BK270.out 0).trans rfl, (blk_cell BK270.out 1).trans rfl⟩ (fun hHeld => ?_)
  clear hK K
  refine norm_ (a' := ?_) ?_ ?_
  rotate_left
  · show Act.put _ (some 9) _ = _
    simp only [Act.put, List.setIfInBounds_toArray, List.set_cons_zero, List.set_cons_succ, i64_w, i32_w]
    rfl
  refine pure_ (i := 5) (N := some 10) (v := ?_) (a' := ?_) #[true, true, true, true, true, true, false, false, true, true, true, true, false, false, false, false, false, false] rfl rfl (any_of HT_.out (by kernel_rfl)) (fun _ _ _ h => h) (Or.inl ⟨by rfl, ?_⟩) ?_ ?_
  rotate_left
  · intro w'
    go_simp
    with_reducible rfl
  rotate_left
  · simp only [Act.put, List.setIfInBounds_toArray, List.set_cons_zero, List.set_cons_succ, i64_w, i32_w]
    rfl
  refine pure_ (i := 6) (N := some 11) (v := ?_) (a' := ?_) #[true, true, true, true, true, true, true, false, true, true, true, true, false, false, false, false, false, false] rfl rfl (any_of HT_.out (by kernel_rfl)) (fun _ _ _ h => h) (Or.inl ⟨by rfl, ?_⟩) ?_ ?_
  rotate_left
  · intro w'
    go_simp
    with_reducible rfl
  rotate_left
  · simp only [Act.put, List.setIfInBounds_toArray, List.set_cons_zero, List.set_cons_succ, i64_w, i32_w]
    rfl
  refine pure_ (i := 7) (N := some 12) (v := ?_) (a' := ?_) #[true, true, true, true, true, true, true, true, true, true, true, true, false, false, false, false, false, false] rfl rfl (any_of HT_.out (by kernel_rfl)) (fun _ _ _ h => h) (Or.inl ⟨by rfl, ?_⟩) ?_ ?_
  rotate_left
  · intro w'
    go_simp
    with_reducible rfl
  rotate_left
  · simp only [Act.put, List.setIfInBounds_toArray, List.set_cons_zero, List.set_cons_succ, i64_w, i32_w]
    rfl
  refine one_ (i := 12) (N := some 17) #[true, true, true, true, true, true, true, true, true, true, true, true, true, false, false, false, false, false] rfl rfl (one_of HT_.out (by kernel_rfl)) (by decide) (fun K hK => ?_)
  refine goes_ Try.func105 (by kernel_rfl) rfl #[.int .i64 a1_1] (by rfl) rfl rfl (by (try simp only [List.map_toArray, List.map_cons, List.map_nil]); first | done | rfl | (simp only [List.length_drop, List.length_take]; rfl)) ?_
  with_reducible refine (rules_held.calls a1_1 t273 _ A6.out).mono ?_
  rintro e w14 ⟨rfl, hb⟩
  refine ⟨_, rfl, ?_⟩
  have n0_ := Aside0.mk (blk_below (g := gb269) (o := .cells #[.int .i64 a0_0, .int .i64 a0_1] 64 (0, 0)) (by (with_reducible repeat (first | refine blk_drewN ?_ _ | refine blk_drew ?_ | refine blk_alloc ?_ _)); exact BK269.out) hb)
  have n1_ := Aside0.mk (blk_below (g := gb270) (o := .cells #[.int .i64 a1_0, .int .i64 a1_1] 64 (0, 0)) (by (with_reducible repeat (first | refine blk_drewN ?_ _ | refine blk_drew ?_ | refine blk_alloc ?_ _)); exact BK270.out) hb)
  have n2_ := Aside0.mk (blk_below (g := gb271) (o := .cells #[.int .i64 0, .int .i64 0] 64 (0, 0)) (by (with_reducible repeat (first | refine blk_drewN ?_ _ | refine blk_drew ?_ | refine blk_alloc ?_ _)); exact BK271.out) hb)
  have n3_ := Aside0.mk (below_step (by repeat (first | (with_reducible first | exact HB.out | apply below_alloc | apply pw_below_drewN | apply below_drew1 | refine below_set ?_ GE269.out | refine below_set ?_ GE270.out | refine below_set ?_ GE271.out) | exact HB.out)) hb)
  clear BK269
  clear BK270
  clear BK271
  clear HB
  have BK269 := n0_
  have BK270 := n1_
  have BK271 := n2_
  have HB := n3_
  clear n0_ n1_ n2_ n3_
  (try clear hb)
  (try clear hb2)
  (try clear hk)
  (try clear hi)
  refine hK.out _ _ ⟨(blk_cell BK269.out 0).trans rfl, (blk_cell BK269.out 1).trans rfl, (blk_cell BK270.out 0).trans rfl, (blk_cell BK270.out 1).trans rfl⟩ (fun hHeld => ?_)
  clear hK K
  refine norm_ (a' := ?_) ?_ ?_
  rotate_left
  · show Act.put _ (some 17) _ = _
    simp only [Act.put, List.setIfInBounds_toArray, List.set_cons_zero, List.set_cons_succ, i64_w, i32_w]
    rfl
  refine pure_ (i := 13) (N := some 18) (v := ?_) (a' := ?_) #[true, true, true, true, true, true, true, true, true, true, true, true, true, true, false, false, false, false] rfl rfl (any_of HT_.out (by kernel_rfl)) (fun _ _ _ h => h) (Or.inl ⟨by rfl, ?_⟩) ?_ ?_
  rotate_left
  · intro w'
    go_simp
    with_reducible rfl
  rotate_left
  · simp only [Act.put, List.setIfInBounds_toArray, List.set_cons_zero, List.set_cons_succ, i64_w, i32_w]
    rfl
  refine pure_ (i := 14) (N := some 19) (v := ?_) (a' := ?_) #[true, true, true, true, true, true, true, true, true, true, true, true, true, true, true, false, false, false] rfl rfl (any_of HT_.out (by kernel_rfl)) (fun _ _ _ h => h) (Or.inl ⟨by rfl, ?_⟩) ?_ ?_
  rotate_left
  · intro w'
    go_simp
    with_reducible rfl
  rotate_left
  · simp only [Act.put, List.setIfInBounds_toArray, List.set_cons_zero, List.set_cons_succ, i64_w, i32_w]
    rfl
  refine pure_ (i := 15) (N := some 20) (v := ?_) (a' := ?_) #[true, true, true, true, true, true, true, true, true, true, true, true, true, true, true, true, false, false] rfl rfl (any_of HT_.out (by kernel_rfl)) (fun _ _ _ h => h) (Or.inl ⟨by rfl, ?_⟩) ?_ ?_
  rotate_left
  · intro w'
    go_simp
    with_reducible rfl
  rotate_left
  · simp only [Act.put, List.setIfInBounds_toArray, List.set_cons_zero, List.set_cons_succ, i64_w, i32_w]
    rfl
  refine pure_ (i := 16) (N := some 21) (v := ?_) (a' := ?_) #[true, true, true, true, true, true, true, true, true, true, true, true, true, true, true, true, true, false] rfl rfl (any_of HT_.out (by kernel_rfl)) (fun _ _ _ h => h) (Or.inl ⟨by rfl, ?_⟩) ?_ ?_
  rotate_left
  · intro w'
    go_simp
    with_reducible rfl
  rotate_left
  · simp only [Act.put, List.setIfInBounds_toArray, List.set_cons_zero, List.set_cons_succ, i64_w, i32_w]
    rfl
  refine one_ (i := 17) (N := none) #[true, true, true, true, true, true, true, true, true, true, true, true, true, true, true, true, true, true] rfl rfl (one_of HT_.out (by kernel_rfl)) (by decide) (fun K hK => ?_)
  have hs15 : w14.cell? ⟨gb271, 0, none⟩ = some (.int .i64 0) := (blk_cell BK271.out 0).trans rfl
  have hfs15 := blk_frozen BK271.out 0
  have hns15_0 := NB269_271.out
  have hns15_1 := NB270_271.out
  have hms15_0 := NB271_269.out
  have hms15_1 := NB271_270.out
  have hs16 : w14.cell? ⟨gb271, 1, none⟩ = some (.int .i64 0) := (blk_cell BK271.out 1).trans rfl
  have hfs16 := blk_frozen BK271.out 1
  have hns16_0 := NB269_271.out
  have hns16_1 := NB270_271.out
  have hms16_0 := NB271_269.out
  have hms16_1 := NB271_270.out
  refine skip_ (w1 := ?_) (by rfl) rfl ?_ ?_
  rotate_left
  · go_simp
    rfl
  refine hK.out _ _ ⟨((cell_far (p := ⟨gb271, _, none⟩) NB269_271.out _).trans (((cell_far (p := ⟨gb271, _, none⟩) NB269_271.out _).trans (hHeld.1)))), ((cell_far (p := ⟨gb271, _, none⟩) NB269_271.out _).trans (((cell_far (p := ⟨gb271, _, none⟩) NB269_271.out _).trans (hHeld.2.1)))), ((cell_far (p := ⟨gb271, _, none⟩) NB270_271.out _).trans (((cell_far (p := ⟨gb271, _, none⟩) NB270_271.out _).trans (hHeld.2.2.1)))), ((cell_far (p := ⟨gb271, _, none⟩) NB270_271.out _).trans (((cell_far (p := ⟨gb271, _, none⟩) NB270_271.out _).trans (hHeld.2.2.2))))⟩ (fun hHeld => ?_)
  clear hK K
  refine done_ (done_of HT_.out (by kernel_rfl)) ?_
  try go_wp2
  refine bodyPost_ret (results_cell_row rfl _ _ gb271 64 #[.int .i64 ji5, .int .i64 ji8] (0, 0) _ rfl (by (with_reducible repeat (first | refine blk_drewN ?_ _ | refine blk_drew ?_ | refine blk_alloc ?_ _)); refine blk_put (cs := #[.int .i64 ji5, .int .i64 0]) ?_ 1 _ rfl; (with_reducible repeat (first | refine blk_drewN ?_ _ | refine blk_drew ?_ | refine blk_alloc ?_ _)); refine blk_put (cs := #[.int .i64 0, .int .i64 0]) ?_ 0 _ rfl; (with_reducible repeat (first | refine blk_drewN ?_ _ | refine blk_drew ?_ | refine blk_alloc ?_ _)); exact BK271.out) Try.underlying64 rfl (by kernel_rfl)) rfl ?_
  exact ⟨by first | rfl | (simp [errW_none, errW_some] <;> rfl) | (simp only [← hji4, ← hji5, ← hji7, ← hji8]; first | rfl | (simp [errW_none, errW_some] <;> rfl)) | (simp [*, errW_none, errW_some] <;> rfl), by repeat (first | (with_reducible first | exact HB.out | apply below_alloc | apply pw_below_drewN | apply below_drew1 | refine below_set ?_ GE269.out | refine below_set ?_ GE270.out | refine below_set ?_ GE271.out) | exact HB.out)⟩
end Go.Proofs.Ytamjjeakkkdfhaa.PB
end
section
namespace Go.Proofs.Ytamjjeakkkdfhaa.PB
open Go.RowKit Go.Proofs.YtamjjeakkkdfhaaW.PrintWords Go.Proofs.YtamjjeakkkdfhaaW.PrintLast Go.Proofs.YtamjjeakkkdfhaaW.PrintMore
open Go.Proofs.Ytamjjeakkkdfhaa.K Go.Proofs.Ytamjjeakkkdfhaa.G Go.Proofs.YtamjjeakkkdfhaaE
attribute [local go_sem] max2_int min2_int max_two min_two max_three min_three max_four min_four
set_option linter.unusedVariables false
set_option linter.unusedSimpArgs false
def rules_Used.l0 : Nat → ByteArray → List (S68) → Int → Int → Int → Int → Option (Int × Int)
  | 0, _, _, _, _, _, _ => none
  | k + 1, x1, x9, x10, x11, x277000, x277001 => if x11 < x10 then (if 0 ≤ x11 then (if x11 < (x9.length : Int) then (if x1.toList = ([] : List UInt8) then (rules_Used.l0 k x1 x9 x10 (wrap64 (x11 + 1)) x277000 x277001) else (if ((rd_T68 x9 x11).f12).toList = x1.toList then ((rules_both.f x277000 x277001 ((rd_T68 x9 x11).f16.f0) ((rd_T68 x9 x11).f16.f1)).bind fun bt279 => (rules_Used.l0 k x1 x9 x10 (wrap64 (x11 + 1)) bt279.1 bt279.2)) else (rules_Used.l0 k x1 x9 x10 (wrap64 (x11 + 1)) x277000 x277001))) else (none)) else (none)) else (some (x277000, x277001))
def rules_Used.f (k : Nat) (l0_0 : List (S68)) (l0_1 : List (S68)) (l0_2 : List (S68)) (l0_3 : List (S68)) (a1 : ByteArray) : Option (Int × Int) := rules_Used.l0 k a1 l0_1 (l0_1.length : Int) 0 0 0
set_option maxHeartbeats 8000000 in
set_option maxRecDepth 100000 in
theorem rules_Used.calls (k : Nat) (A0_0 : Option Addr) (c0_0 : Nat) (l0_0 : List (S68)) (A0_1 : Option Addr) (c0_1 : Nat) (l0_1 : List (S68)) (A0_2 : Option Addr) (c0_2 : Nat) (l0_2 : List (S68)) (A0_3 : Option Addr) (c0_3 : Nat) (l0_3 : List (S68)) (a1 : ByteArray) (r1 : Int) (r2 : Int) (w : World) (hr0_0 : Kd.C k68 w A0_0 l0_0.length l0_0) (hc0_0 : l0_0.length ≤ c0_0) (hr0_1 : Kd.C k68 w A0_1 l0_1.length l0_1) (hc0_1 : l0_1.length ≤ c0_1) (hr0_2 : Kd.C k68 w A0_2 l0_2.length l0_2) (hc0_2 : l0_2.length ≤ c0_2) (hr0_3 : Kd.C k68 w A0_3 l0_3.length l0_3) (hc0_3 : l0_3.length ≤ c0_3) (h : rules_Used.f k l0_0 l0_1 l0_2 l0_3 a1 = some (r1, r2)) :
    Calls Try.prog 38 #[.agg #[.slice A0_0 l0_0.length c0_0, .slice A0_1 l0_1.length c0_1, .slice A0_2 l0_2.length c0_2, .slice A0_3 l0_3.length c0_3], .string a1] w fun e w' => e = .returned (.agg #[.int .i64 r1, .int .i64 r2]) ∧ Below w.heap.size w w' := by
  have hu59 := Try.underlying59
  have hu64 := Try.underlying64
  have hu68 := Try.underlying68
  have HR0_0 := Aside0.mk hr0_0
  have HC0_0 := Aside0.mk hc0_0
  clear hr0_0 hc0_0
  have HR0_1 := Aside0.mk hr0_1
  have HC0_1 := Aside0.mk hc0_1
  clear hr0_1 hc0_1
  have HR0_2 := Aside0.mk hr0_2
  have HC0_2 := Aside0.mk hc0_2
  clear hr0_2 hc0_2
  have HR0_3 := Aside0.mk hr0_3
  have HC0_3 := Aside0.mk hc0_3
  clear hr0_3 hc0_3
  have HB := Aside0.mk (Below.refl w.heap.size w)
  have H : (rules_Used.l0 k a1 l0_1 (l0_1.length : Int) 0 0 0) = some (r1, r2) := h
  clear h
  have H' := Aside0.mk H
  clear H
  go_enter Try.func38, Try.ntmps38
  go_wp2_with (first | ((with_reducible refine gate_load (t := 68) rfl ?_); first | (refine load68_box rfl rfl rfl (by with_reducible assumption) (by with_reducible assumption) (by with_reducible assumption) (by with_reducible assumption) (by with_reducible assumption) (by with_reducible assumption) (by with_reducible assumption) (by with_reducible assumption) (by with_reducible assumption) (by with_reducible assumption) (by with_reducible assumption) (by with_reducible assumption) (by with_reducible assumption) (by with_reducible assumption) (by with_reducible assumption) (by with_reducible assumption) (by with_reducible assumption) (by with_reducible assumption) (by with_reducible assumption) (by with_reducible assumption) (by with_reducible assumption) (by with_reducible assumption) (by with_reducible assumption) (by with_reducible assumption) (by with_reducible assumption) (by with_reducible assumption) (by with_reducible assumption) (by with_reducible assumption) (by with_reducible assumption) (by with_reducible assumption) (by with_reducible assumption) (by with_reducible assumption) ?_) | (refine load68_at rfl rfl rfl (by with_reducible assumption) (by with_reducible assumption) (by with_reducible assumption) (by with_reducible assumption) (by with_reducible assumption) (by with_reducible assumption) (by with_reducible assumption) (by with_reducible assumption) (by with_reducible assumption) (by with_reducible assumption) (by with_reducible assumption) (by with_reducible assumption) (by with_reducible assumption) (by with_reducible assumption) (by with_reducible assumption) (by with_reducible assumption) (by with_reducible assumption) (by with_reducible assumption) (by with_reducible assumption) (by with_reducible assumption) (by with_reducible assumption) (by with_reducible assumption) (by with_reducible assumption) (by with_reducible assumption) (by with_reducible assumption) (by with_reducible assumption) (by with_reducible assumption) (by with_reducible assumption) (by with_reducible assumption) (by with_reducible assumption) (by with_reducible assumption) (by with_reducible assumption) ?_)) | ((with_reducible refine gate_dst (N := 2) rfl ?_); refine box_event ?hg (N := 2) ?hd (cs := #[.slice A0_0 l0_0.length c0_0, .slice A0_1 l0_1.length c0_1, .slice A0_2 l0_2.length c0_2, .slice A0_3 l0_3.length c0_3]) (t := 59) ?hr ?_; (case hd => rfl); (case hg => rfl); (case hr => first | (go_simp; done) | (go_simp; rfl)); intro gb274 hg w3 hbox hb; have n0_ := Aside0.mk (below_step (by repeat (first | (with_reducible first | exact HB.out | apply below_alloc | apply pw_below_drewN | apply below_drew1) | exact HB.out)) hb); have n1_ := Aside0.mk (hbox); have n2_ := Aside0.mk ((by rw [hg]; exact (below_size (by repeat (first | (with_reducible first | exact HB.out | apply below_alloc | apply pw_below_drewN | apply below_drew1) | exact HB.out))) : w.heap.size ≤ gb274)); have n3_ := Aside0.mk ((by rw [hg]; exact (below_size (by repeat (first | (with_reducible first | exact HB.out | apply below_alloc | apply pw_below_drewN | apply below_drew1) | exact HB.out))) : w.heap.size ≤ gb274)); clear HB; have HB := n0_; have BK274 := n1_; have GW274 := n2_; have GE274 := n3_; clear n0_ n1_ n2_ n3_; clear hb hbox hg) | ((with_reducible refine gate_dst (N := 4) rfl ?_); refine box_event ?hg (N := 4) ?hd (cs := #[.int .i64 0, .int .i64 0]) (t := 64) ?hr ?_; (case hd => rfl); (case hg => rfl); (case hr => first | (go_simp; done) | (go_simp; rfl)); intro gb275 hg w4 hbox hb; have n0_ := Aside0.mk (blk_below (g := gb274) (o := .cells #[.slice A0_0 l0_0.length c0_0, .slice A0_1 l0_1.length c0_1, .slice A0_2 l0_2.length c0_2, .slice A0_3 l0_3.length c0_3] 59 (0, 0)) (by (with_reducible repeat (first | refine blk_drewN ?_ _ | refine blk_drew ?_ | refine blk_alloc ?_ _)); exact BK274.out) hb); have n1_ := Aside0.mk (below_step (by repeat (first | (with_reducible first | exact HB.out | apply below_alloc | apply pw_below_drewN | apply below_drew1 | refine below_set ?_ GE274.out) | exact HB.out)) hb); have n2_ := Aside0.mk (hbox); have n3_ := Aside0.mk ((by rw [hg]; exact (below_size (by repeat (first | (with_reducible first | exact HB.out | apply below_alloc | apply pw_below_drewN | apply below_drew1 | refine below_set ?_ GE274.out) | exact HB.out))) : w.heap.size ≤ gb275)); have n4_ := Aside0.mk ((by rw [hg]; exact (below_size (by repeat (first | (with_reducible first | exact HB.out | apply below_alloc | apply pw_below_drewN | apply below_drew1 | refine below_set ?_ GE274.out) | exact HB.out))) : w.heap.size ≤ gb275)); have n5_ := Aside0.mk ((by rw [hg]; exact Nat.ne_of_lt (blk_lt (g := gb274) (o := .cells #[.slice A0_0 l0_0.length c0_0, .slice A0_1 l0_1.length c0_1, .slice A0_2 l0_2.length c0_2, .slice A0_3 l0_3.length c0_3] 59 (0, 0)) (by (with_reducible repeat (first | refine blk_drewN ?_ _ | refine blk_drew ?_ | refine blk_alloc ?_ _)); exact BK274.out)) : gb274 ≠ gb275)); have n6_ := Aside0.mk ((by rw [hg]; exact Nat.ne_of_gt (blk_lt (g := gb274) (o := .cells #[.slice A0_0 l0_0.length c0_0, .slice A0_1 l0_1.length c0_1, .slice A0_2 l0_2.length c0_2, .slice A0_3 l0_3.length c0_3] 59 (0, 0)) (by (with_reducible repeat (first | refine blk_drewN ?_ _ | refine blk_drew ?_ | refine blk_alloc ?_ _)); exact BK274.out)) : gb275 ≠ gb274)); clear BK274; clear HB; have BK274 := n0_; have HB := n1_; have BK275 := n2_; have GW275 := n3_; have GE275 := n4_; have NB274_275 := n5_; have NB275_274 := n6_; clear n0_ n1_ n2_ n3_ n4_ n5_ n6_; clear hb hbox hg) | ((with_reducible refine gate_dst (N := 5) rfl ?_); refine box_event ?hg (N := 5) ?hd (cs := #[.int .i64 0, .int .i64 0]) (t := 64) ?hr ?_; (case hd => rfl); (case hg => rfl); (case hr => first | (go_simp; done) | (go_simp; rfl)); intro gb276 hg w5 hbox hb; have n0_ := Aside0.mk (blk_below (g := gb274) (o := .cells #[.slice A0_0 l0_0.length c0_0, .slice A0_1 l0_1.length c0_1, .slice A0_2 l0_2.length c0_2, .slice A0_3 l0_3.length c0_3] 59 (0, 0)) (by (with_reducible repeat (first | refine blk_drewN ?_ _ | refine blk_drew ?_ | refine blk_alloc ?_ _)); exact BK274.out) hb); have n1_ := Aside0.mk (blk_below (g := gb275) (o := .cells #[.int .i64 0, .int .i64 0] 64 (0, 0)) (by (with_reducible repeat (first | refine blk_drewN ?_ _ | refine blk_drew ?_ | refine blk_alloc ?_ _)); exact BK275.out) hb); have n2_ := Aside0.mk (below_step (by repeat (first | (with_reducible first | exact HB.out | apply below_alloc | apply pw_below_drewN | apply below_drew1 | refine below_set ?_ GE274.out | refine below_set ?_ GE275.out) | exact HB.out)) hb); have n3_ := Aside0.mk (hbox); have n4_ := Aside0.mk ((by rw [hg]; exact (below_size (by repeat (first | (with_reducible first | exact HB.out | apply below_alloc | apply pw_below_drewN | apply below_drew1 | refine below_set ?_ GE274.out | refine below_set ?_ GE275.out) | exact HB.out))) : w.heap.size ≤ gb276)); have n5_ := Aside0.mk ((by rw [hg]; exact (below_size (by repeat (first | (with_reducible first | exact HB.out | apply below_alloc | apply pw_below_drewN | apply below_drew1 | refine below_set ?_ GE274.out | refine below_set ?_ GE275.out) | exact HB.out))) : w.heap.size ≤ gb276)); have n6_ := Aside0.mk ((by rw [hg]; exact Nat.ne_of_lt (blk_lt (g := gb274) (o := .cells #[.slice A0_0 l0_0.length c0_0, .slice A0_1 l0_1.length c0_1, .slice A0_2 l0_2.length c0_2, .slice A0_3 l0_3.length c0_3] 59 (0, 0)) (by (with_reducible repeat (first | refine blk_drewN ?_ _ | refine blk_drew ?_ | refine blk_alloc ?_ _)); exact BK274.out)) : gb274 ≠ gb276)); have n7_ := Aside0.mk ((by rw [hg]; exact Nat.ne_of_gt (blk_lt (g := gb274) (o := .cells #[.slice A0_0 l0_0.length c0_0, .slice A0_1 l0_1.length c0_1, .slice A0_2 l0_2.length c0_2, .slice A0_3 l0_3.length c0_3] 59 (0, 0)) (by (with_reducible repeat (first | refine blk_drewN ?_ _ | refine blk_drew ?_ | refine blk_alloc ?_ _)); exact BK274.out)) : gb276 ≠ gb274)); have n8_ := Aside0.mk ((by rw [hg]; exact Nat.ne_of_lt (blk_lt (g := gb275) (o := .cells #[.int .i64 0, .int .i64 0] 64 (0, 0)) (by (with_reducible repeat (first | refine blk_drewN ?_ _ | refine blk_drew ?_ | refine blk_alloc ?_ _)); exact BK275.out)) : gb275 ≠ gb276)); have n9_ := Aside0.mk ((by rw [hg]; exact Nat.ne_of_gt (blk_lt (g := gb275) (o := .cells #[.int .i64 0, .int .i64 0] 64 (0, 0)) (by (with_reducible repeat (first | refine blk_drewN ?_ _ | refine blk_drew ?_ | refine blk_alloc ?_ _)); exact BK275.out)) : gb276 ≠ gb275)); clear BK274; clear BK275; clear HB; have BK274 := n0_; have BK275 := n1_; have HB := n2_; have BK276 := n3_; have GW276 := n4_; have GE276 := n5_; have NB274_276 := n6_; have NB276_274 := n7_; have NB275_276 := n8_; have NB276_275 := n9_; clear n0_ n1_ n2_ n3_ n4_ n5_ n6_ n7_ n8_ n9_; clear hb hbox hg; have hnb6 := NB274_275.out; have hnc6 := NB275_274.out; have hnb7 := NB274_276.out; have hnc7 := NB276_274.out; have hcz8_0 : w5.cell? ⟨gb274, 0, none⟩ = some (.slice A0_0 l0_0.length c0_0) := (blk_cell BK274.out 0).trans rfl; have hcz8_1 : w5.cell? ⟨gb274, 1, none⟩ = some (.slice A0_1 l0_1.length c0_1) := (blk_cell BK274.out 1).trans rfl; have hcz8_2 : w5.cell? ⟨gb274, 2, none⟩ = some (.slice A0_2 l0_2.length c0_2) := (blk_cell BK274.out 2).trans rfl; have hcz8_3 : w5.cell? ⟨gb274, 3, none⟩ = some (.slice A0_3 l0_3.length c0_3) := (blk_cell BK274.out 3).trans rfl; have hfz8_0 := blk_frozen BK274.out 0; have hfz8_1 := blk_frozen BK274.out 1; have hfz8_2 := blk_frozen BK274.out 2; have hfz8_3 := blk_frozen BK274.out 3))
  go_loopg [11] k (fun kq v11 w' => ∃ (x11_1 : Int) (x277000_1 : Int) (x277001_1 : Int), v11 = .int .i64 x11_1 ∧ Aside0 (rules_Used.l0 kq a1 l0_1 (l0_1.length : Int) x11_1 x277000_1 x277001_1 = some (r1, r2)) ∧ Aside0 (kq ≤ k) ∧ Aside0 (w'.heap[gb274]? = some (.cells #[(.slice A0_0 l0_0.length c0_0), (.slice A0_1 l0_1.length c0_1), (.slice A0_2 l0_2.length c0_2), (.slice A0_3 l0_3.length c0_3)] 59 (0, 0))) ∧ Aside0 (w'.heap[gb275]? = some (.cells #[.int .i64 0, .int .i64 0] 64 (0, 0))) ∧ Aside0 (w'.heap[gb276]? = some (.cells #[.int .i64 x277000_1, .int .i64 x277001_1] 64 (0, 0))) ∧ Aside0 (Below w.heap.size w w'))
  case atStart => exact ⟨(0), (0), (0), (by first | rfl | (simp; done) | (simp [*]; done)), H', ⟨Nat.le_refl _⟩, ⟨by (with_reducible repeat (first | refine blk_drewN ?_ _ | refine blk_drew ?_ | refine blk_alloc ?_ _)); exact BK274.out⟩, ⟨by (with_reducible repeat (first | refine blk_drewN ?_ _ | refine blk_drew ?_ | refine blk_alloc ?_ _)); exact BK275.out⟩, ⟨by (with_reducible repeat (first | refine blk_drewN ?_ _ | refine blk_drew ?_ | refine blk_alloc ?_ _)); exact BK276.out⟩, ⟨by repeat (first | (with_reducible first | exact HB.out | apply below_alloc | apply pw_below_drewN | apply below_drew1 | refine below_set ?_ GE274.out | refine below_set ?_ GE275.out | refine below_set ?_ GE276.out) | exact HB.out)⟩⟩
  case round =>
    clear H'
    try clear p2
    try clear c3
    try clear c6
    try clear c7
    try clear hcz8_0
    try clear hcz8_1
    try clear hcz8_2
    try clear hcz8_3
    try clear hfz8_0
    try clear hfz8_1
    try clear hfz8_2
    try clear hfz8_3
    obtain ⟨x11_1, x277000_1, x277001_1, rfl, HA, HK1, BK274, BK275, BK276, HB⟩ := hrel
    cases gk with
    | zero => exact absurd HA.out (by simp [rules_Used.l0])
    | succ k1 =>
      have H := HA.out
      clear HA
      simp only [rules_Used.l0] at H
      by_cases c9 : x11_1 < (l0_1.length : Int)
      · rw [if_pos c9] at H
        have c9b0 : decide (x11_1 < (l0_1.length : Int)) = true := decide_eq_true c9
        clear c9
        by_cases c10 : 0 ≤ x11_1
        · rw [if_pos c10] at H
          have c10b0 : decide (0 ≤ x11_1) = true := decide_eq_true c10
          clear c10
          by_cases c11 : x11_1 < (l0_1.length : Int)
          · rw [if_pos c11] at H
            have c11b0 : decide (x11_1 < (l0_1.length : Int)) = true := decide_eq_true c11
            clear c11
            by_cases c12 : a1.toList = ([] : List UInt8)
            · rw [if_pos c12] at H
              have c12b0 : (a1.toList == ([] : List UInt8)) = true := beq_iff_eq.mpr c12
              have c12b1 : (a1.toList != ([] : List UInt8)) = false := bne_eq_false_iff_eq.mpr c12
              clear c12
              have H' := Aside0.mk H
              clear H
              have p277 : 0 ≤ (x11_1 : Int) := of_decide_eq_true (by first | (with_reducible assumption) | assumption)
              have q277 : x11_1 < (l0_1.length : Int) := of_decide_eq_true (by first | (with_reducible assumption) | assumption)
              obtain ⟨ad277, A277_4, c277_4, A277_27, c277_27, e277, hx277_0, hx277_1, hx277_2, hx277_3, hx277_4, hx277_5, hx277_6, hx277_7, hx277_8, hx277_9, hx277_10, hx277_11, hx277_12, hx277_13, hx277_14, hx277_15, hx277_16, hx277_17, hx277_18, hx277_19, hx277_20, hx277_21, hx277_22, hx277_23, hx277_24, hx277_25, hx277_26, hx277_27, hx277_28, hx277_29, hx277_30, hx277_31, hl277_4, hi277_4, hl277_27, hi277_27⟩ := at_T68 HR0_1.out x11_1 p277 q277
              cases e277
              replace hx277_0 := (HB.out.cell (World.block_lt_of_cell? w _ hx277_0)).trans hx277_0
              replace hx277_1 := (HB.out.cell (World.block_lt_of_cell? w _ hx277_1)).trans hx277_1
              replace hx277_2 := (HB.out.cell (World.block_lt_of_cell? w _ hx277_2)).trans hx277_2
              replace hx277_3 := (HB.out.cell (World.block_lt_of_cell? w _ hx277_3)).trans hx277_3
              replace hx277_4 := (HB.out.cell (World.block_lt_of_cell? w _ hx277_4)).trans hx277_4
              replace hx277_5 := (HB.out.cell (World.block_lt_of_cell? w _ hx277_5)).trans hx277_5
              replace hx277_6 := (HB.out.cell (World.block_lt_of_cell? w _ hx277_6)).trans hx277_6
              replace hx277_7 := (HB.out.cell (World.block_lt_of_cell? w _ hx277_7)).trans hx277_7
              replace hx277_8 := (HB.out.cell (World.block_lt_of_cell? w _ hx277_8)).trans hx277_8
              replace hx277_9 := (HB.out.cell (World.block_lt_of_cell? w _ hx277_9)).trans hx277_9
              replace hx277_10 := (HB.out.cell (World.block_lt_of_cell? w _ hx277_10)).trans hx277_10
              replace hx277_11 := (HB.out.cell (World.block_lt_of_cell? w _ hx277_11)).trans hx277_11
              replace hx277_12 := (HB.out.cell (World.block_lt_of_cell? w _ hx277_12)).trans hx277_12
              replace hx277_13 := (HB.out.cell (World.block_lt_of_cell? w _ hx277_13)).trans hx277_13
              replace hx277_14 := (HB.out.cell (World.block_lt_of_cell? w _ hx277_14)).trans hx277_14
              replace hx277_15 := (HB.out.cell (World.block_lt_of_cell? w _ hx277_15)).trans hx277_15
              replace hx277_16 := (HB.out.cell (World.block_lt_of_cell? w _ hx277_16)).trans hx277_16
              replace hx277_17 := (HB.out.cell (World.block_lt_of_cell? w _ hx277_17)).trans hx277_17
              replace hx277_18 := (HB.out.cell (World.block_lt_of_cell? w _ hx277_18)).trans hx277_18
              replace hx277_19 := (HB.out.cell (World.block_lt_of_cell? w _ hx277_19)).trans hx277_19
              replace hx277_20 := (HB.out.cell (World.block_lt_of_cell? w _ hx277_20)).trans hx277_20
              replace hx277_21 := (HB.out.cell (World.block_lt_of_cell? w _ hx277_21)).trans hx277_21
              replace hx277_22 := (HB.out.cell (World.block_lt_of_cell? w _ hx277_22)).trans hx277_22
              replace hx277_23 := (HB.out.cell (World.block_lt_of_cell? w _ hx277_23)).trans hx277_23
              replace hx277_24 := (HB.out.cell (World.block_lt_of_cell? w _ hx277_24)).trans hx277_24
              replace hx277_25 := (HB.out.cell (World.block_lt_of_cell? w _ hx277_25)).trans hx277_25
              replace hx277_26 := (HB.out.cell (World.block_lt_of_cell? w _ hx277_26)).trans hx277_26
              replace hx277_27 := (HB.out.cell (World.block_lt_of_cell? w _ hx277_27)).trans hx277_27
              replace hx277_28 := (HB.out.cell (World.block_lt_of_cell? w _ hx277_28)).trans hx277_28
              replace hx277_29 := (HB.out.cell (World.block_lt_of_cell? w _ hx277_29)).trans hx277_29
              replace hx277_30 := (HB.out.cell (World.block_lt_of_cell? w _ hx277_30)).trans hx277_30
              replace hx277_31 := (HB.out.cell (World.block_lt_of_cell? w _ hx277_31)).trans hx277_31
              have HR277_4 := Aside0.mk hi277_4
              have HC277_4 := Aside0.mk hl277_4
              clear hi277_4 hl277_4
              have HR277_27 := Aside0.mk hi277_27
              have HC277_27 := Aside0.mk hl277_27
              clear hi277_27 hl277_27
              replace p277 := eq_true p277
              replace q277 := eq_true q277
              go_wp2_with (first | ((with_reducible refine gate_load (t := 68) rfl ?_); first | (refine load68_box rfl rfl rfl (by with_reducible assumption) (by with_reducible assumption) (by with_reducible assumption) (by with_reducible assumption) (by with_reducible assumption) (by with_reducible assumption) (by with_reducible assumption) (by with_reducible assumption) (by with_reducible assumption) (by with_reducible assumption) (by with_reducible assumption) (by with_reducible assumption) (by with_reducible assumption) (by with_reducible assumption) (by with_reducible assumption) (by with_reducible assumption) (by with_reducible assumption) (by with_reducible assumption) (by with_reducible assumption) (by with_reducible assumption) (by with_reducible assumption) (by with_reducible assumption) (by with_reducible assumption) (by with_reducible assumption) (by with_reducible assumption) (by with_reducible assumption) (by with_reducible assumption) (by with_reducible assumption) (by with_reducible assumption) (by with_reducible assumption) (by with_reducible assumption) (by with_reducible assumption) ?_) | (refine load68_at rfl rfl rfl (by with_reducible assumption) (by with_reducible assumption) (by with_reducible assumption) (by with_reducible assumption) (by with_reducible assumption) (by with_reducible assumption) (by with_reducible assumption) (by with_reducible assumption) (by with_reducible assumption) (by with_reducible assumption) (by with_reducible assumption) (by with_reducible assumption) (by with_reducible assumption) (by with_reducible assumption) (by with_reducible assumption) (by with_reducible assumption) (by with_reducible assumption) (by with_reducible assumption) (by with_reducible assumption) (by with_reducible assumption) (by with_reducible assumption) (by with_reducible assumption) (by with_reducible assumption) (by with_reducible assumption) (by with_reducible assumption) (by with_reducible assumption) (by with_reducible assumption) (by with_reducible assumption) (by with_reducible assumption) (by with_reducible assumption) (by with_reducible assumption) (by with_reducible assumption) ?_)) | ((with_reducible refine gate_dst (N := 7) rfl ?_); refine box_event ?hg (N := 7) ?hd (cs := #[.int .i64 0, .string (⟨#[]⟩ : ByteArray), .int .i64 0, .int .i64 0, .slice none 0 0, .int .i64 0, .int .i64 0, .bool false, .bool false, .bool false, .int .i64 0, .string (⟨#[]⟩ : ByteArray), .string (⟨#[]⟩ : ByteArray), .string (⟨#[]⟩ : ByteArray), .int .i64 0, .bool false, .bool false, .int .i64 0, .int .i64 0, .string (⟨#[]⟩ : ByteArray), .int .i64 0, .int .i64 0, .int .i64 0, .int .i64 0, .int .i64 0, .bool false, .int .u64 0, .slice none 0 0, .int .i64 0, .string (⟨#[]⟩ : ByteArray), .int .i64 0, .int .i64 0]) (t := 68) ?hr ?_; (case hd => rfl); (case hg => rfl); (case hr => first | (go_simp; done) | (go_simp; rfl)); intro gb278 hg w13 hbox hb; have n0_ := Aside0.mk (blk_below (g := gb274) (o := .cells #[.slice A0_0 l0_0.length c0_0, .slice (some ad277) l0_1.length c0_1, .slice A0_2 l0_2.length c0_2, .slice A0_3 l0_3.length c0_3] 59 (0, 0)) (by (with_reducible repeat (first | refine blk_drewN ?_ _ | refine blk_drew ?_ | refine blk_alloc ?_ _)); exact BK274.out) hb); have n1_ := Aside0.mk (blk_below (g := gb275) (o := .cells #[.int .i64 0, .int .i64 0] 64 (0, 0)) (by (with_reducible repeat (first | refine blk_drewN ?_ _ | refine blk_drew ?_ | refine blk_alloc ?_ _)); exact BK275.out) hb); have n2_ := Aside0.mk (blk_below (g := gb276) (o := .cells #[.int .i64 x277000_1, .int .i64 x277001_1] 64 (0, 0)) (by (with_reducible repeat (first | refine blk_drewN ?_ _ | refine blk_drew ?_ | refine blk_alloc ?_ _)); exact BK276.out) hb); have n3_ := Aside0.mk (below_step (by repeat (first | (with_reducible first | exact HB.out | apply below_alloc | apply pw_below_drewN | apply below_drew1 | refine below_set ?_ GE274.out | refine below_set ?_ GE275.out | refine below_set ?_ GE276.out) | exact HB.out)) hb); have n4_ := Aside0.mk (hbox); have n5_ := Aside0.mk ((by rw [hg]; exact (below_size (by repeat (first | (with_reducible first | exact HB.out | apply below_alloc | apply pw_below_drewN | apply below_drew1 | refine below_set ?_ GE274.out | refine below_set ?_ GE275.out | refine below_set ?_ GE276.out) | exact HB.out))) : w.heap.size ≤ gb278)); have n6_ := Aside0.mk ((by rw [hg]; exact (below_size (by repeat (first | (with_reducible first | exact HB.out | apply below_alloc | apply pw_below_drewN | apply below_drew1 | refine below_set ?_ GE274.out | refine below_set ?_ GE275.out | refine below_set ?_ GE276.out) | exact HB.out))) : w.heap.size ≤ gb278)); have n7_ := Aside0.mk ((by rw [hg]; exact Nat.ne_of_lt (blk_lt (g := gb274) (o := .cells #[.slice A0_0 l0_0.length c0_0, .slice (some ad277) l0_1.length c0_1, .slice A0_2 l0_2.length c0_2, .slice A0_3 l0_3.length c0_3] 59 (0, 0)) (by (with_reducible repeat (first | refine blk_drewN ?_ _ | refine blk_drew ?_ | refine blk_alloc ?_ _)); exact BK274.out)) : gb274 ≠ gb278)); have n8_ := Aside0.mk ((by rw [hg]; exact Nat.ne_of_gt (blk_lt (g := gb274) (o := .cells #[.slice A0_0 l0_0.length c0_0, .slice (some ad277) l0_1.length c0_1, .slice A0_2 l0_2.length c0_2, .slice A0_3 l0_3.length c0_3] 59 (0, 0)) (by (with_reducible repeat (first | refine blk_drewN ?_ _ | refine blk_drew ?_ | refine blk_alloc ?_ _)); exact BK274.out)) : gb278 ≠ gb274)); have n9_ := Aside0.mk ((by rw [hg]; exact Nat.ne_of_lt (blk_lt (g := gb275) (o := .cells #[.int .i64 0, .int .i64 0] 64 (0, 0)) (by (with_reducible repeat (first | refine blk_drewN ?_ _ | refine blk_drew ?_ | refine blk_alloc ?_ _)); exact BK275.out)) : gb275 ≠ gb278)); have n10_ := Aside0.mk ((by rw [hg]; exact Nat.ne_of_gt (blk_lt (g := gb275) (o := .cells #[.int .i64 0, .int .i64 0] 64 (0, 0)) (by (with_reducible repeat (first | refine blk_drewN ?_ _ | refine blk_drew ?_ | refine blk_alloc ?_ _)); exact BK275.out)) : gb278 ≠ gb275)); have n11_ := Aside0.mk ((by rw [hg]; exact Nat.ne_of_lt (blk_lt (g := gb276) (o := .cells #[.int .i64 x277000_1, .int .i64 x277001_1] 64 (0, 0)) (by (with_reducible repeat (first | refine blk_drewN ?_ _ | refine blk_drew ?_ | refine blk_alloc ?_ _)); exact BK276.out)) : gb276 ≠ gb278)); have n12_ := Aside0.mk ((by rw [hg]; exact Nat.ne_of_gt (blk_lt (g := gb276) (o := .cells #[.int .i64 x277000_1, .int .i64 x277001_1] 64 (0, 0)) (by (with_reducible repeat (first | refine blk_drewN ?_ _ | refine blk_drew ?_ | refine blk_alloc ?_ _)); exact BK276.out)) : gb278 ≠ gb276)); clear BK274; clear BK275; clear BK276; clear HB; have BK274 := n0_; have BK275 := n1_; have BK276 := n2_; have HB := n3_; have BK278 := n4_; have GW278 := n5_; have GE278 := n6_; have NB274_278 := n7_; have NB278_274 := n8_; have NB275_278 := n9_; have NB278_275 := n10_; have NB276_278 := n11_; have NB278_276 := n12_; clear n0_ n1_ n2_ n3_ n4_ n5_ n6_ n7_ n8_ n9_ n10_ n11_ n12_; clear hb hbox hg; have hnb14 := NB278_274.out; have hnc14 := NB274_278.out; have hnb15 := NB278_275.out; have hnc15 := NB275_278.out; have hnb16 := NB278_276.out; have hnc16 := NB276_278.out; have hcz17_0 : w13.cell? ⟨gb278, 0, none⟩ = some (.int .i64 0) := (blk_cell BK278.out 0).trans rfl; have hcz17_1 : w13.cell? ⟨gb278, 1, none⟩ = some (.string (⟨#[]⟩ : ByteArray)) := (blk_cell BK278.out 1).trans rfl; have hcz17_2 : w13.cell? ⟨gb278, 2, none⟩ = some (.int .i64 0) := (blk_cell BK278.out 2).trans rfl; have hcz17_3 : w13.cell? ⟨gb278, 3, none⟩ = some (.int .i64 0) := (blk_cell BK278.out 3).trans rfl; have hcz17_4 : w13.cell? ⟨gb278, 4, none⟩ = some (.slice none 0 0) := (blk_cell BK278.out 4).trans rfl; have hcz17_5 : w13.cell? ⟨gb278, 5, none⟩ = some (.int .i64 0) := (blk_cell BK278.out 5).trans rfl; have hcz17_6 : w13.cell? ⟨gb278, 6, none⟩ = some (.int .i64 0) := (blk_cell BK278.out 6).trans rfl; have hcz17_7 : w13.cell? ⟨gb278, 7, none⟩ = some (.bool false) := (blk_cell BK278.out 7).trans rfl; have hcz17_8 : w13.cell? ⟨gb278, 8, none⟩ = some (.bool false) := (blk_cell BK278.out 8).trans rfl; have hcz17_9 : w13.cell? ⟨gb278, 9, none⟩ = some (.bool false) := (blk_cell BK278.out 9).trans rfl; have hcz17_10 : w13.cell? ⟨gb278, 10, none⟩ = some (.int .i64 0) := (blk_cell BK278.out 10).trans rfl; have hcz17_11 : w13.cell? ⟨gb278, 11, none⟩ = some (.string (⟨#[]⟩ : ByteArray)) := (blk_cell BK278.out 11).trans rfl; have hcz17_12 : w13.cell? ⟨gb278, 12, none⟩ = some (.string (⟨#[]⟩ : ByteArray)) := (blk_cell BK278.out 12).trans rfl; have hcz17_13 : w13.cell? ⟨gb278, 13, none⟩ = some (.string (⟨#[]⟩ : ByteArray)) := (blk_cell BK278.out 13).trans rfl; have hcz17_14 : w13.cell? ⟨gb278, 14, none⟩ = some (.int .i64 0) := (blk_cell BK278.out 14).trans rfl; have hcz17_15 : w13.cell? ⟨gb278, 15, none⟩ = some (.bool false) := (blk_cell BK278.out 15).trans rfl; have hcz17_16 : w13.cell? ⟨gb278, 16, none⟩ = some (.bool false) := (blk_cell BK278.out 16).trans rfl; have hcz17_17 : w13.cell? ⟨gb278, 17, none⟩ = some (.int .i64 0) := (blk_cell BK278.out 17).trans rfl; have hcz17_18 : w13.cell? ⟨gb278, 18, none⟩ = some (.int .i64 0) := (blk_cell BK278.out 18).trans rfl; have hcz17_19 : w13.cell? ⟨gb278, 19, none⟩ = some (.string (⟨#[]⟩ : ByteArray)) := (blk_cell BK278.out 19).trans rfl; have hcz17_20 : w13.cell? ⟨gb278, 20, none⟩ = some (.int .i64 0) := (blk_cell BK278.out 20).trans rfl; have hcz17_21 : w13.cell? ⟨gb278, 21, none⟩ = some (.int .i64 0) := (blk_cell BK278.out 21).trans rfl; have hcz17_22 : w13.cell? ⟨gb278, 22, none⟩ = some (.int .i64 0) := (blk_cell BK278.out 22).trans rfl; have hcz17_23 : w13.cell? ⟨gb278, 23, none⟩ = some (.int .i64 0) := (blk_cell BK278.out 23).trans rfl; have hcz17_24 : w13.cell? ⟨gb278, 24, none⟩ = some (.int .i64 0) := (blk_cell BK278.out 24).trans rfl; have hcz17_25 : w13.cell? ⟨gb278, 25, none⟩ = some (.bool false) := (blk_cell BK278.out 25).trans rfl; have hcz17_26 : w13.cell? ⟨gb278, 26, none⟩ = some (.int .u64 0) := (blk_cell BK278.out 26).trans rfl; have hcz17_27 : w13.cell? ⟨gb278, 27, none⟩ = some (.slice none 0 0) := (blk_cell BK278.out 27).trans rfl; have hcz17_28 : w13.cell? ⟨gb278, 28, none⟩ = some (.int .i64 0) := (blk_cell BK278.out 28).trans rfl; have hcz17_29 : w13.cell? ⟨gb278, 29, none⟩ = some (.string (⟨#[]⟩ : ByteArray)) := (blk_cell BK278.out 29).trans rfl; have hcz17_30 : w13.cell? ⟨gb278, 30, none⟩ = some (.int .i64 0) := (blk_cell BK278.out 30).trans rfl; have hcz17_31 : w13.cell? ⟨gb278, 31, none⟩ = some (.int .i64 0) := (blk_cell BK278.out 31).trans rfl; have hfz17_0 := blk_frozen BK278.out 0; have hfz17_1 := blk_frozen BK278.out 1; have hfz17_2 := blk_frozen BK278.out 2; have hfz17_3 := blk_frozen BK278.out 3; have hfz17_4 := blk_frozen BK278.out 4; have hfz17_5 := blk_frozen BK278.out 5; have hfz17_6 := blk_frozen BK278.out 6; have hfz17_7 := blk_frozen BK278.out 7; have hfz17_8 := blk_frozen BK278.out 8; have hfz17_9 := blk_frozen BK278.out 9; have hfz17_10 := blk_frozen BK278.out 10; have hfz17_11 := blk_frozen BK278.out 11; have hfz17_12 := blk_frozen BK278.out 12; have hfz17_13 := blk_frozen BK278.out 13; have hfz17_14 := blk_frozen BK278.out 14; have hfz17_15 := blk_frozen BK278.out 15; have hfz17_16 := blk_frozen BK278.out 16; have hfz17_17 := blk_frozen BK278.out 17; have hfz17_18 := blk_frozen BK278.out 18; have hfz17_19 := blk_frozen BK278.out 19; have hfz17_20 := blk_frozen BK278.out 20; have hfz17_21 := blk_frozen BK278.out 21; have hfz17_22 := blk_frozen BK278.out 22; have hfz17_23 := blk_frozen BK278.out 23; have hfz17_24 := blk_frozen BK278.out 24; have hfz17_25 := blk_frozen BK278.out 25; have hfz17_26 := blk_frozen BK278.out 26; have hfz17_27 := blk_frozen BK278.out 27; have hfz17_28 := blk_frozen BK278.out 28; have hfz17_29 := blk_frozen BK278.out 29; have hfz17_30 := blk_frozen BK278.out 30; have hfz17_31 := blk_frozen BK278.out 31) | ((with_reducible refine gate_store (t := 68) (p := 7) rfl ?_); refine box_store_event (t := 68) (ty := 68) (p := 7) (x := ?vo_w18) (g := gb278) (cs := #[.int .i64 0, .string (⟨#[]⟩ : ByteArray), .int .i64 0, .int .i64 0, .slice none 0 0, .int .i64 0, .int .i64 0, .bool false, .bool false, .bool false, .int .i64 0, .string (⟨#[]⟩ : ByteArray), .string (⟨#[]⟩ : ByteArray), .string (⟨#[]⟩ : ByteArray), .int .i64 0, .bool false, .bool false, .int .i64 0, .int .i64 0, .string (⟨#[]⟩ : ByteArray), .int .i64 0, .int .i64 0, .int .i64 0, .int .i64 0, .int .i64 0, .bool false, .int .u64 0, .slice none 0 0, .int .i64 0, .string (⟨#[]⟩ : ByteArray), .int .i64 0, .int .i64 0]) (cs' := #[.int .i64 ((rd_T68 l0_1 x11_1).f0), .string ((rd_T68 l0_1 x11_1).f1), .int .i64 ((rd_T68 l0_1 x11_1).f2), .int .i64 ((rd_T68 l0_1 x11_1).f3), .slice A277_4 ((rd_T68 l0_1 x11_1).f4).length c277_4, .int .i64 ((rd_T68 l0_1 x11_1).f5.f0), .int .i64 ((rd_T68 l0_1 x11_1).f5.f1), .bool ((rd_T68 l0_1 x11_1).f6), .bool ((rd_T68 l0_1 x11_1).f7), .bool ((rd_T68 l0_1 x11_1).f8), .int .i64 ((rd_T68 l0_1 x11_1).f9), .string ((rd_T68 l0_1 x11_1).f10), .string ((rd_T68 l0_1 x11_1).f11), .string ((rd_T68 l0_1 x11_1).f12), .int .i64 ((rd_T68 l0_1 x11_1).f13), .bool ((rd_T68 l0_1 x11_1).f14), .bool ((rd_T68 l0_1 x11_1).f15), .int .i64 ((rd_T68 l0_1 x11_1).f16.f0), .int .i64 ((rd_T68 l0_1 x11_1).f16.f1), .string ((rd_T68 l0_1 x11_1).f17), .int .i64 ((rd_T68 l0_1 x11_1).f18), .int .i64 ((rd_T68 l0_1 x11_1).f19), .int .i64 ((rd_T68 l0_1 x11_1).f20), .int .i64 ((rd_T68 l0_1 x11_1).f21), .int .i64 ((rd_T68 l0_1 x11_1).f22), .bool ((rd_T68 l0_1 x11_1).f23), .int .u64 ((rd_T68 l0_1 x11_1).f24), .slice A277_27 ((rd_T68 l0_1 x11_1).f25).length c277_27, .int .i64 ((rd_T68 l0_1 x11_1).f26), .string ((rd_T68 l0_1 x11_1).f27), .int .i64 ((rd_T68 l0_1 x11_1).f28), .int .i64 ((rd_T68 l0_1 x11_1).f29)]) ?hgd ?ho ?hN ?he ?hv ?hi ?hb ?hs ?h1 ?_; (case ho => rfl); (case hgd => rfl); (case hN => rfl); (case he => rfl); (case hv => first | rfl | (simp; done)); (case hi => exact size68); (case hb => (with_reducible repeat (first | refine blk_drewN ?_ _ | refine blk_drew ?_ | refine blk_alloc ?_ _)); exact BK278.out); (case hs => rfl); (case h1 => rfl); intro w18 hbox hg; have n0_ := Aside0.mk (blk_grown (by (with_reducible repeat (first | refine blk_drewN ?_ _ | refine blk_drew ?_ | refine blk_alloc ?_ _)); exact BK274.out) hg (fun e_ => NB274_278.out (Option.some.inj e_))); have n1_ := Aside0.mk (blk_grown (by (with_reducible repeat (first | refine blk_drewN ?_ _ | refine blk_drew ?_ | refine blk_alloc ?_ _)); exact BK275.out) hg (fun e_ => NB275_278.out (Option.some.inj e_))); have n2_ := Aside0.mk (blk_grown (by (with_reducible repeat (first | refine blk_drewN ?_ _ | refine blk_drew ?_ | refine blk_alloc ?_ _)); exact BK276.out) hg (fun e_ => NB276_278.out (Option.some.inj e_))); have n3_ := Aside0.mk (hbox); have n4_ := Aside0.mk (Below.grown (by repeat (first | (with_reducible first | exact HB.out | apply below_alloc | apply pw_below_drewN | apply below_drew1 | refine below_set ?_ GE274.out | refine below_set ?_ GE275.out | refine below_set ?_ GE276.out | refine below_set ?_ GE278.out) | exact HB.out)) hg (below_size (by repeat (first | (with_reducible first | exact HB.out | apply below_alloc | apply pw_below_drewN | apply below_drew1 | refine below_set ?_ GE274.out | refine below_set ?_ GE275.out | refine below_set ?_ GE276.out | refine below_set ?_ GE278.out) | exact HB.out))) (fun k_ e_ => by injection e_ with e_; subst e_; exact GE278.out)); clear BK274; clear BK275; clear BK276; clear BK278; clear HB; have BK274 := n0_; have BK275 := n1_; have BK276 := n2_; have BK278 := n3_; have HB := n4_; clear n0_ n1_ n2_ n3_ n4_; clear hbox hg))
              go_roundg k1
              case measure => have := HK1.out; omega
              case rel => exact ⟨(wrap64 (x11_1 + 1)), (x277000_1), (x277001_1), (by first | rfl | (simp; done) | (simp [*]; done)), H', ⟨by have := HK1.out; omega⟩, ⟨by (with_reducible repeat (first | refine blk_drewN ?_ _ | refine blk_drew ?_ | refine blk_alloc ?_ _)); exact BK274.out⟩, ⟨by (with_reducible repeat (first | refine blk_drewN ?_ _ | refine blk_drew ?_ | refine blk_alloc ?_ _)); exact BK275.out⟩, ⟨by (with_reducible repeat (first | refine blk_drewN ?_ _ | refine blk_drew ?_ | refine blk_alloc ?_ _)); exact BK276.out⟩, ⟨by repeat (first | (with_reducible first | exact HB.out | apply below_alloc | apply pw_below_drewN | apply below_drew1 | refine below_set ?_ GE274.out | refine below_set ?_ GE275.out | refine below_set ?_ GE276.out | refine below_set ?_ GE278.out) | exact HB.out)⟩⟩
            · rw [if_neg c12] at H
              have c12b0 : (a1.toList == ([] : List UInt8)) = false := beq_eq_false_iff_ne.mpr c12
              have c12b1 : (a1.toList != ([] : List UInt8)) = true := bne_iff_ne.mpr c12
              by_cases c19 : ((rd_T68 l0_1 x11_1).f12).toList = a1.toList
              · rw [if_pos c19] at H
                have c19b0 : (((rd_T68 l0_1 x11_1).f12).toList == a1.toList) = true := beq_iff_eq.mpr c19
                have c19b1 : (((rd_T68 l0_1 x11_1).f12).toList != a1.toList) = false := bne_eq_false_iff_eq.mpr c19
                clear c19
                replace H := Option.bind_eq_some_iff.mp H
                obtain ⟨⟨t279, t280⟩, A200, H⟩ := H
                replace H : (rules_Used.l0 k1 a1 l0_1 (l0_1.length : Int) (wrap64 (x11_1 + 1)) t279 t280) = some (r1, r2) := H
                have A20 := Aside0.mk A200
                clear A200
                have H' := Aside0.mk H
                clear H
                have p277 : 0 ≤ (x11_1 : Int) := of_decide_eq_true (by first | (with_reducible assumption) | assumption)
                have q277 : x11_1 < (l0_1.length : Int) := of_decide_eq_true (by first | (with_reducible assumption) | assumption)
                obtain ⟨ad277, A277_4, c277_4, A277_27, c277_27, e277, hx277_0, hx277_1, hx277_2, hx277_3, hx277_4, hx277_5, hx277_6, hx277_7, hx277_8, hx277_9, hx277_10, hx277_11, hx277_12, hx277_13, hx277_14, hx277_15, hx277_16, hx277_17, hx277_18, hx277_19, hx277_20, hx277_21, hx277_22, hx277_23, hx277_24, hx277_25, hx277_26, hx277_27, hx277_28, hx277_29, hx277_30, hx277_31, hl277_4, hi277_4, hl277_27, hi277_27⟩ := at_T68 HR0_1.out x11_1 p277 q277
                cases e277
                replace hx277_0 := (HB.out.cell (World.block_lt_of_cell? w _ hx277_0)).trans hx277_0
                replace hx277_1 := (HB.out.cell (World.block_lt_of_cell? w _ hx277_1)).trans hx277_1
                replace hx277_2 := (HB.out.cell (World.block_lt_of_cell? w _ hx277_2)).trans hx277_2
                replace hx277_3 := (HB.out.cell (World.block_lt_of_cell? w _ hx277_3)).trans hx277_3
                replace hx277_4 := (HB.out.cell (World.block_lt_of_cell? w _ hx277_4)).trans hx277_4
                replace hx277_5 := (HB.out.cell (World.block_lt_of_cell? w _ hx277_5)).trans hx277_5
                replace hx277_6 := (HB.out.cell (World.block_lt_of_cell? w _ hx277_6)).trans hx277_6
                replace hx277_7 := (HB.out.cell (World.block_lt_of_cell? w _ hx277_7)).trans hx277_7
                replace hx277_8 := (HB.out.cell (World.block_lt_of_cell? w _ hx277_8)).trans hx277_8
                replace hx277_9 := (HB.out.cell (World.block_lt_of_cell? w _ hx277_9)).trans hx277_9
                replace hx277_10 := (HB.out.cell (World.block_lt_of_cell? w _ hx277_10)).trans hx277_10
                replace hx277_11 := (HB.out.cell (World.block_lt_of_cell? w _ hx277_11)).trans hx277_11
                replace hx277_12 := (HB.out.cell (World.block_lt_of_cell? w _ hx277_12)).trans hx277_12
                replace hx277_13 := (HB.out.cell (World.block_lt_of_cell? w _ hx277_13)).trans hx277_13
                replace hx277_14 := (HB.out.cell (World.block_lt_of_cell? w _ hx277_14)).trans hx277_14
                replace hx277_15 := (HB.out.cell (World.block_lt_of_cell? w _ hx277_15)).trans hx277_15
                replace hx277_16 := (HB.out.cell (World.block_lt_of_cell? w _ hx277_16)).trans hx277_16
                replace hx277_17 := (HB.out.cell (World.block_lt_of_cell? w _ hx277_17)).trans hx277_17
                replace hx277_18 := (HB.out.cell (World.block_lt_of_cell? w _ hx277_18)).trans hx277_18
                replace hx277_19 := (HB.out.cell (World.block_lt_of_cell? w _ hx277_19)).trans hx277_19
                replace hx277_20 := (HB.out.cell (World.block_lt_of_cell? w _ hx277_20)).trans hx277_20
                replace hx277_21 := (HB.out.cell (World.block_lt_of_cell? w _ hx277_21)).trans hx277_21
                replace hx277_22 := (HB.out.cell (World.block_lt_of_cell? w _ hx277_22)).trans hx277_22
                replace hx277_23 := (HB.out.cell (World.block_lt_of_cell? w _ hx277_23)).trans hx277_23
                replace hx277_24 := (HB.out.cell (World.block_lt_of_cell? w _ hx277_24)).trans hx277_24
                replace hx277_25 := (HB.out.cell (World.block_lt_of_cell? w _ hx277_25)).trans hx277_25
                replace hx277_26 := (HB.out.cell (World.block_lt_of_cell? w _ hx277_26)).trans hx277_26
                replace hx277_27 := (HB.out.cell (World.block_lt_of_cell? w _ hx277_27)).trans hx277_27
                replace hx277_28 := (HB.out.cell (World.block_lt_of_cell? w _ hx277_28)).trans hx277_28
                replace hx277_29 := (HB.out.cell (World.block_lt_of_cell? w _ hx277_29)).trans hx277_29
                replace hx277_30 := (HB.out.cell (World.block_lt_of_cell? w _ hx277_30)).trans hx277_30
                replace hx277_31 := (HB.out.cell (World.block_lt_of_cell? w _ hx277_31)).trans hx277_31
                have HR277_4 := Aside0.mk hi277_4
                have HC277_4 := Aside0.mk hl277_4
                clear hi277_4 hl277_4
                have HR277_27 := Aside0.mk hi277_27
                have HC277_27 := Aside0.mk hl277_27
                clear hi277_27 hl277_27
                replace p277 := eq_true p277
                replace q277 := eq_true q277
                go_wp2_with (first | ((with_reducible refine gate_load (t := 68) rfl ?_); first | (refine load68_box rfl rfl rfl (by with_reducible assumption) (by with_reducible assumption) (by with_reducible assumption) (by with_reducible assumption) (by with_reducible assumption) (by with_reducible assumption) (by with_reducible assumption) (by with_reducible assumption) (by with_reducible assumption) (by with_reducible assumption) (by with_reducible assumption) (by with_reducible assumption) (by with_reducible assumption) (by with_reducible assumption) (by with_reducible assumption) (by with_reducible assumption) (by with_reducible assumption) (by with_reducible assumption) (by with_reducible assumption) (by with_reducible assumption) (by with_reducible assumption) (by with_reducible assumption) (by with_reducible assumption) (by with_reducible assumption) (by with_reducible assumption) (by with_reducible assumption) (by with_reducible assumption) (by with_reducible assumption) (by with_reducible assumption) (by with_reducible assumption) (by with_reducible assumption) (by with_reducible assumption) ?_) | (refine load68_at rfl rfl rfl (by with_reducible assumption) (by with_reducible assumption) (by with_reducible assumption) (by with_reducible assumption) (by with_reducible assumption) (by with_reducible assumption) (by with_reducible assumption) (by with_reducible assumption) (by with_reducible assumption) (by with_reducible assumption) (by with_reducible assumption) (by with_reducible assumption) (by with_reducible assumption) (by with_reducible assumption) (by with_reducible assumption) (by with_reducible assumption) (by with_reducible assumption) (by with_reducible assumption) (by with_reducible assumption) (by with_reducible assumption) (by with_reducible assumption) (by with_reducible assumption) (by with_reducible assumption) (by with_reducible assumption) (by with_reducible assumption) (by with_reducible assumption) (by with_reducible assumption) (by with_reducible assumption) (by with_reducible assumption) (by with_reducible assumption) (by with_reducible assumption) (by with_reducible assumption) ?_)) | ((with_reducible refine gate_dst (N := 7) rfl ?_); refine box_event ?hg (N := 7) ?hd (cs := #[.int .i64 0, .string (⟨#[]⟩ : ByteArray), .int .i64 0, .int .i64 0, .slice none 0 0, .int .i64 0, .int .i64 0, .bool false, .bool false, .bool false, .int .i64 0, .string (⟨#[]⟩ : ByteArray), .string (⟨#[]⟩ : ByteArray), .string (⟨#[]⟩ : ByteArray), .int .i64 0, .bool false, .bool false, .int .i64 0, .int .i64 0, .string (⟨#[]⟩ : ByteArray), .int .i64 0, .int .i64 0, .int .i64 0, .int .i64 0, .int .i64 0, .bool false, .int .u64 0, .slice none 0 0, .int .i64 0, .string (⟨#[]⟩ : ByteArray), .int .i64 0, .int .i64 0]) (t := 68) ?hr ?_; (case hd => rfl); (case hg => rfl); (case hr => first | (go_simp; done) | (go_simp; rfl)); intro gb278 hg w21 hbox hb; have n0_ := Aside0.mk (blk_below (g := gb274) (o := .cells #[.slice A0_0 l0_0.length c0_0, .slice (some ad277) l0_1.length c0_1, .slice A0_2 l0_2.length c0_2, .slice A0_3 l0_3.length c0_3] 59 (0, 0)) (by (with_reducible repeat (first | refine blk_drewN ?_ _ | refine blk_drew ?_ | refine blk_alloc ?_ _)); exact BK274.out) hb); have n1_ := Aside0.mk (blk_below (g := gb275) (o := .cells #[.int .i64 0, .int .i64 0] 64 (0, 0)) (by (with_reducible repeat (first | refine blk_drewN ?_ _ | refine blk_drew ?_ | refine blk_alloc ?_ _)); exact BK275.out) hb); have n2_ := Aside0.mk (blk_below (g := gb276) (o := .cells #[.int .i64 x277000_1, .int .i64 x277001_1] 64 (0, 0)) (by (with_reducible repeat (first | refine blk_drewN ?_ _ | refine blk_drew ?_ | refine blk_alloc ?_ _)); exact BK276.out) hb); have n3_ := Aside0.mk (below_step (by repeat (first | (with_reducible first | exact HB.out | apply below_alloc | apply pw_below_drewN | apply below_drew1 | refine below_set ?_ GE274.out | refine below_set ?_ GE275.out | refine below_set ?_ GE276.out) | exact HB.out)) hb); have n4_ := Aside0.mk (hbox); have n5_ := Aside0.mk ((by rw [hg]; exact (below_size (by repeat (first | (with_reducible first | exact HB.out | apply below_alloc | apply pw_below_drewN | apply below_drew1 | refine below_set ?_ GE274.out | refine below_set ?_ GE275.out | refine below_set ?_ GE276.out) | exact HB.out))) : w.heap.size ≤ gb278)); have n6_ := Aside0.mk ((by rw [hg]; exact (below_size (by repeat (first | (with_reducible first | exact HB.out | apply below_alloc | apply pw_below_drewN | apply below_drew1 | refine below_set ?_ GE274.out | refine below_set ?_ GE275.out | refine below_set ?_ GE276.out) | exact HB.out))) : w.heap.size ≤ gb278)); have n7_ := Aside0.mk ((by rw [hg]; exact Nat.ne_of_lt (blk_lt (g := gb274) (o := .cells #[.slice A0_0 l0_0.length c0_0, .slice (some ad277) l0_1.length c0_1, .slice A0_2 l0_2.length c0_2, .slice A0_3 l0_3.length c0_3] 59 (0, 0)) (by (with_reducible repeat (first | refine blk_drewN ?_ _ | refine blk_drew ?_ | refine blk_alloc ?_ _)); exact BK274.out)) : gb274 ≠ gb278)); have n8_ := Aside0.mk ((by rw [hg]; exact Nat.ne_of_gt (blk_lt (g := gb274) (o := .cells #[.slice A0_0 l0_0.length c0_0, .slice (some ad277) l0_1.length c0_1, .slice A0_2 l0_2.length c0_2, .slice A0_3 l0_3.length c0_3] 59 (0, 0)) (by (with_reducible repeat (first | refine blk_drewN ?_ _ | refine blk_drew ?_ | refine blk_alloc ?_ _)); exact BK274.out)) : gb278 ≠ gb274)); have n9_ := Aside0.mk ((by rw [hg]; exact Nat.ne_of_lt (blk_lt (g := gb275) (o := .cells #[.int .i64 0, .int .i64 0] 64 (0, 0)) (by (with_reducible repeat (first | refine blk_drewN ?_ _ | refine blk_drew ?_ | refine blk_alloc ?_ _)); exact BK275.out)) : gb275 ≠ gb278)); have n10_ := Aside0.mk ((by rw [hg]; exact Nat.ne_of_gt (blk_lt (g := gb275) (o := .cells #[.int .i64 0, .int .i64 0] 64 (0, 0)) (by (with_reducible repeat (first | refine blk_drewN ?_ _ | refine blk_drew ?_ | refine blk_alloc ?_ _)); exact BK275.out)) : gb278 ≠ gb275)); have n11_ := Aside0.mk ((by rw [hg]; exact Nat.ne_of_lt (blk_lt (g := gb276) (o := .cells #[.int .i64 x277000_1, .int .i64 x277001_1] 64 (0, 0)) (by (with_reducible repeat (first | refine blk_drewN ?_ _ | refine blk_drew ?_ | refine blk_alloc ?_ _)); exact BK276.out)) : gb276 ≠ gb278)); have n12_ := Aside0.mk ((by rw [hg]; exact Nat.ne_of_gt (blk_lt (g := gb276) (o := .cells #[.int .i64 x277000_1, .int .i64 x277001_1] 64 (0, 0)) (by (with_reducible repeat (first | refine blk_drewN ?_ _ | refine blk_drew ?_ | refine blk_alloc ?_ _)); exact BK276.out)) : gb278 ≠ gb276)); clear BK274; clear BK275; clear BK276; clear HB; have BK274 := n0_; have BK275 := n1_; have BK276 := n2_; have HB := n3_; have BK278 := n4_; have GW278 := n5_; have GE278 := n6_; have NB274_278 := n7_; have NB278_274 := n8_; have NB275_278 := n9_; have NB278_275 := n10_; have NB276_278 := n11_; have NB278_276 := n12_; clear n0_ n1_ n2_ n3_ n4_ n5_ n6_ n7_ n8_ n9_ n10_ n11_ n12_; clear hb hbox hg; have hnb22 := NB278_274.out; have hnc22 := NB274_278.out; have hnb23 := NB278_275.out; have hnc23 := NB275_278.out; have hnb24 := NB278_276.out; have hnc24 := NB276_278.out; have hcz25_0 : w21.cell? ⟨gb278, 0, none⟩ = some (.int .i64 0) := (blk_cell BK278.out 0).trans rfl; have hcz25_1 : w21.cell? ⟨gb278, 1, none⟩ = some (.string (⟨#[]⟩ : ByteArray)) := (blk_cell BK278.out 1).trans rfl; have hcz25_2 : w21.cell? ⟨gb278, 2, none⟩ = some (.int .i64 0) := (blk_cell BK278.out 2).trans rfl; have hcz25_3 : w21.cell? ⟨gb278, 3, none⟩ = some (.int .i64 0) := (blk_cell BK278.out 3).trans rfl; have hcz25_4 : w21.cell? ⟨gb278, 4, none⟩ = some (.slice none 0 0) := (blk_cell BK278.out 4).trans rfl; have hcz25_5 : w21.cell? ⟨gb278, 5, none⟩ = some (.int .i64 0) := (blk_cell BK278.out 5).trans rfl; have hcz25_6 : w21.cell? ⟨gb278, 6, none⟩ = some (.int .i64 0) := (blk_cell BK278.out 6).trans rfl; have hcz25_7 : w21.cell? ⟨gb278, 7, none⟩ = some (.bool false) := (blk_cell BK278.out 7).trans rfl; have hcz25_8 : w21.cell? ⟨gb278, 8, none⟩ = some (.bool false) := (blk_cell BK278.out 8).trans rfl; have hcz25_9 : w21.cell? ⟨gb278, 9, none⟩ = some (.bool false) := (blk_cell BK278.out 9).trans rfl; have hcz25_10 : w21.cell? ⟨gb278, 10, none⟩ = some (.int .i64 0) := (blk_cell BK278.out 10).trans rfl; have hcz25_11 : w21.cell? ⟨gb278, 11, none⟩ = some (.string (⟨#[]⟩ : ByteArray)) := (blk_cell BK278.out 11).trans rfl; have hcz25_12 : w21.cell? ⟨gb278, 12, none⟩ = some (.string (⟨#[]⟩ : ByteArray)) := (blk_cell BK278.out 12).trans rfl; have hcz25_13 : w21.cell? ⟨gb278, 13, none⟩ = some (.string (⟨#[]⟩ : ByteArray)) := (blk_cell BK278.out 13).trans rfl; have hcz25_14 : w21.cell? ⟨gb278, 14, none⟩ = some (.int .i64 0) := (blk_cell BK278.out 14).trans rfl; have hcz25_15 : w21.cell? ⟨gb278, 15, none⟩ = some (.bool false) := (blk_cell BK278.out 15).trans rfl; have hcz25_16 : w21.cell? ⟨gb278, 16, none⟩ = some (.bool false) := (blk_cell BK278.out 16).trans rfl; have hcz25_17 : w21.cell? ⟨gb278, 17, none⟩ = some (.int .i64 0) := (blk_cell BK278.out 17).trans rfl; have hcz25_18 : w21.cell? ⟨gb278, 18, none⟩ = some (.int .i64 0) := (blk_cell BK278.out 18).trans rfl; have hcz25_19 : w21.cell? ⟨gb278, 19, none⟩ = some (.string (⟨#[]⟩ : ByteArray)) := (blk_cell BK278.out 19).trans rfl; have hcz25_20 : w21.cell? ⟨gb278, 20, none⟩ = some (.int .i64 0) := (blk_cell BK278.out 20).trans rfl; have hcz25_21 : w21.cell? ⟨gb278, 21, none⟩ = some (.int .i64 0) := (blk_cell BK278.out 21).trans rfl; have hcz25_22 : w21.cell? ⟨gb278, 22, none⟩ = some (.int .i64 0) := (blk_cell BK278.out 22).trans rfl; have hcz25_23 : w21.cell? ⟨gb278, 23, none⟩ = some (.int .i64 0) := (blk_cell BK278.out 23).trans rfl; have hcz25_24 : w21.cell? ⟨gb278, 24, none⟩ = some (.int .i64 0) := (blk_cell BK278.out 24).trans rfl; have hcz25_25 : w21.cell? ⟨gb278, 25, none⟩ = some (.bool false) := (blk_cell BK278.out 25).trans rfl; have hcz25_26 : w21.cell? ⟨gb278, 26, none⟩ = some (.int .u64 0) := (blk_cell BK278.out 26).trans rfl; have hcz25_27 : w21.cell? ⟨gb278, 27, none⟩ = some (.slice none 0 0) := (blk_cell BK278.out 27).trans rfl; have hcz25_28 : w21.cell? ⟨gb278, 28, none⟩ = some (.int .i64 0) := (blk_cell BK278.out 28).trans rfl; have hcz25_29 : w21.cell? ⟨gb278, 29, none⟩ = some (.string (⟨#[]⟩ : ByteArray)) := (blk_cell BK278.out 29).trans rfl; have hcz25_30 : w21.cell? ⟨gb278, 30, none⟩ = some (.int .i64 0) := (blk_cell BK278.out 30).trans rfl; have hcz25_31 : w21.cell? ⟨gb278, 31, none⟩ = some (.int .i64 0) := (blk_cell BK278.out 31).trans rfl; have hfz25_0 := blk_frozen BK278.out 0; have hfz25_1 := blk_frozen BK278.out 1; have hfz25_2 := blk_frozen BK278.out 2; have hfz25_3 := blk_frozen BK278.out 3; have hfz25_4 := blk_frozen BK278.out 4; have hfz25_5 := blk_frozen BK278.out 5; have hfz25_6 := blk_frozen BK278.out 6; have hfz25_7 := blk_frozen BK278.out 7; have hfz25_8 := blk_frozen BK278.out 8; have hfz25_9 := blk_frozen BK278.out 9; have hfz25_10 := blk_frozen BK278.out 10; have hfz25_11 := blk_frozen BK278.out 11; have hfz25_12 := blk_frozen BK278.out 12; have hfz25_13 := blk_frozen BK278.out 13; have hfz25_14 := blk_frozen BK278.out 14; have hfz25_15 := blk_frozen BK278.out 15; have hfz25_16 := blk_frozen BK278.out 16; have hfz25_17 := blk_frozen BK278.out 17; have hfz25_18 := blk_frozen BK278.out 18; have hfz25_19 := blk_frozen BK278.out 19; have hfz25_20 := blk_frozen BK278.out 20; have hfz25_21 := blk_frozen BK278.out 21; have hfz25_22 := blk_frozen BK278.out 22; have hfz25_23 := blk_frozen BK278.out 23; have hfz25_24 := blk_frozen BK278.out 24; have hfz25_25 := blk_frozen BK278.out 25; have hfz25_26 := blk_frozen BK278.out 26; have hfz25_27 := blk_frozen BK278.out 27; have hfz25_28 := blk_frozen BK278.out 28; have hfz25_29 := blk_frozen BK278.out 29; have hfz25_30 := blk_frozen BK278.out 30; have hfz25_31 := blk_frozen BK278.out 31) | ((with_reducible refine gate_store (t := 68) (p := 7) rfl ?_); refine box_store_event (t := 68) (ty := 68) (p := 7) (x := ?vo_w26) (g := gb278) (cs := #[.int .i64 0, .string (⟨#[]⟩ : ByteArray), .int .i64 0, .int .i64 0, .slice none 0 0, .int .i64 0, .int .i64 0, .bool false, .bool false, .bool false, .int .i64 0, .string (⟨#[]⟩ : ByteArray), .string (⟨#[]⟩ : ByteArray), .string (⟨#[]⟩ : ByteArray), .int .i64 0, .bool false, .bool false, .int .i64 0, .int .i64 0, .string (⟨#[]⟩ : ByteArray), .int .i64 0, .int .i64 0, .int .i64 0, .int .i64 0, .int .i64 0, .bool false, .int .u64 0, .slice none 0 0, .int .i64 0, .string (⟨#[]⟩ : ByteArray), .int .i64 0, .int .i64 0]) (cs' := #[.int .i64 ((rd_T68 l0_1 x11_1).f0), .string ((rd_T68 l0_1 x11_1).f1), .int .i64 ((rd_T68 l0_1 x11_1).f2), .int .i64 ((rd_T68 l0_1 x11_1).f3), .slice A277_4 ((rd_T68 l0_1 x11_1).f4).length c277_4, .int .i64 ((rd_T68 l0_1 x11_1).f5.f0), .int .i64 ((rd_T68 l0_1 x11_1).f5.f1), .bool ((rd_T68 l0_1 x11_1).f6), .bool ((rd_T68 l0_1 x11_1).f7), .bool ((rd_T68 l0_1 x11_1).f8), .int .i64 ((rd_T68 l0_1 x11_1).f9), .string ((rd_T68 l0_1 x11_1).f10), .string ((rd_T68 l0_1 x11_1).f11), .string ((rd_T68 l0_1 x11_1).f12), .int .i64 ((rd_T68 l0_1 x11_1).f13), .bool ((rd_T68 l0_1 x11_1).f14), .bool ((rd_T68 l0_1 x11_1).f15), .int .i64 ((rd_T68 l0_1 x11_1).f16.f0), .int .i64 ((rd_T68 l0_1 x11_1).f16.f1), .string ((rd_T68 l0_1 x11_1).f17), .int .i64 ((rd_T68 l0_1 x11_1).f18), .int .i64 ((rd_T68 l0_1 x11_1).f19), .int .i64 ((rd_T68 l0_1 x11_1).f20), .int .i64 ((rd_T68 l0_1 x11_1).f21), .int .i64 ((rd_T68 l0_1 x11_1).f22), .bool ((rd_T68 l0_1 x11_1).f23), .int .u64 ((rd_T68 l0_1 x11_1).f24), .slice A277_27 ((rd_T68 l0_1 x11_1).f25).length c277_27, .int .i64 ((rd_T68 l0_1 x11_1).f26), .string ((rd_T68 l0_1 x11_1).f27), .int .i64 ((rd_T68 l0_1 x11_1).f28), .int .i64 ((rd_T68 l0_1 x11_1).f29)]) ?hgd ?ho ?hN ?he ?hv ?hi ?hb ?hs ?h1 ?_; (case ho => rfl); (case hgd => rfl); (case hN => rfl); (case he => rfl); (case hv => first | rfl | (simp; done)); (case hi => exact size68); (case hb => (with_reducible repeat (first | refine blk_drewN ?_ _ | refine blk_drew ?_ | refine blk_alloc ?_ _)); exact BK278.out); (case hs => rfl); (case h1 => rfl); intro w26 hbox hg; have n0_ := Aside0.mk (blk_grown (by (with_reducible repeat (first | refine blk_drewN ?_ _ | refine blk_drew ?_ | refine blk_alloc ?_ _)); exact BK274.out) hg (fun e_ => NB274_278.out (Option.some.inj e_))); have n1_ := Aside0.mk (blk_grown (by (with_reducible repeat (first | refine blk_drewN ?_ _ | refine blk_drew ?_ | refine blk_alloc ?_ _)); exact BK275.out) hg (fun e_ => NB275_278.out (Option.some.inj e_))); have n2_ := Aside0.mk (blk_grown (by (with_reducible repeat (first | refine blk_drewN ?_ _ | refine blk_drew ?_ | refine blk_alloc ?_ _)); exact BK276.out) hg (fun e_ => NB276_278.out (Option.some.inj e_))); have n3_ := Aside0.mk (hbox); have n4_ := Aside0.mk (Below.grown (by repeat (first | (with_reducible first | exact HB.out | apply below_alloc | apply pw_below_drewN | apply below_drew1 | refine below_set ?_ GE274.out | refine below_set ?_ GE275.out | refine below_set ?_ GE276.out | refine below_set ?_ GE278.out) | exact HB.out)) hg (below_size (by repeat (first | (with_reducible first | exact HB.out | apply below_alloc | apply pw_below_drewN | apply below_drew1 | refine below_set ?_ GE274.out | refine below_set ?_ GE275.out | refine below_set ?_ GE276.out | refine below_set ?_ GE278.out) | exact HB.out))) (fun k_ e_ => by injection e_ with e_; subst e_; exact GE278.out)); clear BK274; clear BK275; clear BK276; clear BK278; clear HB; have BK274 := n0_; have BK275 := n1_; have BK276 := n2_; have BK278 := n3_; have HB := n4_; clear n0_ n1_ n2_ n3_ n4_; clear hbox hg; have hcz27_0 : w26.cell? ⟨gb278, 0, none⟩ = some (.int .i64 ((rd_T68 l0_1 x11_1).f0)) := (blk_cell BK278.out 0).trans rfl; have hcz27_1 : w26.cell? ⟨gb278, 1, none⟩ = some (.string ((rd_T68 l0_1 x11_1).f1)) := (blk_cell BK278.out 1).trans rfl; have hcz27_2 : w26.cell? ⟨gb278, 2, none⟩ = some (.int .i64 ((rd_T68 l0_1 x11_1).f2)) := (blk_cell BK278.out 2).trans rfl; have hcz27_3 : w26.cell? ⟨gb278, 3, none⟩ = some (.int .i64 ((rd_T68 l0_1 x11_1).f3)) := (blk_cell BK278.out 3).trans rfl; have hcz27_4 : w26.cell? ⟨gb278, 4, none⟩ = some (.slice A277_4 ((rd_T68 l0_1 x11_1).f4).length c277_4) := (blk_cell BK278.out 4).trans rfl; have hcz27_5 : w26.cell? ⟨gb278, 5, none⟩ = some (.int .i64 ((rd_T68 l0_1 x11_1).f5.f0)) := (blk_cell BK278.out 5).trans rfl; have hcz27_6 : w26.cell? ⟨gb278, 6, none⟩ = some (.int .i64 ((rd_T68 l0_1 x11_1).f5.f1)) := (blk_cell BK278.out 6).trans rfl; have hcz27_7 : w26.cell? ⟨gb278, 7, none⟩ = some (.bool ((rd_T68 l0_1 x11_1).f6)) := (blk_cell BK278.out 7).trans rfl; have hcz27_8 : w26.cell? ⟨gb278, 8, none⟩ = some (.bool ((rd_T68 l0_1 x11_1).f7)) := (blk_cell BK278.out 8).trans rfl; have hcz27_9 : w26.cell? ⟨gb278, 9, none⟩ = some (.bool ((rd_T68 l0_1 x11_1).f8)) := (blk_cell BK278.out 9).trans rfl; have hcz27_10 : w26.cell? ⟨gb278, 10, none⟩ = some (.int .i64 ((rd_T68 l0_1 x11_1).f9)) := (blk_cell BK278.out 10).trans rfl; have hcz27_11 : w26.cell? ⟨gb278, 11, none⟩ = some (.string ((rd_T68 l0_1 x11_1).f10)) := (blk_cell BK278.out 11).trans rfl; have hcz27_12 : w26.cell? ⟨gb278, 12, none⟩ = some (.string ((rd_T68 l0_1 x11_1).f11)) := (blk_cell BK278.out 12).trans rfl; have hcz27_13 : w26.cell? ⟨gb278, 13, none⟩ = some (.string ((rd_T68 l0_1 x11_1).f12)) := (blk_cell BK278.out 13).trans rfl; have hcz27_14 : w26.cell? ⟨gb278, 14, none⟩ = some (.int .i64 ((rd_T68 l0_1 x11_1).f13)) := (blk_cell BK278.out 14).trans rfl; have hcz27_15 : w26.cell? ⟨gb278, 15, none⟩ = some (.bool ((rd_T68 l0_1 x11_1).f14)) := (blk_cell BK278.out 15).trans rfl; have hcz27_16 : w26.cell? ⟨gb278, 16, none⟩ = some (.bool ((rd_T68 l0_1 x11_1).f15)) := (blk_cell BK278.out 16).trans rfl; have hcz27_17 : w26.cell? ⟨gb278, 17, none⟩ = some (.int .i64 ((rd_T68 l0_1 x11_1).f16.f0)) := (blk_cell BK278.out 17).trans rfl; have hcz27_18 : w26.cell? ⟨gb278, 18, none⟩ = some (.int .i64 ((rd_T68 l0_1 x11_1).f16.f1)) := (blk_cell BK278.out 18).trans rfl; have hcz27_19 : w26.cell? ⟨gb278, 19, none⟩ = some (.string ((rd_T68 l0_1 x11_1).f17)) := (blk_cell BK278.out 19).trans rfl; have hcz27_20 : w26.cell? ⟨gb278, 20, none⟩ = some (.int .i64 ((rd_T68 l0_1 x11_1).f18)) := (blk_cell BK278.out 20).trans rfl; have hcz27_21 : w26.cell? ⟨gb278, 21, none⟩ = some (.int .i64 ((rd_T68 l0_1 x11_1).f19)) := (blk_cell BK278.out 21).trans rfl; have hcz27_22 : w26.cell? ⟨gb278, 22, none⟩ = some (.int .i64 ((rd_T68 l0_1 x11_1).f20)) := (blk_cell BK278.out 22).trans rfl; have hcz27_23 : w26.cell? ⟨gb278, 23, none⟩ = some (.int .i64 ((rd_T68 l0_1 x11_1).f21)) := (blk_cell BK278.out 23).trans rfl; have hcz27_24 : w26.cell? ⟨gb278, 24, none⟩ = some (.int .i64 ((rd_T68 l0_1 x11_1).f22)) := (blk_cell BK278.out 24).trans rfl; have hcz27_25 : w26.cell? ⟨gb278, 25, none⟩ = some (.bool ((rd_T68 l0_1 x11_1).f23)) := (blk_cell BK278.out 25).trans rfl; have hcz27_26 : w26.cell? ⟨gb278, 26, none⟩ = some (.int .u64 ((rd_T68 l0_1 x11_1).f24)) := (blk_cell BK278.out 26).trans rfl; have hcz27_27 : w26.cell? ⟨gb278, 27, none⟩ = some (.slice A277_27 ((rd_T68 l0_1 x11_1).f25).length c277_27) := (blk_cell BK278.out 27).trans rfl; have hcz27_28 : w26.cell? ⟨gb278, 28, none⟩ = some (.int .i64 ((rd_T68 l0_1 x11_1).f26)) := (blk_cell BK278.out 28).trans rfl; have hcz27_29 : w26.cell? ⟨gb278, 29, none⟩ = some (.string ((rd_T68 l0_1 x11_1).f27)) := (blk_cell BK278.out 29).trans rfl; have hcz27_30 : w26.cell? ⟨gb278, 30, none⟩ = some (.int .i64 ((rd_T68 l0_1 x11_1).f28)) := (blk_cell BK278.out 30).trans rfl; have hcz27_31 : w26.cell? ⟨gb278, 31, none⟩ = some (.int .i64 ((rd_T68 l0_1 x11_1).f29)) := (blk_cell BK278.out 31).trans rfl; have hfz27_0 := blk_frozen BK278.out 0; have hfz27_1 := blk_frozen BK278.out 1; have hfz27_2 := blk_frozen BK278.out 2; have hfz27_3 := blk_frozen BK278.out 3; have hfz27_4 := blk_frozen BK278.out 4; have hfz27_5 := blk_frozen BK278.out 5; have hfz27_6 := blk_frozen BK278.out 6; have hfz27_7 := blk_frozen BK278.out 7; have hfz27_8 := blk_frozen BK278.out 8; have hfz27_9 := blk_frozen BK278.out 9; have hfz27_10 := blk_frozen BK278.out 10; have hfz27_11 := blk_frozen BK278.out 11; have hfz27_12 := blk_frozen BK278.out 12; have hfz27_13 := blk_frozen BK278.out 13; have hfz27_14 := blk_frozen BK278.out 14; have hfz27_15 := blk_frozen BK278.out 15; have hfz27_16 := blk_frozen BK278.out 16; have hfz27_17 := blk_frozen BK278.out 17; have hfz27_18 := blk_frozen BK278.out 18; have hfz27_19 := blk_frozen BK278.out 19; have hfz27_20 := blk_frozen BK278.out 20; have hfz27_21 := blk_frozen BK278.out 21; have hfz27_22 := blk_frozen BK278.out 22; have hfz27_23 := blk_frozen BK278.out 23; have hfz27_24 := blk_frozen BK278.out 24; have hfz27_25 := blk_frozen BK278.out 25; have hfz27_26 := blk_frozen BK278.out 26; have hfz27_27 := blk_frozen BK278.out 27; have hfz27_28 := blk_frozen BK278.out 28; have hfz27_29 := blk_frozen BK278.out 29; have hfz27_30 := blk_frozen BK278.out 30; have hfz27_31 := blk_frozen BK278.out 31; have hnb28 := NB276_274.out; have hnc28 := NB274_276.out; have hnb29 := NB276_275.out; have hnc29 := NB275_276.out; have hcz30_0 : w26.cell? ⟨gb276, 0, none⟩ = some (.int .i64 x277000_1) := (blk_cell BK276.out 0).trans rfl; have hcz30_1 : w26.cell? ⟨gb276, 1, none⟩ = some (.int .i64 x277001_1) := (blk_cell BK276.out 1).trans rfl; have hfz30_0 := blk_frozen BK276.out 0; have hfz30_1 := blk_frozen BK276.out 1) | ((with_reducible refine gate_callee (f := 88) rfl ?_); refine goesL_ (some 26) rfl rfl Try.func88 (by kernel_rfl) rfl #[.agg #[.int .i64 x277000_1, .int .i64 x277001_1], .agg #[.int .i64 ((rd_T68 l0_1 x11_1).f16.f0), .int .i64 ((rd_T68 l0_1 x11_1).f16.f1)]] rfl (by (try simp only [List.map_toArray, List.map_cons, List.map_nil]); first | done | rfl | (simp only [List.length_drop, List.length_take]; rfl)) ?_; (with_reducible refine (rules_both.calls x277000_1 x277001_1 ((rd_T68 l0_1 x11_1).f16.f0) ((rd_T68 l0_1 x11_1).f16.f1) t279 t280 _ A20.out).mono ?_); rintro e w31 ⟨rfl, hb⟩; refine ⟨_, rfl, ?_⟩; have n0_ := Aside0.mk (blk_below (g := gb274) (o := .cells #[.slice A0_0 l0_0.length c0_0, .slice (some ad277) l0_1.length c0_1, .slice A0_2 l0_2.length c0_2, .slice A0_3 l0_3.length c0_3] 59 (0, 0)) (by (with_reducible repeat (first | refine blk_drewN ?_ _ | refine blk_drew ?_ | refine blk_alloc ?_ _)); exact BK274.out) hb); have n1_ := Aside0.mk (blk_below (g := gb275) (o := .cells #[.int .i64 0, .int .i64 0] 64 (0, 0)) (by (with_reducible repeat (first | refine blk_drewN ?_ _ | refine blk_drew ?_ | refine blk_alloc ?_ _)); exact BK275.out) hb); have n2_ := Aside0.mk (blk_below (g := gb276) (o := .cells #[.int .i64 x277000_1, .int .i64 x277001_1] 64 (0, 0)) (by (with_reducible repeat (first | refine blk_drewN ?_ _ | refine blk_drew ?_ | refine blk_alloc ?_ _)); exact BK276.out) hb); have n3_ := Aside0.mk (blk_below (g := gb278) (o := .cells #[.int .i64 ((rd_T68 l0_1 x11_1).f0), .string ((rd_T68 l0_1 x11_1).f1), .int .i64 ((rd_T68 l0_1 x11_1).f2), .int .i64 ((rd_T68 l0_1 x11_1).f3), .slice A277_4 ((rd_T68 l0_1 x11_1).f4).length c277_4, .int .i64 ((rd_T68 l0_1 x11_1).f5.f0), .int .i64 ((rd_T68 l0_1 x11_1).f5.f1), .bool ((rd_T68 l0_1 x11_1).f6), .bool ((rd_T68 l0_1 x11_1).f7), .bool ((rd_T68 l0_1 x11_1).f8), .int .i64 ((rd_T68 l0_1 x11_1).f9), .string ((rd_T68 l0_1 x11_1).f10), .string ((rd_T68 l0_1 x11_1).f11), .string ((rd_T68 l0_1 x11_1).f12), .int .i64 ((rd_T68 l0_1 x11_1).f13), .bool ((rd_T68 l0_1 x11_1).f14), .bool ((rd_T68 l0_1 x11_1).f15), .int .i64 ((rd_T68 l0_1 x11_1).f16.f0), .int .i64 ((rd_T68 l0_1 x11_1).f16.f1), .string ((rd_T68 l0_1 x11_1).f17), .int .i64 ((rd_T68 l0_1 x11_1).f18), .int .i64 ((rd_T68 l0_1 x11_1).f19), .int .i64 ((rd_T68 l0_1 x11_1).f20), .int .i64 ((rd_T68 l0_1 x11_1).f21), .int .i64 ((rd_T68 l0_1 x11_1).f22), .bool ((rd_T68 l0_1 x11_1).f23), .int .u64 ((rd_T68 l0_1 x11_1).f24), .slice A277_27 ((rd_T68 l0_1 x11_1).f25).length c277_27, .int .i64 ((rd_T68 l0_1 x11_1).f26), .string ((rd_T68 l0_1 x11_1).f27), .int .i64 ((rd_T68 l0_1 x11_1).f28), .int .i64 ((rd_T68 l0_1 x11_1).f29)] 68 (0, 0)) (by (with_reducible repeat (first | refine blk_drewN ?_ _ | refine blk_drew ?_ | refine blk_alloc ?_ _)); exact BK278.out) hb); have n4_ := Aside0.mk (below_step (by repeat (first | (with_reducible first | exact HB.out | apply below_alloc | apply pw_below_drewN | apply below_drew1 | refine below_set ?_ GE274.out | refine below_set ?_ GE275.out | refine below_set ?_ GE276.out | refine below_set ?_ GE278.out) | exact HB.out)) hb); clear BK274; clear BK275; clear BK276; clear BK278; clear HB; have BK274 := n0_; have BK275 := n1_; have BK276 := n2_; have BK278 := n3_; have HB := n4_; clear n0_ n1_ n2_ n3_ n4_; (try clear hb); (try clear hb2); (try clear hk); (try clear hi); have hcz32_0 : w31.cell? ⟨gb276, 0, none⟩ = some (.int .i64 x277000_1) := (blk_cell BK276.out 0).trans rfl; have hcz32_1 : w31.cell? ⟨gb276, 1, none⟩ = some (.int .i64 x277001_1) := (blk_cell BK276.out 1).trans rfl; have hfz32_0 := blk_frozen BK276.out 0; have hfz32_1 := blk_frozen BK276.out 1) | ((with_reducible refine gate_store (t := 64) (p := 5) rfl ?_); refine store_event (t := 64) (p := 5) (v := ?vo_w33) (w1 := ((w31.setCell ⟨gb276, 0, none⟩ (.int .i64 t279)).setCell ⟨gb276, 1, none⟩ (.int .i64 t280))) ?hg ?ho ?hn ?hr ?_; (case ho => rfl); (case hg => rfl); (case hn => rfl); (case hr => first | (go_simp; done) | (go_simp; rfl)); intro w33 hw; have n0_ : Aside0 (w33.heap[gb274]? = some (.cells #[.slice A0_0 l0_0.length c0_0, .slice (some ad277) l0_1.length c0_1, .slice A0_2 l0_2.length c0_2, .slice A0_3 l0_3.length c0_3] 59 (0, 0))) := ⟨(by rw [hw]; exact (by (with_reducible repeat (first | refine blk_drewN ?_ _ | refine blk_drew ?_ | refine blk_alloc ?_ _)); refine blk_far ?_ NB274_276.out _; (with_reducible repeat (first | refine blk_drewN ?_ _ | refine blk_drew ?_ | refine blk_alloc ?_ _)); refine blk_far ?_ NB274_276.out _; (with_reducible repeat (first | refine blk_drewN ?_ _ | refine blk_drew ?_ | refine blk_alloc ?_ _)); exact BK274.out))⟩; have n1_ : Aside0 (w33.heap[gb275]? = some (.cells #[.int .i64 0, .int .i64 0] 64 (0, 0))) := ⟨(by rw [hw]; exact (by (with_reducible repeat (first | refine blk_drewN ?_ _ | refine blk_drew ?_ | refine blk_alloc ?_ _)); refine blk_far ?_ NB275_276.out _; (with_reducible repeat (first | refine blk_drewN ?_ _ | refine blk_drew ?_ | refine blk_alloc ?_ _)); refine blk_far ?_ NB275_276.out _; (with_reducible repeat (first | refine blk_drewN ?_ _ | refine blk_drew ?_ | refine blk_alloc ?_ _)); exact BK275.out))⟩; have n2_ : Aside0 (w33.heap[gb276]? = some (.cells #[.int .i64 t279, .int .i64 t280] 64 (0, 0))) := ⟨(by rw [hw]; exact (by (with_reducible repeat (first | refine blk_drewN ?_ _ | refine blk_drew ?_ | refine blk_alloc ?_ _)); refine blk_put (cs := #[.int .i64 t279, .int .i64 x277001_1]) ?_ 1 _ rfl; (with_reducible repeat (first | refine blk_drewN ?_ _ | refine blk_drew ?_ | refine blk_alloc ?_ _)); refine blk_put (cs := #[.int .i64 x277000_1, .int .i64 x277001_1]) ?_ 0 _ rfl; (with_reducible repeat (first | refine blk_drewN ?_ _ | refine blk_drew ?_ | refine blk_alloc ?_ _)); exact BK276.out))⟩; have n3_ : Aside0 (w33.heap[gb278]? = some (.cells #[.int .i64 ((rd_T68 l0_1 x11_1).f0), .string ((rd_T68 l0_1 x11_1).f1), .int .i64 ((rd_T68 l0_1 x11_1).f2), .int .i64 ((rd_T68 l0_1 x11_1).f3), .slice A277_4 ((rd_T68 l0_1 x11_1).f4).length c277_4, .int .i64 ((rd_T68 l0_1 x11_1).f5.f0), .int .i64 ((rd_T68 l0_1 x11_1).f5.f1), .bool ((rd_T68 l0_1 x11_1).f6), .bool ((rd_T68 l0_1 x11_1).f7), .bool ((rd_T68 l0_1 x11_1).f8), .int .i64 ((rd_T68 l0_1 x11_1).f9), .string ((rd_T68 l0_1 x11_1).f10), .string ((rd_T68 l0_1 x11_1).f11), .string ((rd_T68 l0_1 x11_1).f12), .int .i64 ((rd_T68 l0_1 x11_1).f13), .bool ((rd_T68 l0_1 x11_1).f14), .bool ((rd_T68 l0_1 x11_1).f15), .int .i64 ((rd_T68 l0_1 x11_1).f16.f0), .int .i64 ((rd_T68 l0_1 x11_1).f16.f1), .string ((rd_T68 l0_1 x11_1).f17), .int .i64 ((rd_T68 l0_1 x11_1).f18), .int .i64 ((rd_T68 l0_1 x11_1).f19), .int .i64 ((rd_T68 l0_1 x11_1).f20), .int .i64 ((rd_T68 l0_1 x11_1).f21), .int .i64 ((rd_T68 l0_1 x11_1).f22), .bool ((rd_T68 l0_1 x11_1).f23), .int .u64 ((rd_T68 l0_1 x11_1).f24), .slice A277_27 ((rd_T68 l0_1 x11_1).f25).length c277_27, .int .i64 ((rd_T68 l0_1 x11_1).f26), .string ((rd_T68 l0_1 x11_1).f27), .int .i64 ((rd_T68 l0_1 x11_1).f28), .int .i64 ((rd_T68 l0_1 x11_1).f29)] 68 (0, 0))) := ⟨(by rw [hw]; exact (by (with_reducible repeat (first | refine blk_drewN ?_ _ | refine blk_drew ?_ | refine blk_alloc ?_ _)); refine blk_far ?_ NB278_276.out _; (with_reducible repeat (first | refine blk_drewN ?_ _ | refine blk_drew ?_ | refine blk_alloc ?_ _)); refine blk_far ?_ NB278_276.out _; (with_reducible repeat (first | refine blk_drewN ?_ _ | refine blk_drew ?_ | refine blk_alloc ?_ _)); exact BK278.out))⟩; have n4_ : Aside0 (Below w.heap.size w w33) := ⟨(by rw [hw]; exact (by repeat (first | (with_reducible first | exact HB.out | apply below_alloc | apply pw_below_drewN | apply below_drew1 | refine below_set ?_ GE274.out | refine below_set ?_ GE275.out | refine below_set ?_ GE276.out | refine below_set ?_ GE278.out) | exact HB.out)))⟩; clear hw; clear BK274; clear BK275; clear BK276; clear BK278; clear HB; have BK274 := n0_; have BK275 := n1_; have BK276 := n2_; have BK278 := n3_; have HB := n4_; clear n0_ n1_ n2_ n3_ n4_))
                go_roundg k1
                case measure => have := HK1.out; omega
                case rel => exact ⟨(wrap64 (x11_1 + 1)), (t279), (t280), (by first | rfl | (simp; done) | (simp [*]; done)), H', ⟨by have := HK1.out; omega⟩, ⟨by (with_reducible repeat (first | refine blk_drewN ?_ _ | refine blk_drew ?_ | refine blk_alloc ?_ _)); exact BK274.out⟩, ⟨by (with_reducible repeat (first | refine blk_drewN ?_ _ | refine blk_drew ?_ | refine blk_alloc ?_ _)); exact BK275.out⟩, ⟨by (with_reducible repeat (first | refine blk_drewN ?_ _ | refine blk_drew ?_ | refine blk_alloc ?_ _)); exact BK276.out⟩, ⟨by repeat (first | (with_reducible first | exact HB.out | apply below_alloc | apply pw_below_drewN | apply below_drew1 | refine below_set ?_ GE274.out | refine below_set ?_ GE275.out | refine below_set ?_ GE276.out | refine below_set ?_ GE278.out) | exact HB.out)⟩⟩
              · rw [if_neg c19] at H
                have c19b0 : (((rd_T68 l0_1 x11_1).f12).toList == a1.toList) = false := beq_eq_false_iff_ne.mpr c19
                have c19b1 : (((rd_T68 l0_1 x11_1).f12).toList != a1.toList) = true := bne_iff_ne.mpr c19
                have H' := Aside0.mk H
                clear H
                have p277 : 0 ≤ (x11_1 : Int) := of_decide_eq_true (by first | (with_reducible assumption) | assumption)
                have q277 : x11_1 < (l0_1.length : Int) := of_decide_eq_true (by first | (with_reducible assumption) | assumption)
                obtain ⟨ad277, A277_4, c277_4, A277_27, c277_27, e277, hx277_0, hx277_1, hx277_2, hx277_3, hx277_4, hx277_5, hx277_6, hx277_7, hx277_8, hx277_9, hx277_10, hx277_11, hx277_12, hx277_13, hx277_14, hx277_15, hx277_16, hx277_17, hx277_18, hx277_19, hx277_20, hx277_21, hx277_22, hx277_23, hx277_24, hx277_25, hx277_26, hx277_27, hx277_28, hx277_29, hx277_30, hx277_31, hl277_4, hi277_4, hl277_27, hi277_27⟩ := at_T68 HR0_1.out x11_1 p277 q277
                cases e277
                replace hx277_0 := (HB.out.cell (World.block_lt_of_cell? w _ hx277_0)).trans hx277_0
                replace hx277_1 := (HB.out.cell (World.block_lt_of_cell? w _ hx277_1)).trans hx277_1
                replace hx277_2 := (HB.out.cell (World.block_lt_of_cell? w _ hx277_2)).trans hx277_2
                replace hx277_3 := (HB.out.cell (World.block_lt_of_cell? w _ hx277_3)).trans hx277_3
                replace hx277_4 := (HB.out.cell (World.block_lt_of_cell? w _ hx277_4)).trans hx277_4
                replace hx277_5 := (HB.out.cell (World.block_lt_of_cell? w _ hx277_5)).trans hx277_5
                replace hx277_6 := (HB.out.cell (World.block_lt_of_cell? w _ hx277_6)).trans hx277_6
                replace hx277_7 := (HB.out.cell (World.block_lt_of_cell? w _ hx277_7)).trans hx277_7
                replace hx277_8 := (HB.out.cell (World.block_lt_of_cell? w _ hx277_8)).trans hx277_8
                replace hx277_9 := (HB.out.cell (World.block_lt_of_cell? w _ hx277_9)).trans hx277_9
                replace hx277_10 := (HB.out.cell (World.block_lt_of_cell? w _ hx277_10)).trans hx277_10
                replace hx277_11 := (HB.out.cell (World.block_lt_of_cell? w _ hx277_11)).trans hx277_11
                replace hx277_12 := (HB.out.cell (World.block_lt_of_cell? w _ hx277_12)).trans hx277_12
                replace hx277_13 := (HB.out.cell (World.block_lt_of_cell? w _ hx277_13)).trans hx277_13
                replace hx277_14 := (HB.out.cell (World.block_lt_of_cell? w _ hx277_14)).trans hx277_14
                replace hx277_15 := (HB.out.cell (World.block_lt_of_cell? w _ hx277_15)).trans hx277_15
                replace hx277_16 := (HB.out.cell (World.block_lt_of_cell? w _ hx277_16)).trans hx277_16
                replace hx277_17 := (HB.out.cell (World.block_lt_of_cell? w _ hx277_17)).trans hx277_17
                replace hx277_18 := (HB.out.cell (World.block_lt_of_cell? w _ hx277_18)).trans hx277_18
                replace hx277_19 := (HB.out.cell (World.block_lt_of_cell? w _ hx277_19)).trans hx277_19
                replace hx277_20 := (HB.out.cell (World.block_lt_of_cell? w _ hx277_20)).trans hx277_20
                replace hx277_21 := (HB.out.cell (World.block_lt_of_cell? w _ hx277_21)).trans hx277_21
                replace hx277_22 := (HB.out.cell (World.block_lt_of_cell? w _ hx277_22)).trans hx277_22
                replace hx277_23 := (HB.out.cell (World.block_lt_of_cell? w _ hx277_23)).trans hx277_23
                replace hx277_24 := (HB.out.cell (World.block_lt_of_cell? w _ hx277_24)).trans hx277_24
                replace hx277_25 := (HB.out.cell (World.block_lt_of_cell? w _ hx277_25)).trans hx277_25
                replace hx277_26 := (HB.out.cell (World.block_lt_of_cell? w _ hx277_26)).trans hx277_26
                replace hx277_27 := (HB.out.cell (World.block_lt_of_cell? w _ hx277_27)).trans hx277_27
                replace hx277_28 := (HB.out.cell (World.block_lt_of_cell? w _ hx277_28)).trans hx277_28
                replace hx277_29 := (HB.out.cell (World.block_lt_of_cell? w _ hx277_29)).trans hx277_29
                replace hx277_30 := (HB.out.cell (World.block_lt_of_cell? w _ hx277_30)).trans hx277_30
                replace hx277_31 := (HB.out.cell (World.block_lt_of_cell? w _ hx277_31)).trans hx277_31
                have HR277_4 := Aside0.mk hi277_4
                have HC277_4 := Aside0.mk hl277_4
                clear hi277_4 hl277_4
                have HR277_27 := Aside0.mk hi277_27
                have HC277_27 := Aside0.mk hl277_27
                clear hi277_27 hl277_27
                replace p277 := eq_true p277
                replace q277 := eq_true q277
                go_wp2_with (first | ((with_reducible refine gate_load (t := 68) rfl ?_); first | (refine load68_box rfl rfl rfl (by with_reducible assumption) (by with_reducible assumption) (by with_reducible assumption) (by with_reducible assumption) (by with_reducible assumption) (by with_reducible assumption) (by with_reducible assumption) (by with_reducible assumption) (by with_reducible assumption) (by with_reducible assumption) (by with_reducible assumption) (by with_reducible assumption) (by with_reducible assumption) (by with_reducible assumption) (by with_reducible assumption) (by with_reducible assumption) (by with_reducible assumption) (by with_reducible assumption) (by with_reducible assumption) (by with_reducible assumption) (by with_reducible assumption) (by with_reducible assumption) (by with_reducible assumption) (by with_reducible assumption) (by with_reducible assumption) (by with_reducible assumption) (by with_reducible assumption) (by with_reducible assumption) (by with_reducible assumption) (by with_reducible assumption) (by with_reducible assumption) (by with_reducible assumption) ?_) | (refine load68_at rfl rfl rfl (by with_reducible assumption) (by with_reducible assumption) (by with_reducible assumption) (by with_reducible assumption) (by with_reducible assumption) (by with_reducible assumption) (by with_reducible assumption) (by with_reducible assumption) (by with_reducible assumption) (by with_reducible assumption) (by with_reducible assumption) (by with_reducible assumption) (by with_reducible assumption) (by with_reducible assumption) (by with_reducible assumption) (by with_reducible assumption) (by with_reducible assumption) (by with_reducible assumption) (by with_reducible assumption) (by with_reducible assumption) (by with_reducible assumption) (by with_reducible assumption) (by with_reducible assumption) (by with_reducible assumption) (by with_reducible assumption) (by with_reducible assumption) (by with_reducible assumption) (by with_reducible assumption) (by with_reducible assumption) (by with_reducible assumption) (by with_reducible assumption) (by with_reducible assumption) ?_)) | ((with_reducible refine gate_dst (N := 7) rfl ?_); refine box_event ?hg (N := 7) ?hd (cs := #[.int .i64 0, .string (⟨#[]⟩ : ByteArray), .int .i64 0, .int .i64 0, .slice none 0 0, .int .i64 0, .int .i64 0, .bool false, .bool false, .bool false, .int .i64 0, .string (⟨#[]⟩ : ByteArray), .string (⟨#[]⟩ : ByteArray), .string (⟨#[]⟩ : ByteArray), .int .i64 0, .bool false, .bool false, .int .i64 0, .int .i64 0, .string (⟨#[]⟩ : ByteArray), .int .i64 0, .int .i64 0, .int .i64 0, .int .i64 0, .int .i64 0, .bool false, .int .u64 0, .slice none 0 0, .int .i64 0, .string (⟨#[]⟩ : ByteArray), .int .i64 0, .int .i64 0]) (t := 68) ?hr ?_; (case hd => rfl); (case hg => rfl); (case hr => first | (go_simp; done) | (go_simp; rfl)); intro gb278 hg w34 hbox hb; have n0_ := Aside0.mk (blk_below (g := gb274) (o := .cells #[.slice A0_0 l0_0.length c0_0, .slice (some ad277) l0_1.length c0_1, .slice A0_2 l0_2.length c0_2, .slice A0_3 l0_3.length c0_3] 59 (0, 0)) (by (with_reducible repeat (first | refine blk_drewN ?_ _ | refine blk_drew ?_ | refine blk_alloc ?_ _)); exact BK274.out) hb); have n1_ := Aside0.mk (blk_below (g := gb275) (o := .cells #[.int .i64 0, .int .i64 0] 64 (0, 0)) (by (with_reducible repeat (first | refine blk_drewN ?_ _ | refine blk_drew ?_ | refine blk_alloc ?_ _)); exact BK275.out) hb); have n2_ := Aside0.mk (blk_below (g := gb276) (o := .cells #[.int .i64 x277000_1, .int .i64 x277001_1] 64 (0, 0)) (by (with_reducible repeat (first | refine blk_drewN ?_ _ | refine blk_drew ?_ | refine blk_alloc ?_ _)); exact BK276.out) hb); have n3_ := Aside0.mk (below_step (by repeat (first | (with_reducible first | exact HB.out | apply below_alloc | apply pw_below_drewN | apply below_drew1 | refine below_set ?_ GE274.out | refine below_set ?_ GE275.out | refine below_set ?_ GE276.out) | exact HB.out)) hb); have n4_ := Aside0.mk (hbox); have n5_ := Aside0.mk ((by rw [hg]; exact (below_size (by repeat (first | (with_reducible first | exact HB.out | apply below_alloc | apply pw_below_drewN | apply below_drew1 | refine below_set ?_ GE274.out | refine below_set ?_ GE275.out | refine below_set ?_ GE276.out) | exact HB.out))) : w.heap.size ≤ gb278)); have n6_ := Aside0.mk ((by rw [hg]; exact (below_size (by repeat (first | (with_reducible first | exact HB.out | apply below_alloc | apply pw_below_drewN | apply below_drew1 | refine below_set ?_ GE274.out | refine below_set ?_ GE275.out | refine below_set ?_ GE276.out) | exact HB.out))) : w.heap.size ≤ gb278)); have n7_ := Aside0.mk ((by rw [hg]; exact Nat.ne_of_lt (blk_lt (g := gb274) (o := .cells #[.slice A0_0 l0_0.length c0_0, .slice (some ad277) l0_1.length c0_1, .slice A0_2 l0_2.length c0_2, .slice A0_3 l0_3.length c0_3] 59 (0, 0)) (by (with_reducible repeat (first | refine blk_drewN ?_ _ | refine blk_drew ?_ | refine blk_alloc ?_ _)); exact BK274.out)) : gb274 ≠ gb278)); have n8_ := Aside0.mk ((by rw [hg]; exact Nat.ne_of_gt (blk_lt (g := gb274) (o := .cells #[.slice A0_0 l0_0.length c0_0, .slice (some ad277) l0_1.length c0_1, .slice A0_2 l0_2.length c0_2, .slice A0_3 l0_3.length c0_3] 59 (0, 0)) (by (with_reducible repeat (first | refine blk_drewN ?_ _ | refine blk_drew ?_ | refine blk_alloc ?_ _)); exact BK274.out)) : gb278 ≠ gb274)); have n9_ := Aside0.mk ((by rw [hg]; exact Nat.ne_of_lt (blk_lt (g := gb275) (o := .cells #[.int .i64 0, .int .i64 0] 64 (0, 0)) (by (with_reducible repeat (first | refine blk_drewN ?_ _ | refine blk_drew ?_ | refine blk_alloc ?_ _)); exact BK275.out)) : gb275 ≠ gb278)); have n10_ := Aside0.mk ((by rw [hg]; exact Nat.ne_of_gt (blk_lt (g := gb275) (o := .cells #[.int .i64 0, .int .i64 0] 64 (0, 0)) (by (with_reducible repeat (first | refine blk_drewN ?_ _ | refine blk_drew ?_ | refine blk_alloc ?_ _)); exact BK275.out)) : gb278 ≠ gb275)); have n11_ := Aside0.mk ((by rw [hg]; exact Nat.ne_of_lt (blk_lt (g := gb276) (o := .cells #[.int .i64 x277000_1, .int .i64 x277001_1] 64 (0, 0)) (by (with_reducible repeat (first | refine blk_drewN ?_ _ | refine blk_drew ?_ | refine blk_alloc ?_ _)); exact BK276.out)) : gb276 ≠ gb278)); have n12_ := Aside0.mk ((by rw [hg]; exact Nat.ne_of_gt (blk_lt (g := gb276) (o := .cells #[.int .i64 x277000_1, .int .i64 x277001_1] 64 (0, 0)) (by (with_reducible repeat (first | refine blk_drewN ?_ _ | refine blk_drew ?_ | refine blk_alloc ?_ _)); exact BK276.out)) : gb278 ≠ gb276)); clear BK274; clear BK275; clear BK276; clear HB; have BK274 := n0_; have BK275 := n1_; have BK276 := n2_; have HB := n3_; have BK278 := n4_; have GW278 := n5_; have GE278 := n6_; have NB274_278 := n7_; have NB278_274 := n8_; have NB275_278 := n9_; have NB278_275 := n10_; have NB276_278 := n11_; have NB278_276 := n12_; clear n0_ n1_ n2_ n3_ n4_ n5_ n6_ n7_ n8_ n9_ n10_ n11_ n12_; clear hb hbox hg; have hnb35 := NB278_274.out; have hnc35 := NB274_278.out; have hnb36 := NB278_275.out; have hnc36 := NB275_278.out; have hnb37 := NB278_276.out; have hnc37 := NB276_278.out; have hcz38_0 : w34.cell? ⟨gb278, 0, none⟩ = some (.int .i64 0) := (blk_cell BK278.out 0).trans rfl; have hcz38_1 : w34.cell? ⟨gb278, 1, none⟩ = some (.string (⟨#[]⟩ : ByteArray)) := (blk_cell BK278.out 1).trans rfl; have hcz38_2 : w34.cell? ⟨gb278, 2, none⟩ = some (.int .i64 0) := (blk_cell BK278.out 2).trans rfl; have hcz38_3 : w34.cell? ⟨gb278, 3, none⟩ = some (.int .i64 0) := (blk_cell BK278.out 3).trans rfl; have hcz38_4 : w34.cell? ⟨gb278, 4, none⟩ = some (.slice none 0 0) := (blk_cell BK278.out 4).trans rfl; have hcz38_5 : w34.cell? ⟨gb278, 5, none⟩ = some (.int .i64 0) := (blk_cell BK278.out 5).trans rfl; have hcz38_6 : w34.cell? ⟨gb278, 6, none⟩ = some (.int .i64 0) := (blk_cell BK278.out 6).trans rfl; have hcz38_7 : w34.cell? ⟨gb278, 7, none⟩ = some (.bool false) := (blk_cell BK278.out 7).trans rfl; have hcz38_8 : w34.cell? ⟨gb278, 8, none⟩ = some (.bool false) := (blk_cell BK278.out 8).trans rfl; have hcz38_9 : w34.cell? ⟨gb278, 9, none⟩ = some (.bool false) := (blk_cell BK278.out 9).trans rfl; have hcz38_10 : w34.cell? ⟨gb278, 10, none⟩ = some (.int .i64 0) := (blk_cell BK278.out 10).trans rfl; have hcz38_11 : w34.cell? ⟨gb278, 11, none⟩ = some (.string (⟨#[]⟩ : ByteArray)) := (blk_cell BK278.out 11).trans rfl; have hcz38_12 : w34.cell? ⟨gb278, 12, none⟩ = some (.string (⟨#[]⟩ : ByteArray)) := (blk_cell BK278.out 12).trans rfl; have hcz38_13 : w34.cell? ⟨gb278, 13, none⟩ = some (.string (⟨#[]⟩ : ByteArray)) := (blk_cell BK278.out 13).trans rfl; have hcz38_14 : w34.cell? ⟨gb278, 14, none⟩ = some (.int .i64 0) := (blk_cell BK278.out 14).trans rfl; have hcz38_15 : w34.cell? ⟨gb278, 15, none⟩ = some (.bool false) := (blk_cell BK278.out 15).trans rfl; have hcz38_16 : w34.cell? ⟨gb278, 16, none⟩ = some (.bool false) := (blk_cell BK278.out 16).trans rfl; have hcz38_17 : w34.cell? ⟨gb278, 17, none⟩ = some (.int .i64 0) := (blk_cell BK278.out 17).trans rfl; have hcz38_18 : w34.cell? ⟨gb278, 18, none⟩ = some (.int .i64 0) := (blk_cell BK278.out 18).trans rfl; have hcz38_19 : w34.cell? ⟨gb278, 19, none⟩ = some (.string (⟨#[]⟩ : ByteArray)) := (blk_cell BK278.out 19).trans rfl; have hcz38_20 : w34.cell? ⟨gb278, 20, none⟩ = some (.int .i64 0) := (blk_cell BK278.out 20).trans rfl; have hcz38_21 : w34.cell? ⟨gb278, 21, none⟩ = some (.int .i64 0) := (blk_cell BK278.out 21).trans rfl; have hcz38_22 : w34.cell? ⟨gb278, 22, none⟩ = some (.int .i64 0) := (blk_cell BK278.out 22).trans rfl; have hcz38_23 : w34.cell? ⟨gb278, 23, none⟩ = some (.int .i64 0) := (blk_cell BK278.out 23).trans rfl; have hcz38_24 : w34.cell? ⟨gb278, 24, none⟩ = some (.int .i64 0) := (blk_cell BK278.out 24).trans rfl; have hcz38_25 : w34.cell? ⟨gb278, 25, none⟩ = some (.bool false) := (blk_cell BK278.out 25).trans rfl; have hcz38_26 : w34.cell? ⟨gb278, 26, none⟩ = some (.int .u64 0) := (blk_cell BK278.out 26).trans rfl; have hcz38_27 : w34.cell? ⟨gb278, 27, none⟩ = some (.slice none 0 0) := (blk_cell BK278.out 27).trans rfl; have hcz38_28 : w34.cell? ⟨gb278, 28, none⟩ = some (.int .i64 0) := (blk_cell BK278.out 28).trans rfl; have hcz38_29 : w34.cell? ⟨gb278, 29, none⟩ = some (.string (⟨#[]⟩ : ByteArray)) := (blk_cell BK278.out 29).trans rfl; have hcz38_30 : w34.cell? ⟨gb278, 30, none⟩ = some (.int .i64 0) := (blk_cell BK278.out 30).trans rfl; have hcz38_31 : w34.cell? ⟨gb278, 31, none⟩ = some (.int .i64 0) := (blk_cell BK278.out 31).trans rfl; have hfz38_0 := blk_frozen BK278.out 0; have hfz38_1 := blk_frozen BK278.out 1; have hfz38_2 := blk_frozen BK278.out 2; have hfz38_3 := blk_frozen BK278.out 3; have hfz38_4 := blk_frozen BK278.out 4; have hfz38_5 := blk_frozen BK278.out 5; have hfz38_6 := blk_frozen BK278.out 6; have hfz38_7 := blk_frozen BK278.out 7; have hfz38_8 := blk_frozen BK278.out 8; have hfz38_9 := blk_frozen BK278.out 9; have hfz38_10 := blk_frozen BK278.out 10; have hfz38_11 := blk_frozen BK278.out 11; have hfz38_12 := blk_frozen BK278.out 12; have hfz38_13 := blk_frozen BK278.out 13; have hfz38_14 := blk_frozen BK278.out 14; have hfz38_15 := blk_frozen BK278.out 15; have hfz38_16 := blk_frozen BK278.out 16; have hfz38_17 := blk_frozen BK278.out 17; have hfz38_18 := blk_frozen BK278.out 18; have hfz38_19 := blk_frozen BK278.out 19; have hfz38_20 := blk_frozen BK278.out 20; have hfz38_21 := blk_frozen BK278.out 21; have hfz38_22 := blk_frozen BK278.out 22; have hfz38_23 := blk_frozen BK278.out 23; have hfz38_24 := blk_frozen BK278.out 24; have hfz38_25 := blk_frozen BK278.out 25; have hfz38_26 := blk_frozen BK278.out 26; have hfz38_27 := blk_frozen BK278.out 27; have hfz38_28 := blk_frozen BK278.out 28; have hfz38_29 := blk_frozen BK278.out 29; have hfz38_30 := blk_frozen BK278.out 30; have hfz38_31 := blk_frozen BK278.out 31) | ((with_reducible refine gate_store (t := 68) (p := 7) rfl ?_); refine box_store_event (t := 68) (ty := 68) (p := 7) (x := ?vo_w39) (g := gb278) (cs := #[.int .i64 0, .string (⟨#[]⟩ : ByteArray), .int .i64 0, .int .i64 0, .slice none 0 0, .int .i64 0, .int .i64 0, .bool false, .bool false, .bool false, .int .i64 0, .string (⟨#[]⟩ : ByteArray), .string (⟨#[]⟩ : ByteArray), .string (⟨#[]⟩ : ByteArray), .int .i64 0, .bool false, .bool false, .int .i64 0, .int .i64 0, .string (⟨#[]⟩ : ByteArray), .int .i64 0, .int .i64 0, .int .i64 0, .int .i64 0, .int .i64 0, .bool false, .int .u64 0, .slice none 0 0, .int .i64 0, .string (⟨#[]⟩ : ByteArray), .int .i64 0, .int .i64 0]) (cs' := #[.int .i64 ((rd_T68 l0_1 x11_1).f0), .string ((rd_T68 l0_1 x11_1).f1), .int .i64 ((rd_T68 l0_1 x11_1).f2), .int .i64 ((rd_T68 l0_1 x11_1).f3), .slice A277_4 ((rd_T68 l0_1 x11_1).f4).length c277_4, .int .i64 ((rd_T68 l0_1 x11_1).f5.f0), .int .i64 ((rd_T68 l0_1 x11_1).f5.f1), .bool ((rd_T68 l0_1 x11_1).f6), .bool ((rd_T68 l0_1 x11_1).f7), .bool ((rd_T68 l0_1 x11_1).f8), .int .i64 ((rd_T68 l0_1 x11_1).f9), .string ((rd_T68 l0_1 x11_1).f10), .string ((rd_T68 l0_1 x11_1).f11), .string ((rd_T68 l0_1 x11_1).f12), .int .i64 ((rd_T68 l0_1 x11_1).f13), .bool ((rd_T68 l0_1 x11_1).f14), .bool ((rd_T68 l0_1 x11_1).f15), .int .i64 ((rd_T68 l0_1 x11_1).f16.f0), .int .i64 ((rd_T68 l0_1 x11_1).f16.f1), .string ((rd_T68 l0_1 x11_1).f17), .int .i64 ((rd_T68 l0_1 x11_1).f18), .int .i64 ((rd_T68 l0_1 x11_1).f19), .int .i64 ((rd_T68 l0_1 x11_1).f20), .int .i64 ((rd_T68 l0_1 x11_1).f21), .int .i64 ((rd_T68 l0_1 x11_1).f22), .bool ((rd_T68 l0_1 x11_1).f23), .int .u64 ((rd_T68 l0_1 x11_1).f24), .slice A277_27 ((rd_T68 l0_1 x11_1).f25).length c277_27, .int .i64 ((rd_T68 l0_1 x11_1).f26), .string ((rd_T68 l0_1 x11_1).f27), .int .i64 ((rd_T68 l0_1 x11_1).f28), .int .i64 ((rd_T68 l0_1 x11_1).f29)]) ?hgd ?ho ?hN ?he ?hv ?hi ?hb ?hs ?h1 ?_; (case ho => rfl); (case hgd => rfl); (case hN => rfl); (case he => rfl); (case hv => first | rfl | (simp; done)); (case hi => exact size68); (case hb => (with_reducible repeat (first | refine blk_drewN ?_ _ | refine blk_drew ?_ | refine blk_alloc ?_ _)); exact BK278.out); (case hs => rfl); (case h1 => rfl); intro w39 hbox hg; have n0_ := Aside0.mk (blk_grown (by (with_reducible repeat (first | refine blk_drewN ?_ _ | refine blk_drew ?_ | refine blk_alloc ?_ _)); exact BK274.out) hg (fun e_ => NB274_278.out (Option.some.inj e_))); have n1_ := Aside0.mk (blk_grown (by (with_reducible repeat (first | refine blk_drewN ?_ _ | refine blk_drew ?_ | refine blk_alloc ?_ _)); exact BK275.out) hg (fun e_ => NB275_278.out (Option.some.inj e_))); have n2_ := Aside0.mk (blk_grown (by (with_reducible repeat (first | refine blk_drewN ?_ _ | refine blk_drew ?_ | refine blk_alloc ?_ _)); exact BK276.out) hg (fun e_ => NB276_278.out (Option.some.inj e_))); have n3_ := Aside0.mk (hbox); have n4_ := Aside0.mk (Below.grown (by repeat (first | (with_reducible first | exact HB.out | apply below_alloc | apply pw_below_drewN | apply below_drew1 | refine below_set ?_ GE274.out | refine below_set ?_ GE275.out | refine below_set ?_ GE276.out | refine below_set ?_ GE278.out) | exact HB.out)) hg (below_size (by repeat (first | (with_reducible first | exact HB.out | apply below_alloc | apply pw_below_drewN | apply below_drew1 | refine below_set ?_ GE274.out | refine below_set ?_ GE275.out | refine below_set ?_ GE276.out | refine below_set ?_ GE278.out) | exact HB.out))) (fun k_ e_ => by injection e_ with e_; subst e_; exact GE278.out)); clear BK274; clear BK275; clear BK276; clear BK278; clear HB; have BK274 := n0_; have BK275 := n1_; have BK276 := n2_; have BK278 := n3_; have HB := n4_; clear n0_ n1_ n2_ n3_ n4_; clear hbox hg; have hcz40_0 : w39.cell? ⟨gb278, 0, none⟩ = some (.int .i64 ((rd_T68 l0_1 x11_1).f0)) := (blk_cell BK278.out 0).trans rfl; have hcz40_1 : w39.cell? ⟨gb278, 1, none⟩ = some (.string ((rd_T68 l0_1 x11_1).f1)) := (blk_cell BK278.out 1).trans rfl; have hcz40_2 : w39.cell? ⟨gb278, 2, none⟩ = some (.int .i64 ((rd_T68 l0_1 x11_1).f2)) := (blk_cell BK278.out 2).trans rfl; have hcz40_3 : w39.cell? ⟨gb278, 3, none⟩ = some (.int .i64 ((rd_T68 l0_1 x11_1).f3)) := (blk_cell BK278.out 3).trans rfl; have hcz40_4 : w39.cell? ⟨gb278, 4, none⟩ = some (.slice A277_4 ((rd_T68 l0_1 x11_1).f4).length c277_4) := (blk_cell BK278.out 4).trans rfl; have hcz40_5 : w39.cell? ⟨gb278, 5, none⟩ = some (.int .i64 ((rd_T68 l0_1 x11_1).f5.f0)) := (blk_cell BK278.out 5).trans rfl; have hcz40_6 : w39.cell? ⟨gb278, 6, none⟩ = some (.int .i64 ((rd_T68 l0_1 x11_1).f5.f1)) := (blk_cell BK278.out 6).trans rfl; have hcz40_7 : w39.cell? ⟨gb278, 7, none⟩ = some (.bool ((rd_T68 l0_1 x11_1).f6)) := (blk_cell BK278.out 7).trans rfl; have hcz40_8 : w39.cell? ⟨gb278, 8, none⟩ = some (.bool ((rd_T68 l0_1 x11_1).f7)) := (blk_cell BK278.out 8).trans rfl; have hcz40_9 : w39.cell? ⟨gb278, 9, none⟩ = some (.bool ((rd_T68 l0_1 x11_1).f8)) := (blk_cell BK278.out 9).trans rfl; have hcz40_10 : w39.cell? ⟨gb278, 10, none⟩ = some (.int .i64 ((rd_T68 l0_1 x11_1).f9)) := (blk_cell BK278.out 10).trans rfl; have hcz40_11 : w39.cell? ⟨gb278, 11, none⟩ = some (.string ((rd_T68 l0_1 x11_1).f10)) := (blk_cell BK278.out 11).trans rfl; have hcz40_12 : w39.cell? ⟨gb278, 12, none⟩ = some (.string ((rd_T68 l0_1 x11_1).f11)) := (blk_cell BK278.out 12).trans rfl; have hcz40_13 : w39.cell? ⟨gb278, 13, none⟩ = some (.string ((rd_T68 l0_1 x11_1).f12)) := (blk_cell BK278.out 13).trans rfl; have hcz40_14 : w39.cell? ⟨gb278, 14, none⟩ = some (.int .i64 ((rd_T68 l0_1 x11_1).f13)) := (blk_cell BK278.out 14).trans rfl; have hcz40_15 : w39.cell? ⟨gb278, 15, none⟩ = some (.bool ((rd_T68 l0_1 x11_1).f14)) := (blk_cell BK278.out 15).trans rfl; have hcz40_16 : w39.cell? ⟨gb278, 16, none⟩ = some (.bool ((rd_T68 l0_1 x11_1).f15)) := (blk_cell BK278.out 16).trans rfl; have hcz40_17 : w39.cell? ⟨gb278, 17, none⟩ = some (.int .i64 ((rd_T68 l0_1 x11_1).f16.f0)) := (blk_cell BK278.out 17).trans rfl; have hcz40_18 : w39.cell? ⟨gb278, 18, none⟩ = some (.int .i64 ((rd_T68 l0_1 x11_1).f16.f1)) := (blk_cell BK278.out 18).trans rfl; have hcz40_19 : w39.cell? ⟨gb278, 19, none⟩ = some (.string ((rd_T68 l0_1 x11_1).f17)) := (blk_cell BK278.out 19).trans rfl; have hcz40_20 : w39.cell? ⟨gb278, 20, none⟩ = some (.int .i64 ((rd_T68 l0_1 x11_1).f18)) := (blk_cell BK278.out 20).trans rfl; have hcz40_21 : w39.cell? ⟨gb278, 21, none⟩ = some (.int .i64 ((rd_T68 l0_1 x11_1).f19)) := (blk_cell BK278.out 21).trans rfl; have hcz40_22 : w39.cell? ⟨gb278, 22, none⟩ = some (.int .i64 ((rd_T68 l0_1 x11_1).f20)) := (blk_cell BK278.out 22).trans rfl; have hcz40_23 : w39.cell? ⟨gb278, 23, none⟩ = some (.int .i64 ((rd_T68 l0_1 x11_1).f21)) := (blk_cell BK278.out 23).trans rfl; have hcz40_24 : w39.cell? ⟨gb278, 24, none⟩ = some (.int .i64 ((rd_T68 l0_1 x11_1).f22)) := (blk_cell BK278.out 24).trans rfl; have hcz40_25 : w39.cell? ⟨gb278, 25, none⟩ = some (.bool ((rd_T68 l0_1 x11_1).f23)) := (blk_cell BK278.out 25).trans rfl; have hcz40_26 : w39.cell? ⟨gb278, 26, none⟩ = some (.int .u64 ((rd_T68 l0_1 x11_1).f24)) := (blk_cell BK278.out 26).trans rfl; have hcz40_27 : w39.cell? ⟨gb278, 27, none⟩ = some (.slice A277_27 ((rd_T68 l0_1 x11_1).f25).length c277_27) := (blk_cell BK278.out 27).trans rfl; have hcz40_28 : w39.cell? ⟨gb278, 28, none⟩ = some (.int .i64 ((rd_T68 l0_1 x11_1).f26)) := (blk_cell BK278.out 28).trans rfl; have hcz40_29 : w39.cell? ⟨gb278, 29, none⟩ = some (.string ((rd_T68 l0_1 x11_1).f27)) := (blk_cell BK278.out 29).trans rfl; have hcz40_30 : w39.cell? ⟨gb278, 30, none⟩ = some (.int .i64 ((rd_T68 l0_1 x11_1).f28)) := (blk_cell BK278.out 30).trans rfl; have hcz40_31 : w39.cell? ⟨gb278, 31, none⟩ = some (.int .i64 ((rd_T68 l0_1 x11_1).f29)) := (blk_cell BK278.out 31).trans rfl; have hfz40_0 := blk_frozen BK278.out 0; have hfz40_1 := blk_frozen BK278.out 1; have hfz40_2 := blk_frozen BK278.out 2; have hfz40_3 := blk_frozen BK278.out 3; have hfz40_4 := blk_frozen BK278.out 4; have hfz40_5 := blk_frozen BK278.out 5; have hfz40_6 := blk_frozen BK278.out 6; have hfz40_7 := blk_frozen BK278.out 7; have hfz40_8 := blk_frozen BK278.out 8; have hfz40_9 := blk_frozen BK278.out 9; have hfz40_10 := blk_frozen BK278.out 10; have hfz40_11 := blk_frozen BK278.out 11; have hfz40_12 := blk_frozen BK278.out 12; have hfz40_13 := blk_frozen BK278.out 13; have hfz40_14 := blk_frozen BK278.out 14; have hfz40_15 := blk_frozen BK278.out 15; have hfz40_16 := blk_frozen BK278.out 16; have hfz40_17 := blk_frozen BK278.out 17; have hfz40_18 := blk_frozen BK278.out 18; have hfz40_19 := blk_frozen BK278.out 19; have hfz40_20 := blk_frozen BK278.out 20; have hfz40_21 := blk_frozen BK278.out 21; have hfz40_22 := blk_frozen BK278.out 22; have hfz40_23 := blk_frozen BK278.out 23; have hfz40_24 := blk_frozen BK278.out 24; have hfz40_25 := blk_frozen BK278.out 25; have hfz40_26 := blk_frozen BK278.out 26; have hfz40_27 := blk_frozen BK278.out 27; have hfz40_28 := blk_frozen BK278.out 28; have hfz40_29 := blk_frozen BK278.out 29; have hfz40_30 := blk_frozen BK278.out 30; have hfz40_31 := blk_frozen BK278.out 31))
                go_roundg k1
                case measure => have := HK1.out; omega
                case rel => exact ⟨(wrap64 (x11_1 + 1)), (x277000_1), (x277001_1), (by first | rfl | (simp; done) | (simp [*]; done)), H', ⟨by have := HK1.out; omega⟩, ⟨by (with_reducible repeat (first | refine blk_drewN ?_ _ | refine blk_drew ?_ | refine blk_alloc ?_ _)); exact BK274.out⟩, ⟨by (with_reducible repeat (first | refine blk_drewN ?_ _ | refine blk_drew ?_ | refine blk_alloc ?_ _)); exact BK275.out⟩, ⟨by (with_reducible repeat (first | refine blk_drewN ?_ _ | refine blk_drew ?_ | refine blk_alloc ?_ _)); exact BK276.out⟩, ⟨by repeat (first | (with_reducible first | exact HB.out | apply below_alloc | apply pw_below_drewN | apply below_drew1 | refine below_set ?_ GE274.out | refine below_set ?_ GE275.out | refine below_set ?_ GE276.out | refine below_set ?_ GE278.out) | exact HB.out)⟩⟩
          · rw [if_neg c11] at H
            exact absurd H (by simp)
        · rw [if_neg c10] at H
          exact absurd H (by simp)
      · rw [if_neg c9] at H
        have c9b0 : decide (x11_1 < (l0_1.length : Int)) = false := decide_eq_false c9
        clear c9
        simp only [Option.some.injEq, Prod.mk.injEq] at H
        obtain ⟨rfl, rfl⟩ := H
        have hnb41 := NB276_274.out
        have hnc41 := NB274_276.out
        have hnb42 := NB276_275.out
        have hnc42 := NB275_276.out
        have hcz43_0 : wr.cell? ⟨gb276, 0, none⟩ = some (.int .i64 x277000_1) := (blk_cell BK276.out 0).trans rfl
        have hcz43_1 : wr.cell? ⟨gb276, 1, none⟩ = some (.int .i64 x277001_1) := (blk_cell BK276.out 1).trans rfl
        have hfz43_0 := blk_frozen BK276.out 0
        have hfz43_1 := blk_frozen BK276.out 1
        have hnb44 := NB275_274.out
        have hnc44 := NB274_275.out
        have hcz45_0 : wr.cell? ⟨gb275, 0, none⟩ = some (.int .i64 0) := (blk_cell BK275.out 0).trans rfl
        have hcz45_1 : wr.cell? ⟨gb275, 1, none⟩ = some (.int .i64 0) := (blk_cell BK275.out 1).trans rfl
        have hfz45_0 := blk_frozen BK275.out 0
        have hfz45_1 := blk_frozen BK275.out 1
        go_wp2_with (first | ((with_reducible refine gate_load (t := 68) rfl ?_); first | (refine load68_box rfl rfl rfl (by with_reducible assumption) (by with_reducible assumption) (by with_reducible assumption) (by with_reducible assumption) (by with_reducible assumption) (by with_reducible assumption) (by with_reducible assumption) (by with_reducible assumption) (by with_reducible assumption) (by with_reducible assumption) (by with_reducible assumption) (by with_reducible assumption) (by with_reducible assumption) (by with_reducible assumption) (by with_reducible assumption) (by with_reducible assumption) (by with_reducible assumption) (by with_reducible assumption) (by with_reducible assumption) (by with_reducible assumption) (by with_reducible assumption) (by with_reducible assumption) (by with_reducible assumption) (by with_reducible assumption) (by with_reducible assumption) (by with_reducible assumption) (by with_reducible assumption) (by with_reducible assumption) (by with_reducible assumption) (by with_reducible assumption) (by with_reducible assumption) (by with_reducible assumption) ?_) | (refine load68_at rfl rfl rfl (by with_reducible assumption) (by with_reducible assumption) (by with_reducible assumption) (by with_reducible assumption) (by with_reducible assumption) (by with_reducible assumption) (by with_reducible assumption) (by with_reducible assumption) (by with_reducible assumption) (by with_reducible assumption) (by with_reducible assumption) (by with_reducible assumption) (by with_reducible assumption) (by with_reducible assumption) (by with_reducible assumption) (by with_reducible assumption) (by with_reducible assumption) (by with_reducible assumption) (by with_reducible assumption) (by with_reducible assumption) (by with_reducible assumption) (by with_reducible assumption) (by with_reducible assumption) (by with_reducible assumption) (by with_reducible assumption) (by with_reducible assumption) (by with_reducible assumption) (by with_reducible assumption) (by with_reducible assumption) (by with_reducible assumption) (by with_reducible assumption) (by with_reducible assumption) ?_)) | ((with_reducible refine gate_store (t := 64) (p := 4) rfl ?_); refine store_event (t := 64) (p := 4) (v := ?vo_w46) (w1 := ((wr.setCell ⟨gb275, 0, none⟩ (.int .i64 x277000_1)).setCell ⟨gb275, 1, none⟩ (.int .i64 x277001_1))) ?hg ?ho ?hn ?hr ?_; (case ho => rfl); (case hg => rfl); (case hn => rfl); (case hr => first | (go_simp; done) | (go_simp; rfl)); intro w46 hw; have n0_ : Aside0 (w46.heap[gb274]? = some (.cells #[.slice A0_0 l0_0.length c0_0, .slice A0_1 l0_1.length c0_1, .slice A0_2 l0_2.length c0_2, .slice A0_3 l0_3.length c0_3] 59 (0, 0))) := ⟨(by rw [hw]; exact (by (with_reducible repeat (first | refine blk_drewN ?_ _ | refine blk_drew ?_ | refine blk_alloc ?_ _)); refine blk_far ?_ NB274_275.out _; (with_reducible repeat (first | refine blk_drewN ?_ _ | refine blk_drew ?_ | refine blk_alloc ?_ _)); refine blk_far ?_ NB274_275.out _; (with_reducible repeat (first | refine blk_drewN ?_ _ | refine blk_drew ?_ | refine blk_alloc ?_ _)); exact BK274.out))⟩; have n1_ : Aside0 (w46.heap[gb275]? = some (.cells #[.int .i64 x277000_1, .int .i64 x277001_1] 64 (0, 0))) := ⟨(by rw [hw]; exact (by (with_reducible repeat (first | refine blk_drewN ?_ _ | refine blk_drew ?_ | refine blk_alloc ?_ _)); refine blk_put (cs := #[.int .i64 x277000_1, .int .i64 0]) ?_ 1 _ rfl; (with_reducible repeat (first | refine blk_drewN ?_ _ | refine blk_drew ?_ | refine blk_alloc ?_ _)); refine blk_put (cs := #[.int .i64 0, .int .i64 0]) ?_ 0 _ rfl; (with_reducible repeat (first | refine blk_drewN ?_ _ | refine blk_drew ?_ | refine blk_alloc ?_ _)); exact BK275.out))⟩; have n2_ : Aside0 (w46.heap[gb276]? = some (.cells #[.int .i64 x277000_1, .int .i64 x277001_1] 64 (0, 0))) := ⟨(by rw [hw]; exact (by (with_reducible repeat (first | refine blk_drewN ?_ _ | refine blk_drew ?_ | refine blk_alloc ?_ _)); refine blk_far ?_ NB276_275.out _; (with_reducible repeat (first | refine blk_drewN ?_ _ | refine blk_drew ?_ | refine blk_alloc ?_ _)); refine blk_far ?_ NB276_275.out _; (with_reducible repeat (first | refine blk_drewN ?_ _ | refine blk_drew ?_ | refine blk_alloc ?_ _)); exact BK276.out))⟩; have n3_ : Aside0 (Below w.heap.size w w46) := ⟨(by rw [hw]; exact (by repeat (first | (with_reducible first | exact HB.out | apply below_alloc | apply pw_below_drewN | apply below_drew1 | refine below_set ?_ GE274.out | refine below_set ?_ GE275.out | refine below_set ?_ GE276.out) | exact HB.out)))⟩; clear hw; clear BK274; clear BK275; clear BK276; clear HB; have BK274 := n0_; have BK275 := n1_; have BK276 := n2_; have HB := n3_; clear n0_ n1_ n2_ n3_))
        refine bodyPost_ret (results_cell_row rfl _ _ gb275 64 #[.int .i64 x277000_1, .int .i64 x277001_1] (0, 0) _ rfl (by (with_reducible repeat (first | refine blk_drewN ?_ _ | refine blk_drew ?_ | refine blk_alloc ?_ _)); exact BK275.out) Try.underlying64 rfl (by kernel_rfl)) rfl ?_
        exact ⟨by first | rfl | (simp [errW_none, errW_some] <;> rfl) | (simp [*, errW_none, errW_some] <;> rfl), by repeat (first | (with_reducible first | exact HB.out | apply below_alloc | apply pw_below_drewN | apply below_drew1 | refine below_set ?_ GE274.out | refine below_set ?_ GE275.out | refine below_set ?_ GE276.out) | exact HB.out)⟩
end Go.Proofs.Ytamjjeakkkdfhaa.PB
end
section
namespace Go.Proofs.Ytamjjeakkkdfhaa.G
open Go.RowKit Go.Proofs.YtamjjeakkkdfhaaW.PrintWords Go.Proofs.YtamjjeakkkdfhaaW.PrintLast Go.Proofs.YtamjjeakkkdfhaaW.PrintMore
open Go.Proofs.Ytamjjeakkkdfhaa.K Go.Proofs.YtamjjeakkkdfhaaE Go.Proofs.Ytamjjeakkkdfhaa.PB Go.Proofs.Ytamjjeakkkdfhaa.PC
set_option linter.unusedVariables false
set_option linter.unusedSimpArgs false
def heldI (n : Int) : Int := mn (mx n (-1125899906842624)) 1125899906842624
def bothI (a : Int × Int) (c d : Int) : Int × Int := (mn (a.1 + mx (heldI c) 0) 1125899906842624, mn (a.2 + mx (heldI d) 0) 1125899906842624)
def small (a : Int × Int) : Prop := (0 ≤ a.1 ∧ a.1 ≤ 1125899906842624) ∧ (0 ≤ a.2 ∧ a.2 ≤ 1125899906842624)
theorem heldI_le (n : Int) : heldI n ≤ 1125899906842624 := by unfold heldI mn; split <;> omega
theorem mx_held (n : Int) : 0 ≤ mx (heldI n) 0 ∧ mx (heldI n) 0 ≤ 1125899906842624 := by
  have := heldI_le n
  unfold mx
  split <;> omega
theorem mn_small {a b : Int} (ha : 0 ≤ a) (hb : 0 ≤ b) : 0 ≤ mn (a + b) 1125899906842624 ∧ mn (a + b) 1125899906842624 ≤ 1125899906842624 := by unfold mn; split <;> omega
theorem bothI_small {a : Int × Int} (h : small a) (c d : Int) : small (bothI a c d) := ⟨mn_small h.1.1 (mx_held c).1, mn_small h.2.1 (mx_held d).1⟩
theorem both_is {a b c d : Int} (h : small (a, b)) : rules_both.f a b c d = some (bothI (a, b) c d) := by
  obtain ⟨⟨h1, h2⟩, h3, h4⟩ := h
  have hc := mx_held c
  have hd := mx_held d
  have e1 : wrap64 (a + mx (heldI c) 0) = a + mx (heldI c) 0 := by unfold wrap64; simp only at h1 h2; omega
  have e2 : wrap64 (b + mx (heldI d) 0) = b + mx (heldI d) 0 := by unfold wrap64; simp only at h3 h4; omega
  show some (mn (wrap64 (a + mx (heldI c) 0)) 1125899906842624, mn (wrap64 (b + mx (heldI d) 0)) 1125899906842624) = _
  rw [e1, e2]; rfl
def usedOne (a : ByteArray) (acc : Int × Int) (x : S68) : Int × Int := if a.toList = ([] : List UInt8) then acc else if x.f12.toList = a.toList then bothI acc x.f16.f0 x.f16.f1 else acc
def usedL (l : List S68) (a : ByteArray) : Int × Int := l.foldl (usedOne a) (0, 0)
theorem usedOne_small {a : ByteArray} {acc : Int × Int} {x : S68} (h : small acc) : small (usedOne a acc x) := by
  unfold usedOne
  split
  · exact h
  · split
    · exact bothI_small h _ _
    · exact h
theorem used_from (a : ByteArray) (l : List S68) (hl : l.length ≤ 9223372036854775807) : ∀ (d k : Nat) (acc : Int × Int) (i : Nat), i ≤ l.length → l.length - i = d → d < k → small acc → rules_Used.l0 k a l (l.length : Int) (i : Int) acc.1 acc.2 = some ((l.drop i).foldl (usedOne a) acc) := by
  intro d
  induction d with
  | zero =>
    intro k acc i hi hd hk ha
    obtain ⟨k, rfl⟩ : ∃ m, k = m + 1 := ⟨k - 1, by omega⟩
    simp only [rules_Used.l0]
    rw [if_neg (by omega), List.drop_of_length_le (by omega)]; rfl
  | succ d ih =>
    intro k acc i hi hd hk ha
    obtain ⟨k, rfl⟩ : ∃ m, k = m + 1 := ⟨k - 1, by omega⟩
    have hw : wrap64 ((i : Int) + 1) = ((i + 1 : Nat) : Int) := by unfold wrap64; omega
    simp only [rules_Used.l0]
    rw [if_pos (by omega), if_pos (by omega), if_pos (by omega), hw, List.drop_eq_getElem_cons (show i < l.length by omega), List.foldl_cons]
    have hs := usedOne_small (a := a) (x := l[i]) ha
    unfold usedOne at hs ⊢
    rw [rd_get (show i < l.length by omega)]
    by_cases h1 : a.toList = ([] : List UInt8)
    · rw [if_pos h1] at hs ⊢
      rw [if_pos h1]
      exact ih k acc (i + 1) (by omega) (by omega) (by omega) ha
    · rw [if_neg h1] at hs ⊢
      rw [if_neg h1]
      by_cases h2 : l[i].f12.toList = a.toList
      · rw [if_pos h2] at hs ⊢
        rw [if_pos h2, both_is (show small (acc.1, acc.2) from ha)]
        exact ih k _ (i + 1) (by omega) (by omega) (by omega) hs
      · rw [if_neg h2] at hs ⊢
        rw [if_neg h2]
        exact ih k acc (i + 1) (by omega) (by omega) (by omega) ha
theorem small_zero : small (0, 0) := ⟨⟨by decide, by decide⟩, by decide, by decide⟩
theorem used_is (l0 l1 l2 l3 : List S68) (a : ByteArray) (hl : l1.length ≤ 9223372036854775807) : rules_Used.f (l1.length + 1) l0 l1 l2 l3 a = some (usedL l1 a) :=
  used_from a l1 hl l1.length (l1.length + 1) (0, 0) 0 (by omega) (by omega) (by omega) small_zero
end Go.Proofs.Ytamjjeakkkdfhaa.G
end
section
namespace Go.Proofs.Ytamjjeakkkdfhaa.PB
open Go.RowKit Go.Proofs.YtamjjeakkkdfhaaW.PrintWords Go.Proofs.YtamjjeakkkdfhaaW.PrintLast Go.Proofs.YtamjjeakkkdfhaaW.PrintMore
open Go.Proofs.Ytamjjeakkkdfhaa.K Go.Proofs.Ytamjjeakkkdfhaa.G Go.Proofs.YtamjjeakkkdfhaaE
attribute [local go_sem] max2_int min2_int max_two min_two max_three min_three max_four min_four
set_option linter.unusedVariables false
set_option linter.unusedSimpArgs false
def flotillalaw16_big.f (l0_0 : List (S68)) (l0_1 : List (S68)) (l0_2 : List (S68)) (l0_3 : List (S68)) : Option (Bool) := if (l0_0.length : Int) > 300 then (some true) else (if (l0_1.length : Int) > 300 then (some true) else (if (l0_2.length : Int) > 300 then (some true) else (some (decide ((l0_3.length : Int) > 300)))))
set_option maxHeartbeats 8000000 in
set_option maxRecDepth 100000 in
theorem flotillalaw16_big.calls (A0_0 : Option Addr) (c0_0 : Nat) (l0_0 : List (S68)) (A0_1 : Option Addr) (c0_1 : Nat) (l0_1 : List (S68)) (A0_2 : Option Addr) (c0_2 : Nat) (l0_2 : List (S68)) (A0_3 : Option Addr) (c0_3 : Nat) (l0_3 : List (S68)) (r : Bool) (w : World) (hr0_0 : Kd.C k68 w A0_0 l0_0.length l0_0) (hc0_0 : l0_0.length ≤ c0_0) (hr0_1 : Kd.C k68 w A0_1 l0_1.length l0_1) (hc0_1 : l0_1.length ≤ c0_1) (hr0_2 : Kd.C k68 w A0_2 l0_2.length l0_2) (hc0_2 : l0_2.length ≤ c0_2) (hr0_3 : Kd.C k68 w A0_3 l0_3.length l0_3) (hc0_3 : l0_3.length ≤ c0_3) (h : flotillalaw16_big.f l0_0 l0_1 l0_2 l0_3 = some r) :
    Calls Try.prog 32 #[.agg #[.slice A0_0 l0_0.length c0_0, .slice A0_1 l0_1.length c0_1, .slice A0_2 l0_2.length c0_2, .slice A0_3 l0_3.length c0_3]] w fun e w' => e = .returned (.bool r) ∧ Below w.heap.size w w' := by
  have hu59 := Try.underlying59
  have HR0_0 := Aside0.mk hr0_0
  have HC0_0 := Aside0.mk hc0_0
  clear hr0_0 hc0_0
  have HR0_1 := Aside0.mk hr0_1
  have HC0_1 := Aside0.mk hc0_1
  clear hr0_1 hc0_1
  have HR0_2 := Aside0.mk hr0_2
  have HC0_2 := Aside0.mk hc0_2
  clear hr0_2 hc0_2
  have HR0_3 := Aside0.mk hr0_3
  have HC0_3 := Aside0.mk hc0_3
  clear hr0_3 hc0_3
  have HB := Aside0.mk (Below.refl w.heap.size w)
  have H : (if (l0_0.length : Int) > 300 then (some true) else (if (l0_1.length : Int) > 300 then (some true) else (if (l0_2.length : Int) > 300 then (some true) else (some (decide ((l0_3.length : Int) > 300)))))) = some r := h
  clear h
  by_cases c2 : (l0_0.length : Int) > 300
  · rw [if_pos c2] at H
    have c2b0 : decide (300 < (l0_0.length : Int)) = true := decide_eq_true c2
    have c2b1 : decide (300 < l0_0.length) = true := decide_eq_true (by omega)
    clear c2
    obtain rfl := Option.some.inj H
    go_enter Try.func32, Try.ntmps32
    go_wp2_with (first | ((with_reducible refine gate_dst (N := 1) rfl ?_); (try (refine gate_guard (by rfl) ?_; dsimp only)); refine box_event ?hg (N := 1) ?hd (cs := #[.slice A0_0 l0_0.length c0_0, .slice A0_1 l0_1.length c0_1, .slice A0_2 l0_2.length c0_2, .slice A0_3 l0_3.length c0_3]) (t := 59) ?hr ?_; (case hd => rfl); (case hg => rfl); (case hr => first | (go_simp; done) | (go_simp; rfl)); intro gb206 hg w3 hbox hb; have n0_ := Aside0.mk (below_step (by repeat (first | (with_reducible first | exact HB.out | apply below_alloc | apply pw_below_drewN | apply below_drew1) | exact HB.out)) hb); have n1_ := Aside0.mk (hbox); have n2_ := Aside0.mk ((by rw [hg]; exact (below_size (by repeat (first | (with_reducible first | exact HB.out | apply below_alloc | apply pw_below_drewN | apply below_drew1) | exact HB.out))) : w.heap.size ≤ gb206)); have n3_ := Aside0.mk ((by rw [hg]; exact (below_size (by repeat (first | (with_reducible first | exact HB.out | apply below_alloc | apply pw_below_drewN | apply below_drew1) | exact HB.out))) : w.heap.size ≤ gb206)); clear HB; have HB := n0_; have BK206 := n1_; have GW206 := n2_; have GE206 := n3_; clear n0_ n1_ n2_ n3_; clear hb hbox hg; have hcz4_0 : w3.cell? ⟨gb206, 0, none⟩ = some (.slice A0_0 l0_0.length c0_0) := (blk_cell BK206.out 0).trans rfl; have hcz4_1 : w3.cell? ⟨gb206, 1, none⟩ = some (.slice A0_1 l0_1.length c0_1) := (blk_cell BK206.out 1).trans rfl; have hcz4_2 : w3.cell? ⟨gb206, 2, none⟩ = some (.slice A0_2 l0_2.length c0_2) := (blk_cell BK206.out 2).trans rfl; have hcz4_3 : w3.cell? ⟨gb206, 3, none⟩ = some (.slice A0_3 l0_3.length c0_3) := (blk_cell BK206.out 3).trans rfl; have hfz4_0 := blk_frozen BK206.out 0; have hfz4_1 := blk_frozen BK206.out 1; have hfz4_2 := blk_frozen BK206.out 2; have hfz4_3 := blk_frozen BK206.out 3))
    go_ret
    exact ⟨by first | rfl | (simp [errW_none, errW_some] <;> rfl) | (simp [*, errW_none, errW_some] <;> rfl), by repeat (first | (with_reducible first | exact HB.out | apply below_alloc | apply pw_below_drewN | apply below_drew1 | refine below_set ?_ GE206.out) | exact HB.out)⟩
  · rw [if_neg c2] at H
    have c2b0 : decide (300 < (l0_0.length : Int)) = false := decide_eq_false c2
    have c2b1 : decide (300 < l0_0.length) = false := decide_eq_false (by omega)
    clear c2
    by_cases c5 : (l0_1.length : Int) > 300
    · rw [if_pos c5] at H
      have c5b0 : decide (300 < (l0_1.length : Int)) = true := decide_eq_true c5
      have c5b1 : decide (300 < l0_1.length) = true := decide_eq_true (by omega)
      clear c5
      obtain rfl := Option.some.inj H
      go_enter Try.func32, Try.ntmps32
      go_wp2_with (first | ((with_reducible refine gate_dst (N := 1) rfl ?_); (try (refine gate_guard (by rfl) ?_; dsimp only)); refine box_event ?hg (N := 1) ?hd (cs := #[.slice A0_0 l0_0.length c0_0, .slice A0_1 l0_1.length c0_1, .slice A0_2 l0_2.length c0_2, .slice A0_3 l0_3.length c0_3]) (t := 59) ?hr ?_; (case hd => rfl); (case hg => rfl); (case hr => first | (go_simp; done) | (go_simp; rfl)); intro gb206 hg w6 hbox hb; have n0_ := Aside0.mk (below_step (by repeat (first | (with_reducible first | exact HB.out | apply below_alloc | apply pw_below_drewN | apply below_drew1) | exact HB.out)) hb); have n1_ := Aside0.mk (hbox); have n2_ := Aside0.mk ((by rw [hg]; exact (below_size (by repeat (first | (with_reducible first | exact HB.out | apply below_alloc | apply pw_below_drewN | apply below_drew1) | exact HB.out))) : w.heap.size ≤ gb206)); have n3_ := Aside0.mk ((by rw [hg]; exact (below_size (by repeat (first | (with_reducible first | exact HB.out | apply below_alloc | apply pw_below_drewN | apply below_drew1) | exact HB.out))) : w.heap.size ≤ gb206)); clear HB; have HB := n0_; have BK206 := n1_; have GW206 := n2_; have GE206 := n3_; clear n0_ n1_ n2_ n3_; clear hb hbox hg; have hcz7_0 : w6.cell? ⟨gb206, 0, none⟩ = some (.slice A0_0 l0_0.length c0_0) := (blk_cell BK206.out 0).trans rfl; have hcz7_1 : w6.cell? ⟨gb206, 1, none⟩ = some (.slice A0_1 l0_1.length c0_1) := (blk_cell BK206.out 1).trans rfl; have hcz7_2 : w6.cell? ⟨gb206, 2, none⟩ = some (.slice A0_2 l0_2.length c0_2) := (blk_cell BK206.out 2).trans rfl; have hcz7_3 : w6.cell? ⟨gb206, 3, none⟩ = some (.slice A0_3 l0_3.length c0_3) := (blk_cell BK206.out 3).trans rfl; have hfz7_0 := blk_frozen BK206.out 0; have hfz7_1 := blk_frozen BK206.out 1; have hfz7_2 := blk_frozen BK206.out 2; have hfz7_3 := blk_frozen BK206.out 3))
      go_ret
      exact ⟨by first | rfl | (simp [errW_none, errW_some] <;> rfl) | (simp [*, errW_none, errW_some] <;> rfl), by repeat (first | (with_reducible first | exact HB.out | apply below_alloc | apply pw_below_drewN | apply below_drew1 | refine below_set ?_ GE206.out) | exact HB.out)⟩
    · rw [if_neg c5] at H
      have c5b0 : decide (300 < (l0_1.length : Int)) = false := decide_eq_false c5
      have c5b1 : decide (300 < l0_1.length) = false := decide_eq_false (by omega)
      clear c5
      by_cases c8 : (l0_2.length : Int) > 300
      · rw [if_pos c8] at H
        have c8b0 : decide (300 < (l0_2.length : Int)) = true := decide_eq_true c8
        have c8b1 : decide (300 < l0_2.length) = true := decide_eq_true (by omega)
        clear c8
        obtain rfl := Option.some.inj H
        go_enter Try.func32, Try.ntmps32
        go_wp2_with (first | ((with_reducible refine gate_dst (N := 1) rfl ?_); (try (refine gate_guard (by rfl) ?_; dsimp only)); refine box_event ?hg (N := 1) ?hd (cs := #[.slice A0_0 l0_0.length c0_0, .slice A0_1 l0_1.length c0_1, .slice A0_2 l0_2.length c0_2, .slice A0_3 l0_3.length c0_3]) (t := 59) ?hr ?_; (case hd => rfl); (case hg => rfl); (case hr => first | (go_simp; done) | (go_simp; rfl)); intro gb206 hg w9 hbox hb; have n0_ := Aside0.mk (below_step (by repeat (first | (with_reducible first | exact HB.out | apply below_alloc | apply pw_below_drewN | apply below_drew1) | exact HB.out)) hb); have n1_ := Aside0.mk (hbox); have n2_ := Aside0.mk ((by rw [hg]; exact (below_size (by repeat (first | (with_reducible first | exact HB.out | apply below_alloc | apply pw_below_drewN | apply below_drew1) | exact HB.out))) : w.heap.size ≤ gb206)); have n3_ := Aside0.mk ((by rw [hg]; exact (below_size (by repeat (first | (with_reducible first | exact HB.out | apply below_alloc | apply pw_below_drewN | apply below_drew1) | exact HB.out))) : w.heap.size ≤ gb206)); clear HB; have HB := n0_; have BK206 := n1_; have GW206 := n2_; have GE206 := n3_; clear n0_ n1_ n2_ n3_; clear hb hbox hg; have hcz10_0 : w9.cell? ⟨gb206, 0, none⟩ = some (.slice A0_0 l0_0.length c0_0) := (blk_cell BK206.out 0).trans rfl; have hcz10_1 : w9.cell? ⟨gb206, 1, none⟩ = some (.slice A0_1 l0_1.length c0_1) := (blk_cell BK206.out 1).trans rfl; have hcz10_2 : w9.cell? ⟨gb206, 2, none⟩ = some (.slice A0_2 l0_2.length c0_2) := (blk_cell BK206.out 2).trans rfl; have hcz10_3 : w9.cell? ⟨gb206, 3, none⟩ = some (.slice A0_3 l0_3.length c0_3) := (blk_cell BK206.out 3).trans rfl; have hfz10_0 := blk_frozen BK206.out 0; have hfz10_1 := blk_frozen BK206.out 1; have hfz10_2 := blk_frozen BK206.out 2; have hfz10_3 := blk_frozen BK206.out 3))
        go_ret
        exact ⟨by first | rfl | (simp [errW_none, errW_some] <;> rfl) | (simp [*, errW_none, errW_some] <;> rfl), by repeat (first | (with_reducible first | exact HB.out | apply below_alloc | apply pw_below_drewN | apply below_drew1 | refine below_set ?_ GE206.out) | exact HB.out)⟩
      · rw [if_neg c8] at H
        have c8b0 : decide (300 < (l0_2.length : Int)) = false := decide_eq_false c8
        have c8b1 : decide (300 < l0_2.length) = false := decide_eq_false (by omega)
        clear c8
        obtain rfl := Option.some.inj H
        go_enter Try.func32, Try.ntmps32
        go_wp2_with (first | ((with_reducible refine gate_dst (N := 1) rfl ?_); (try (refine gate_guard (by rfl) ?_; dsimp only)); refine box_event ?hg (N := 1) ?hd (cs := #[.slice A0_0 l0_0.length c0_0, .slice A0_1 l0_1.length c0_1, .slice A0_2 l0_2.length c0_2, .slice A0_3 l0_3.length c0_3]) (t := 59) ?hr ?_; (case hd => rfl); (case hg => rfl); (case hr => first | (go_simp; done) | (go_simp; rfl)); intro gb206 hg w11 hbox hb; have n0_ := Aside0.mk (below_step (by repeat (first | (with_reducible first | exact HB.out | apply below_alloc | apply pw_below_drewN | apply below_drew1) | exact HB.out)) hb); have n1_ := Aside0.mk (hbox); have n2_ := Aside0.mk ((by rw [hg]; exact (below_size (by repeat (first | (with_reducible first | exact HB.out | apply below_alloc | apply pw_below_drewN | apply below_drew1) | exact HB.out))) : w.heap.size ≤ gb206)); have n3_ := Aside0.mk ((by rw [hg]; exact (below_size (by repeat (first | (with_reducible first | exact HB.out | apply below_alloc | apply pw_below_drewN | apply below_drew1) | exact HB.out))) : w.heap.size ≤ gb206)); clear HB; have HB := n0_; have BK206 := n1_; have GW206 := n2_; have GE206 := n3_; clear n0_ n1_ n2_ n3_; clear hb hbox hg; have hcz12_0 : w11.cell? ⟨gb206, 0, none⟩ = some (.slice A0_0 l0_0.length c0_0) := (blk_cell BK206.out 0).trans rfl; have hcz12_1 : w11.cell? ⟨gb206, 1, none⟩ = some (.slice A0_1 l0_1.length c0_1) := (blk_cell BK206.out 1).trans rfl; have hcz12_2 : w11.cell? ⟨gb206, 2, none⟩ = some (.slice A0_2 l0_2.length c0_2) := (blk_cell BK206.out 2).trans rfl; have hcz12_3 : w11.cell? ⟨gb206, 3, none⟩ = some (.slice A0_3 l0_3.length c0_3) := (blk_cell BK206.out 3).trans rfl; have hfz12_0 := blk_frozen BK206.out 0; have hfz12_1 := blk_frozen BK206.out 1; have hfz12_2 := blk_frozen BK206.out 2; have hfz12_3 := blk_frozen BK206.out 3))
        go_ret
        exact ⟨by first | rfl | (simp [errW_none, errW_some] <;> rfl) | (simp [*, errW_none, errW_some] <;> rfl), by repeat (first | (with_reducible first | exact HB.out | apply below_alloc | apply pw_below_drewN | apply below_drew1 | refine below_set ?_ GE206.out) | exact HB.out)⟩
end Go.Proofs.Ytamjjeakkkdfhaa.PB
end
section
namespace Go.Proofs.Ytamjjeakkkdfhaa.OP
open Go.Proofs.YtamjjeakkkdfhaaE
open Go.RowKit Go.Proofs.YtamjjeakkkdfhaaW.PrintWords Go.Proofs.YtamjjeakkkdfhaaW.PrintLast Go.Proofs.YtamjjeakkkdfhaaW.PrintMore
set_option linter.unusedVariables false
def Opens {α : Type} (P : Program) (t : TypeId) (d : Kd α) (Q : α → Prop) : Prop :=
  ∀ (H : Type) (enc : TypeId × Value → H) (w : World) (base : Nat) (spare : Nat → Bool) (held : Bool) (fuel : Nat) (cs : List Value) (x : DataW H × List MemPlace),
    DataW.trod enc P w base spare held fuel t cs = some x → (∀ n ∈ x.1.weights P t, n ≤ reachBytes) → ∃ a, d.K w a cs ∧ Q a
def OpensF {α : Type} (P : Program) (fs : List Field) (off size : Nat) (d : Kd α) (Q : α → Prop) : Prop :=
  ∀ (H : Type) (enc : TypeId × Value → H) (w : World) (base : Nat) (spare : Nat → Bool) (held : Bool) (fuel : Nat) (cs : List Value) (xs : List (DataW H × List MemPlace)),
    cs.length = size → (∀ (i : Nat) (f : Field), fs[i]? = some f → DataW.trod enc P w base spare held fuel f.type ((cs.drop f.offset).take (P.cellsOf f.type)) = xs[i]?) → xs.length = fs.length →
    (∀ (i : Nat) (f : Field) x, fs[i]? = some f → xs[i]? = some x → ∀ n ∈ x.1.weights P f.type, n ≤ reachBytes) → ∃ a, d.K w a (cs.drop off) ∧ Q a
theorem weightsAll_mem {H : Type} {P : Program} {e : TypeId} : ∀ {ds : List (DataW H)} {j : Nat} {d : DataW H}, ds[j]? = some d → ∀ n ∈ d.weights P e, n ∈ DataW.weightsAll P e ds
  | d0 :: ds, 0, d, hd, n, hn => by
    simp only [List.getElem?_cons_zero, Option.some.injEq] at hd
    subst hd
    simp only [DataW.weightsAll, List.mem_append]
    exact Or.inl hn
  | d0 :: ds, j + 1, d, hd, n, hn => by
    simp only [List.getElem?_cons_succ] at hd
    simp only [DataW.weightsAll, List.mem_append]
    exact Or.inr (weightsAll_mem hd n hn)
  | [], _, _, hd, _, _ => by simp at hd
variable {P : Program} {t e : TypeId}
theorem opens_int {k : IntKind} (ht : P.underlying t = some (.int k)) : Opens P t (Kd.int k) (fun n => (Lit.int k n).wf = true) := by
  intro H enc w base spare held fuel cs x h hw
  obtain ⟨n, rfl, rfl, hn⟩ := DataW.trod_int ht h
  exact ⟨n, rfl, hn⟩
theorem opens_bool (ht : P.underlying t = some .bool) : Opens P t Kd.bool (fun _ => True) := by
  intro H enc w base spare held fuel cs x h hw
  obtain ⟨b, rfl, rfl⟩ := DataW.trod_bool ht h
  exact ⟨b, rfl, trivial⟩
theorem opens_string (ht : P.underlying t = some .string) : Opens P t Kd.string (fun s => s.size ≤ reachBytes) := by
  intro H enc w base spare held fuel cs x h hw
  obtain ⟨s, rfl, rfl, hs⟩ := DataW.trod_string ht h
  refine ⟨s, rfl, ?_⟩
  have := hw s.data.toList.length (by simp [DataW.weights])
  simpa using this
theorem opens_slice {α : Type} {d : Kd α} {Q : α → Prop} (q : Nat) (ht : P.underlying t = some (.slice e)) (hd : Opens P e d Q) (hsz : P.cellsOf e = d.sz) (z : α) : Opens P t (Kd.slice q d) (fun l => l.length * P.bytesOf e ≤ reachBytes ∧ ∀ x ∈ l, Q x) := by
  intro H enc w base spare held fuel cs x h hw
  rcases DataW.trod_slice ht h with ⟨rfl, rfl⟩ | ⟨a, len, cap, elems, rest, n, _, rfl, rfl, hb, hl, hm, hlen, hel, hsp, hns⟩
  · exact ⟨[], ⟨none, 0, rfl, Nat.le_refl _, rfl, by simp, fun h => absurd h (by simp)⟩, by simp, by simp⟩
  · have each : ∀ i (hi : i < elems.length), ∃ y, ∃ c, w.cells? base (a.add (i * P.cellsOf e)) (P.cellsOf e) = some c ∧ d.K w y c ∧ Q y := by
      intro i hi
      have h1 := hel i (by omega)
      rw [List.getElem?_eq_getElem hi, Option.bind_eq_some_iff] at h1
      obtain ⟨c, hc, h2⟩ := h1
      obtain ⟨y, hy, hq⟩ := hd H enc w base spare held n c _ h2 (fun m hm => hw m (by
        simp only [DataW.weights, ht, List.mem_cons, List.mem_append]
        exact Or.inr (Or.inl (weightsAll_mem (j := i) (d := (elems[i]).1) (by rw [List.getElem?_map, List.getElem?_eq_getElem hi]; rfl) m hm))))
      exact ⟨y, c, hc, hy, hq⟩
    obtain ⟨y, hy⟩ : ∃ y : Nat → α, ∀ i (hi : i < elems.length), ∃ c, w.cells? base (a.add (i * P.cellsOf e)) (P.cellsOf e) = some c ∧ d.K w (y i) c ∧ Q (y i) := by
      classical
      refine ⟨fun i => if hi : i < elems.length then Classical.choose (each i hi) else z, fun i hi => ?_⟩
      show ∃ c, _ = some c ∧ d.K w (if hi : i < elems.length then Classical.choose (each i hi) else z) c ∧ Q (if hi : i < elems.length then Classical.choose (each i hi) else z)
      rw [dif_pos hi]
      exact Classical.choose_spec (each i hi)
    refine ⟨(List.range elems.length).map y, ⟨some a, cap, by simp [hlen], by simp [hlen, hl], by simp, ?_, fun _ => ⟨a, rfl, ?_⟩⟩, ?_, ?_⟩
    · simp only [List.length_map, List.length_range]
      have : maxLen = 9223372036854775807 := rfl
      omega
    · intro j p hp
      obtain ⟨hj, rfl⟩ : ∃ hj : j < elems.length, y j = p := by
        have hj : j < elems.length := by have := (List.getElem?_eq_some_iff.1 hp).1; simpa using this
        refine ⟨hj, ?_⟩
        rw [List.getElem?_map, List.getElem?_range hj] at hp
        simpa using hp
      obtain ⟨c, hc, hk, hq⟩ := hy j hj
      obtain ⟨hb', hl', hcell⟩ := World.cells?_some hc
      refine ⟨c, by rw [hl', hsz], hk, fun i u hu => ?_⟩
      have hi : i < P.cellsOf e := by have := (List.getElem?_eq_some_iff.1 hu).1; omega
      have := hcell i hi
      rw [hu, addr_add_add, hsz] at this
      exact this
    · have := hw ((elems.length + rest.length) * P.bytesOf e) (by simp [DataW.weights, ht])
      simp only [List.length_map, List.length_range]
      exact Nat.le_trans (Nat.mul_le_mul_right _ (Nat.le_add_right _ _)) this
    · intro x hx
      obtain ⟨j, hj, rfl⟩ := List.mem_map.1 hx
      obtain ⟨c, hc, hk, hq⟩ := hy j (by simpa using hj)
      exact hq
theorem opensF_last {α : Type} {d : Kd α} {Q : α → Prop} {f : Field} {size : Nat} (hd : Opens P f.type d Q) (hs : f.offset + P.cellsOf f.type = size) : OpensF P [f] f.offset size d Q := by
  intro H enc w base spare held fuel cs xs hl hf hxl hw
  have h0 := hf 0 f rfl
  obtain ⟨x, hx⟩ : ∃ x, xs[0]? = some x := ⟨_, List.getElem?_eq_getElem (by rw [hxl]; exact Nat.zero_lt_one)⟩
  rw [hx, List.take_of_length_le (by rw [List.length_drop]; omega)] at h0
  exact hd H enc w base spare held fuel _ x h0 (hw 0 f x rfl hx)
theorem opensF_cons {α β : Type} {d : Kd α} {d' : Kd β} {Q : α → Prop} {Q' : β → Prop} {f : Field} {fs : List Field} {size off : Nat} (hd : Opens P f.type d Q) (hs : f.offset + P.cellsOf f.type = off) (hr : OpensF P fs off size d' Q') : OpensF P (f :: fs) f.offset size (Kd.pair d d') (fun a => Q a.1 ∧ Q' a.2) := by
  intro H enc w base spare held fuel cs xs hl hf hxl hw
  have h0 := hf 0 f rfl
  obtain ⟨x, xs, rfl⟩ : ∃ x r, xs = x :: r := by cases xs with | nil => simp at hxl | cons x r => exact ⟨x, r, rfl⟩
  obtain ⟨a, ha, hq⟩ := hd H enc w base spare held fuel _ x h0 (hw 0 f x rfl rfl)
  obtain ⟨b, hb, hq'⟩ := hr H enc w base spare held fuel cs xs hl (fun i g hg => hf (i + 1) g hg) (by simpa using hxl) (fun i g y hg hy => hw (i + 1) g y hg hy)
  refine ⟨(a, b), ⟨_, _, ?_, ha, hb⟩, hq, hq'⟩
  rw [← hs, ← List.drop_drop, List.take_append_drop]
theorem opens_struct {α β : Type} {d : Kd α} {Q : α → Prop} {fs : Array Field} {size : Nat} (g : β → α) (inv : α → β) (hg : ∀ a, g (inv a) = a) (ht : P.underlying t = some (.struct fs)) (hs : P.cellsOf t = size) (hf : OpensF P fs.toList 0 size d Q) : Opens P t (Kd.iso d g) (fun b => Q (g b)) := by
  intro H enc w base spare held fuel cs x h hw
  obtain ⟨xs, n, rfl, rfl, hl, hxl, hx⟩ := DataW.trod_struct ht h
  obtain ⟨a, ha, hq⟩ := hf H enc w base spare held n cs xs (by rw [hl, hs]) (fun i f hi => hx i f (by simpa using hi)) (by simpa using hxl) (fun i f y hi hy m hm => hw m (by
    simp only [DataW.weights, ht]
    exact DataW.weights_mem_each (j := i) (t := f.type) (d := y.1) (by rw [List.getElem?_map, hi]; rfl) (by rw [List.getElem?_map, hy]; rfl) m hm))
  exact ⟨inv a, by show d.K w (g (inv a)) cs; rw [hg]; exact ha, by show Q (g (inv a)); rw [hg]; exact hq⟩
end Go.Proofs.Ytamjjeakkkdfhaa.OP
end
section
namespace Go.Proofs.Ytamjjeakkkdfhaa.G
open Go.RowKit Go.Proofs.YtamjjeakkkdfhaaW.PrintWords Go.Proofs.YtamjjeakkkdfhaaW.PrintLast Go.Proofs.YtamjjeakkkdfhaaW.PrintMore
open Go.Proofs.Ytamjjeakkkdfhaa.K Go.Proofs.YtamjjeakkkdfhaaE Go.Proofs.Ytamjjeakkkdfhaa.OP
set_option linter.unusedVariables false
theorem opens_mono {α : Type} {P : Program} {t : TypeId} {d : Kd α} {Q Q' : α → Prop} (h : Opens P t d Q) (hQ : ∀ a, Q a → Q' a) : Opens P t d Q' := by
  intro H enc w base spare held fuel cs x h1 hw
  obtain ⟨a, ha, hq⟩ := h H enc w base spare held fuel cs x h1 hw
  exact ⟨a, ha, hQ a hq⟩
theorem opens_label : Opens Try.prog 31 k31 (fun _ => True) :=
  opens_mono (opens_struct (size := 2) (fun x : S31 => (x.f0, x.f1)) (fun a => ⟨a.1, a.2⟩) (fun _ => rfl) Try.underlying31 (by kernel_rfl) (opensF_cons (off := 1) (opens_string (by kernel_rfl)) (by kernel_rfl) (opensF_last (opens_string (by kernel_rfl)) (by kernel_rfl)))) (fun _ _ => trivial)
theorem opens_amount : Opens Try.prog 64 k64 (fun _ => True) :=
  opens_mono (opens_struct (size := 2) (fun x : S64 => (x.f0, x.f1)) (fun a => ⟨a.1, a.2⟩) (fun _ => rfl) Try.underlying64 (by kernel_rfl) (opensF_cons (off := 1) (opens_int (k := .i64) (by kernel_rfl)) (by kernel_rfl) (opensF_last (opens_int (k := .i64) (by kernel_rfl)) (by kernel_rfl)))) (fun _ _ => trivial)
def okR (x : S68) : Prop := x.f1.size ≤ reachBytes ∧ x.f4.length * 32 ≤ reachBytes ∧ x.f25.length * 32 ≤ reachBytes
set_option maxRecDepth 100000 in
set_option maxHeartbeats 4000000 in
theorem opens_object : Opens Try.prog 68 k68 okR :=
  opens_mono (opens_struct (size := 32) (fun x : S68 => (x.f0, x.f1, x.f2, x.f3, x.f4, x.f5, x.f6, x.f7, x.f8, x.f9, x.f10, x.f11, x.f12, x.f13, x.f14, x.f15, x.f16, x.f17, x.f18, x.f19, x.f20, x.f21, x.f22, x.f23, x.f24, x.f25, x.f26, x.f27, x.f28, x.f29)) (fun a => ⟨a.1, a.2.1, a.2.2.1, a.2.2.2.1, a.2.2.2.2.1, a.2.2.2.2.2.1, a.2.2.2.2.2.2.1, a.2.2.2.2.2.2.2.1, a.2.2.2.2.2.2.2.2.1, a.2.2.2.2.2.2.2.2.2.1, a.2.2.2.2.2.2.2.2.2.2.1, a.2.2.2.2.2.2.2.2.2.2.2.1, a.2.2.2.2.2.2.2.2.2.2.2.2.1, a.2.2.2.2.2.2.2.2.2.2.2.2.2.1, a.2.2.2.2.2.2.2.2.2.2.2.2.2.2.1, a.2.2.2.2.2.2.2.2.2.2.2.2.2.2.2.1, a.2.2.2.2.2.2.2.2.2.2.2.2.2.2.2.2.1, a.2.2.2.2.2.2.2.2.2.2.2.2.2.2.2.2.2.1, a.2.2.2.2.2.2.2.2.2.2.2.2.2.2.2.2.2.2.1, a.2.2.2.2.2.2.2.2.2.2.2.2.2.2.2.2.2.2.2.1, a.2.2.2.2.2.2.2.2.2.2.2.2.2.2.2.2.2.2.2.2.1, a.2.2.2.2.2.2.2.2.2.2.2.2.2.2.2.2.2.2.2.2.2.1, a.2.2.2.2.2.2.2.2.2.2.2.2.2.2.2.2.2.2.2.2.2.2.1, a.2.2.2.2.2.2.2.2.2.2.2.2.2.2.2.2.2.2.2.2.2.2.2.1, a.2.2.2.2.2.2.2.2.2.2.2.2.2.2.2.2.2.2.2.2.2.2.2.2.1, a.2.2.2.2.2.2.2.2.2.2.2.2.2.2.2.2.2.2.2.2.2.2.2.2.2.1, a.2.2.2.2.2.2.2.2.2.2.2.2.2.2.2.2.2.2.2.2.2.2.2.2.2.2.1, a.2.2.2.2.2.2.2.2.2.2.2.2.2.2.2.2.2.2.2.2.2.2.2.2.2.2.2.1, a.2.2.2.2.2.2.2.2.2.2.2.2.2.2.2.2.2.2.2.2.2.2.2.2.2.2.2.2.1, a.2.2.2.2.2.2.2.2.2.2.2.2.2.2.2.2.2.2.2.2.2.2.2.2.2.2.2.2.2⟩) (fun _ => rfl) Try.underlying68 (by kernel_rfl)
    (opensF_cons (off := 1) (opens_int (k := .i64) (by kernel_rfl)) (by kernel_rfl) (opensF_cons (off := 2) (opens_string (by kernel_rfl)) (by kernel_rfl) (opensF_cons (off := 3) (opens_int (k := .i64) (by kernel_rfl)) (by kernel_rfl) (opensF_cons (off := 4) (opens_int (k := .i64) (by kernel_rfl)) (by kernel_rfl) (opensF_cons (off := 5) (opens_slice (e := 31) 31 (by kernel_rfl) opens_label (by kernel_rfl) z31) (by kernel_rfl) (opensF_cons (off := 7) opens_amount (by kernel_rfl) (opensF_cons (off := 8) (opens_bool (by kernel_rfl)) (by kernel_rfl) (opensF_cons (off := 9) (opens_bool (by kernel_rfl)) (by kernel_rfl) (opensF_cons (off := 10) (opens_bool (by kernel_rfl)) (by kernel_rfl) (opensF_cons (off := 11) (opens_int (k := .i64) (by kernel_rfl)) (by kernel_rfl) (opensF_cons (off := 12) (opens_string (by kernel_rfl)) (by kernel_rfl) (opensF_cons (off := 13) (opens_string (by kernel_rfl)) (by kernel_rfl) (opensF_cons (off := 14) (opens_string (by kernel_rfl)) (by kernel_rfl) (opensF_cons (off := 15) (opens_int (k := .i64) (by kernel_rfl)) (by kernel_rfl) (opensF_cons (off := 16) (opens_bool (by kernel_rfl)) (by kernel_rfl) (opensF_cons (off := 17) (opens_bool (by kernel_rfl)) (by kernel_rfl) (opensF_cons (off := 19) opens_amount (by kernel_rfl) (opensF_cons (off := 20) (opens_string (by kernel_rfl)) (by kernel_rfl) (opensF_cons (off := 21) (opens_int (k := .i64) (by kernel_rfl)) (by kernel_rfl) (opensF_cons (off := 22) (opens_int (k := .i64) (by kernel_rfl)) (by kernel_rfl) (opensF_cons (off := 23) (opens_int (k := .i64) (by kernel_rfl)) (by kernel_rfl) (opensF_cons (off := 24) (opens_int (k := .i64) (by kernel_rfl)) (by kernel_rfl) (opensF_cons (off := 25) (opens_int (k := .i64) (by kernel_rfl)) (by kernel_rfl) (opensF_cons (off := 26) (opens_bool (by kernel_rfl)) (by kernel_rfl) (opensF_cons (off := 27) (opens_int (k := .u64) (by kernel_rfl)) (by kernel_rfl) (opensF_cons (off := 28) (opens_slice (e := 31) 31 (by kernel_rfl) opens_label (by kernel_rfl) z31) (by kernel_rfl) (opensF_cons (off := 29) (opens_int (k := .i64) (by kernel_rfl)) (by kernel_rfl) (opensF_cons (off := 30) (opens_string (by kernel_rfl)) (by kernel_rfl) (opensF_cons (off := 31) (opens_int (k := .i64) (by kernel_rfl)) (by kernel_rfl) (opensF_last (opens_int (k := .i64) (by kernel_rfl)) (by kernel_rfl)))))))))))))))))))))))))))))))) (fun x h => ⟨h.2.1, h.2.2.2.2.1.1, h.2.2.2.2.2.2.2.2.2.2.2.2.2.2.2.2.2.2.2.2.2.2.2.2.2.1.1⟩)
def kRow : Kd (List S68) := Kd.slice 68 k68
def okRow (l : List S68) : Prop := l.length * 312 ≤ reachBytes ∧ ∀ x ∈ l, okR x
set_option maxRecDepth 100000 in
theorem opens_row : Opens Try.prog 57 kRow okRow := opens_mono (opens_slice (e := 68) 68 (by kernel_rfl) opens_object (by kernel_rfl) z68) (fun l h => ⟨h.1, h.2⟩)
set_option maxRecDepth 100000 in
theorem opens_fleet : Opens Try.prog 59 (Kd.iso (Kd.pair kRow (Kd.pair kRow (Kd.pair kRow kRow))) (fun x : List S68 × List S68 × List S68 × List S68 => x)) (fun x => okRow x.1 ∧ okRow x.2.1 ∧ okRow x.2.2.1 ∧ okRow x.2.2.2) :=
  opens_mono (opens_struct (size := 4) (fun x : List S68 × List S68 × List S68 × List S68 => x) (fun x => x) (fun _ => rfl) Try.underlying59 (by kernel_rfl)
    (opensF_cons (off := 1) opens_row (by kernel_rfl) (opensF_cons (off := 2) opens_row (by kernel_rfl) (opensF_cons (off := 3) opens_row (by kernel_rfl) (opensF_last opens_row (by kernel_rfl)))))) (fun x h => h)
set_option maxRecDepth 100000 in
open Go.WideShapes in
theorem open_fleet {H : Type} {enc : TypeId × Value → H} {W : World} {base : Nat} {r : Reach} {v : Value} {d : DataW H} {p : List MemPlace} (hv : Value.okWide Try.prog W r base 59 v) (h : DataW.Trod enc Try.prog W 0 (fun _ => true) true 59 v d p) (hw : ∀ n ∈ d.weights Try.prog 59, n ≤ reachBytes) :
    ∃ A0 c0 l0 A1 c1 l1 A2 c2 l2 A3 c3 l3, v = .agg #[.slice A0 (l0 : List S68).length c0, .slice A1 (l1 : List S68).length c1, .slice A2 (l2 : List S68).length c2, .slice A3 (l3 : List S68).length c3] ∧ l0.length ≤ c0 ∧ k68.C W A0 l0.length l0 ∧ okRow l0 ∧ l1.length ≤ c1 ∧ k68.C W A1 l1.length l1 ∧ okRow l1 ∧ l2.length ≤ c2 ∧ k68.C W A2 l2.length l2 ∧ okRow l2 ∧ l3.length ≤ c3 ∧ k68.C W A3 l3.length l3 ∧ okRow l3 := by
  obtain ⟨cs, rfl, -⟩ := okWide_struct Try.underlying59 hv
  obtain ⟨fuel, hf⟩ := h
  obtain ⟨⟨l0, l1, l2, l3⟩, hK, q0, q1, q2, q3⟩ := opens_fleet H enc W 0 _ true fuel _ _ hf hw
  obtain ⟨_, _, e, ⟨A0, c0, rfl, b0, g0⟩, _, _, rfl, ⟨A1, c1, rfl, b1, g1⟩, _, _, rfl, ⟨A2, c2, rfl, b2, g2⟩, A3, c3, rfl, b3, g3⟩ := hK
  refine ⟨A0, c0, l0, A1, c1, l1, A2, c2, l2, A3, c3, l3, ?_, b0, g0, q0, b1, g1, q1, b2, g2, q2, b3, g3, q3⟩
  have e' : cs.toList = [.slice A0 l0.length c0, .slice A1 l1.length c1, .slice A2 l2.length c2, .slice A3 l3.length c3] := e
  rw [← Array.toArray_toList (xs := cs), e']
theorem weights_of {H : Type} {P : Program} {ts : List TypeId} {ds : List (DataW H)} (h : (DataW.weightsEach P ts ds).all (· ≤ reachBytes) = true) {j : Nat} {t : TypeId} {d : DataW H} (ht : ts[j]? = some t) (hd : ds[j]? = some d) : ∀ n ∈ d.weights P t, n ≤ reachBytes := fun n hn => by
  have := List.all_eq_true.1 h n (DataW.weights_mem_each ht hd n hn)
  simpa using this
end Go.Proofs.Ytamjjeakkkdfhaa.G
end
section
namespace Go.Proofs.Ytamjjeakkkdfhaa.G
open Go.RowKit Go.Proofs.YtamjjeakkkdfhaaW.PrintWords Go.Proofs.YtamjjeakkkdfhaaW.PrintLast Go.Proofs.YtamjjeakkkdfhaaW.PrintMore
open Go.Proofs.Ytamjjeakkkdfhaa.K Go.Proofs.YtamjjeakkkdfhaaE Go.Proofs.Ytamjjeakkkdfhaa.PB Go.Proofs.Ytamjjeakkkdfhaa.PC Go.Proofs.Ytamjjeakkkdfhaa.PD
set_option linter.unusedVariables false
set_option linter.unusedSimpArgs false
def cO (x : S68) (v4 v27 : Value) : Array Value := #[.int .i64 x.f0, .string x.f1, .int .i64 x.f2, .int .i64 x.f3, v4, .int .i64 x.f5.f0, .int .i64 x.f5.f1, .bool x.f6, .bool x.f7, .bool x.f8, .int .i64 x.f9, .string x.f10, .string x.f11, .string x.f12, .int .i64 x.f13, .bool x.f14, .bool x.f15, .int .i64 x.f16.f0, .int .i64 x.f16.f1, .string x.f17, .int .i64 x.f18, .int .i64 x.f19, .int .i64 x.f20, .int .i64 x.f21, .int .i64 x.f22, .bool x.f23, .int .u64 x.f24, v27, .int .i64 x.f26, .string x.f27, .int .i64 x.f28, .int .i64 x.f29]
def kO (w : World) (x : S68) (v4 v27 : Value) : Prop := ∃ A4 c4 A27 c27, v4 = .slice A4 x.f4.length c4 ∧ v27 = .slice A27 x.f25.length c27 ∧ x.f4.length ≤ c4 ∧ k31.C w A4 x.f4.length x.f4 ∧ x.f25.length ≤ c27 ∧ k31.C w A27 x.f25.length x.f25
theorem kO_below {w w' : World} {x : S68} {v4 v27 : Value} (h : kO w x v4 v27) (hb : Below w.heap.size w w') : kO w' x v4 v27 := by
  obtain ⟨A4, c4, A27, c27, e4, e27, l4, g4, l27, g27⟩ := h
  exact ⟨A4, c4, A27, c27, e4, e27, l4, Kd.C_below g4 hb, l27, Kd.C_below g27 hb⟩
theorem kO_K {w : World} {x : S68} {v4 v27 : Value} (h : kO w x v4 v27) : k68.K w x (cO x v4 v27).toList := by
  obtain ⟨A4, c4, A27, c27, rfl, rfl, l4, g4, l27, g27⟩ := h
  exact k68_mk w x l4 g4 l27 g27
theorem K_kO {w : World} {x : S68} {cs : List Value} (h : k68.K w x cs) : ∃ v4 v27, cs = (cO x v4 v27).toList ∧ kO w x v4 v27 := by
  obtain ⟨A4, c4, A27, c27, rfl, l4, g4, l27, g27⟩ := k68_open h
  exact ⟨_, _, rfl, A4, c4, A27, c27, rfl, rfl, l4, g4, l27, g27⟩
theorem cO_size (x : S68) (v4 v27 : Value) : (cO x v4 v27).size = 32 := rfl
theorem cO_one {x : S68} {v4 v27 : Value} (h4 : v4.oneCell' = true) (h27 : v27.oneCell' = true) : (cO x v4 v27).toList.all (·.oneCell') = true := by
  simp only [cO, List.all_cons, List.all_nil, h4, h27, Bool.and_true, Bool.true_and]; rfl
theorem load_obj {ops : Array Oper} {rest : List Oper} {o : Oper} {a : Act} {Q : Exit → Act → World → Prop} {W : World} {p : Operand} {g : Nat} {cs : Array Value} (ho : o.op = .load 68 p) (hgd : o.guard = none) (he : a.eval p = .pointer (some ⟨g, 0, none⟩)) (hb : W.heap[g]? = some (.cells cs 68 (0, 0))) (hs : cs.size = 32)
    (h : wpList Try.prog ops Q rest (a.put o.dst (.agg cs)) W) : wpList Try.prog ops Q (o :: rest) a W :=
  load_list (cs := cs.toList) hgd ho he Try.underlying68 rfl (by rw [Array.length_toList, hs]; exact size68) (fun j v hj => by
    have := blk_cell hb j
    unfold Addr.add
    by_cases h0 : j = 0
    · subst h0; rw [if_pos rfl, this]; simpa using hj
    · rw [if_neg h0, Nat.zero_add, this]; simpa using hj) (by rw [Array.toArray_toList]; exact h)
theorem two_store_event {P : Program} {ops : Array Oper} {rest : List Oper} {o : Oper} {a : Act} {Q : Exit → Act → World → Prop} {W : World} (hgd : o.guard = none) {t ty : TypeId} {p : Tmp} {x : Operand} (ho : o.op = .store t (.tmp p) x) (hN : o.dst = none) {g j : Nat} {cs : Array Value} {u v : Value}
    (he : a.eval (.tmp p) = .pointer (some ⟨g, j, none⟩)) (hv : a.eval x = .agg #[u, v]) (hi : (P.info? t).map (·.size) = some 2) (hb : W.heap[g]? = some (.cells cs ty (0, 0))) (hj : j + 1 < cs.size) (h0 : u.oneCell' = true) (h1 : v.oneCell' = true)
    (h : ∀ w', w'.heap[g]? = some (.cells ((cs.setIfInBounds j u).setIfInBounds (j + 1) v) ty (0, 0)) → W.grownBy w' (some g) → wpList P ops Q rest a w') : wpList P ops Q (o :: rest) a W := by
  have hrun := run_store_run (P := P) t (.agg #[u, v]) [u, v] hb rfl (by rw [hi]; rfl) (o := j) (by simp; omega) (fun q hq => by
    simp only [List.mem_cons, List.not_mem_nil, or_false] at hq
    rcases hq with rfl | rfl
    · exact h0
    · exact h1)
  refine wpList_plain hgd fun K hK => ?_
  unfold Oper.wp
  have hx : (execOp a.eval o).run P W = .ok .skip (W.setCells g j [u, v]) := by
    simp only [execOp, ho, he, hv]
    simp [hrun, Result.andThen]
  rw [hx]
  show K (a.put o.dst undef) _
  rw [hN]
  obtain ⟨q1, q2, q3, q4⟩ := setCells_same g [u, v] j W
  exact hK _ _ (h _ (blk_put (blk_put hb j u rfl) (j + 1) v rfl) ⟨q1, q2, q3, by rw [q4]; exact Nat.le_refl _, fun k hk hne => setCells_far [u, v] _ k (fun e => hne (by rw [e]))⟩)
theorem cell_store_event {P : Program} {ops : Array Oper} {rest : List Oper} {o : Oper} {a : Act} {Q : Exit → Act → World → Prop} {W : World} (hgd : o.guard = none) {t ty : TypeId} {p : Tmp} {x : Operand} (ho : o.op = .store t (.tmp p) x) (hN : o.dst = none) {g j : Nat} {cs : Array Value} {v : Value}
    (he : a.eval (.tmp p) = .pointer (some ⟨g, j, none⟩)) (hv : a.eval x = v) (hi : (P.info? t).map (·.size) = some 1) (hb : W.heap[g]? = some (.cells cs ty (0, 0))) (hj : j < cs.size) (hc : v.cells.toList = [v]) (h1 : v.oneCell' = true)
    (h : ∀ w', w'.heap[g]? = some (.cells (cs.setIfInBounds j v) ty (0, 0)) → W.grownBy w' (some g) → wpList P ops Q rest a w') : wpList P ops Q (o :: rest) a W := by
  have hrun := run_store_run (P := P) t v [v] hb hc (by rw [hi]; rfl) (o := j) (by simp; omega) (fun q hq => by simp only [List.mem_singleton] at hq; rw [hq]; exact h1)
  refine wpList_plain hgd fun K hK => ?_
  unfold Oper.wp
  have hx : (execOp a.eval o).run P W = .ok .skip (W.setCell ⟨g, j, none⟩ v) := by
    simp only [execOp, ho, he, hv]
    simp [hrun, Result.andThen]
    rfl
  rw [hx]
  show K (a.put o.dst undef) _
  rw [hN]
  obtain ⟨q1, q2, q3, q4⟩ := setCells_same g [v] j W
  exact hK _ _ (h _ (blk_put hb j v rfl) (show W.grownBy (W.setCells g j [v]) (some g) from ⟨q1, q2, q3, by rw [q4]; exact Nat.le_refl _, fun k hk hne => setCells_far [v] _ k (fun e => hne (by rw [e]))⟩))
theorem at_cO {w : World} {A : Option Addr} {n : Nat} {xs : List S68} (h : k68.C w A n xs) (i : Nat) (hi : i < n) : ∃ ad v4 v27, A = some ad ∧ kO w (rd_T68 xs (i : Int)) v4 v27 ∧ w.cell? (ad.add (i * 32)) = some (.int .i64 (rd_T68 xs (i : Int)).f0) ∧ ∀ (j : Nat) (v : Value), 0 < j → (cO (rd_T68 xs (i : Int)) v4 v27)[j]? = some v → w.cell? ⟨(ad.add (i * 32)).block, (ad.add (i * 32)).off + j, none⟩ = some v := by
  obtain ⟨ad, cs, e, hcl, hK, hcells⟩ := Kd.C_get h z68 (i : Int) (by omega) (by omega)
  obtain ⟨v4, v27, rfl, hk⟩ := K_kO hK
  rw [Int.toNat_natCast] at hcells
  refine ⟨ad, v4, v27, e, hk, ?_, fun j v hj hv => ?_⟩
  · have := hcells 0 (.int .i64 (rd_T68 xs (i : Int)).f0) rfl
    rwa [Nat.add_zero] at this
  · have := hcells j v (by rw [Array.getElem?_toList]; exact hv)
    have he : ad.add (i * k68.sz + j) = ⟨(ad.add (i * 32)).block, (ad.add (i * 32)).off + j, none⟩ := by
      rw [show k68.sz = 32 from rfl, ← addr_add_add]
      generalize ad.add (i * 32) = b
      unfold Addr.add; rw [if_neg (by omega)]
    rwa [he] at this
theorem at_all {w : World} {A : Option Addr} {n : Nat} {xs : List S68} (h : k68.C w A n xs) (i : Nat) (hi : i < n) : ∃ ad v4 v27, A = some ad ∧ kO w (rd_T68 xs (i : Int)) v4 v27 ∧ (w.cell? (ad.add (i * 32)) = some (.int .i64 (rd_T68 xs (i : Int)).f0)) ∧ (∀ (j : Nat) (v : Value), 0 < j → (cO (rd_T68 xs (i : Int)) v4 v27)[j]? = some v → w.cell? ⟨(ad.add (i * 32)).block, (ad.add (i * 32)).off + j, none⟩ = some v) ∧ ∀ (j : Nat) (v : Value), (cO (rd_T68 xs (i : Int)) v4 v27).toList[j]? = some v → w.cell? ((ad.add (i * 32)).add j) = some v := by
  obtain ⟨ad, v4, v27, e, hk, h0, hj⟩ := at_cO h i hi
  refine ⟨ad, v4, v27, e, hk, h0, hj, fun j v hv => ?_⟩
  rw [Array.getElem?_toList] at hv
  by_cases hz : j = 0
  · subst hz
    have : v = .int .i64 (rd_T68 xs (i : Int)).f0 := by
      have e : (cO (rd_T68 xs (i : Int)) v4 v27)[0]? = some (.int .i64 (rd_T68 xs (i : Int)).f0) := rfl
      rw [e] at hv; injection hv with hv; exact hv.symm
    subst this
    rw [show (ad.add (i * 32)).add 0 = ad.add (i * 32) from by unfold Addr.add; simp]
    exact h0
  · have := hj j v (by omega) hv
    rwa [show (ad.add (i * 32)).add j = ⟨(ad.add (i * 32)).block, (ad.add (i * 32)).off + j, none⟩ from by
      generalize ad.add (i * 32) = b
      unfold Addr.add; rw [if_neg hz]]
theorem load_elem {ops : Array Oper} {rest : List Oper} {o : Oper} {a : Act} {Q : Exit → Act → World → Prop} {W : World} {p : Operand} {a' : Addr} {x : S68} {v4 v27 : Value} (ho : o.op = .load 68 p) (hgd : o.guard = none) (he : a.eval p = .pointer (some a'))
    (hall : ∀ (j : Nat) (v : Value), (cO x v4 v27).toList[j]? = some v → W.cell? (a'.add j) = some v) (h : wpList Try.prog ops Q rest (a.put o.dst (.agg (cO x v4 v27))) W) : wpList Try.prog ops Q (o :: rest) a W :=
  load_list (cs := (cO x v4 v27).toList) hgd ho he Try.underlying68 rfl (by rw [Array.length_toList, cO_size]; exact size68) hall (by rw [Array.toArray_toList]; exact h)
theorem load_elem_run {o : Oper} {a : Act} {W : World} {p : Operand} {a' : Addr} {x : S68} {v4 v27 : Value} (ho : o.op = .load 68 p) (he : a.eval p = .pointer (some a'))
    (hall : ∀ (j : Nat) (v : Value), (cO x v4 v27).toList[j]? = some v → W.cell? (a'.add j) = some v) : (execOp a.eval o).run Try.prog W = .ok (.value (.agg (cO x v4 v27))) W := by
  have hl := run_loadCells_list (P := Try.prog) W a' (cO x v4 v27).toList hall
  have hrun : (loadVar 68 a').run Try.prog W = .ok (.agg (cO x v4 v27)) W := by
    have hagg : (isAgg 68).run Try.prog W = .ok true W := by
      unfold isAgg
      rw [Sem.run_bind, run_underlying Try.underlying68 W]
      rfl
    cases hq : Try.prog.info? 68 with
    | none => have := size68; rw [hq] at this; cases this
    | some i =>
      have hs : i.size = 32 := by have := size68; rw [hq] at this; simpa using this
      have hn : (cO x v4 v27).toList.length = 32 := rfl
      rw [hn] at hl
      simp [loadVar, Sem.run_bind, hagg, sizeOf, typeInfo, hq, hs, hl]
  unfold execOp
  simp only [ho, he, Instr.loadAt, Instr.sureAddr, Sem.run_bind, Sem.run_pure, Result.andThen_ok, hrun]
theorem build_cO (x : S68) (v4 v27 : Value) : Array.foldl (fun (cs : Array Value) (x : Value × Nat) => cs.setIfInBounds x.snd x.fst) #[.int .i64 0, .string (⟨#[]⟩ : ByteArray), .int .i64 0, .int .i64 0, .slice none 0 0, .int .i64 0, .int .i64 0, .bool false, .bool false, .bool false, .int .i64 0, .string (⟨#[]⟩ : ByteArray), .string (⟨#[]⟩ : ByteArray), .string (⟨#[]⟩ : ByteArray), .int .i64 0, .bool false, .bool false, .int .i64 0, .int .i64 0, .string (⟨#[]⟩ : ByteArray), .int .i64 0, .int .i64 0, .int .i64 0, .int .i64 0, .int .i64 0, .bool false, .int .u64 0, .slice none 0 0, .int .i64 0, .string (⟨#[]⟩ : ByteArray), .int .i64 0, .int .i64 0] ((cO x v4 v27).zipIdx 0) 0 32 = cO x v4 v27 := by
  unfold cO
  simp [Array.zipIdx, Array.foldl]
def bigF (l0 l1 l2 l3 : List S68) : Bool := decide (l0.length > 300) || decide (l1.length > 300) || decide (l2.length > 300) || decide (l3.length > 300)
theorem bigF_is (l0 l1 l2 l3 : List S68) : flotillalaw16_big.f l0 l1 l2 l3 = some (bigF l0 l1 l2 l3) := by
  unfold flotillalaw16_big.f bigF
  by_cases h0 : l0.length > 300
  · rw [if_pos (by omega)]; simp [h0]
  · rw [if_neg (by omega)]
    by_cases h1 : l1.length > 300
    · rw [if_pos (by omega)]; simp [h1]
    · rw [if_neg (by omega)]
      by_cases h2 : l2.length > 300
      · rw [if_pos (by omega)]; simp [h2]
      · rw [if_neg (by omega)]
        by_cases h3 : l3.length > 300
        · simp [h3]; omega
        · simp [h0, h1, h2, h3]; omega
end Go.Proofs.Ytamjjeakkkdfhaa.G
end
