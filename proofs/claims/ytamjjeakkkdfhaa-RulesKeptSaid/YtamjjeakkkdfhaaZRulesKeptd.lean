/- Parts of the proof of RulesKept: lemmas, put together by a program of this session (pack.py) out of the kit's words, printed contracts and texts of its own. -/
import Derived.Test.YtamjjeakkkdfhaaProg
import Derived.Below
import Derived.Deep.Draws
import Derived.Deep.AppendLies
import Derived.Maps.AppendAt
import Derived.OwnWalk
import Derived.Laws.BytesArg
import Derived.Laws.MakeOwn
import Derived.Laws.OwnMore
import Derived.Deep.OwnRows
import Derived.Tactics
import Derived.Lib.ConvBytes
import Derived.Laws.Slices
import Derived.WalkKit
import Derived.KernelRfl
import Derived.RowKit3
import Derived.Deep.LoopGhost
import Derived.Deep.QuietTactic
import Derived.BigQuiet
import Derived.WideLaws
import Derived.Deep.DeepCutAuto
import Derived.Deep.CutBlock
import Derived.Deep.RegionHeld3
import Derived.Laws.Rows
import Derived.Lib.AppendStr
import Derived.ArgAppend
import Derived.Laws.IdiomCopy
import Derived.OrdersHeld
import Derived.Laws.BitsLemmas
import Derived.RowKit
import Derived.Laws.StructEq
import Derived.RangeFuncNested
import Derived.RangeFuncBound
import Derived.RangeFuncCalls
import Derived.RangeFuncLeaves
import Derived.Shelf.Abstract
import Derived.Shelf.RegionOpen
import Derived.OwnWalkIn
import Derived.TacticsInMore
import Derived.LoopNIn
import Derived.LoopIn
import Derived.Test.YtamjjeakkkdfhaaZRulesKepta
import Derived.Test.YtamjjeakkkdfhaaZRulesKeptb
namespace Foot
end Foot
namespace Go.Proofs.Ytamjjeakkkdfhaa
end Go.Proofs.Ytamjjeakkkdfhaa
namespace Go.Proofs.Ytamjjeakkkdfhaa.G
end Go.Proofs.Ytamjjeakkkdfhaa.G
namespace Go.Proofs.Ytamjjeakkkdfhaa.K
end Go.Proofs.Ytamjjeakkkdfhaa.K
namespace Go.Proofs.Ytamjjeakkkdfhaa.OP
end Go.Proofs.Ytamjjeakkkdfhaa.OP
namespace Go.Proofs.Ytamjjeakkkdfhaa.PB
end Go.Proofs.Ytamjjeakkkdfhaa.PB
namespace Go.Proofs.Ytamjjeakkkdfhaa.PC
end Go.Proofs.Ytamjjeakkkdfhaa.PC
namespace Go.Proofs.Ytamjjeakkkdfhaa.PD
end Go.Proofs.Ytamjjeakkkdfhaa.PD
namespace Go.Proofs.Ytamjjeakkkdfhaa.rulesKept
end Go.Proofs.Ytamjjeakkkdfhaa.rulesKept
namespace Go.Proofs.YtamjjeakkkdfhaaE
end Go.Proofs.YtamjjeakkkdfhaaE
namespace Go.Proofs.YtamjjeakkkdfhaaRF
end Go.Proofs.YtamjjeakkkdfhaaRF
namespace Go.Proofs.YtamjjeakkkdfhaaW.PrintLast
end Go.Proofs.YtamjjeakkkdfhaaW.PrintLast
namespace Go.Proofs.YtamjjeakkkdfhaaW.PrintMore
end Go.Proofs.YtamjjeakkkdfhaaW.PrintMore
namespace Go.Proofs.YtamjjeakkkdfhaaW.PrintWords
end Go.Proofs.YtamjjeakkkdfhaaW.PrintWords
namespace Kd
end Kd
section
namespace Go.Proofs.Ytamjjeakkkdfhaa.PB
end Go.Proofs.Ytamjjeakkkdfhaa.PB
namespace Go.Proofs.Ytamjjeakkkdfhaa.PC
open Go.RowKit Go.Proofs.YtamjjeakkkdfhaaW.PrintWords Go.Proofs.YtamjjeakkkdfhaaW.PrintLast Go.Proofs.YtamjjeakkkdfhaaW.PrintMore
open Go.Proofs.Ytamjjeakkkdfhaa.K Go.Proofs.Ytamjjeakkkdfhaa.G Go.Proofs.YtamjjeakkkdfhaaE Go.Proofs.Ytamjjeakkkdfhaa.PB
attribute [local go_sem] max2_int min2_int max_two min_two max_three min_three max_four min_four
set_option linter.unusedVariables false
set_option linter.unusedSimpArgs false
def rules_Bind.j0 : Nat → ByteArray → Bool → List (S68) → List (S68) → List (S68) → List (S68) → Int → ByteArray → Int → Int → Int → Int → Bool → Bool → Bool → Int → ByteArray → ByteArray → ByteArray → Int → Bool → Bool → Int → Int → ByteArray → Int → Int → Int → Int → Int → Bool → Int → Int → ByteArray → Int → Int → Int → ByteArray → Int → Int → Int → Int → Bool → Bool → Bool → Int → ByteArray → ByteArray → ByteArray → Int → Bool → Bool → Int → Int → ByteArray → Int → Int → Int → Int → Int → Bool → Int → Int → ByteArray → Int → Int → Option (Option Int)
  | 0, _, _, _, _, _, _, _, _, _, _, _, _, _, _, _, _, _, _, _, _, _, _, _, _, _, _, _, _, _, _, _, _, _, _, _, _, _, _, _, _, _, _, _, _, _, _, _, _, _, _, _, _, _, _, _, _, _, _, _, _, _, _, _, _, _, _ => none
  | k + 1, x2, x25, x102000, x102001, x102002, x102003, x142000, x142001, x142002, x142003, x142005, x142006, x142007, x142008, x142009, x142010, x142011, x142012, x142013, x142014, x142015, x142016, x142017, x142018, x142019, x142020, x142021, x142022, x142023, x142024, x142025, x142026, x142028, x142029, x142030, x142031, x182000, x182001, x182002, x182003, x182005, x182006, x182007, x182008, x182009, x182010, x182011, x182012, x182013, x182014, x182015, x182016, x182017, x182018, x182019, x182020, x182021, x182022, x182023, x182024, x182025, x182026, x182028, x182029, x182030, x182031 => if x25 = true then (some (some 10)) else (if x142016 = true then (some (some 27)) else (if x142013.toList = ([] : List UInt8) then (if x182009 = true then (some (some 25)) else (if x182007 = true then (some (some 24)) else ((rules_Used.f k x102000 x102001 x102002 x102003 x2).bind fun bt182 => ((rules_both.f bt182.1 bt182.2 x142017 x142018).bind fun bt184 => ((amount_Fits.f bt184.1 bt184.2 x182005 x182006).bind fun t186 => (if t186 = true then (some none) else (some (some 23)))))))) else (some (some 26))))
def rules_Bind.f (k : Nat) (l0_0 : List (S68)) (l0_1 : List (S68)) (l0_2 : List (S68)) (l0_3 : List (S68)) (a1 : ByteArray) (a2 : ByteArray) : Option (Option Int) := (rules_find.f l0_1 a1).bind fun bt102 => ((rules_find.f l0_0 a2).bind fun bt142 => (if bt102.2.2.2.2.2.2.2.2.2.2.2.2.2.2.2.2.2.2.2.2.2.2.2.2.2.2.2.2.2.2 = true then (if bt142.2.2.2.2.2.2.2.2.2.2.2.2.2.2.2.2.2.2.2.2.2.2.2.2.2.2.2.2.2.2 = true then (rules_Bind.j0 k a2 (a2.toList == ([] : List UInt8)) l0_0 l0_1 l0_2 l0_3 bt102.1 bt102.2.1 bt102.2.2.1 bt102.2.2.2.1 bt102.2.2.2.2.1 bt102.2.2.2.2.2.1 bt102.2.2.2.2.2.2.1 bt102.2.2.2.2.2.2.2.1 bt102.2.2.2.2.2.2.2.2.1 bt102.2.2.2.2.2.2.2.2.2.1 bt102.2.2.2.2.2.2.2.2.2.2.1 bt102.2.2.2.2.2.2.2.2.2.2.2.1 bt102.2.2.2.2.2.2.2.2.2.2.2.2.1 bt102.2.2.2.2.2.2.2.2.2.2.2.2.2.1 bt102.2.2.2.2.2.2.2.2.2.2.2.2.2.2.1 bt102.2.2.2.2.2.2.2.2.2.2.2.2.2.2.2.1 bt102.2.2.2.2.2.2.2.2.2.2.2.2.2.2.2.2.1 bt102.2.2.2.2.2.2.2.2.2.2.2.2.2.2.2.2.2.1 bt102.2.2.2.2.2.2.2.2.2.2.2.2.2.2.2.2.2.2.1 bt102.2.2.2.2.2.2.2.2.2.2.2.2.2.2.2.2.2.2.2.1 bt102.2.2.2.2.2.2.2.2.2.2.2.2.2.2.2.2.2.2.2.2.1 bt102.2.2.2.2.2.2.2.2.2.2.2.2.2.2.2.2.2.2.2.2.2.1 bt102.2.2.2.2.2.2.2.2.2.2.2.2.2.2.2.2.2.2.2.2.2.2.1 bt102.2.2.2.2.2.2.2.2.2.2.2.2.2.2.2.2.2.2.2.2.2.2.2.1 bt102.2.2.2.2.2.2.2.2.2.2.2.2.2.2.2.2.2.2.2.2.2.2.2.2.1 bt102.2.2.2.2.2.2.2.2.2.2.2.2.2.2.2.2.2.2.2.2.2.2.2.2.2.1 bt102.2.2.2.2.2.2.2.2.2.2.2.2.2.2.2.2.2.2.2.2.2.2.2.2.2.2.1 bt102.2.2.2.2.2.2.2.2.2.2.2.2.2.2.2.2.2.2.2.2.2.2.2.2.2.2.2.1 bt102.2.2.2.2.2.2.2.2.2.2.2.2.2.2.2.2.2.2.2.2.2.2.2.2.2.2.2.2.1 bt102.2.2.2.2.2.2.2.2.2.2.2.2.2.2.2.2.2.2.2.2.2.2.2.2.2.2.2.2.2.1 bt142.1 bt142.2.1 bt142.2.2.1 bt142.2.2.2.1 bt142.2.2.2.2.1 bt142.2.2.2.2.2.1 bt142.2.2.2.2.2.2.1 bt142.2.2.2.2.2.2.2.1 bt142.2.2.2.2.2.2.2.2.1 bt142.2.2.2.2.2.2.2.2.2.1 bt142.2.2.2.2.2.2.2.2.2.2.1 bt142.2.2.2.2.2.2.2.2.2.2.2.1 bt142.2.2.2.2.2.2.2.2.2.2.2.2.1 bt142.2.2.2.2.2.2.2.2.2.2.2.2.2.1 bt142.2.2.2.2.2.2.2.2.2.2.2.2.2.2.1 bt142.2.2.2.2.2.2.2.2.2.2.2.2.2.2.2.1 bt142.2.2.2.2.2.2.2.2.2.2.2.2.2.2.2.2.1 bt142.2.2.2.2.2.2.2.2.2.2.2.2.2.2.2.2.2.1 bt142.2.2.2.2.2.2.2.2.2.2.2.2.2.2.2.2.2.2.1 bt142.2.2.2.2.2.2.2.2.2.2.2.2.2.2.2.2.2.2.2.1 bt142.2.2.2.2.2.2.2.2.2.2.2.2.2.2.2.2.2.2.2.2.1 bt142.2.2.2.2.2.2.2.2.2.2.2.2.2.2.2.2.2.2.2.2.2.1 bt142.2.2.2.2.2.2.2.2.2.2.2.2.2.2.2.2.2.2.2.2.2.2.1 bt142.2.2.2.2.2.2.2.2.2.2.2.2.2.2.2.2.2.2.2.2.2.2.2.1 bt142.2.2.2.2.2.2.2.2.2.2.2.2.2.2.2.2.2.2.2.2.2.2.2.2.1 bt142.2.2.2.2.2.2.2.2.2.2.2.2.2.2.2.2.2.2.2.2.2.2.2.2.2.1 bt142.2.2.2.2.2.2.2.2.2.2.2.2.2.2.2.2.2.2.2.2.2.2.2.2.2.2.1 bt142.2.2.2.2.2.2.2.2.2.2.2.2.2.2.2.2.2.2.2.2.2.2.2.2.2.2.2.1 bt142.2.2.2.2.2.2.2.2.2.2.2.2.2.2.2.2.2.2.2.2.2.2.2.2.2.2.2.2.1 bt142.2.2.2.2.2.2.2.2.2.2.2.2.2.2.2.2.2.2.2.2.2.2.2.2.2.2.2.2.2.1) else (rules_Bind.j0 k a2 true l0_0 l0_1 l0_2 l0_3 bt102.1 bt102.2.1 bt102.2.2.1 bt102.2.2.2.1 bt102.2.2.2.2.1 bt102.2.2.2.2.2.1 bt102.2.2.2.2.2.2.1 bt102.2.2.2.2.2.2.2.1 bt102.2.2.2.2.2.2.2.2.1 bt102.2.2.2.2.2.2.2.2.2.1 bt102.2.2.2.2.2.2.2.2.2.2.1 bt102.2.2.2.2.2.2.2.2.2.2.2.1 bt102.2.2.2.2.2.2.2.2.2.2.2.2.1 bt102.2.2.2.2.2.2.2.2.2.2.2.2.2.1 bt102.2.2.2.2.2.2.2.2.2.2.2.2.2.2.1 bt102.2.2.2.2.2.2.2.2.2.2.2.2.2.2.2.1 bt102.2.2.2.2.2.2.2.2.2.2.2.2.2.2.2.2.1 bt102.2.2.2.2.2.2.2.2.2.2.2.2.2.2.2.2.2.1 bt102.2.2.2.2.2.2.2.2.2.2.2.2.2.2.2.2.2.2.1 bt102.2.2.2.2.2.2.2.2.2.2.2.2.2.2.2.2.2.2.2.1 bt102.2.2.2.2.2.2.2.2.2.2.2.2.2.2.2.2.2.2.2.2.1 bt102.2.2.2.2.2.2.2.2.2.2.2.2.2.2.2.2.2.2.2.2.2.1 bt102.2.2.2.2.2.2.2.2.2.2.2.2.2.2.2.2.2.2.2.2.2.2.1 bt102.2.2.2.2.2.2.2.2.2.2.2.2.2.2.2.2.2.2.2.2.2.2.2.1 bt102.2.2.2.2.2.2.2.2.2.2.2.2.2.2.2.2.2.2.2.2.2.2.2.2.1 bt102.2.2.2.2.2.2.2.2.2.2.2.2.2.2.2.2.2.2.2.2.2.2.2.2.2.1 bt102.2.2.2.2.2.2.2.2.2.2.2.2.2.2.2.2.2.2.2.2.2.2.2.2.2.2.1 bt102.2.2.2.2.2.2.2.2.2.2.2.2.2.2.2.2.2.2.2.2.2.2.2.2.2.2.2.1 bt102.2.2.2.2.2.2.2.2.2.2.2.2.2.2.2.2.2.2.2.2.2.2.2.2.2.2.2.2.1 bt102.2.2.2.2.2.2.2.2.2.2.2.2.2.2.2.2.2.2.2.2.2.2.2.2.2.2.2.2.2.1 bt142.1 bt142.2.1 bt142.2.2.1 bt142.2.2.2.1 bt142.2.2.2.2.1 bt142.2.2.2.2.2.1 bt142.2.2.2.2.2.2.1 bt142.2.2.2.2.2.2.2.1 bt142.2.2.2.2.2.2.2.2.1 bt142.2.2.2.2.2.2.2.2.2.1 bt142.2.2.2.2.2.2.2.2.2.2.1 bt142.2.2.2.2.2.2.2.2.2.2.2.1 bt142.2.2.2.2.2.2.2.2.2.2.2.2.1 bt142.2.2.2.2.2.2.2.2.2.2.2.2.2.1 bt142.2.2.2.2.2.2.2.2.2.2.2.2.2.2.1 bt142.2.2.2.2.2.2.2.2.2.2.2.2.2.2.2.1 bt142.2.2.2.2.2.2.2.2.2.2.2.2.2.2.2.2.1 bt142.2.2.2.2.2.2.2.2.2.2.2.2.2.2.2.2.2.1 bt142.2.2.2.2.2.2.2.2.2.2.2.2.2.2.2.2.2.2.1 bt142.2.2.2.2.2.2.2.2.2.2.2.2.2.2.2.2.2.2.2.1 bt142.2.2.2.2.2.2.2.2.2.2.2.2.2.2.2.2.2.2.2.2.1 bt142.2.2.2.2.2.2.2.2.2.2.2.2.2.2.2.2.2.2.2.2.2.1 bt142.2.2.2.2.2.2.2.2.2.2.2.2.2.2.2.2.2.2.2.2.2.2.1 bt142.2.2.2.2.2.2.2.2.2.2.2.2.2.2.2.2.2.2.2.2.2.2.2.1 bt142.2.2.2.2.2.2.2.2.2.2.2.2.2.2.2.2.2.2.2.2.2.2.2.2.1 bt142.2.2.2.2.2.2.2.2.2.2.2.2.2.2.2.2.2.2.2.2.2.2.2.2.2.1 bt142.2.2.2.2.2.2.2.2.2.2.2.2.2.2.2.2.2.2.2.2.2.2.2.2.2.2.1 bt142.2.2.2.2.2.2.2.2.2.2.2.2.2.2.2.2.2.2.2.2.2.2.2.2.2.2.2.1 bt142.2.2.2.2.2.2.2.2.2.2.2.2.2.2.2.2.2.2.2.2.2.2.2.2.2.2.2.2.1 bt142.2.2.2.2.2.2.2.2.2.2.2.2.2.2.2.2.2.2.2.2.2.2.2.2.2.2.2.2.2.1)) else (rules_Bind.j0 k a2 true l0_0 l0_1 l0_2 l0_3 bt102.1 bt102.2.1 bt102.2.2.1 bt102.2.2.2.1 bt102.2.2.2.2.1 bt102.2.2.2.2.2.1 bt102.2.2.2.2.2.2.1 bt102.2.2.2.2.2.2.2.1 bt102.2.2.2.2.2.2.2.2.1 bt102.2.2.2.2.2.2.2.2.2.1 bt102.2.2.2.2.2.2.2.2.2.2.1 bt102.2.2.2.2.2.2.2.2.2.2.2.1 bt102.2.2.2.2.2.2.2.2.2.2.2.2.1 bt102.2.2.2.2.2.2.2.2.2.2.2.2.2.1 bt102.2.2.2.2.2.2.2.2.2.2.2.2.2.2.1 bt102.2.2.2.2.2.2.2.2.2.2.2.2.2.2.2.1 bt102.2.2.2.2.2.2.2.2.2.2.2.2.2.2.2.2.1 bt102.2.2.2.2.2.2.2.2.2.2.2.2.2.2.2.2.2.1 bt102.2.2.2.2.2.2.2.2.2.2.2.2.2.2.2.2.2.2.1 bt102.2.2.2.2.2.2.2.2.2.2.2.2.2.2.2.2.2.2.2.1 bt102.2.2.2.2.2.2.2.2.2.2.2.2.2.2.2.2.2.2.2.2.1 bt102.2.2.2.2.2.2.2.2.2.2.2.2.2.2.2.2.2.2.2.2.2.1 bt102.2.2.2.2.2.2.2.2.2.2.2.2.2.2.2.2.2.2.2.2.2.2.1 bt102.2.2.2.2.2.2.2.2.2.2.2.2.2.2.2.2.2.2.2.2.2.2.2.1 bt102.2.2.2.2.2.2.2.2.2.2.2.2.2.2.2.2.2.2.2.2.2.2.2.2.1 bt102.2.2.2.2.2.2.2.2.2.2.2.2.2.2.2.2.2.2.2.2.2.2.2.2.2.1 bt102.2.2.2.2.2.2.2.2.2.2.2.2.2.2.2.2.2.2.2.2.2.2.2.2.2.2.1 bt102.2.2.2.2.2.2.2.2.2.2.2.2.2.2.2.2.2.2.2.2.2.2.2.2.2.2.2.1 bt102.2.2.2.2.2.2.2.2.2.2.2.2.2.2.2.2.2.2.2.2.2.2.2.2.2.2.2.2.1 bt102.2.2.2.2.2.2.2.2.2.2.2.2.2.2.2.2.2.2.2.2.2.2.2.2.2.2.2.2.2.1 bt142.1 bt142.2.1 bt142.2.2.1 bt142.2.2.2.1 bt142.2.2.2.2.1 bt142.2.2.2.2.2.1 bt142.2.2.2.2.2.2.1 bt142.2.2.2.2.2.2.2.1 bt142.2.2.2.2.2.2.2.2.1 bt142.2.2.2.2.2.2.2.2.2.1 bt142.2.2.2.2.2.2.2.2.2.2.1 bt142.2.2.2.2.2.2.2.2.2.2.2.1 bt142.2.2.2.2.2.2.2.2.2.2.2.2.1 bt142.2.2.2.2.2.2.2.2.2.2.2.2.2.1 bt142.2.2.2.2.2.2.2.2.2.2.2.2.2.2.1 bt142.2.2.2.2.2.2.2.2.2.2.2.2.2.2.2.1 bt142.2.2.2.2.2.2.2.2.2.2.2.2.2.2.2.2.1 bt142.2.2.2.2.2.2.2.2.2.2.2.2.2.2.2.2.2.1 bt142.2.2.2.2.2.2.2.2.2.2.2.2.2.2.2.2.2.2.1 bt142.2.2.2.2.2.2.2.2.2.2.2.2.2.2.2.2.2.2.2.1 bt142.2.2.2.2.2.2.2.2.2.2.2.2.2.2.2.2.2.2.2.2.1 bt142.2.2.2.2.2.2.2.2.2.2.2.2.2.2.2.2.2.2.2.2.2.1 bt142.2.2.2.2.2.2.2.2.2.2.2.2.2.2.2.2.2.2.2.2.2.2.1 bt142.2.2.2.2.2.2.2.2.2.2.2.2.2.2.2.2.2.2.2.2.2.2.2.1 bt142.2.2.2.2.2.2.2.2.2.2.2.2.2.2.2.2.2.2.2.2.2.2.2.2.1 bt142.2.2.2.2.2.2.2.2.2.2.2.2.2.2.2.2.2.2.2.2.2.2.2.2.2.1 bt142.2.2.2.2.2.2.2.2.2.2.2.2.2.2.2.2.2.2.2.2.2.2.2.2.2.2.1 bt142.2.2.2.2.2.2.2.2.2.2.2.2.2.2.2.2.2.2.2.2.2.2.2.2.2.2.2.1 bt142.2.2.2.2.2.2.2.2.2.2.2.2.2.2.2.2.2.2.2.2.2.2.2.2.2.2.2.2.1 bt142.2.2.2.2.2.2.2.2.2.2.2.2.2.2.2.2.2.2.2.2.2.2.2.2.2.2.2.2.2.1)))
def rules_Bind.T13 : Bool × List (List Nat × List Nat) := (true, [([], []), ([], []), ([0, 1], [0, 1]), ([], []), ([3], [3]), ([2, 4, 2], [2, 4]), ([], []), ([6], [6]), ([5, 7, 5], [5, 7]), ([8], [8]), ([9, 8], [9])])
def rules_Bind.B13 : List Nat := [0, 0, 3, 0, 8, 31, 0, 64, 255, 511, 1023]
theorem rules_Bind.tab13 : rtab .any (opsOf Try.f57 13) = rules_Bind.T13 := by kernel_rfl
theorem rules_Bind.bits13 : waitsOk rules_Bind.T13.2 rules_Bind.B13 = true := by kernel_rfl
set_option maxHeartbeats 8000000 in
set_option maxRecDepth 100000 in
theorem rules_Bind.calls (k : Nat) (A0_0 : Option Addr) (c0_0 : Nat) (l0_0 : List (S68)) (A0_1 : Option Addr) (c0_1 : Nat) (l0_1 : List (S68)) (A0_2 : Option Addr) (c0_2 : Nat) (l0_2 : List (S68)) (A0_3 : Option Addr) (c0_3 : Nat) (l0_3 : List (S68)) (a1 : ByteArray) (a2 : ByteArray) (r : Option Int) (w : World) (hr0_0 : Kd.C k68 w A0_0 l0_0.length l0_0) (hc0_0 : l0_0.length ≤ c0_0) (hr0_1 : Kd.C k68 w A0_1 l0_1.length l0_1) (hc0_1 : l0_1.length ≤ c0_1) (hr0_2 : Kd.C k68 w A0_2 l0_2.length l0_2) (hc0_2 : l0_2.length ≤ c0_2) (hr0_3 : Kd.C k68 w A0_3 l0_3.length l0_3) (hc0_3 : l0_3.length ≤ c0_3) (h : rules_Bind.f k l0_0 l0_1 l0_2 l0_3 a1 a2 = some r) :
    Calls Try.prog 57 #[.agg #[.slice A0_0 l0_0.length c0_0, .slice A0_1 l0_1.length c0_1, .slice A0_2 l0_2.length c0_2, .slice A0_3 l0_3.length c0_3], .string a1, .string a2] w fun e w' => e = .returned (errW r) ∧ Below w.heap.size w w' := by
  have hu59 := Try.underlying59
  have hu68 := Try.underlying68
  have hu64 := Try.underlying64
  have hu52 := Try.underlying52
  have hu114 := Try.underlying114
  have HR0_0 := Aside0.mk hr0_0
  have HC0_0 := Aside0.mk hc0_0
  clear hr0_0 hc0_0
  have HR0_1 := Aside0.mk hr0_1
  have HC0_1 := Aside0.mk hc0_1
  clear hr0_1 hc0_1
  have HR0_2 := Aside0.mk hr0_2
  have HC0_2 := Aside0.mk hc0_2
  clear hr0_2 hc0_2
  have HR0_3 := Aside0.mk hr0_3
  have HC0_3 := Aside0.mk hc0_3
  clear hr0_3 hc0_3
  have HB := Aside0.mk (Below.refl w.heap.size w)
  have H : ((rules_find.f l0_1 a1).bind fun bt102 => ((rules_find.f l0_0 a2).bind fun bt142 => (if bt102.2.2.2.2.2.2.2.2.2.2.2.2.2.2.2.2.2.2.2.2.2.2.2.2.2.2.2.2.2.2 = true then (if bt142.2.2.2.2.2.2.2.2.2.2.2.2.2.2.2.2.2.2.2.2.2.2.2.2.2.2.2.2.2.2 = true then (rules_Bind.j0 k a2 (a2.toList == ([] : List UInt8)) l0_0 l0_1 l0_2 l0_3 bt102.1 bt102.2.1 bt102.2.2.1 bt102.2.2.2.1 bt102.2.2.2.2.1 bt102.2.2.2.2.2.1 bt102.2.2.2.2.2.2.1 bt102.2.2.2.2.2.2.2.1 bt102.2.2.2.2.2.2.2.2.1 bt102.2.2.2.2.2.2.2.2.2.1 bt102.2.2.2.2.2.2.2.2.2.2.1 bt102.2.2.2.2.2.2.2.2.2.2.2.1 bt102.2.2.2.2.2.2.2.2.2.2.2.2.1 bt102.2.2.2.2.2.2.2.2.2.2.2.2.2.1 bt102.2.2.2.2.2.2.2.2.2.2.2.2.2.2.1 bt102.2.2.2.2.2.2.2.2.2.2.2.2.2.2.2.1 bt102.2.2.2.2.2.2.2.2.2.2.2.2.2.2.2.2.1 bt102.2.2.2.2.2.2.2.2.2.2.2.2.2.2.2.2.2.1 bt102.2.2.2.2.2.2.2.2.2.2.2.2.2.2.2.2.2.2.1 bt102.2.2.2.2.2.2.2.2.2.2.2.2.2.2.2.2.2.2.2.1 bt102.2.2.2.2.2.2.2.2.2.2.2.2.2.2.2.2.2.2.2.2.1 bt102.2.2.2.2.2.2.2.2.2.2.2.2.2.2.2.2.2.2.2.2.2.1 bt102.2.2.2.2.2.2.2.2.2.2.2.2.2.2.2.2.2.2.2.2.2.2.1 bt102.2.2.2.2.2.2.2.2.2.2.2.2.2.2.2.2.2.2.2.2.2.2.2.1 bt102.2.2.2.2.2.2.2.2.2.2.2.2.2.2.2.2.2.2.2.2.2.2.2.2.1 bt102.2.2.2.2.2.2.2.2.2.2.2.2.2.2.2.2.2.2.2.2.2.2.2.2.2.1 bt102.2.2.2.2.2.2.2.2.2.2.2.2.2.2.2.2.2.2.2.2.2.2.2.2.2.2.1 bt102.2.2.2.2.2.2.2.2.2.2.2.2.2.2.2.2.2.2.2.2.2.2.2.2.2.2.2.1 bt102.2.2.2.2.2.2.2.2.2.2.2.2.2.2.2.2.2.2.2.2.2.2.2.2.2.2.2.2.1 bt102.2.2.2.2.2.2.2.2.2.2.2.2.2.2.2.2.2.2.2.2.2.2.2.2.2.2.2.2.2.1 bt142.1 bt142.2.1 bt142.2.2.1 bt142.2.2.2.1 bt142.2.2.2.2.1 bt142.2.2.2.2.2.1 bt142.2.2.2.2.2.2.1 bt142.2.2.2.2.2.2.2.1 bt142.2.2.2.2.2.2.2.2.1 bt142.2.2.2.2.2.2.2.2.2.1 bt142.2.2.2.2.2.2.2.2.2.2.1 bt142.2.2.2.2.2.2.2.2.2.2.2.1 bt142.2.2.2.2.2.2.2.2.2.2.2.2.1 bt142.2.2.2.2.2.2.2.2.2.2.2.2.2.1 bt142.2.2.2.2.2.2.2.2.2.2.2.2.2.2.1 bt142.2.2.2.2.2.2.2.2.2.2.2.2.2.2.2.1 bt142.2.2.2.2.2.2.2.2.2.2.2.2.2.2.2.2.1 bt142.2.2.2.2.2.2.2.2.2.2.2.2.2.2.2.2.2.1 bt142.2.2.2.2.2.2.2.2.2.2.2.2.2.2.2.2.2.2.1 bt142.2.2.2.2.2.2.2.2.2.2.2.2.2.2.2.2.2.2.2.1 bt142.2.2.2.2.2.2.2.2.2.2.2.2.2.2.2.2.2.2.2.2.1 bt142.2.2.2.2.2.2.2.2.2.2.2.2.2.2.2.2.2.2.2.2.2.1 bt142.2.2.2.2.2.2.2.2.2.2.2.2.2.2.2.2.2.2.2.2.2.2.1 bt142.2.2.2.2.2.2.2.2.2.2.2.2.2.2.2.2.2.2.2.2.2.2.2.1 bt142.2.2.2.2.2.2.2.2.2.2.2.2.2.2.2.2.2.2.2.2.2.2.2.2.1 bt142.2.2.2.2.2.2.2.2.2.2.2.2.2.2.2.2.2.2.2.2.2.2.2.2.2.1 bt142.2.2.2.2.2.2.2.2.2.2.2.2.2.2.2.2.2.2.2.2.2.2.2.2.2.2.1 bt142.2.2.2.2.2.2.2.2.2.2.2.2.2.2.2.2.2.2.2.2.2.2.2.2.2.2.2.1 bt142.2.2.2.2.2.2.2.2.2.2.2.2.2.2.2.2.2.2.2.2.2.2.2.2.2.2.2.2.1 bt142.2.2.2.2.2.2.2.2.2.2.2.2.2.2.2.2.2.2.2.2.2.2.2.2.2.2.2.2.2.1) else (rules_Bind.j0 k a2 true l0_0 l0_1 l0_2 l0_3 bt102.1 bt102.2.1 bt102.2.2.1 bt102.2.2.2.1 bt102.2.2.2.2.1 bt102.2.2.2.2.2.1 bt102.2.2.2.2.2.2.1 bt102.2.2.2.2.2.2.2.1 bt102.2.2.2.2.2.2.2.2.1 bt102.2.2.2.2.2.2.2.2.2.1 bt102.2.2.2.2.2.2.2.2.2.2.1 bt102.2.2.2.2.2.2.2.2.2.2.2.1 bt102.2.2.2.2.2.2.2.2.2.2.2.2.1 bt102.2.2.2.2.2.2.2.2.2.2.2.2.2.1 bt102.2.2.2.2.2.2.2.2.2.2.2.2.2.2.1 bt102.2.2.2.2.2.2.2.2.2.2.2.2.2.2.2.1 bt102.2.2.2.2.2.2.2.2.2.2.2.2.2.2.2.2.1 bt102.2.2.2.2.2.2.2.2.2.2.2.2.2.2.2.2.2.1 bt102.2.2.2.2.2.2.2.2.2.2.2.2.2.2.2.2.2.2.1 bt102.2.2.2.2.2.2.2.2.2.2.2.2.2.2.2.2.2.2.2.1 bt102.2.2.2.2.2.2.2.2.2.2.2.2.2.2.2.2.2.2.2.2.1 bt102.2.2.2.2.2.2.2.2.2.2.2.2.2.2.2.2.2.2.2.2.2.1 bt102.2.2.2.2.2.2.2.2.2.2.2.2.2.2.2.2.2.2.2.2.2.2.1 bt102.2.2.2.2.2.2.2.2.2.2.2.2.2.2.2.2.2.2.2.2.2.2.2.1 bt102.2.2.2.2.2.2.2.2.2.2.2.2.2.2.2.2.2.2.2.2.2.2.2.2.1 bt102.2.2.2.2.2.2.2.2.2.2.2.2.2.2.2.2.2.2.2.2.2.2.2.2.2.1 bt102.2.2.2.2.2.2.2.2.2.2.2.2.2.2.2.2.2.2.2.2.2.2.2.2.2.2.1 bt102.2.2.2.2.2.2.2.2.2.2.2.2.2.2.2.2.2.2.2.2.2.2.2.2.2.2.2.1 bt102.2.2.2.2.2.2.2.2.2.2.2.2.2.2.2.2.2.2.2.2.2.2.2.2.2.2.2.2.1 bt102.2.2.2.2.2.2.2.2.2.2.2.2.2.2.2.2.2.2.2.2.2.2.2.2.2.2.2.2.2.1 bt142.1 bt142.2.1 bt142.2.2.1 bt142.2.2.2.1 bt142.2.2.2.2.1 bt142.2.2.2.2.2.1 bt142.2.2.2.2.2.2.1 bt142.2.2.2.2.2.2.2.1 bt142.2.2.2.2.2.2.2.2.1 bt142.2.2.2.2.2.2.2.2.2.1 bt142.2.2.2.2.2.2.2.2.2.2.1 bt142.2.2.2.2.2.2.2.2.2.2.2.1 bt142.2.2.2.2.2.2.2.2.2.2.2.2.1 bt142.2.2.2.2.2.2.2.2.2.2.2.2.2.1 bt142.2.2.2.2.2.2.2.2.2.2.2.2.2.2.1 bt142.2.2.2.2.2.2.2.2.2.2.2.2.2.2.2.1 bt142.2.2.2.2.2.2.2.2.2.2.2.2.2.2.2.2.1 bt142.2.2.2.2.2.2.2.2.2.2.2.2.2.2.2.2.2.1 bt142.2.2.2.2.2.2.2.2.2.2.2.2.2.2.2.2.2.2.1 bt142.2.2.2.2.2.2.2.2.2.2.2.2.2.2.2.2.2.2.2.1 bt142.2.2.2.2.2.2.2.2.2.2.2.2.2.2.2.2.2.2.2.2.1 bt142.2.2.2.2.2.2.2.2.2.2.2.2.2.2.2.2.2.2.2.2.2.1 bt142.2.2.2.2.2.2.2.2.2.2.2.2.2.2.2.2.2.2.2.2.2.2.1 bt142.2.2.2.2.2.2.2.2.2.2.2.2.2.2.2.2.2.2.2.2.2.2.2.1 bt142.2.2.2.2.2.2.2.2.2.2.2.2.2.2.2.2.2.2.2.2.2.2.2.2.1 bt142.2.2.2.2.2.2.2.2.2.2.2.2.2.2.2.2.2.2.2.2.2.2.2.2.2.1 bt142.2.2.2.2.2.2.2.2.2.2.2.2.2.2.2.2.2.2.2.2.2.2.2.2.2.2.1 bt142.2.2.2.2.2.2.2.2.2.2.2.2.2.2.2.2.2.2.2.2.2.2.2.2.2.2.2.1 bt142.2.2.2.2.2.2.2.2.2.2.2.2.2.2.2.2.2.2.2.2.2.2.2.2.2.2.2.2.1 bt142.2.2.2.2.2.2.2.2.2.2.2.2.2.2.2.2.2.2.2.2.2.2.2.2.2.2.2.2.2.1)) else (rules_Bind.j0 k a2 true l0_0 l0_1 l0_2 l0_3 bt102.1 bt102.2.1 bt102.2.2.1 bt102.2.2.2.1 bt102.2.2.2.2.1 bt102.2.2.2.2.2.1 bt102.2.2.2.2.2.2.1 bt102.2.2.2.2.2.2.2.1 bt102.2.2.2.2.2.2.2.2.1 bt102.2.2.2.2.2.2.2.2.2.1 bt102.2.2.2.2.2.2.2.2.2.2.1 bt102.2.2.2.2.2.2.2.2.2.2.2.1 bt102.2.2.2.2.2.2.2.2.2.2.2.2.1 bt102.2.2.2.2.2.2.2.2.2.2.2.2.2.1 bt102.2.2.2.2.2.2.2.2.2.2.2.2.2.2.1 bt102.2.2.2.2.2.2.2.2.2.2.2.2.2.2.2.1 bt102.2.2.2.2.2.2.2.2.2.2.2.2.2.2.2.2.1 bt102.2.2.2.2.2.2.2.2.2.2.2.2.2.2.2.2.2.1 bt102.2.2.2.2.2.2.2.2.2.2.2.2.2.2.2.2.2.2.1 bt102.2.2.2.2.2.2.2.2.2.2.2.2.2.2.2.2.2.2.2.1 bt102.2.2.2.2.2.2.2.2.2.2.2.2.2.2.2.2.2.2.2.2.1 bt102.2.2.2.2.2.2.2.2.2.2.2.2.2.2.2.2.2.2.2.2.2.1 bt102.2.2.2.2.2.2.2.2.2.2.2.2.2.2.2.2.2.2.2.2.2.2.1 bt102.2.2.2.2.2.2.2.2.2.2.2.2.2.2.2.2.2.2.2.2.2.2.2.1 bt102.2.2.2.2.2.2.2.2.2.2.2.2.2.2.2.2.2.2.2.2.2.2.2.2.1 bt102.2.2.2.2.2.2.2.2.2.2.2.2.2.2.2.2.2.2.2.2.2.2.2.2.2.1 bt102.2.2.2.2.2.2.2.2.2.2.2.2.2.2.2.2.2.2.2.2.2.2.2.2.2.2.1 bt102.2.2.2.2.2.2.2.2.2.2.2.2.2.2.2.2.2.2.2.2.2.2.2.2.2.2.2.1 bt102.2.2.2.2.2.2.2.2.2.2.2.2.2.2.2.2.2.2.2.2.2.2.2.2.2.2.2.2.1 bt102.2.2.2.2.2.2.2.2.2.2.2.2.2.2.2.2.2.2.2.2.2.2.2.2.2.2.2.2.2.1 bt142.1 bt142.2.1 bt142.2.2.1 bt142.2.2.2.1 bt142.2.2.2.2.1 bt142.2.2.2.2.2.1 bt142.2.2.2.2.2.2.1 bt142.2.2.2.2.2.2.2.1 bt142.2.2.2.2.2.2.2.2.1 bt142.2.2.2.2.2.2.2.2.2.1 bt142.2.2.2.2.2.2.2.2.2.2.1 bt142.2.2.2.2.2.2.2.2.2.2.2.1 bt142.2.2.2.2.2.2.2.2.2.2.2.2.1 bt142.2.2.2.2.2.2.2.2.2.2.2.2.2.1 bt142.2.2.2.2.2.2.2.2.2.2.2.2.2.2.1 bt142.2.2.2.2.2.2.2.2.2.2.2.2.2.2.2.1 bt142.2.2.2.2.2.2.2.2.2.2.2.2.2.2.2.2.1 bt142.2.2.2.2.2.2.2.2.2.2.2.2.2.2.2.2.2.1 bt142.2.2.2.2.2.2.2.2.2.2.2.2.2.2.2.2.2.2.1 bt142.2.2.2.2.2.2.2.2.2.2.2.2.2.2.2.2.2.2.2.1 bt142.2.2.2.2.2.2.2.2.2.2.2.2.2.2.2.2.2.2.2.2.1 bt142.2.2.2.2.2.2.2.2.2.2.2.2.2.2.2.2.2.2.2.2.2.1 bt142.2.2.2.2.2.2.2.2.2.2.2.2.2.2.2.2.2.2.2.2.2.2.1 bt142.2.2.2.2.2.2.2.2.2.2.2.2.2.2.2.2.2.2.2.2.2.2.2.1 bt142.2.2.2.2.2.2.2.2.2.2.2.2.2.2.2.2.2.2.2.2.2.2.2.2.1 bt142.2.2.2.2.2.2.2.2.2.2.2.2.2.2.2.2.2.2.2.2.2.2.2.2.2.1 bt142.2.2.2.2.2.2.2.2.2.2.2.2.2.2.2.2.2.2.2.2.2.2.2.2.2.2.1 bt142.2.2.2.2.2.2.2.2.2.2.2.2.2.2.2.2.2.2.2.2.2.2.2.2.2.2.2.1 bt142.2.2.2.2.2.2.2.2.2.2.2.2.2.2.2.2.2.2.2.2.2.2.2.2.2.2.2.2.1 bt142.2.2.2.2.2.2.2.2.2.2.2.2.2.2.2.2.2.2.2.2.2.2.2.2.2.2.2.2.2.1)))) = some r := h
  clear h
  replace H := Option.bind_eq_some_iff.mp H
  obtain ⟨⟨t102, t103, t104, t105, t109, t110, t111, t112, t113, t114, t115, t116, t117, t118, t119, t120, t121, t122, t123, t124, t125, t126, t127, t128, t129, t130, t134, t135, t136, t137, t140⟩, A40, H⟩ := H
  replace H : ((rules_find.f l0_0 a2).bind fun bt142 => (if t140 = true then (if bt142.2.2.2.2.2.2.2.2.2.2.2.2.2.2.2.2.2.2.2.2.2.2.2.2.2.2.2.2.2.2 = true then (rules_Bind.j0 k a2 (a2.toList == ([] : List UInt8)) l0_0 l0_1 l0_2 l0_3 t102 t103 t104 t105 t109 t110 t111 t112 t113 t114 t115 t116 t117 t118 t119 t120 t121 t122 t123 t124 t125 t126 t127 t128 t129 t130 t134 t135 t136 t137 bt142.1 bt142.2.1 bt142.2.2.1 bt142.2.2.2.1 bt142.2.2.2.2.1 bt142.2.2.2.2.2.1 bt142.2.2.2.2.2.2.1 bt142.2.2.2.2.2.2.2.1 bt142.2.2.2.2.2.2.2.2.1 bt142.2.2.2.2.2.2.2.2.2.1 bt142.2.2.2.2.2.2.2.2.2.2.1 bt142.2.2.2.2.2.2.2.2.2.2.2.1 bt142.2.2.2.2.2.2.2.2.2.2.2.2.1 bt142.2.2.2.2.2.2.2.2.2.2.2.2.2.1 bt142.2.2.2.2.2.2.2.2.2.2.2.2.2.2.1 bt142.2.2.2.2.2.2.2.2.2.2.2.2.2.2.2.1 bt142.2.2.2.2.2.2.2.2.2.2.2.2.2.2.2.2.1 bt142.2.2.2.2.2.2.2.2.2.2.2.2.2.2.2.2.2.1 bt142.2.2.2.2.2.2.2.2.2.2.2.2.2.2.2.2.2.2.1 bt142.2.2.2.2.2.2.2.2.2.2.2.2.2.2.2.2.2.2.2.1 bt142.2.2.2.2.2.2.2.2.2.2.2.2.2.2.2.2.2.2.2.2.1 bt142.2.2.2.2.2.2.2.2.2.2.2.2.2.2.2.2.2.2.2.2.2.1 bt142.2.2.2.2.2.2.2.2.2.2.2.2.2.2.2.2.2.2.2.2.2.2.1 bt142.2.2.2.2.2.2.2.2.2.2.2.2.2.2.2.2.2.2.2.2.2.2.2.1 bt142.2.2.2.2.2.2.2.2.2.2.2.2.2.2.2.2.2.2.2.2.2.2.2.2.1 bt142.2.2.2.2.2.2.2.2.2.2.2.2.2.2.2.2.2.2.2.2.2.2.2.2.2.1 bt142.2.2.2.2.2.2.2.2.2.2.2.2.2.2.2.2.2.2.2.2.2.2.2.2.2.2.1 bt142.2.2.2.2.2.2.2.2.2.2.2.2.2.2.2.2.2.2.2.2.2.2.2.2.2.2.2.1 bt142.2.2.2.2.2.2.2.2.2.2.2.2.2.2.2.2.2.2.2.2.2.2.2.2.2.2.2.2.1 bt142.2.2.2.2.2.2.2.2.2.2.2.2.2.2.2.2.2.2.2.2.2.2.2.2.2.2.2.2.2.1) else (rules_Bind.j0 k a2 true l0_0 l0_1 l0_2 l0_3 t102 t103 t104 t105 t109 t110 t111 t112 t113 t114 t115 t116 t117 t118 t119 t120 t121 t122 t123 t124 t125 t126 t127 t128 t129 t130 t134 t135 t136 t137 bt142.1 bt142.2.1 bt142.2.2.1 bt142.2.2.2.1 bt142.2.2.2.2.1 bt142.2.2.2.2.2.1 bt142.2.2.2.2.2.2.1 bt142.2.2.2.2.2.2.2.1 bt142.2.2.2.2.2.2.2.2.1 bt142.2.2.2.2.2.2.2.2.2.1 bt142.2.2.2.2.2.2.2.2.2.2.1 bt142.2.2.2.2.2.2.2.2.2.2.2.1 bt142.2.2.2.2.2.2.2.2.2.2.2.2.1 bt142.2.2.2.2.2.2.2.2.2.2.2.2.2.1 bt142.2.2.2.2.2.2.2.2.2.2.2.2.2.2.1 bt142.2.2.2.2.2.2.2.2.2.2.2.2.2.2.2.1 bt142.2.2.2.2.2.2.2.2.2.2.2.2.2.2.2.2.1 bt142.2.2.2.2.2.2.2.2.2.2.2.2.2.2.2.2.2.1 bt142.2.2.2.2.2.2.2.2.2.2.2.2.2.2.2.2.2.2.1 bt142.2.2.2.2.2.2.2.2.2.2.2.2.2.2.2.2.2.2.2.1 bt142.2.2.2.2.2.2.2.2.2.2.2.2.2.2.2.2.2.2.2.2.1 bt142.2.2.2.2.2.2.2.2.2.2.2.2.2.2.2.2.2.2.2.2.2.1 bt142.2.2.2.2.2.2.2.2.2.2.2.2.2.2.2.2.2.2.2.2.2.2.1 bt142.2.2.2.2.2.2.2.2.2.2.2.2.2.2.2.2.2.2.2.2.2.2.2.1 bt142.2.2.2.2.2.2.2.2.2.2.2.2.2.2.2.2.2.2.2.2.2.2.2.2.1 bt142.2.2.2.2.2.2.2.2.2.2.2.2.2.2.2.2.2.2.2.2.2.2.2.2.2.1 bt142.2.2.2.2.2.2.2.2.2.2.2.2.2.2.2.2.2.2.2.2.2.2.2.2.2.2.1 bt142.2.2.2.2.2.2.2.2.2.2.2.2.2.2.2.2.2.2.2.2.2.2.2.2.2.2.2.1 bt142.2.2.2.2.2.2.2.2.2.2.2.2.2.2.2.2.2.2.2.2.2.2.2.2.2.2.2.2.1 bt142.2.2.2.2.2.2.2.2.2.2.2.2.2.2.2.2.2.2.2.2.2.2.2.2.2.2.2.2.2.1)) else (rules_Bind.j0 k a2 true l0_0 l0_1 l0_2 l0_3 t102 t103 t104 t105 t109 t110 t111 t112 t113 t114 t115 t116 t117 t118 t119 t120 t121 t122 t123 t124 t125 t126 t127 t128 t129 t130 t134 t135 t136 t137 bt142.1 bt142.2.1 bt142.2.2.1 bt142.2.2.2.1 bt142.2.2.2.2.1 bt142.2.2.2.2.2.1 bt142.2.2.2.2.2.2.1 bt142.2.2.2.2.2.2.2.1 bt142.2.2.2.2.2.2.2.2.1 bt142.2.2.2.2.2.2.2.2.2.1 bt142.2.2.2.2.2.2.2.2.2.2.1 bt142.2.2.2.2.2.2.2.2.2.2.2.1 bt142.2.2.2.2.2.2.2.2.2.2.2.2.1 bt142.2.2.2.2.2.2.2.2.2.2.2.2.2.1 bt142.2.2.2.2.2.2.2.2.2.2.2.2.2.2.1 bt142.2.2.2.2.2.2.2.2.2.2.2.2.2.2.2.1 bt142.2.2.2.2.2.2.2.2.2.2.2.2.2.2.2.2.1 bt142.2.2.2.2.2.2.2.2.2.2.2.2.2.2.2.2.2.1 bt142.2.2.2.2.2.2.2.2.2.2.2.2.2.2.2.2.2.2.1 bt142.2.2.2.2.2.2.2.2.2.2.2.2.2.2.2.2.2.2.2.1 bt142.2.2.2.2.2.2.2.2.2.2.2.2.2.2.2.2.2.2.2.2.1 bt142.2.2.2.2.2.2.2.2.2.2.2.2.2.2.2.2.2.2.2.2.2.1 bt142.2.2.2.2.2.2.2.2.2.2.2.2.2.2.2.2.2.2.2.2.2.2.1 bt142.2.2.2.2.2.2.2.2.2.2.2.2.2.2.2.2.2.2.2.2.2.2.2.1 bt142.2.2.2.2.2.2.2.2.2.2.2.2.2.2.2.2.2.2.2.2.2.2.2.2.1 bt142.2.2.2.2.2.2.2.2.2.2.2.2.2.2.2.2.2.2.2.2.2.2.2.2.2.1 bt142.2.2.2.2.2.2.2.2.2.2.2.2.2.2.2.2.2.2.2.2.2.2.2.2.2.2.1 bt142.2.2.2.2.2.2.2.2.2.2.2.2.2.2.2.2.2.2.2.2.2.2.2.2.2.2.2.1 bt142.2.2.2.2.2.2.2.2.2.2.2.2.2.2.2.2.2.2.2.2.2.2.2.2.2.2.2.2.1 bt142.2.2.2.2.2.2.2.2.2.2.2.2.2.2.2.2.2.2.2.2.2.2.2.2.2.2.2.2.2.1))) = some r := H
  have A4 := Aside0.mk A40
  clear A40
  replace H := Option.bind_eq_some_iff.mp H
  obtain ⟨⟨t142, t143, t144, t145, t149, t150, t151, t152, t153, t154, t155, t156, t157, t158, t159, t160, t161, t162, t163, t164, t165, t166, t167, t168, t169, t170, t174, t175, t176, t177, t180⟩, A50, H⟩ := H
  replace H : (if t140 = true then (if t180 = true then (rules_Bind.j0 k a2 (a2.toList == ([] : List UInt8)) l0_0 l0_1 l0_2 l0_3 t102 t103 t104 t105 t109 t110 t111 t112 t113 t114 t115 t116 t117 t118 t119 t120 t121 t122 t123 t124 t125 t126 t127 t128 t129 t130 t134 t135 t136 t137 t142 t143 t144 t145 t149 t150 t151 t152 t153 t154 t155 t156 t157 t158 t159 t160 t161 t162 t163 t164 t165 t166 t167 t168 t169 t170 t174 t175 t176 t177) else (rules_Bind.j0 k a2 true l0_0 l0_1 l0_2 l0_3 t102 t103 t104 t105 t109 t110 t111 t112 t113 t114 t115 t116 t117 t118 t119 t120 t121 t122 t123 t124 t125 t126 t127 t128 t129 t130 t134 t135 t136 t137 t142 t143 t144 t145 t149 t150 t151 t152 t153 t154 t155 t156 t157 t158 t159 t160 t161 t162 t163 t164 t165 t166 t167 t168 t169 t170 t174 t175 t176 t177)) else (rules_Bind.j0 k a2 true l0_0 l0_1 l0_2 l0_3 t102 t103 t104 t105 t109 t110 t111 t112 t113 t114 t115 t116 t117 t118 t119 t120 t121 t122 t123 t124 t125 t126 t127 t128 t129 t130 t134 t135 t136 t137 t142 t143 t144 t145 t149 t150 t151 t152 t153 t154 t155 t156 t157 t158 t159 t160 t161 t162 t163 t164 t165 t166 t167 t168 t169 t170 t174 t175 t176 t177)) = some r := H
  have A5 := Aside0.mk A50
  clear A50
  have HC6 := Aside0.mk H
  clear H
  go_enter Try.func57, Try.ntmps57
  go_upto_region 3 with (first | ((with_reducible refine gate_dst (N := 3) rfl ?_); refine box_event ?hg (N := 3) ?hd (cs := #[.slice A0_0 l0_0.length c0_0, .slice A0_1 l0_1.length c0_1, .slice A0_2 l0_2.length c0_2, .slice A0_3 l0_3.length c0_3]) (t := 59) ?hr ?_; (case hd => rfl); (case hg => rfl); (case hr => first | (go_simp; done) | (go_simp; rfl)); intro gb101 hg w7 hbox hb; have n0_ := Aside0.mk (below_step (by repeat (first | (with_reducible first | exact HB.out | apply below_alloc | apply pw_below_drewN | apply below_drew1) | exact HB.out)) hb); have n1_ := Aside0.mk (hbox); have n2_ := Aside0.mk ((by rw [hg]; exact (below_size (by repeat (first | (with_reducible first | exact HB.out | apply below_alloc | apply pw_below_drewN | apply below_drew1) | exact HB.out))) : w.heap.size ≤ gb101)); have n3_ := Aside0.mk ((by rw [hg]; exact (below_size (by repeat (first | (with_reducible first | exact HB.out | apply below_alloc | apply pw_below_drewN | apply below_drew1) | exact HB.out))) : w.heap.size ≤ gb101)); clear HB; have HB := n0_; have BK101 := n1_; have GW101 := n2_; have GE101 := n3_; clear n0_ n1_ n2_ n3_; clear hb hbox hg; have hcz8_0 : w7.cell? ⟨gb101, 0, none⟩ = some (.slice A0_0 l0_0.length c0_0) := (blk_cell BK101.out 0).trans rfl; have hcz8_1 : w7.cell? ⟨gb101, 1, none⟩ = some (.slice A0_1 l0_1.length c0_1) := (blk_cell BK101.out 1).trans rfl; have hcz8_2 : w7.cell? ⟨gb101, 2, none⟩ = some (.slice A0_2 l0_2.length c0_2) := (blk_cell BK101.out 2).trans rfl; have hcz8_3 : w7.cell? ⟨gb101, 3, none⟩ = some (.slice A0_3 l0_3.length c0_3) := (blk_cell BK101.out 3).trans rfl; have hfz8_0 := blk_frozen BK101.out 0; have hfz8_1 := blk_frozen BK101.out 1; have hfz8_2 := blk_frozen BK101.out 2; have hfz8_3 := blk_frozen BK101.out 3) | ((with_reducible refine gate_callee (f := 103) rfl ?_); refine goesL_ (some 15) rfl rfl Try.func103 (by kernel_rfl) rfl #[.slice A0_1 l0_1.length c0_1, .string a1] rfl (by (try simp only [List.map_toArray, List.map_cons, List.map_nil]); first | done | rfl | (simp only [List.length_drop, List.length_take]; rfl)) ?_; (with_reducible refine (rules_find.calls _ _ l0_1 a1 t102 t103 t104 t105 t109 t110 t111 t112 t113 t114 t115 t116 t117 t118 t119 t120 t121 t122 t123 t124 t125 t126 t127 t128 t129 t130 t134 t135 t136 t137 t140 _ ?side1 ?side2 A4.out).mono ?_); (case side1 => repeat (first | exact (Kd.C_below HR0_1.out HB.out) | (with_reducible refine Kd.C_alloc ?_ _) | (with_reducible refine Kd.C_drewN ?_ _) | (with_reducible refine Kd.C_drew ?_))); (case side2 => exact HC0_1.out); rintro e w9 ⟨Aq138, nq138, cq138, Aq139, nq139, cq139, rfl, hb⟩; refine ⟨_, rfl, ?_⟩; have n0_ := Aside0.mk (blk_below (g := gb101) (o := .cells #[.slice A0_0 l0_0.length c0_0, .slice A0_1 l0_1.length c0_1, .slice A0_2 l0_2.length c0_2, .slice A0_3 l0_3.length c0_3] 59 (0, 0)) (by (with_reducible repeat (first | refine blk_drewN ?_ _ | refine blk_drew ?_ | refine blk_alloc ?_ _)); exact BK101.out) hb); have n1_ := Aside0.mk (below_step (by repeat (first | (with_reducible first | exact HB.out | apply below_alloc | apply pw_below_drewN | apply below_drew1 | refine below_set ?_ GE101.out) | exact HB.out)) hb); clear BK101; clear HB; have BK101 := n0_; have HB := n1_; clear n0_ n1_; (try clear hb); (try clear hb2); (try clear hk); (try clear hi)) | ((with_reducible refine gate_dst (N := 7) rfl ?_); refine box_event ?hg (N := 7) ?hd (cs := #[.int .i64 0, .string (⟨#[]⟩ : ByteArray), .int .i64 0, .int .i64 0, .slice none 0 0, .int .i64 0, .int .i64 0, .bool false, .bool false, .bool false, .int .i64 0, .string (⟨#[]⟩ : ByteArray), .string (⟨#[]⟩ : ByteArray), .string (⟨#[]⟩ : ByteArray), .int .i64 0, .bool false, .bool false, .int .i64 0, .int .i64 0, .string (⟨#[]⟩ : ByteArray), .int .i64 0, .int .i64 0, .int .i64 0, .int .i64 0, .int .i64 0, .bool false, .int .u64 0, .slice none 0 0, .int .i64 0, .string (⟨#[]⟩ : ByteArray), .int .i64 0, .int .i64 0]) (t := 68) ?hr ?_; (case hd => rfl); (case hg => rfl); (case hr => first | (go_simp; done) | (go_simp; rfl)); intro gb141 hg w10 hbox hb; have n0_ := Aside0.mk (blk_below (g := gb101) (o := .cells #[.slice A0_0 l0_0.length c0_0, .slice A0_1 l0_1.length c0_1, .slice A0_2 l0_2.length c0_2, .slice A0_3 l0_3.length c0_3] 59 (0, 0)) (by (with_reducible repeat (first | refine blk_drewN ?_ _ | refine blk_drew ?_ | refine blk_alloc ?_ _)); exact BK101.out) hb); have n1_ := Aside0.mk (below_step (by repeat (first | (with_reducible first | exact HB.out | apply below_alloc | apply pw_below_drewN | apply below_drew1 | refine below_set ?_ GE101.out) | exact HB.out)) hb); have n2_ := Aside0.mk (hbox); have n3_ := Aside0.mk ((by rw [hg]; exact (below_size (by repeat (first | (with_reducible first | exact HB.out | apply below_alloc | apply pw_below_drewN | apply below_drew1 | refine below_set ?_ GE101.out) | exact HB.out))) : w.heap.size ≤ gb141)); have n4_ := Aside0.mk ((by rw [hg]; exact (below_size (by repeat (first | (with_reducible first | exact HB.out | apply below_alloc | apply pw_below_drewN | apply below_drew1 | refine below_set ?_ GE101.out) | exact HB.out))) : w.heap.size ≤ gb141)); have n5_ := Aside0.mk ((by rw [hg]; exact Nat.ne_of_lt (blk_lt (g := gb101) (o := .cells #[.slice A0_0 l0_0.length c0_0, .slice A0_1 l0_1.length c0_1, .slice A0_2 l0_2.length c0_2, .slice A0_3 l0_3.length c0_3] 59 (0, 0)) (by (with_reducible repeat (first | refine blk_drewN ?_ _ | refine blk_drew ?_ | refine blk_alloc ?_ _)); exact BK101.out)) : gb101 ≠ gb141)); have n6_ := Aside0.mk ((by rw [hg]; exact Nat.ne_of_gt (blk_lt (g := gb101) (o := .cells #[.slice A0_0 l0_0.length c0_0, .slice A0_1 l0_1.length c0_1, .slice A0_2 l0_2.length c0_2, .slice A0_3 l0_3.length c0_3] 59 (0, 0)) (by (with_reducible repeat (first | refine blk_drewN ?_ _ | refine blk_drew ?_ | refine blk_alloc ?_ _)); exact BK101.out)) : gb141 ≠ gb101)); clear BK101; clear HB; have BK101 := n0_; have HB := n1_; have BK141 := n2_; have GW141 := n3_; have GE141 := n4_; have NB101_141 := n5_; have NB141_101 := n6_; clear n0_ n1_ n2_ n3_ n4_ n5_ n6_; clear hb hbox hg; have hnb11 := NB141_101.out; have hnc11 := NB101_141.out; have hcz12_0 : w10.cell? ⟨gb141, 0, none⟩ = some (.int .i64 0) := (blk_cell BK141.out 0).trans rfl; have hcz12_1 : w10.cell? ⟨gb141, 1, none⟩ = some (.string (⟨#[]⟩ : ByteArray)) := (blk_cell BK141.out 1).trans rfl; have hcz12_2 : w10.cell? ⟨gb141, 2, none⟩ = some (.int .i64 0) := (blk_cell BK141.out 2).trans rfl; have hcz12_3 : w10.cell? ⟨gb141, 3, none⟩ = some (.int .i64 0) := (blk_cell BK141.out 3).trans rfl; have hcz12_4 : w10.cell? ⟨gb141, 4, none⟩ = some (.slice none 0 0) := (blk_cell BK141.out 4).trans rfl; have hcz12_5 : w10.cell? ⟨gb141, 5, none⟩ = some (.int .i64 0) := (blk_cell BK141.out 5).trans rfl; have hcz12_6 : w10.cell? ⟨gb141, 6, none⟩ = some (.int .i64 0) := (blk_cell BK141.out 6).trans rfl; have hcz12_7 : w10.cell? ⟨gb141, 7, none⟩ = some (.bool false) := (blk_cell BK141.out 7).trans rfl; have hcz12_8 : w10.cell? ⟨gb141, 8, none⟩ = some (.bool false) := (blk_cell BK141.out 8).trans rfl; have hcz12_9 : w10.cell? ⟨gb141, 9, none⟩ = some (.bool false) := (blk_cell BK141.out 9).trans rfl; have hcz12_10 : w10.cell? ⟨gb141, 10, none⟩ = some (.int .i64 0) := (blk_cell BK141.out 10).trans rfl; have hcz12_11 : w10.cell? ⟨gb141, 11, none⟩ = some (.string (⟨#[]⟩ : ByteArray)) := (blk_cell BK141.out 11).trans rfl; have hcz12_12 : w10.cell? ⟨gb141, 12, none⟩ = some (.string (⟨#[]⟩ : ByteArray)) := (blk_cell BK141.out 12).trans rfl; have hcz12_13 : w10.cell? ⟨gb141, 13, none⟩ = some (.string (⟨#[]⟩ : ByteArray)) := (blk_cell BK141.out 13).trans rfl; have hcz12_14 : w10.cell? ⟨gb141, 14, none⟩ = some (.int .i64 0) := (blk_cell BK141.out 14).trans rfl; have hcz12_15 : w10.cell? ⟨gb141, 15, none⟩ = some (.bool false) := (blk_cell BK141.out 15).trans rfl; have hcz12_16 : w10.cell? ⟨gb141, 16, none⟩ = some (.bool false) := (blk_cell BK141.out 16).trans rfl; have hcz12_17 : w10.cell? ⟨gb141, 17, none⟩ = some (.int .i64 0) := (blk_cell BK141.out 17).trans rfl; have hcz12_18 : w10.cell? ⟨gb141, 18, none⟩ = some (.int .i64 0) := (blk_cell BK141.out 18).trans rfl; have hcz12_19 : w10.cell? ⟨gb141, 19, none⟩ = some (.string (⟨#[]⟩ : ByteArray)) := (blk_cell BK141.out 19).trans rfl; have hcz12_20 : w10.cell? ⟨gb141, 20, none⟩ = some (.int .i64 0) := (blk_cell BK141.out 20).trans rfl; have hcz12_21 : w10.cell? ⟨gb141, 21, none⟩ = some (.int .i64 0) := (blk_cell BK141.out 21).trans rfl; have hcz12_22 : w10.cell? ⟨gb141, 22, none⟩ = some (.int .i64 0) := (blk_cell BK141.out 22).trans rfl; have hcz12_23 : w10.cell? ⟨gb141, 23, none⟩ = some (.int .i64 0) := (blk_cell BK141.out 23).trans rfl; have hcz12_24 : w10.cell? ⟨gb141, 24, none⟩ = some (.int .i64 0) := (blk_cell BK141.out 24).trans rfl; have hcz12_25 : w10.cell? ⟨gb141, 25, none⟩ = some (.bool false) := (blk_cell BK141.out 25).trans rfl; have hcz12_26 : w10.cell? ⟨gb141, 26, none⟩ = some (.int .u64 0) := (blk_cell BK141.out 26).trans rfl; have hcz12_27 : w10.cell? ⟨gb141, 27, none⟩ = some (.slice none 0 0) := (blk_cell BK141.out 27).trans rfl; have hcz12_28 : w10.cell? ⟨gb141, 28, none⟩ = some (.int .i64 0) := (blk_cell BK141.out 28).trans rfl; have hcz12_29 : w10.cell? ⟨gb141, 29, none⟩ = some (.string (⟨#[]⟩ : ByteArray)) := (blk_cell BK141.out 29).trans rfl; have hcz12_30 : w10.cell? ⟨gb141, 30, none⟩ = some (.int .i64 0) := (blk_cell BK141.out 30).trans rfl; have hcz12_31 : w10.cell? ⟨gb141, 31, none⟩ = some (.int .i64 0) := (blk_cell BK141.out 31).trans rfl; have hfz12_0 := blk_frozen BK141.out 0; have hfz12_1 := blk_frozen BK141.out 1; have hfz12_2 := blk_frozen BK141.out 2; have hfz12_3 := blk_frozen BK141.out 3; have hfz12_4 := blk_frozen BK141.out 4; have hfz12_5 := blk_frozen BK141.out 5; have hfz12_6 := blk_frozen BK141.out 6; have hfz12_7 := blk_frozen BK141.out 7; have hfz12_8 := blk_frozen BK141.out 8; have hfz12_9 := blk_frozen BK141.out 9; have hfz12_10 := blk_frozen BK141.out 10; have hfz12_11 := blk_frozen BK141.out 11; have hfz12_12 := blk_frozen BK141.out 12; have hfz12_13 := blk_frozen BK141.out 13; have hfz12_14 := blk_frozen BK141.out 14; have hfz12_15 := blk_frozen BK141.out 15; have hfz12_16 := blk_frozen BK141.out 16; have hfz12_17 := blk_frozen BK141.out 17; have hfz12_18 := blk_frozen BK141.out 18; have hfz12_19 := blk_frozen BK141.out 19; have hfz12_20 := blk_frozen BK141.out 20; have hfz12_21 := blk_frozen BK141.out 21; have hfz12_22 := blk_frozen BK141.out 22; have hfz12_23 := blk_frozen BK141.out 23; have hfz12_24 := blk_frozen BK141.out 24; have hfz12_25 := blk_frozen BK141.out 25; have hfz12_26 := blk_frozen BK141.out 26; have hfz12_27 := blk_frozen BK141.out 27; have hfz12_28 := blk_frozen BK141.out 28; have hfz12_29 := blk_frozen BK141.out 29; have hfz12_30 := blk_frozen BK141.out 30; have hfz12_31 := blk_frozen BK141.out 31) | ((with_reducible refine gate_store (t := 68) (p := 7) rfl ?_); refine box_store_event (t := 68) (ty := 68) (p := 7) (x := ?vo_w13) (g := gb141) (cs := #[.int .i64 0, .string (⟨#[]⟩ : ByteArray), .int .i64 0, .int .i64 0, .slice none 0 0, .int .i64 0, .int .i64 0, .bool false, .bool false, .bool false, .int .i64 0, .string (⟨#[]⟩ : ByteArray), .string (⟨#[]⟩ : ByteArray), .string (⟨#[]⟩ : ByteArray), .int .i64 0, .bool false, .bool false, .int .i64 0, .int .i64 0, .string (⟨#[]⟩ : ByteArray), .int .i64 0, .int .i64 0, .int .i64 0, .int .i64 0, .int .i64 0, .bool false, .int .u64 0, .slice none 0 0, .int .i64 0, .string (⟨#[]⟩ : ByteArray), .int .i64 0, .int .i64 0]) (cs' := #[.int .i64 t102, .string t103, .int .i64 t104, .int .i64 t105, .slice Aq138 nq138 cq138, .int .i64 t109, .int .i64 t110, .bool t111, .bool t112, .bool t113, .int .i64 t114, .string t115, .string t116, .string t117, .int .i64 t118, .bool t119, .bool t120, .int .i64 t121, .int .i64 t122, .string t123, .int .i64 t124, .int .i64 t125, .int .i64 t126, .int .i64 t127, .int .i64 t128, .bool t129, .int .u64 t130, .slice Aq139 nq139 cq139, .int .i64 t134, .string t135, .int .i64 t136, .int .i64 t137]) ?hgd ?ho ?hN ?he ?hv ?hi ?hb ?hs ?h1 ?_; (case ho => rfl); (case hgd => rfl); (case hN => rfl); (case he => rfl); (case hv => first | rfl | (simp; done)); (case hi => exact size68); (case hb => (with_reducible repeat (first | refine blk_drewN ?_ _ | refine blk_drew ?_ | refine blk_alloc ?_ _)); exact BK141.out); (case hs => rfl); (case h1 => rfl); intro w13 hbox hg; have n0_ := Aside0.mk (blk_grown (by (with_reducible repeat (first | refine blk_drewN ?_ _ | refine blk_drew ?_ | refine blk_alloc ?_ _)); exact BK101.out) hg (fun e_ => NB101_141.out (Option.some.inj e_))); have n1_ := Aside0.mk (hbox); have n2_ := Aside0.mk (Below.grown (by repeat (first | (with_reducible first | exact HB.out | apply below_alloc | apply pw_below_drewN | apply below_drew1 | refine below_set ?_ GE101.out | refine below_set ?_ GE141.out) | exact HB.out)) hg (below_size (by repeat (first | (with_reducible first | exact HB.out | apply below_alloc | apply pw_below_drewN | apply below_drew1 | refine below_set ?_ GE101.out | refine below_set ?_ GE141.out) | exact HB.out))) (fun k_ e_ => by injection e_ with e_; subst e_; exact GE141.out)); clear BK101; clear BK141; clear HB; have BK101 := n0_; have BK141 := n1_; have HB := n2_; clear n0_ n1_ n2_; clear hbox hg; have hcz14_0 : w13.cell? ⟨gb101, 0, none⟩ = some (.slice A0_0 l0_0.length c0_0) := (blk_cell BK101.out 0).trans rfl; have hcz14_1 : w13.cell? ⟨gb101, 1, none⟩ = some (.slice A0_1 l0_1.length c0_1) := (blk_cell BK101.out 1).trans rfl; have hcz14_2 : w13.cell? ⟨gb101, 2, none⟩ = some (.slice A0_2 l0_2.length c0_2) := (blk_cell BK101.out 2).trans rfl; have hcz14_3 : w13.cell? ⟨gb101, 3, none⟩ = some (.slice A0_3 l0_3.length c0_3) := (blk_cell BK101.out 3).trans rfl; have hfz14_0 := blk_frozen BK101.out 0; have hfz14_1 := blk_frozen BK101.out 1; have hfz14_2 := blk_frozen BK101.out 2; have hfz14_3 := blk_frozen BK101.out 3) | ((with_reducible refine gate_callee (f := 103) rfl ?_); refine goesL_ (some 22) rfl rfl Try.func103 (by kernel_rfl) rfl #[.slice A0_0 l0_0.length c0_0, .string a2] rfl (by (try simp only [List.map_toArray, List.map_cons, List.map_nil]); first | done | rfl | (simp only [List.length_drop, List.length_take]; rfl)) ?_; (with_reducible refine (rules_find.calls _ _ l0_0 a2 t142 t143 t144 t145 t149 t150 t151 t152 t153 t154 t155 t156 t157 t158 t159 t160 t161 t162 t163 t164 t165 t166 t167 t168 t169 t170 t174 t175 t176 t177 t180 _ ?side1 ?side2 A5.out).mono ?_); (case side1 => repeat (first | exact (Kd.C_below HR0_0.out HB.out) | (with_reducible refine Kd.C_alloc ?_ _) | (with_reducible refine Kd.C_drewN ?_ _) | (with_reducible refine Kd.C_drew ?_))); (case side2 => exact HC0_0.out); rintro e w15 ⟨Aq178, nq178, cq178, Aq179, nq179, cq179, rfl, hb⟩; refine ⟨_, rfl, ?_⟩; have n0_ := Aside0.mk (blk_below (g := gb101) (o := .cells #[.slice A0_0 l0_0.length c0_0, .slice A0_1 l0_1.length c0_1, .slice A0_2 l0_2.length c0_2, .slice A0_3 l0_3.length c0_3] 59 (0, 0)) (by (with_reducible repeat (first | refine blk_drewN ?_ _ | refine blk_drew ?_ | refine blk_alloc ?_ _)); exact BK101.out) hb); have n1_ := Aside0.mk (blk_below (g := gb141) (o := .cells #[.int .i64 t102, .string t103, .int .i64 t104, .int .i64 t105, .slice Aq138 nq138 cq138, .int .i64 t109, .int .i64 t110, .bool t111, .bool t112, .bool t113, .int .i64 t114, .string t115, .string t116, .string t117, .int .i64 t118, .bool t119, .bool t120, .int .i64 t121, .int .i64 t122, .string t123, .int .i64 t124, .int .i64 t125, .int .i64 t126, .int .i64 t127, .int .i64 t128, .bool t129, .int .u64 t130, .slice Aq139 nq139 cq139, .int .i64 t134, .string t135, .int .i64 t136, .int .i64 t137] 68 (0, 0)) (by (with_reducible repeat (first | refine blk_drewN ?_ _ | refine blk_drew ?_ | refine blk_alloc ?_ _)); exact BK141.out) hb); have n2_ := Aside0.mk (below_step (by repeat (first | (with_reducible first | exact HB.out | apply below_alloc | apply pw_below_drewN | apply below_drew1 | refine below_set ?_ GE101.out | refine below_set ?_ GE141.out) | exact HB.out)) hb); clear BK101; clear BK141; clear HB; have BK101 := n0_; have BK141 := n1_; have HB := n2_; clear n0_ n1_ n2_; (try clear hb); (try clear hb2); (try clear hk); (try clear hi)) | ((with_reducible refine gate_dst (N := 9) rfl ?_); refine box_event ?hg (N := 9) ?hd (cs := #[.int .i64 0, .string (⟨#[]⟩ : ByteArray), .int .i64 0, .int .i64 0, .slice none 0 0, .int .i64 0, .int .i64 0, .bool false, .bool false, .bool false, .int .i64 0, .string (⟨#[]⟩ : ByteArray), .string (⟨#[]⟩ : ByteArray), .string (⟨#[]⟩ : ByteArray), .int .i64 0, .bool false, .bool false, .int .i64 0, .int .i64 0, .string (⟨#[]⟩ : ByteArray), .int .i64 0, .int .i64 0, .int .i64 0, .int .i64 0, .int .i64 0, .bool false, .int .u64 0, .slice none 0 0, .int .i64 0, .string (⟨#[]⟩ : ByteArray), .int .i64 0, .int .i64 0]) (t := 68) ?hr ?_; (case hd => rfl); (case hg => rfl); (case hr => first | (go_simp; done) | (go_simp; rfl)); intro gb181 hg w16 hbox hb; have n0_ := Aside0.mk (blk_below (g := gb101) (o := .cells #[.slice A0_0 l0_0.length c0_0, .slice A0_1 l0_1.length c0_1, .slice A0_2 l0_2.length c0_2, .slice A0_3 l0_3.length c0_3] 59 (0, 0)) (by (with_reducible repeat (first | refine blk_drewN ?_ _ | refine blk_drew ?_ | refine blk_alloc ?_ _)); exact BK101.out) hb); have n1_ := Aside0.mk (blk_below (g := gb141) (o := .cells #[.int .i64 t102, .string t103, .int .i64 t104, .int .i64 t105, .slice Aq138 nq138 cq138, .int .i64 t109, .int .i64 t110, .bool t111, .bool t112, .bool t113, .int .i64 t114, .string t115, .string t116, .string t117, .int .i64 t118, .bool t119, .bool t120, .int .i64 t121, .int .i64 t122, .string t123, .int .i64 t124, .int .i64 t125, .int .i64 t126, .int .i64 t127, .int .i64 t128, .bool t129, .int .u64 t130, .slice Aq139 nq139 cq139, .int .i64 t134, .string t135, .int .i64 t136, .int .i64 t137] 68 (0, 0)) (by (with_reducible repeat (first | refine blk_drewN ?_ _ | refine blk_drew ?_ | refine blk_alloc ?_ _)); exact BK141.out) hb); have n2_ := Aside0.mk (below_step (by repeat (first | (with_reducible first | exact HB.out | apply below_alloc | apply pw_below_drewN | apply below_drew1 | refine below_set ?_ GE101.out | refine below_set ?_ GE141.out) | exact HB.out)) hb); have n3_ := Aside0.mk (hbox); have n4_ := Aside0.mk ((by rw [hg]; exact (below_size (by repeat (first | (with_reducible first | exact HB.out | apply below_alloc | apply pw_below_drewN | apply below_drew1 | refine below_set ?_ GE101.out | refine below_set ?_ GE141.out) | exact HB.out))) : w.heap.size ≤ gb181)); have n5_ := Aside0.mk ((by rw [hg]; exact (below_size (by repeat (first | (with_reducible first | exact HB.out | apply below_alloc | apply pw_below_drewN | apply below_drew1 | refine below_set ?_ GE101.out | refine below_set ?_ GE141.out) | exact HB.out))) : w.heap.size ≤ gb181)); have n6_ := Aside0.mk ((by rw [hg]; exact Nat.ne_of_lt (blk_lt (g := gb101) (o := .cells #[.slice A0_0 l0_0.length c0_0, .slice A0_1 l0_1.length c0_1, .slice A0_2 l0_2.length c0_2, .slice A0_3 l0_3.length c0_3] 59 (0, 0)) (by (with_reducible repeat (first | refine blk_drewN ?_ _ | refine blk_drew ?_ | refine blk_alloc ?_ _)); exact BK101.out)) : gb101 ≠ gb181)); have n7_ := Aside0.mk ((by rw [hg]; exact Nat.ne_of_gt (blk_lt (g := gb101) (o := .cells #[.slice A0_0 l0_0.length c0_0, .slice A0_1 l0_1.length c0_1, .slice A0_2 l0_2.length c0_2, .slice A0_3 l0_3.length c0_3] 59 (0, 0)) (by (with_reducible repeat (first | refine blk_drewN ?_ _ | refine blk_drew ?_ | refine blk_alloc ?_ _)); exact BK101.out)) : gb181 ≠ gb101)); have n8_ := Aside0.mk ((by rw [hg]; exact Nat.ne_of_lt (blk_lt (g := gb141) (o := .cells #[.int .i64 t102, .string t103, .int .i64 t104, .int .i64 t105, .slice Aq138 nq138 cq138, .int .i64 t109, .int .i64 t110, .bool t111, .bool t112, .bool t113, .int .i64 t114, .string t115, .string t116, .string t117, .int .i64 t118, .bool t119, .bool t120, .int .i64 t121, .int .i64 t122, .string t123, .int .i64 t124, .int .i64 t125, .int .i64 t126, .int .i64 t127, .int .i64 t128, .bool t129, .int .u64 t130, .slice Aq139 nq139 cq139, .int .i64 t134, .string t135, .int .i64 t136, .int .i64 t137] 68 (0, 0)) (by (with_reducible repeat (first | refine blk_drewN ?_ _ | refine blk_drew ?_ | refine blk_alloc ?_ _)); exact BK141.out)) : gb141 ≠ gb181)); have n9_ := Aside0.mk ((by rw [hg]; exact Nat.ne_of_gt (blk_lt (g := gb141) (o := .cells #[.int .i64 t102, .string t103, .int .i64 t104, .int .i64 t105, .slice Aq138 nq138 cq138, .int .i64 t109, .int .i64 t110, .bool t111, .bool t112, .bool t113, .int .i64 t114, .string t115, .string t116, .string t117, .int .i64 t118, .bool t119, .bool t120, .int .i64 t121, .int .i64 t122, .string t123, .int .i64 t124, .int .i64 t125, .int .i64 t126, .int .i64 t127, .int .i64 t128, .bool t129, .int .u64 t130, .slice Aq139 nq139 cq139, .int .i64 t134, .string t135, .int .i64 t136, .int .i64 t137] 68 (0, 0)) (by (with_reducible repeat (first | refine blk_drewN ?_ _ | refine blk_drew ?_ | refine blk_alloc ?_ _)); exact BK141.out)) : gb181 ≠ gb141)); clear BK101; clear BK141; clear HB; have BK101 := n0_; have BK141 := n1_; have HB := n2_; have BK181 := n3_; have GW181 := n4_; have GE181 := n5_; have NB101_181 := n6_; have NB181_101 := n7_; have NB141_181 := n8_; have NB181_141 := n9_; clear n0_ n1_ n2_ n3_ n4_ n5_ n6_ n7_ n8_ n9_; clear hb hbox hg; have hnb17 := NB181_101.out; have hnc17 := NB101_181.out; have hnb18 := NB181_141.out; have hnc18 := NB141_181.out; have hcz19_0 : w16.cell? ⟨gb181, 0, none⟩ = some (.int .i64 0) := (blk_cell BK181.out 0).trans rfl; have hcz19_1 : w16.cell? ⟨gb181, 1, none⟩ = some (.string (⟨#[]⟩ : ByteArray)) := (blk_cell BK181.out 1).trans rfl; have hcz19_2 : w16.cell? ⟨gb181, 2, none⟩ = some (.int .i64 0) := (blk_cell BK181.out 2).trans rfl; have hcz19_3 : w16.cell? ⟨gb181, 3, none⟩ = some (.int .i64 0) := (blk_cell BK181.out 3).trans rfl; have hcz19_4 : w16.cell? ⟨gb181, 4, none⟩ = some (.slice none 0 0) := (blk_cell BK181.out 4).trans rfl; have hcz19_5 : w16.cell? ⟨gb181, 5, none⟩ = some (.int .i64 0) := (blk_cell BK181.out 5).trans rfl; have hcz19_6 : w16.cell? ⟨gb181, 6, none⟩ = some (.int .i64 0) := (blk_cell BK181.out 6).trans rfl; have hcz19_7 : w16.cell? ⟨gb181, 7, none⟩ = some (.bool false) := (blk_cell BK181.out 7).trans rfl; have hcz19_8 : w16.cell? ⟨gb181, 8, none⟩ = some (.bool false) := (blk_cell BK181.out 8).trans rfl; have hcz19_9 : w16.cell? ⟨gb181, 9, none⟩ = some (.bool false) := (blk_cell BK181.out 9).trans rfl; have hcz19_10 : w16.cell? ⟨gb181, 10, none⟩ = some (.int .i64 0) := (blk_cell BK181.out 10).trans rfl; have hcz19_11 : w16.cell? ⟨gb181, 11, none⟩ = some (.string (⟨#[]⟩ : ByteArray)) := (blk_cell BK181.out 11).trans rfl; have hcz19_12 : w16.cell? ⟨gb181, 12, none⟩ = some (.string (⟨#[]⟩ : ByteArray)) := (blk_cell BK181.out 12).trans rfl; have hcz19_13 : w16.cell? ⟨gb181, 13, none⟩ = some (.string (⟨#[]⟩ : ByteArray)) := (blk_cell BK181.out 13).trans rfl; have hcz19_14 : w16.cell? ⟨gb181, 14, none⟩ = some (.int .i64 0) := (blk_cell BK181.out 14).trans rfl; have hcz19_15 : w16.cell? ⟨gb181, 15, none⟩ = some (.bool false) := (blk_cell BK181.out 15).trans rfl; have hcz19_16 : w16.cell? ⟨gb181, 16, none⟩ = some (.bool false) := (blk_cell BK181.out 16).trans rfl; have hcz19_17 : w16.cell? ⟨gb181, 17, none⟩ = some (.int .i64 0) := (blk_cell BK181.out 17).trans rfl; have hcz19_18 : w16.cell? ⟨gb181, 18, none⟩ = some (.int .i64 0) := (blk_cell BK181.out 18).trans rfl; have hcz19_19 : w16.cell? ⟨gb181, 19, none⟩ = some (.string (⟨#[]⟩ : ByteArray)) := (blk_cell BK181.out 19).trans rfl; have hcz19_20 : w16.cell? ⟨gb181, 20, none⟩ = some (.int .i64 0) := (blk_cell BK181.out 20).trans rfl; have hcz19_21 : w16.cell? ⟨gb181, 21, none⟩ = some (.int .i64 0) := (blk_cell BK181.out 21).trans rfl; have hcz19_22 : w16.cell? ⟨gb181, 22, none⟩ = some (.int .i64 0) := (blk_cell BK181.out 22).trans rfl; have hcz19_23 : w16.cell? ⟨gb181, 23, none⟩ = some (.int .i64 0) := (blk_cell BK181.out 23).trans rfl; have hcz19_24 : w16.cell? ⟨gb181, 24, none⟩ = some (.int .i64 0) := (blk_cell BK181.out 24).trans rfl; have hcz19_25 : w16.cell? ⟨gb181, 25, none⟩ = some (.bool false) := (blk_cell BK181.out 25).trans rfl; have hcz19_26 : w16.cell? ⟨gb181, 26, none⟩ = some (.int .u64 0) := (blk_cell BK181.out 26).trans rfl; have hcz19_27 : w16.cell? ⟨gb181, 27, none⟩ = some (.slice none 0 0) := (blk_cell BK181.out 27).trans rfl; have hcz19_28 : w16.cell? ⟨gb181, 28, none⟩ = some (.int .i64 0) := (blk_cell BK181.out 28).trans rfl; have hcz19_29 : w16.cell? ⟨gb181, 29, none⟩ = some (.string (⟨#[]⟩ : ByteArray)) := (blk_cell BK181.out 29).trans rfl; have hcz19_30 : w16.cell? ⟨gb181, 30, none⟩ = some (.int .i64 0) := (blk_cell BK181.out 30).trans rfl; have hcz19_31 : w16.cell? ⟨gb181, 31, none⟩ = some (.int .i64 0) := (blk_cell BK181.out 31).trans rfl; have hfz19_0 := blk_frozen BK181.out 0; have hfz19_1 := blk_frozen BK181.out 1; have hfz19_2 := blk_frozen BK181.out 2; have hfz19_3 := blk_frozen BK181.out 3; have hfz19_4 := blk_frozen BK181.out 4; have hfz19_5 := blk_frozen BK181.out 5; have hfz19_6 := blk_frozen BK181.out 6; have hfz19_7 := blk_frozen BK181.out 7; have hfz19_8 := blk_frozen BK181.out 8; have hfz19_9 := blk_frozen BK181.out 9; have hfz19_10 := blk_frozen BK181.out 10; have hfz19_11 := blk_frozen BK181.out 11; have hfz19_12 := blk_frozen BK181.out 12; have hfz19_13 := blk_frozen BK181.out 13; have hfz19_14 := blk_frozen BK181.out 14; have hfz19_15 := blk_frozen BK181.out 15; have hfz19_16 := blk_frozen BK181.out 16; have hfz19_17 := blk_frozen BK181.out 17; have hfz19_18 := blk_frozen BK181.out 18; have hfz19_19 := blk_frozen BK181.out 19; have hfz19_20 := blk_frozen BK181.out 20; have hfz19_21 := blk_frozen BK181.out 21; have hfz19_22 := blk_frozen BK181.out 22; have hfz19_23 := blk_frozen BK181.out 23; have hfz19_24 := blk_frozen BK181.out 24; have hfz19_25 := blk_frozen BK181.out 25; have hfz19_26 := blk_frozen BK181.out 26; have hfz19_27 := blk_frozen BK181.out 27; have hfz19_28 := blk_frozen BK181.out 28; have hfz19_29 := blk_frozen BK181.out 29; have hfz19_30 := blk_frozen BK181.out 30; have hfz19_31 := blk_frozen BK181.out 31) | ((with_reducible refine gate_store (t := 68) (p := 9) rfl ?_); refine box_store_event (t := 68) (ty := 68) (p := 9) (x := ?vo_w20) (g := gb181) (cs := #[.int .i64 0, .string (⟨#[]⟩ : ByteArray), .int .i64 0, .int .i64 0, .slice none 0 0, .int .i64 0, .int .i64 0, .bool false, .bool false, .bool false, .int .i64 0, .string (⟨#[]⟩ : ByteArray), .string (⟨#[]⟩ : ByteArray), .string (⟨#[]⟩ : ByteArray), .int .i64 0, .bool false, .bool false, .int .i64 0, .int .i64 0, .string (⟨#[]⟩ : ByteArray), .int .i64 0, .int .i64 0, .int .i64 0, .int .i64 0, .int .i64 0, .bool false, .int .u64 0, .slice none 0 0, .int .i64 0, .string (⟨#[]⟩ : ByteArray), .int .i64 0, .int .i64 0]) (cs' := #[.int .i64 t142, .string t143, .int .i64 t144, .int .i64 t145, .slice Aq178 nq178 cq178, .int .i64 t149, .int .i64 t150, .bool t151, .bool t152, .bool t153, .int .i64 t154, .string t155, .string t156, .string t157, .int .i64 t158, .bool t159, .bool t160, .int .i64 t161, .int .i64 t162, .string t163, .int .i64 t164, .int .i64 t165, .int .i64 t166, .int .i64 t167, .int .i64 t168, .bool t169, .int .u64 t170, .slice Aq179 nq179 cq179, .int .i64 t174, .string t175, .int .i64 t176, .int .i64 t177]) ?hgd ?ho ?hN ?he ?hv ?hi ?hb ?hs ?h1 ?_; (case ho => rfl); (case hgd => rfl); (case hN => rfl); (case he => rfl); (case hv => first | rfl | (simp; done)); (case hi => exact size68); (case hb => (with_reducible repeat (first | refine blk_drewN ?_ _ | refine blk_drew ?_ | refine blk_alloc ?_ _)); exact BK181.out); (case hs => rfl); (case h1 => rfl); intro w20 hbox hg; have n0_ := Aside0.mk (blk_grown (by (with_reducible repeat (first | refine blk_drewN ?_ _ | refine blk_drew ?_ | refine blk_alloc ?_ _)); exact BK101.out) hg (fun e_ => NB101_181.out (Option.some.inj e_))); have n1_ := Aside0.mk (blk_grown (by (with_reducible repeat (first | refine blk_drewN ?_ _ | refine blk_drew ?_ | refine blk_alloc ?_ _)); exact BK141.out) hg (fun e_ => NB141_181.out (Option.some.inj e_))); have n2_ := Aside0.mk (hbox); have n3_ := Aside0.mk (Below.grown (by repeat (first | (with_reducible first | exact HB.out | apply below_alloc | apply pw_below_drewN | apply below_drew1 | refine below_set ?_ GE101.out | refine below_set ?_ GE141.out | refine below_set ?_ GE181.out) | exact HB.out)) hg (below_size (by repeat (first | (with_reducible first | exact HB.out | apply below_alloc | apply pw_below_drewN | apply below_drew1 | refine below_set ?_ GE101.out | refine below_set ?_ GE141.out | refine below_set ?_ GE181.out) | exact HB.out))) (fun k_ e_ => by injection e_ with e_; subst e_; exact GE181.out)); clear BK101; clear BK141; clear BK181; clear HB; have BK101 := n0_; have BK141 := n1_; have BK181 := n2_; have HB := n3_; clear n0_ n1_ n2_ n3_; clear hbox hg))
  (try simp only [Act.put, List.setIfInBounds_toArray, List.set_cons_zero, List.set_cons_succ])
  go_cut [25] (fun v25 wc => ∃ (kq : Nat) (x25_5 : Bool), v25 = .bool x25_5 ∧ Aside0 (rules_Bind.j0 kq a2 x25_5 l0_0 l0_1 l0_2 l0_3 t102 t103 t104 t105 t109 t110 t111 t112 t113 t114 t115 t116 t117 t118 t119 t120 t121 t122 t123 t124 t125 t126 t127 t128 t129 t130 t134 t135 t136 t137 t142 t143 t144 t145 t149 t150 t151 t152 t153 t154 t155 t156 t157 t158 t159 t160 t161 t162 t163 t164 t165 t166 t167 t168 t169 t170 t174 t175 t176 t177 = some r) ∧ Aside0 (kq ≤ k) ∧ Aside0 (wc.heap[gb101]? = some (.cells #[(.slice A0_0 l0_0.length c0_0), (.slice A0_1 l0_1.length c0_1), (.slice A0_2 l0_2.length c0_2), (.slice A0_3 l0_3.length c0_3)] 59 (0, 0))) ∧ Aside0 (wc.heap[gb141]? = some (.cells #[.int .i64 t102, .string t103, .int .i64 t104, .int .i64 t105, (.slice Aq138 nq138 cq138), .int .i64 t109, .int .i64 t110, .bool t111, .bool t112, .bool t113, .int .i64 t114, .string t115, .string t116, .string t117, .int .i64 t118, .bool t119, .bool t120, .int .i64 t121, .int .i64 t122, .string t123, .int .i64 t124, .int .i64 t125, .int .i64 t126, .int .i64 t127, .int .i64 t128, .bool t129, .int .u64 t130, (.slice Aq139 nq139 cq139), .int .i64 t134, .string t135, .int .i64 t136, .int .i64 t137] 68 (0, 0))) ∧ Aside0 (wc.heap[gb181]? = some (.cells #[.int .i64 t142, .string t143, .int .i64 t144, .int .i64 t145, (.slice Aq178 nq178 cq178), .int .i64 t149, .int .i64 t150, .bool t151, .bool t152, .bool t153, .int .i64 t154, .string t155, .string t156, .string t157, .int .i64 t158, .bool t159, .bool t160, .int .i64 t161, .int .i64 t162, .string t163, .int .i64 t164, .int .i64 t165, .int .i64 t166, .int .i64 t167, .int .i64 t168, .bool t169, .int .u64 t170, (.slice Aq179 nq179 cq179), .int .i64 t174, .string t175, .int .i64 t176, .int .i64 t177] 68 (0, 0))) ∧ Aside0 (Below w.heap.size w wc))
  case first =>
    have H := HC6.out
    clear HC6
    by_cases c21 : t140 = true
    · subst c21
      have H1 : (if t180 = true then (rules_Bind.j0 k a2 (a2.toList == ([] : List UInt8)) l0_0 l0_1 l0_2 l0_3 t102 t103 t104 t105 t109 t110 t111 t112 t113 t114 t115 t116 t117 t118 t119 t120 t121 t122 t123 t124 t125 t126 t127 t128 t129 t130 t134 t135 t136 t137 t142 t143 t144 t145 t149 t150 t151 t152 t153 t154 t155 t156 t157 t158 t159 t160 t161 t162 t163 t164 t165 t166 t167 t168 t169 t170 t174 t175 t176 t177) else (rules_Bind.j0 k a2 true l0_0 l0_1 l0_2 l0_3 t102 t103 t104 t105 t109 t110 t111 t112 t113 t114 t115 t116 t117 t118 t119 t120 t121 t122 t123 t124 t125 t126 t127 t128 t129 t130 t134 t135 t136 t137 t142 t143 t144 t145 t149 t150 t151 t152 t153 t154 t155 t156 t157 t158 t159 t160 t161 t162 t163 t164 t165 t166 t167 t168 t169 t170 t174 t175 t176 t177)) = some r := by rw [if_pos rfl] at H; exact H
      clear H
      have H := H1
      clear H1
      by_cases c22 : t180 = true
      · subst c22
        have H1 : (rules_Bind.j0 k a2 (a2.toList == ([] : List UInt8)) l0_0 l0_1 l0_2 l0_3 t102 t103 t104 t105 t109 t110 t111 t112 t113 t114 t115 t116 t117 t118 t119 t120 t121 t122 t123 t124 t125 t126 t127 t128 t129 t130 t134 t135 t136 t137 t142 t143 t144 t145 t149 t150 t151 t152 t153 t154 t155 t156 t157 t158 t159 t160 t161 t162 t163 t164 t165 t166 t167 t168 t169 t170 t174 t175 t176 t177) = some r := by rw [if_pos rfl] at H; exact H
        clear H
        have H := H1
        clear H1
        have H' := Aside0.mk H
        clear H
        go_wp2
        go_meet
        case rel => exact ⟨_, ((a2.toList == ([] : List UInt8))), (by first | rfl | (simp; done) | (simp [*]; done)), H', ⟨by first | omega | exact Nat.le_refl _⟩, ⟨by (with_reducible repeat (first | refine blk_drewN ?_ _ | refine blk_drew ?_ | refine blk_alloc ?_ _)); exact BK101.out⟩, ⟨by (with_reducible repeat (first | refine blk_drewN ?_ _ | refine blk_drew ?_ | refine blk_alloc ?_ _)); exact BK141.out⟩, ⟨by (with_reducible repeat (first | refine blk_drewN ?_ _ | refine blk_drew ?_ | refine blk_alloc ?_ _)); exact BK181.out⟩, ⟨by repeat (first | (with_reducible first | exact HB.out | apply below_alloc | apply pw_below_drewN | apply below_drew1 | refine below_set ?_ GE101.out | refine below_set ?_ GE141.out | refine below_set ?_ GE181.out) | exact HB.out)⟩⟩
      · replace c22 := Bool.eq_false_iff.mpr c22
        subst c22
        have H1 : (rules_Bind.j0 k a2 true l0_0 l0_1 l0_2 l0_3 t102 t103 t104 t105 t109 t110 t111 t112 t113 t114 t115 t116 t117 t118 t119 t120 t121 t122 t123 t124 t125 t126 t127 t128 t129 t130 t134 t135 t136 t137 t142 t143 t144 t145 t149 t150 t151 t152 t153 t154 t155 t156 t157 t158 t159 t160 t161 t162 t163 t164 t165 t166 t167 t168 t169 t170 t174 t175 t176 t177) = some r := by rw [if_neg (show ¬ (false = true) by decide)] at H; exact H
        clear H
        have H := H1
        clear H1
        have H' := Aside0.mk H
        clear H
        go_wp2
        go_meet
        case rel => exact ⟨_, (true), (by first | rfl | (simp; done) | (simp [*]; done)), H', ⟨by first | omega | exact Nat.le_refl _⟩, ⟨by (with_reducible repeat (first | refine blk_drewN ?_ _ | refine blk_drew ?_ | refine blk_alloc ?_ _)); exact BK101.out⟩, ⟨by (with_reducible repeat (first | refine blk_drewN ?_ _ | refine blk_drew ?_ | refine blk_alloc ?_ _)); exact BK141.out⟩, ⟨by (with_reducible repeat (first | refine blk_drewN ?_ _ | refine blk_drew ?_ | refine blk_alloc ?_ _)); exact BK181.out⟩, ⟨by repeat (first | (with_reducible first | exact HB.out | apply below_alloc | apply pw_below_drewN | apply below_drew1 | refine below_set ?_ GE101.out | refine below_set ?_ GE141.out | refine below_set ?_ GE181.out) | exact HB.out)⟩⟩
    · replace c21 := Bool.eq_false_iff.mpr c21
      subst c21
      have H1 : (rules_Bind.j0 k a2 true l0_0 l0_1 l0_2 l0_3 t102 t103 t104 t105 t109 t110 t111 t112 t113 t114 t115 t116 t117 t118 t119 t120 t121 t122 t123 t124 t125 t126 t127 t128 t129 t130 t134 t135 t136 t137 t142 t143 t144 t145 t149 t150 t151 t152 t153 t154 t155 t156 t157 t158 t159 t160 t161 t162 t163 t164 t165 t166 t167 t168 t169 t170 t174 t175 t176 t177) = some r := by rw [if_neg (show ¬ (false = true) by decide)] at H; exact H
      clear H
      have H := H1
      clear H1
      have H' := Aside0.mk H
      clear H
      go_wp2
      go_meet
      case rel => exact ⟨_, (true), (by first | rfl | (simp; done) | (simp [*]; done)), H', ⟨by first | omega | exact Nat.le_refl _⟩, ⟨by (with_reducible repeat (first | refine blk_drewN ?_ _ | refine blk_drew ?_ | refine blk_alloc ?_ _)); exact BK101.out⟩, ⟨by (with_reducible repeat (first | refine blk_drewN ?_ _ | refine blk_drew ?_ | refine blk_alloc ?_ _)); exact BK141.out⟩, ⟨by (with_reducible repeat (first | refine blk_drewN ?_ _ | refine blk_drew ?_ | refine blk_alloc ?_ _)); exact BK181.out⟩, ⟨by repeat (first | (with_reducible first | exact HB.out | apply below_alloc | apply pw_below_drewN | apply below_drew1 | refine below_set ?_ GE101.out | refine below_set ?_ GE141.out | refine below_set ?_ GE181.out) | exact HB.out)⟩⟩
  case rest =>
    clear HC6
    try clear c1
    try clear q1
    try clear c2
    try clear p2
    try clear c5
    try clear c10
    try clear c11
    try clear q13
    try clear c17
    try clear q17
    try clear c18
    try clear c21
    try clear c22
    try clear hcz12_0
    try clear hcz12_1
    try clear hcz12_10
    try clear hcz12_11
    try clear hcz12_12
    try clear hcz12_13
    try clear hcz12_14
    try clear hcz12_15
    try clear hcz12_16
    try clear hcz12_17
    try clear hcz12_18
    try clear hcz12_19
    try clear hcz12_2
    try clear hcz12_20
    try clear hcz12_21
    try clear hcz12_22
    try clear hcz12_23
    try clear hcz12_24
    try clear hcz12_25
    try clear hcz12_26
    try clear hcz12_27
    try clear hcz12_28
    try clear hcz12_29
    try clear hcz12_3
    try clear hcz12_30
    try clear hcz12_31
    try clear hcz12_4
    try clear hcz12_5
    try clear hcz12_6
    try clear hcz12_7
    try clear hcz12_8
    try clear hcz12_9
    try clear hcz14_0
    try clear hcz14_1
    try clear hcz14_2
    try clear hcz14_3
    try clear hcz19_0
    try clear hcz19_1
    try clear hcz19_10
    try clear hcz19_11
    try clear hcz19_12
    try clear hcz19_13
    try clear hcz19_14
    try clear hcz19_15
    try clear hcz19_16
    try clear hcz19_17
    try clear hcz19_18
    try clear hcz19_19
    try clear hcz19_2
    try clear hcz19_20
    try clear hcz19_21
    try clear hcz19_22
    try clear hcz19_23
    try clear hcz19_24
    try clear hcz19_25
    try clear hcz19_26
    try clear hcz19_27
    try clear hcz19_28
    try clear hcz19_29
    try clear hcz19_3
    try clear hcz19_30
    try clear hcz19_31
    try clear hcz19_4
    try clear hcz19_5
    try clear hcz19_6
    try clear hcz19_7
    try clear hcz19_8
    try clear hcz19_9
    try clear hcz8_0
    try clear hcz8_1
    try clear hcz8_2
    try clear hcz8_3
    try clear hfz12_0
    try clear hfz12_1
    try clear hfz12_10
    try clear hfz12_11
    try clear hfz12_12
    try clear hfz12_13
    try clear hfz12_14
    try clear hfz12_15
    try clear hfz12_16
    try clear hfz12_17
    try clear hfz12_18
    try clear hfz12_19
    try clear hfz12_2
    try clear hfz12_20
    try clear hfz12_21
    try clear hfz12_22
    try clear hfz12_23
    try clear hfz12_24
    try clear hfz12_25
    try clear hfz12_26
    try clear hfz12_27
    try clear hfz12_28
    try clear hfz12_29
    try clear hfz12_3
    try clear hfz12_30
    try clear hfz12_31
    try clear hfz12_4
    try clear hfz12_5
    try clear hfz12_6
    try clear hfz12_7
    try clear hfz12_8
    try clear hfz12_9
    try clear hfz14_0
    try clear hfz14_1
    try clear hfz14_2
    try clear hfz14_3
    try clear hfz19_0
    try clear hfz19_1
    try clear hfz19_10
    try clear hfz19_11
    try clear hfz19_12
    try clear hfz19_13
    try clear hfz19_14
    try clear hfz19_15
    try clear hfz19_16
    try clear hfz19_17
    try clear hfz19_18
    try clear hfz19_19
    try clear hfz19_2
    try clear hfz19_20
    try clear hfz19_21
    try clear hfz19_22
    try clear hfz19_23
    try clear hfz19_24
    try clear hfz19_25
    try clear hfz19_26
    try clear hfz19_27
    try clear hfz19_28
    try clear hfz19_29
    try clear hfz19_3
    try clear hfz19_30
    try clear hfz19_31
    try clear hfz19_4
    try clear hfz19_5
    try clear hfz19_6
    try clear hfz19_7
    try clear hfz19_8
    try clear hfz19_9
    try clear hfz8_0
    try clear hfz8_1
    try clear hfz8_2
    try clear hfz8_3
    obtain ⟨kq, x25_5, rfl, HA, HJ5, BK101, BK141, BK181, HB⟩ := hcut
    cases kq with
    | zero => exact absurd HA.out (by simp [rules_Bind.j0])
    | succ kj5 =>
      have H := HA.out
      clear HA
      simp only [rules_Bind.j0] at H
      by_cases c23 : x25_5 = true
      · subst c23
        have H1 : (some (some 10)) = some r := by rw [if_pos rfl] at H; exact H
        clear H
        have H := H1
        clear H1
        obtain rfl := Option.some.inj H
        go_wp2
        go_ret
        exact ⟨by first | rfl | (simp [errW_none, errW_some] <;> rfl) | (simp [*, errW_none, errW_some] <;> rfl), by repeat (first | (with_reducible first | exact HB.out | apply below_alloc | apply pw_below_drewN | apply below_drew1 | refine below_set ?_ GE101.out | refine below_set ?_ GE141.out | refine below_set ?_ GE181.out) | exact HB.out)⟩
      · replace c23 := Bool.eq_false_iff.mpr c23
        subst c23
        have H1 : (if t120 = true then (some (some 27)) else (if t117.toList = ([] : List UInt8) then (if t153 = true then (some (some 25)) else (if t151 = true then (some (some 24)) else ((rules_Used.f kj5 l0_0 l0_1 l0_2 l0_3 a2).bind fun bt182 => ((rules_both.f bt182.1 bt182.2 t121 t122).bind fun bt184 => ((amount_Fits.f bt184.1 bt184.2 t149 t150).bind fun t186 => (if t186 = true then (some none) else (some (some 23)))))))) else (some (some 26)))) = some r := by rw [if_neg (show ¬ (false = true) by decide)] at H; exact H
        clear H
        have H := H1
        clear H1
        by_cases c24 : t120 = true
        · subst c24
          have H1 : (some (some 27)) = some r := by rw [if_pos rfl] at H; exact H
          clear H
          have H := H1
          clear H1
          obtain rfl := Option.some.inj H
          have hnb25 := NB141_101.out
          have hnc25 := NB101_141.out
          have hnb26 := NB141_181.out
          have hnc26 := NB181_141.out
          have hcz27_0 : wc.cell? ⟨gb141, 0, none⟩ = some (.int .i64 t102) := (blk_cell BK141.out 0).trans rfl
          have hcz27_1 : wc.cell? ⟨gb141, 1, none⟩ = some (.string t103) := (blk_cell BK141.out 1).trans rfl
          have hcz27_2 : wc.cell? ⟨gb141, 2, none⟩ = some (.int .i64 t104) := (blk_cell BK141.out 2).trans rfl
          have hcz27_3 : wc.cell? ⟨gb141, 3, none⟩ = some (.int .i64 t105) := (blk_cell BK141.out 3).trans rfl
          have hcz27_4 : wc.cell? ⟨gb141, 4, none⟩ = some (.slice Aq138 nq138 cq138) := (blk_cell BK141.out 4).trans rfl
          have hcz27_5 : wc.cell? ⟨gb141, 5, none⟩ = some (.int .i64 t109) := (blk_cell BK141.out 5).trans rfl
          have hcz27_6 : wc.cell? ⟨gb141, 6, none⟩ = some (.int .i64 t110) := (blk_cell BK141.out 6).trans rfl
          have hcz27_7 : wc.cell? ⟨gb141, 7, none⟩ = some (.bool t111) := (blk_cell BK141.out 7).trans rfl
          have hcz27_8 : wc.cell? ⟨gb141, 8, none⟩ = some (.bool t112) := (blk_cell BK141.out 8).trans rfl
          have hcz27_9 : wc.cell? ⟨gb141, 9, none⟩ = some (.bool t113) := (blk_cell BK141.out 9).trans rfl
          have hcz27_10 : wc.cell? ⟨gb141, 10, none⟩ = some (.int .i64 t114) := (blk_cell BK141.out 10).trans rfl
          have hcz27_11 : wc.cell? ⟨gb141, 11, none⟩ = some (.string t115) := (blk_cell BK141.out 11).trans rfl
          have hcz27_12 : wc.cell? ⟨gb141, 12, none⟩ = some (.string t116) := (blk_cell BK141.out 12).trans rfl
          have hcz27_13 : wc.cell? ⟨gb141, 13, none⟩ = some (.string t117) := (blk_cell BK141.out 13).trans rfl
          have hcz27_14 : wc.cell? ⟨gb141, 14, none⟩ = some (.int .i64 t118) := (blk_cell BK141.out 14).trans rfl
          have hcz27_15 : wc.cell? ⟨gb141, 15, none⟩ = some (.bool t119) := (blk_cell BK141.out 15).trans rfl
          have hcz27_16 : wc.cell? ⟨gb141, 16, none⟩ = some (.bool true) := (blk_cell BK141.out 16).trans rfl
          have hcz27_17 : wc.cell? ⟨gb141, 17, none⟩ = some (.int .i64 t121) := (blk_cell BK141.out 17).trans rfl
          have hcz27_18 : wc.cell? ⟨gb141, 18, none⟩ = some (.int .i64 t122) := (blk_cell BK141.out 18).trans rfl
          have hcz27_19 : wc.cell? ⟨gb141, 19, none⟩ = some (.string t123) := (blk_cell BK141.out 19).trans rfl
          have hcz27_20 : wc.cell? ⟨gb141, 20, none⟩ = some (.int .i64 t124) := (blk_cell BK141.out 20).trans rfl
          have hcz27_21 : wc.cell? ⟨gb141, 21, none⟩ = some (.int .i64 t125) := (blk_cell BK141.out 21).trans rfl
          have hcz27_22 : wc.cell? ⟨gb141, 22, none⟩ = some (.int .i64 t126) := (blk_cell BK141.out 22).trans rfl
          have hcz27_23 : wc.cell? ⟨gb141, 23, none⟩ = some (.int .i64 t127) := (blk_cell BK141.out 23).trans rfl
          have hcz27_24 : wc.cell? ⟨gb141, 24, none⟩ = some (.int .i64 t128) := (blk_cell BK141.out 24).trans rfl
          have hcz27_25 : wc.cell? ⟨gb141, 25, none⟩ = some (.bool t129) := (blk_cell BK141.out 25).trans rfl
          have hcz27_26 : wc.cell? ⟨gb141, 26, none⟩ = some (.int .u64 t130) := (blk_cell BK141.out 26).trans rfl
          have hcz27_27 : wc.cell? ⟨gb141, 27, none⟩ = some (.slice Aq139 nq139 cq139) := (blk_cell BK141.out 27).trans rfl
          have hcz27_28 : wc.cell? ⟨gb141, 28, none⟩ = some (.int .i64 t134) := (blk_cell BK141.out 28).trans rfl
          have hcz27_29 : wc.cell? ⟨gb141, 29, none⟩ = some (.string t135) := (blk_cell BK141.out 29).trans rfl
          have hcz27_30 : wc.cell? ⟨gb141, 30, none⟩ = some (.int .i64 t136) := (blk_cell BK141.out 30).trans rfl
          have hcz27_31 : wc.cell? ⟨gb141, 31, none⟩ = some (.int .i64 t137) := (blk_cell BK141.out 31).trans rfl
          have hfz27_0 := blk_frozen BK141.out 0
          have hfz27_1 := blk_frozen BK141.out 1
          have hfz27_2 := blk_frozen BK141.out 2
          have hfz27_3 := blk_frozen BK141.out 3
          have hfz27_4 := blk_frozen BK141.out 4
          have hfz27_5 := blk_frozen BK141.out 5
          have hfz27_6 := blk_frozen BK141.out 6
          have hfz27_7 := blk_frozen BK141.out 7
          have hfz27_8 := blk_frozen BK141.out 8
          have hfz27_9 := blk_frozen BK141.out 9
          have hfz27_10 := blk_frozen BK141.out 10
          have hfz27_11 := blk_frozen BK141.out 11
          have hfz27_12 := blk_frozen BK141.out 12
          have hfz27_13 := blk_frozen BK141.out 13
          have hfz27_14 := blk_frozen BK141.out 14
          have hfz27_15 := blk_frozen BK141.out 15
          have hfz27_16 := blk_frozen BK141.out 16
          have hfz27_17 := blk_frozen BK141.out 17
          have hfz27_18 := blk_frozen BK141.out 18
          have hfz27_19 := blk_frozen BK141.out 19
          have hfz27_20 := blk_frozen BK141.out 20
          have hfz27_21 := blk_frozen BK141.out 21
          have hfz27_22 := blk_frozen BK141.out 22
          have hfz27_23 := blk_frozen BK141.out 23
          have hfz27_24 := blk_frozen BK141.out 24
          have hfz27_25 := blk_frozen BK141.out 25
          have hfz27_26 := blk_frozen BK141.out 26
          have hfz27_27 := blk_frozen BK141.out 27
          have hfz27_28 := blk_frozen BK141.out 28
          have hfz27_29 := blk_frozen BK141.out 29
          have hfz27_30 := blk_frozen BK141.out 30
          have hfz27_31 := blk_frozen BK141.out 31
          go_wp2
          go_ret
          exact ⟨by first | rfl | (simp [errW_none, errW_some] <;> rfl) | (simp [*, errW_none, errW_some] <;> rfl), by repeat (first | (with_reducible first | exact HB.out | apply below_alloc | apply pw_below_drewN | apply below_drew1 | refine below_set ?_ GE101.out | refine below_set ?_ GE141.out | refine below_set ?_ GE181.out) | exact HB.out)⟩
        · replace c24 := Bool.eq_false_iff.mpr c24
          subst c24
          have H1 : (if t117.toList = ([] : List UInt8) then (if t153 = true then (some (some 25)) else (if t151 = true then (some (some 24)) else ((rules_Used.f kj5 l0_0 l0_1 l0_2 l0_3 a2).bind fun bt182 => ((rules_both.f bt182.1 bt182.2 t121 t122).bind fun bt184 => ((amount_Fits.f bt184.1 bt184.2 t149 t150).bind fun t186 => (if t186 = true then (some none) else (some (some 23)))))))) else (some (some 26))) = some r := by rw [if_neg (show ¬ (false = true) by decide)] at H; exact H
          clear H
          have H := H1
          clear H1
          by_cases c28 : t117.toList = ([] : List UInt8)
          · rw [if_pos c28] at H
            have c28b0 : (t117.toList == ([] : List UInt8)) = true := beq_iff_eq.mpr c28
            have c28b1 : (t117.toList != ([] : List UInt8)) = false := bne_eq_false_iff_eq.mpr c28
            clear c28
            by_cases c29 : t153 = true
            · subst c29
              have H1 : (some (some 25)) = some r := by rw [if_pos rfl] at H; exact H
              clear H
              have H := H1
              clear H1
              obtain rfl := Option.some.inj H
              have hnb30 := NB141_101.out
              have hnc30 := NB101_141.out
              have hnb31 := NB141_181.out
              have hnc31 := NB181_141.out
              have hcz32_0 : wc.cell? ⟨gb141, 0, none⟩ = some (.int .i64 t102) := (blk_cell BK141.out 0).trans rfl
              have hcz32_1 : wc.cell? ⟨gb141, 1, none⟩ = some (.string t103) := (blk_cell BK141.out 1).trans rfl
              have hcz32_2 : wc.cell? ⟨gb141, 2, none⟩ = some (.int .i64 t104) := (blk_cell BK141.out 2).trans rfl
              have hcz32_3 : wc.cell? ⟨gb141, 3, none⟩ = some (.int .i64 t105) := (blk_cell BK141.out 3).trans rfl
              have hcz32_4 : wc.cell? ⟨gb141, 4, none⟩ = some (.slice Aq138 nq138 cq138) := (blk_cell BK141.out 4).trans rfl
              have hcz32_5 : wc.cell? ⟨gb141, 5, none⟩ = some (.int .i64 t109) := (blk_cell BK141.out 5).trans rfl
              have hcz32_6 : wc.cell? ⟨gb141, 6, none⟩ = some (.int .i64 t110) := (blk_cell BK141.out 6).trans rfl
              have hcz32_7 : wc.cell? ⟨gb141, 7, none⟩ = some (.bool t111) := (blk_cell BK141.out 7).trans rfl
              have hcz32_8 : wc.cell? ⟨gb141, 8, none⟩ = some (.bool t112) := (blk_cell BK141.out 8).trans rfl
              have hcz32_9 : wc.cell? ⟨gb141, 9, none⟩ = some (.bool t113) := (blk_cell BK141.out 9).trans rfl
              have hcz32_10 : wc.cell? ⟨gb141, 10, none⟩ = some (.int .i64 t114) := (blk_cell BK141.out 10).trans rfl
              have hcz32_11 : wc.cell? ⟨gb141, 11, none⟩ = some (.string t115) := (blk_cell BK141.out 11).trans rfl
              have hcz32_12 : wc.cell? ⟨gb141, 12, none⟩ = some (.string t116) := (blk_cell BK141.out 12).trans rfl
              have hcz32_13 : wc.cell? ⟨gb141, 13, none⟩ = some (.string t117) := (blk_cell BK141.out 13).trans rfl
              have hcz32_14 : wc.cell? ⟨gb141, 14, none⟩ = some (.int .i64 t118) := (blk_cell BK141.out 14).trans rfl
              have hcz32_15 : wc.cell? ⟨gb141, 15, none⟩ = some (.bool t119) := (blk_cell BK141.out 15).trans rfl
              have hcz32_16 : wc.cell? ⟨gb141, 16, none⟩ = some (.bool false) := (blk_cell BK141.out 16).trans rfl
              have hcz32_17 : wc.cell? ⟨gb141, 17, none⟩ = some (.int .i64 t121) := (blk_cell BK141.out 17).trans rfl
              have hcz32_18 : wc.cell? ⟨gb141, 18, none⟩ = some (.int .i64 t122) := (blk_cell BK141.out 18).trans rfl
              have hcz32_19 : wc.cell? ⟨gb141, 19, none⟩ = some (.string t123) := (blk_cell BK141.out 19).trans rfl
              have hcz32_20 : wc.cell? ⟨gb141, 20, none⟩ = some (.int .i64 t124) := (blk_cell BK141.out 20).trans rfl
              have hcz32_21 : wc.cell? ⟨gb141, 21, none⟩ = some (.int .i64 t125) := (blk_cell BK141.out 21).trans rfl
              have hcz32_22 : wc.cell? ⟨gb141, 22, none⟩ = some (.int .i64 t126) := (blk_cell BK141.out 22).trans rfl
              have hcz32_23 : wc.cell? ⟨gb141, 23, none⟩ = some (.int .i64 t127) := (blk_cell BK141.out 23).trans rfl
              have hcz32_24 : wc.cell? ⟨gb141, 24, none⟩ = some (.int .i64 t128) := (blk_cell BK141.out 24).trans rfl
              have hcz32_25 : wc.cell? ⟨gb141, 25, none⟩ = some (.bool t129) := (blk_cell BK141.out 25).trans rfl
              have hcz32_26 : wc.cell? ⟨gb141, 26, none⟩ = some (.int .u64 t130) := (blk_cell BK141.out 26).trans rfl
              have hcz32_27 : wc.cell? ⟨gb141, 27, none⟩ = some (.slice Aq139 nq139 cq139) := (blk_cell BK141.out 27).trans rfl
              have hcz32_28 : wc.cell? ⟨gb141, 28, none⟩ = some (.int .i64 t134) := (blk_cell BK141.out 28).trans rfl
              have hcz32_29 : wc.cell? ⟨gb141, 29, none⟩ = some (.string t135) := (blk_cell BK141.out 29).trans rfl
              have hcz32_30 : wc.cell? ⟨gb141, 30, none⟩ = some (.int .i64 t136) := (blk_cell BK141.out 30).trans rfl
              have hcz32_31 : wc.cell? ⟨gb141, 31, none⟩ = some (.int .i64 t137) := (blk_cell BK141.out 31).trans rfl
              have hfz32_0 := blk_frozen BK141.out 0
              have hfz32_1 := blk_frozen BK141.out 1
              have hfz32_2 := blk_frozen BK141.out 2
              have hfz32_3 := blk_frozen BK141.out 3
              have hfz32_4 := blk_frozen BK141.out 4
              have hfz32_5 := blk_frozen BK141.out 5
              have hfz32_6 := blk_frozen BK141.out 6
              have hfz32_7 := blk_frozen BK141.out 7
              have hfz32_8 := blk_frozen BK141.out 8
              have hfz32_9 := blk_frozen BK141.out 9
              have hfz32_10 := blk_frozen BK141.out 10
              have hfz32_11 := blk_frozen BK141.out 11
              have hfz32_12 := blk_frozen BK141.out 12
              have hfz32_13 := blk_frozen BK141.out 13
              have hfz32_14 := blk_frozen BK141.out 14
              have hfz32_15 := blk_frozen BK141.out 15
              have hfz32_16 := blk_frozen BK141.out 16
              have hfz32_17 := blk_frozen BK141.out 17
              have hfz32_18 := blk_frozen BK141.out 18
              have hfz32_19 := blk_frozen BK141.out 19
              have hfz32_20 := blk_frozen BK141.out 20
              have hfz32_21 := blk_frozen BK141.out 21
              have hfz32_22 := blk_frozen BK141.out 22
              have hfz32_23 := blk_frozen BK141.out 23
              have hfz32_24 := blk_frozen BK141.out 24
              have hfz32_25 := blk_frozen BK141.out 25
              have hfz32_26 := blk_frozen BK141.out 26
              have hfz32_27 := blk_frozen BK141.out 27
              have hfz32_28 := blk_frozen BK141.out 28
              have hfz32_29 := blk_frozen BK141.out 29
              have hfz32_30 := blk_frozen BK141.out 30
              have hfz32_31 := blk_frozen BK141.out 31
              have hnb33 := NB181_101.out
              have hnc33 := NB101_181.out
              have hcz34_0 : wc.cell? ⟨gb181, 0, none⟩ = some (.int .i64 t142) := (blk_cell BK181.out 0).trans rfl
              have hcz34_1 : wc.cell? ⟨gb181, 1, none⟩ = some (.string t143) := (blk_cell BK181.out 1).trans rfl
              have hcz34_2 : wc.cell? ⟨gb181, 2, none⟩ = some (.int .i64 t144) := (blk_cell BK181.out 2).trans rfl
              have hcz34_3 : wc.cell? ⟨gb181, 3, none⟩ = some (.int .i64 t145) := (blk_cell BK181.out 3).trans rfl
              have hcz34_4 : wc.cell? ⟨gb181, 4, none⟩ = some (.slice Aq178 nq178 cq178) := (blk_cell BK181.out 4).trans rfl
              have hcz34_5 : wc.cell? ⟨gb181, 5, none⟩ = some (.int .i64 t149) := (blk_cell BK181.out 5).trans rfl
              have hcz34_6 : wc.cell? ⟨gb181, 6, none⟩ = some (.int .i64 t150) := (blk_cell BK181.out 6).trans rfl
              have hcz34_7 : wc.cell? ⟨gb181, 7, none⟩ = some (.bool t151) := (blk_cell BK181.out 7).trans rfl
              have hcz34_8 : wc.cell? ⟨gb181, 8, none⟩ = some (.bool t152) := (blk_cell BK181.out 8).trans rfl
              have hcz34_9 : wc.cell? ⟨gb181, 9, none⟩ = some (.bool true) := (blk_cell BK181.out 9).trans rfl
              have hcz34_10 : wc.cell? ⟨gb181, 10, none⟩ = some (.int .i64 t154) := (blk_cell BK181.out 10).trans rfl
              have hcz34_11 : wc.cell? ⟨gb181, 11, none⟩ = some (.string t155) := (blk_cell BK181.out 11).trans rfl
              have hcz34_12 : wc.cell? ⟨gb181, 12, none⟩ = some (.string t156) := (blk_cell BK181.out 12).trans rfl
              have hcz34_13 : wc.cell? ⟨gb181, 13, none⟩ = some (.string t157) := (blk_cell BK181.out 13).trans rfl
              have hcz34_14 : wc.cell? ⟨gb181, 14, none⟩ = some (.int .i64 t158) := (blk_cell BK181.out 14).trans rfl
              have hcz34_15 : wc.cell? ⟨gb181, 15, none⟩ = some (.bool t159) := (blk_cell BK181.out 15).trans rfl
              have hcz34_16 : wc.cell? ⟨gb181, 16, none⟩ = some (.bool t160) := (blk_cell BK181.out 16).trans rfl
              have hcz34_17 : wc.cell? ⟨gb181, 17, none⟩ = some (.int .i64 t161) := (blk_cell BK181.out 17).trans rfl
              have hcz34_18 : wc.cell? ⟨gb181, 18, none⟩ = some (.int .i64 t162) := (blk_cell BK181.out 18).trans rfl
              have hcz34_19 : wc.cell? ⟨gb181, 19, none⟩ = some (.string t163) := (blk_cell BK181.out 19).trans rfl
              have hcz34_20 : wc.cell? ⟨gb181, 20, none⟩ = some (.int .i64 t164) := (blk_cell BK181.out 20).trans rfl
              have hcz34_21 : wc.cell? ⟨gb181, 21, none⟩ = some (.int .i64 t165) := (blk_cell BK181.out 21).trans rfl
              have hcz34_22 : wc.cell? ⟨gb181, 22, none⟩ = some (.int .i64 t166) := (blk_cell BK181.out 22).trans rfl
              have hcz34_23 : wc.cell? ⟨gb181, 23, none⟩ = some (.int .i64 t167) := (blk_cell BK181.out 23).trans rfl
              have hcz34_24 : wc.cell? ⟨gb181, 24, none⟩ = some (.int .i64 t168) := (blk_cell BK181.out 24).trans rfl
              have hcz34_25 : wc.cell? ⟨gb181, 25, none⟩ = some (.bool t169) := (blk_cell BK181.out 25).trans rfl
              have hcz34_26 : wc.cell? ⟨gb181, 26, none⟩ = some (.int .u64 t170) := (blk_cell BK181.out 26).trans rfl
              have hcz34_27 : wc.cell? ⟨gb181, 27, none⟩ = some (.slice Aq179 nq179 cq179) := (blk_cell BK181.out 27).trans rfl
              have hcz34_28 : wc.cell? ⟨gb181, 28, none⟩ = some (.int .i64 t174) := (blk_cell BK181.out 28).trans rfl
              have hcz34_29 : wc.cell? ⟨gb181, 29, none⟩ = some (.string t175) := (blk_cell BK181.out 29).trans rfl
              have hcz34_30 : wc.cell? ⟨gb181, 30, none⟩ = some (.int .i64 t176) := (blk_cell BK181.out 30).trans rfl
              have hcz34_31 : wc.cell? ⟨gb181, 31, none⟩ = some (.int .i64 t177) := (blk_cell BK181.out 31).trans rfl
              have hfz34_0 := blk_frozen BK181.out 0
              have hfz34_1 := blk_frozen BK181.out 1
              have hfz34_2 := blk_frozen BK181.out 2
              have hfz34_3 := blk_frozen BK181.out 3
              have hfz34_4 := blk_frozen BK181.out 4
              have hfz34_5 := blk_frozen BK181.out 5
              have hfz34_6 := blk_frozen BK181.out 6
              have hfz34_7 := blk_frozen BK181.out 7
              have hfz34_8 := blk_frozen BK181.out 8
              have hfz34_9 := blk_frozen BK181.out 9
              have hfz34_10 := blk_frozen BK181.out 10
              have hfz34_11 := blk_frozen BK181.out 11
              have hfz34_12 := blk_frozen BK181.out 12
              have hfz34_13 := blk_frozen BK181.out 13
              have hfz34_14 := blk_frozen BK181.out 14
              have hfz34_15 := blk_frozen BK181.out 15
              have hfz34_16 := blk_frozen BK181.out 16
              have hfz34_17 := blk_frozen BK181.out 17
              have hfz34_18 := blk_frozen BK181.out 18
              have hfz34_19 := blk_frozen BK181.out 19
              have hfz34_20 := blk_frozen BK181.out 20
              have hfz34_21 := blk_frozen BK181.out 21
              have hfz34_22 := blk_frozen BK181.out 22
              have hfz34_23 := blk_frozen BK181.out 23
              have hfz34_24 := blk_frozen BK181.out 24
              have hfz34_25 := blk_frozen BK181.out 25
              have hfz34_26 := blk_frozen BK181.out 26
              have hfz34_27 := blk_frozen BK181.out 27
              have hfz34_28 := blk_frozen BK181.out 28
              have hfz34_29 := blk_frozen BK181.out 29
              have hfz34_30 := blk_frozen BK181.out 30
              have hfz34_31 := blk_frozen BK181.out 31
              go_wp2
              go_ret
              exact ⟨by first | rfl | (simp [errW_none, errW_some] <;> rfl) | (simp [*, errW_none, errW_some] <;> rfl), by repeat (first | (with_reducible first | exact HB.out | apply below_alloc | apply pw_below_drewN | apply below_drew1 | refine below_set ?_ GE101.out | refine below_set ?_ GE141.out | refine below_set ?_ GE181.out) | exact HB.out)⟩
            · replace c29 := Bool.eq_false_iff.mpr c29
              subst c29
              have H1 : (if t151 = true then (some (some 24)) else ((rules_Used.f kj5 l0_0 l0_1 l0_2 l0_3 a2).bind fun bt182 => ((rules_both.f bt182.1 bt182.2 t121 t122).bind fun bt184 => ((amount_Fits.f bt184.1 bt184.2 t149 t150).bind fun t186 => (if t186 = true then (some none) else (some (some 23))))))) = some r := by rw [if_neg (show ¬ (false = true) by decide)] at H; exact H
              clear H
              have H := H1
              clear H1
              by_cases c35 : t151 = true
              · subst c35
                have H1 : (some (some 24)) = some r := by rw [if_pos rfl] at H; exact H
                clear H
                have H := H1
                clear H1
                obtain rfl := Option.some.inj H
                have hnb36 := NB141_101.out
                have hnc36 := NB101_141.out
                have hnb37 := NB141_181.out
                have hnc37 := NB181_141.out
                have hcz38_0 : wc.cell? ⟨gb141, 0, none⟩ = some (.int .i64 t102) := (blk_cell BK141.out 0).trans rfl
                have hcz38_1 : wc.cell? ⟨gb141, 1, none⟩ = some (.string t103) := (blk_cell BK141.out 1).trans rfl
                have hcz38_2 : wc.cell? ⟨gb141, 2, none⟩ = some (.int .i64 t104) := (blk_cell BK141.out 2).trans rfl
                have hcz38_3 : wc.cell? ⟨gb141, 3, none⟩ = some (.int .i64 t105) := (blk_cell BK141.out 3).trans rfl
                have hcz38_4 : wc.cell? ⟨gb141, 4, none⟩ = some (.slice Aq138 nq138 cq138) := (blk_cell BK141.out 4).trans rfl
                have hcz38_5 : wc.cell? ⟨gb141, 5, none⟩ = some (.int .i64 t109) := (blk_cell BK141.out 5).trans rfl
                have hcz38_6 : wc.cell? ⟨gb141, 6, none⟩ = some (.int .i64 t110) := (blk_cell BK141.out 6).trans rfl
                have hcz38_7 : wc.cell? ⟨gb141, 7, none⟩ = some (.bool t111) := (blk_cell BK141.out 7).trans rfl
                have hcz38_8 : wc.cell? ⟨gb141, 8, none⟩ = some (.bool t112) := (blk_cell BK141.out 8).trans rfl
                have hcz38_9 : wc.cell? ⟨gb141, 9, none⟩ = some (.bool t113) := (blk_cell BK141.out 9).trans rfl
                have hcz38_10 : wc.cell? ⟨gb141, 10, none⟩ = some (.int .i64 t114) := (blk_cell BK141.out 10).trans rfl
                have hcz38_11 : wc.cell? ⟨gb141, 11, none⟩ = some (.string t115) := (blk_cell BK141.out 11).trans rfl
                have hcz38_12 : wc.cell? ⟨gb141, 12, none⟩ = some (.string t116) := (blk_cell BK141.out 12).trans rfl
                have hcz38_13 : wc.cell? ⟨gb141, 13, none⟩ = some (.string t117) := (blk_cell BK141.out 13).trans rfl
                have hcz38_14 : wc.cell? ⟨gb141, 14, none⟩ = some (.int .i64 t118) := (blk_cell BK141.out 14).trans rfl
                have hcz38_15 : wc.cell? ⟨gb141, 15, none⟩ = some (.bool t119) := (blk_cell BK141.out 15).trans rfl
                have hcz38_16 : wc.cell? ⟨gb141, 16, none⟩ = some (.bool false) := (blk_cell BK141.out 16).trans rfl
                have hcz38_17 : wc.cell? ⟨gb141, 17, none⟩ = some (.int .i64 t121) := (blk_cell BK141.out 17).trans rfl
                have hcz38_18 : wc.cell? ⟨gb141, 18, none⟩ = some (.int .i64 t122) := (blk_cell BK141.out 18).trans rfl
                have hcz38_19 : wc.cell? ⟨gb141, 19, none⟩ = some (.string t123) := (blk_cell BK141.out 19).trans rfl
                have hcz38_20 : wc.cell? ⟨gb141, 20, none⟩ = some (.int .i64 t124) := (blk_cell BK141.out 20).trans rfl
                have hcz38_21 : wc.cell? ⟨gb141, 21, none⟩ = some (.int .i64 t125) := (blk_cell BK141.out 21).trans rfl
                have hcz38_22 : wc.cell? ⟨gb141, 22, none⟩ = some (.int .i64 t126) := (blk_cell BK141.out 22).trans rfl
                have hcz38_23 : wc.cell? ⟨gb141, 23, none⟩ = some (.int .i64 t127) := (blk_cell BK141.out 23).trans rfl
                have hcz38_24 : wc.cell? ⟨gb141, 24, none⟩ = some (.int .i64 t128) := (blk_cell BK141.out 24).trans rfl
                have hcz38_25 : wc.cell? ⟨gb141, 25, none⟩ = some (.bool t129) := (blk_cell BK141.out 25).trans rfl
                have hcz38_26 : wc.cell? ⟨gb141, 26, none⟩ = some (.int .u64 t130) := (blk_cell BK141.out 26).trans rfl
                have hcz38_27 : wc.cell? ⟨gb141, 27, none⟩ = some (.slice Aq139 nq139 cq139) := (blk_cell BK141.out 27).trans rfl
                have hcz38_28 : wc.cell? ⟨gb141, 28, none⟩ = some (.int .i64 t134) := (blk_cell BK141.out 28).trans rfl
                have hcz38_29 : wc.cell? ⟨gb141, 29, none⟩ = some (.string t135) := (blk_cell BK141.out 29).trans rfl
                have hcz38_30 : wc.cell? ⟨gb141, 30, none⟩ = some (.int .i64 t136) := (blk_cell BK141.out 30).trans rfl
                have hcz38_31 : wc.cell? ⟨gb141, 31, none⟩ = some (.int .i64 t137) := (blk_cell BK141.out 31).trans rfl
                have hfz38_0 := blk_frozen BK141.out 0
                have hfz38_1 := blk_frozen BK141.out 1
                have hfz38_2 := blk_frozen BK141.out 2
                have hfz38_3 := blk_frozen BK141.out 3
                have hfz38_4 := blk_frozen BK141.out 4
                have hfz38_5 := blk_frozen BK141.out 5
                have hfz38_6 := blk_frozen BK141.out 6
                have hfz38_7 := blk_frozen BK141.out 7
                have hfz38_8 := blk_frozen BK141.out 8
                have hfz38_9 := blk_frozen BK141.out 9
                have hfz38_10 := blk_frozen BK141.out 10
                have hfz38_11 := blk_frozen BK141.out 11
                have hfz38_12 := blk_frozen BK141.out 12
                have hfz38_13 := blk_frozen BK141.out 13
                have hfz38_14 := blk_frozen BK141.out 14
                have hfz38_15 := blk_frozen BK141.out 15
                have hfz38_16 := blk_frozen BK141.out 16
                have hfz38_17 := blk_frozen BK141.out 17
                have hfz38_18 := blk_frozen BK141.out 18
                have hfz38_19 := blk_frozen BK141.out 19
                have hfz38_20 := blk_frozen BK141.out 20
                have hfz38_21 := blk_frozen BK141.out 21
                have hfz38_22 := blk_frozen BK141.out 22
                have hfz38_23 := blk_frozen BK141.out 23
                have hfz38_24 := blk_frozen BK141.out 24
                have hfz38_25 := blk_frozen BK141.out 25
                have hfz38_26 := blk_frozen BK141.out 26
                have hfz38_27 := blk_frozen BK141.out 27
                have hfz38_28 := blk_frozen BK141.out 28
                have hfz38_29 := blk_frozen BK141.out 29
                have hfz38_30 := blk_frozen BK141.out 30
                have hfz38_31 := blk_frozen BK141.out 31
                have hnb39 := NB181_101.out
                have hnc39 := NB101_181.out
                have hcz40_0 : wc.cell? ⟨gb181, 0, none⟩ = some (.int .i64 t142) := (blk_cell BK181.out 0).trans rfl
                have hcz40_1 : wc.cell? ⟨gb181, 1, none⟩ = some (.string t143) := (blk_cell BK181.out 1).trans rfl
                have hcz40_2 : wc.cell? ⟨gb181, 2, none⟩ = some (.int .i64 t144) := (blk_cell BK181.out 2).trans rfl
                have hcz40_3 : wc.cell? ⟨gb181, 3, none⟩ = some (.int .i64 t145) := (blk_cell BK181.out 3).trans rfl
                have hcz40_4 : wc.cell? ⟨gb181, 4, none⟩ = some (.slice Aq178 nq178 cq178) := (blk_cell BK181.out 4).trans rfl
                have hcz40_5 : wc.cell? ⟨gb181, 5, none⟩ = some (.int .i64 t149) := (blk_cell BK181.out 5).trans rfl
                have hcz40_6 : wc.cell? ⟨gb181, 6, none⟩ = some (.int .i64 t150) := (blk_cell BK181.out 6).trans rfl
                have hcz40_7 : wc.cell? ⟨gb181, 7, none⟩ = some (.bool true) := (blk_cell BK181.out 7).trans rfl
                have hcz40_8 : wc.cell? ⟨gb181, 8, none⟩ = some (.bool t152) := (blk_cell BK181.out 8).trans rfl
                have hcz40_9 : wc.cell? ⟨gb181, 9, none⟩ = some (.bool false) := (blk_cell BK181.out 9).trans rfl
                have hcz40_10 : wc.cell? ⟨gb181, 10, none⟩ = some (.int .i64 t154) := (blk_cell BK181.out 10).trans rfl
                have hcz40_11 : wc.cell? ⟨gb181, 11, none⟩ = some (.string t155) := (blk_cell BK181.out 11).trans rfl
                have hcz40_12 : wc.cell? ⟨gb181, 12, none⟩ = some (.string t156) := (blk_cell BK181.out 12).trans rfl
                have hcz40_13 : wc.cell? ⟨gb181, 13, none⟩ = some (.string t157) := (blk_cell BK181.out 13).trans rfl
                have hcz40_14 : wc.cell? ⟨gb181, 14, none⟩ = some (.int .i64 t158) := (blk_cell BK181.out 14).trans rfl
                have hcz40_15 : wc.cell? ⟨gb181, 15, none⟩ = some (.bool t159) := (blk_cell BK181.out 15).trans rfl
                have hcz40_16 : wc.cell? ⟨gb181, 16, none⟩ = some (.bool t160) := (blk_cell BK181.out 16).trans rfl
                have hcz40_17 : wc.cell? ⟨gb181, 17, none⟩ = some (.int .i64 t161) := (blk_cell BK181.out 17).trans rfl
                have hcz40_18 : wc.cell? ⟨gb181, 18, none⟩ = some (.int .i64 t162) := (blk_cell BK181.out 18).trans rfl
                have hcz40_19 : wc.cell? ⟨gb181, 19, none⟩ = some (.string t163) := (blk_cell BK181.out 19).trans rfl
                have hcz40_20 : wc.cell? ⟨gb181, 20, none⟩ = some (.int .i64 t164) := (blk_cell BK181.out 20).trans rfl
                have hcz40_21 : wc.cell? ⟨gb181, 21, none⟩ = some (.int .i64 t165) := (blk_cell BK181.out 21).trans rfl
                have hcz40_22 : wc.cell? ⟨gb181, 22, none⟩ = some (.int .i64 t166) := (blk_cell BK181.out 22).trans rfl
                have hcz40_23 : wc.cell? ⟨gb181, 23, none⟩ = some (.int .i64 t167) := (blk_cell BK181.out 23).trans rfl
                have hcz40_24 : wc.cell? ⟨gb181, 24, none⟩ = some (.int .i64 t168) := (blk_cell BK181.out 24).trans rfl
                have hcz40_25 : wc.cell? ⟨gb181, 25, none⟩ = some (.bool t169) := (blk_cell BK181.out 25).trans rfl
                have hcz40_26 : wc.cell? ⟨gb181, 26, none⟩ = some (.int .u64 t170) := (blk_cell BK181.out 26).trans rfl
                have hcz40_27 : wc.cell? ⟨gb181, 27, none⟩ = some (.slice Aq179 nq179 cq179) := (blk_cell BK181.out 27).trans rfl
                have hcz40_28 : wc.cell? ⟨gb181, 28, none⟩ = some (.int .i64 t174) := (blk_cell BK181.out 28).trans rfl
                have hcz40_29 : wc.cell? ⟨gb181, 29, none⟩ = some (.string t175) := (blk_cell BK181.out 29).trans rfl
                have hcz40_30 : wc.cell? ⟨gb181, 30, none⟩ = some (.int .i64 t176) := (blk_cell BK181.out 30).trans rfl
                have hcz40_31 : wc.cell? ⟨gb181, 31, none⟩ = some (.int .i64 t177) := (blk_cell BK181.out 31).trans rfl
                have hfz40_0 := blk_frozen BK181.out 0
                have hfz40_1 := blk_frozen BK181.out 1
                have hfz40_2 := blk_frozen BK181.out 2
                have hfz40_3 := blk_frozen BK181.out 3
                have hfz40_4 := blk_frozen BK181.out 4
                have hfz40_5 := blk_frozen BK181.out 5
                have hfz40_6 := blk_frozen BK181.out 6
                have hfz40_7 := blk_frozen BK181.out 7
                have hfz40_8 := blk_frozen BK181.out 8
                have hfz40_9 := blk_frozen BK181.out 9
                have hfz40_10 := blk_frozen BK181.out 10
                have hfz40_11 := blk_frozen BK181.out 11
                have hfz40_12 := blk_frozen BK181.out 12
                have hfz40_13 := blk_frozen BK181.out 13
                have hfz40_14 := blk_frozen BK181.out 14
                have hfz40_15 := blk_frozen BK181.out 15
                have hfz40_16 := blk_frozen BK181.out 16
                have hfz40_17 := blk_frozen BK181.out 17
                have hfz40_18 := blk_frozen BK181.out 18
                have hfz40_19 := blk_frozen BK181.out 19
                have hfz40_20 := blk_frozen BK181.out 20
                have hfz40_21 := blk_frozen BK181.out 21
                have hfz40_22 := blk_frozen BK181.out 22
                have hfz40_23 := blk_frozen BK181.out 23
                have hfz40_24 := blk_frozen BK181.out 24
                have hfz40_25 := blk_frozen BK181.out 25
                have hfz40_26 := blk_frozen BK181.out 26
                have hfz40_27 := blk_frozen BK181.out 27
                have hfz40_28 := blk_frozen BK181.out 28
                have hfz40_29 := blk_frozen BK181.out 29
                have hfz40_30 := blk_frozen BK181.out 30
                have hfz40_31 := blk_frozen BK181.out 31
                go_wp2
                go_ret
                exact ⟨by first | rfl | (simp [errW_none, errW_some] <;> rfl) | (simp [*, errW_none, errW_some] <;> rfl), by repeat (first | (with_reducible first | exact HB.out | apply below_alloc | apply pw_below_drewN | apply below_drew1 | refine below_set ?_ GE101.out | refine below_set ?_ GE141.out | refine below_set ?_ GE181.out) | exact HB.out)⟩
              · replace c35 := Bool.eq_false_iff.mpr c35
                subst c35
                have H1 : ((rules_Used.f kj5 l0_0 l0_1 l0_2 l0_3 a2).bind fun bt182 => ((rules_both.f bt182.1 bt182.2 t121 t122).bind fun bt184 => ((amount_Fits.f bt184.1 bt184.2 t149 t150).bind fun t186 => (if t186 = true then (some none) else (some (some 23)))))) = some r := by rw [if_neg (show ¬ (false = true) by decide)] at H; exact H
                clear H
                have H := H1
                clear H1
                replace H := Option.bind_eq_some_iff.mp H
                obtain ⟨⟨t182, t183⟩, A410, H⟩ := H
                replace H : ((rules_both.f t182 t183 t121 t122).bind fun bt184 => ((amount_Fits.f bt184.1 bt184.2 t149 t150).bind fun t186 => (if t186 = true then (some none) else (some (some 23))))) = some r := H
                have A41 := Aside0.mk A410
                clear A410
                replace H := Option.bind_eq_some_iff.mp H
                obtain ⟨⟨t184, t185⟩, A420, H⟩ := H
                replace H : ((amount_Fits.f t184 t185 t149 t150).bind fun t186 => (if t186 = true then (some none) else (some (some 23)))) = some r := H
                have A42 := Aside0.mk A420
                clear A420
                replace H := Option.bind_eq_some_iff.mp H
                obtain ⟨t186, A430, H⟩ := H
                replace H : (if t186 = true then (some none) else (some (some 23))) = some r := H
                have A43 := Aside0.mk A430
                clear A430
                by_cases c44 : t186 = true
                · subst c44
                  have H1 : (some none) = some r := by rw [if_pos rfl] at H; exact H
                  clear H
                  have H := H1
                  clear H1
                  obtain rfl := Option.some.inj H
                  have hnb45 := NB141_101.out
                  have hnc45 := NB101_141.out
                  have hnb46 := NB141_181.out
                  have hnc46 := NB181_141.out
                  have hcz47_0 : wc.cell? ⟨gb141, 0, none⟩ = some (.int .i64 t102) := (blk_cell BK141.out 0).trans rfl
                  have hcz47_1 : wc.cell? ⟨gb141, 1, none⟩ = some (.string t103) := (blk_cell BK141.out 1).trans rfl
                  have hcz47_2 : wc.cell? ⟨gb141, 2, none⟩ = some (.int .i64 t104) := (blk_cell BK141.out 2).trans rfl
                  have hcz47_3 : wc.cell? ⟨gb141, 3, none⟩ = some (.int .i64 t105) := (blk_cell BK141.out 3).trans rfl
                  have hcz47_4 : wc.cell? ⟨gb141, 4, none⟩ = some (.slice Aq138 nq138 cq138) := (blk_cell BK141.out 4).trans rfl
                  have hcz47_5 : wc.cell? ⟨gb141, 5, none⟩ = some (.int .i64 t109) := (blk_cell BK141.out 5).trans rfl
                  have hcz47_6 : wc.cell? ⟨gb141, 6, none⟩ = some (.int .i64 t110) := (blk_cell BK141.out 6).trans rfl
                  have hcz47_7 : wc.cell? ⟨gb141, 7, none⟩ = some (.bool t111) := (blk_cell BK141.out 7).trans rfl
                  have hcz47_8 : wc.cell? ⟨gb141, 8, none⟩ = some (.bool t112) := (blk_cell BK141.out 8).trans rfl
                  have hcz47_9 : wc.cell? ⟨gb141, 9, none⟩ = some (.bool t113) := (blk_cell BK141.out 9).trans rfl
                  have hcz47_10 : wc.cell? ⟨gb141, 10, none⟩ = some (.int .i64 t114) := (blk_cell BK141.out 10).trans rfl
                  have hcz47_11 : wc.cell? ⟨gb141, 11, none⟩ = some (.string t115) := (blk_cell BK141.out 11).trans rfl
                  have hcz47_12 : wc.cell? ⟨gb141, 12, none⟩ = some (.string t116) := (blk_cell BK141.out 12).trans rfl
                  have hcz47_13 : wc.cell? ⟨gb141, 13, none⟩ = some (.string t117) := (blk_cell BK141.out 13).trans rfl
                  have hcz47_14 : wc.cell? ⟨gb141, 14, none⟩ = some (.int .i64 t118) := (blk_cell BK141.out 14).trans rfl
                  have hcz47_15 : wc.cell? ⟨gb141, 15, none⟩ = some (.bool t119) := (blk_cell BK141.out 15).trans rfl
                  have hcz47_16 : wc.cell? ⟨gb141, 16, none⟩ = some (.bool false) := (blk_cell BK141.out 16).trans rfl
                  have hcz47_17 : wc.cell? ⟨gb141, 17, none⟩ = some (.int .i64 t121) := (blk_cell BK141.out 17).trans rfl
                  have hcz47_18 : wc.cell? ⟨gb141, 18, none⟩ = some (.int .i64 t122) := (blk_cell BK141.out 18).trans rfl
                  have hcz47_19 : wc.cell? ⟨gb141, 19, none⟩ = some (.string t123) := (blk_cell BK141.out 19).trans rfl
                  have hcz47_20 : wc.cell? ⟨gb141, 20, none⟩ = some (.int .i64 t124) := (blk_cell BK141.out 20).trans rfl
                  have hcz47_21 : wc.cell? ⟨gb141, 21, none⟩ = some (.int .i64 t125) := (blk_cell BK141.out 21).trans rfl
                  have hcz47_22 : wc.cell? ⟨gb141, 22, none⟩ = some (.int .i64 t126) := (blk_cell BK141.out 22).trans rfl
                  have hcz47_23 : wc.cell? ⟨gb141, 23, none⟩ = some (.int .i64 t127) := (blk_cell BK141.out 23).trans rfl
                  have hcz47_24 : wc.cell? ⟨gb141, 24, none⟩ = some (.int .i64 t128) := (blk_cell BK141.out 24).trans rfl
                  have hcz47_25 : wc.cell? ⟨gb141, 25, none⟩ = some (.bool t129) := (blk_cell BK141.out 25).trans rfl
                  have hcz47_26 : wc.cell? ⟨gb141, 26, none⟩ = some (.int .u64 t130) := (blk_cell BK141.out 26).trans rfl
                  have hcz47_27 : wc.cell? ⟨gb141, 27, none⟩ = some (.slice Aq139 nq139 cq139) := (blk_cell BK141.out 27).trans rfl
                  have hcz47_28 : wc.cell? ⟨gb141, 28, none⟩ = some (.int .i64 t134) := (blk_cell BK141.out 28).trans rfl
                  have hcz47_29 : wc.cell? ⟨gb141, 29, none⟩ = some (.string t135) := (blk_cell BK141.out 29).trans rfl
                  have hcz47_30 : wc.cell? ⟨gb141, 30, none⟩ = some (.int .i64 t136) := (blk_cell BK141.out 30).trans rfl
                  have hcz47_31 : wc.cell? ⟨gb141, 31, none⟩ = some (.int .i64 t137) := (blk_cell BK141.out 31).trans rfl
                  have hfz47_0 := blk_frozen BK141.out 0
                  have hfz47_1 := blk_frozen BK141.out 1
                  have hfz47_2 := blk_frozen BK141.out 2
                  have hfz47_3 := blk_frozen BK141.out 3
                  have hfz47_4 := blk_frozen BK141.out 4
                  have hfz47_5 := blk_frozen BK141.out 5
                  have hfz47_6 := blk_frozen BK141.out 6
                  have hfz47_7 := blk_frozen BK141.out 7
                  have hfz47_8 := blk_frozen BK141.out 8
                  have hfz47_9 := blk_frozen BK141.out 9
                  have hfz47_10 := blk_frozen BK141.out 10
                  have hfz47_11 := blk_frozen BK141.out 11
                  have hfz47_12 := blk_frozen BK141.out 12
                  have hfz47_13 := blk_frozen BK141.out 13
                  have hfz47_14 := blk_frozen BK141.out 14
                  have hfz47_15 := blk_frozen BK141.out 15
                  have hfz47_16 := blk_frozen BK141.out 16
                  have hfz47_17 := blk_frozen BK141.out 17
                  have hfz47_18 := blk_frozen BK141.out 18
                  have hfz47_19 := blk_frozen BK141.out 19
                  have hfz47_20 := blk_frozen BK141.out 20
                  have hfz47_21 := blk_frozen BK141.out 21
                  have hfz47_22 := blk_frozen BK141.out 22
                  have hfz47_23 := blk_frozen BK141.out 23
                  have hfz47_24 := blk_frozen BK141.out 24
                  have hfz47_25 := blk_frozen BK141.out 25
                  have hfz47_26 := blk_frozen BK141.out 26
                  have hfz47_27 := blk_frozen BK141.out 27
                  have hfz47_28 := blk_frozen BK141.out 28
                  have hfz47_29 := blk_frozen BK141.out 29
                  have hfz47_30 := blk_frozen BK141.out 30
                  have hfz47_31 := blk_frozen BK141.out 31
                  have hnb48 := NB181_101.out
                  have hnc48 := NB101_181.out
                  have hcz49_0 : wc.cell? ⟨gb181, 0, none⟩ = some (.int .i64 t142) := (blk_cell BK181.out 0).trans rfl
                  have hcz49_1 : wc.cell? ⟨gb181, 1, none⟩ = some (.string t143) := (blk_cell BK181.out 1).trans rfl
                  have hcz49_2 : wc.cell? ⟨gb181, 2, none⟩ = some (.int .i64 t144) := (blk_cell BK181.out 2).trans rfl
                  have hcz49_3 : wc.cell? ⟨gb181, 3, none⟩ = some (.int .i64 t145) := (blk_cell BK181.out 3).trans rfl
                  have hcz49_4 : wc.cell? ⟨gb181, 4, none⟩ = some (.slice Aq178 nq178 cq178) := (blk_cell BK181.out 4).trans rfl
                  have hcz49_5 : wc.cell? ⟨gb181, 5, none⟩ = some (.int .i64 t149) := (blk_cell BK181.out 5).trans rfl
                  have hcz49_6 : wc.cell? ⟨gb181, 6, none⟩ = some (.int .i64 t150) := (blk_cell BK181.out 6).trans rfl
                  have hcz49_7 : wc.cell? ⟨gb181, 7, none⟩ = some (.bool false) := (blk_cell BK181.out 7).trans rfl
                  have hcz49_8 : wc.cell? ⟨gb181, 8, none⟩ = some (.bool t152) := (blk_cell BK181.out 8).trans rfl
                  have hcz49_9 : wc.cell? ⟨gb181, 9, none⟩ = some (.bool false) := (blk_cell BK181.out 9).trans rfl
                  have hcz49_10 : wc.cell? ⟨gb181, 10, none⟩ = some (.int .i64 t154) := (blk_cell BK181.out 10).trans rfl
                  have hcz49_11 : wc.cell? ⟨gb181, 11, none⟩ = some (.string t155) := (blk_cell BK181.out 11).trans rfl
                  have hcz49_12 : wc.cell? ⟨gb181, 12, none⟩ = some (.string t156) := (blk_cell BK181.out 12).trans rfl
                  have hcz49_13 : wc.cell? ⟨gb181, 13, none⟩ = some (.string t157) := (blk_cell BK181.out 13).trans rfl
                  have hcz49_14 : wc.cell? ⟨gb181, 14, none⟩ = some (.int .i64 t158) := (blk_cell BK181.out 14).trans rfl
                  have hcz49_15 : wc.cell? ⟨gb181, 15, none⟩ = some (.bool t159) := (blk_cell BK181.out 15).trans rfl
                  have hcz49_16 : wc.cell? ⟨gb181, 16, none⟩ = some (.bool t160) := (blk_cell BK181.out 16).trans rfl
                  have hcz49_17 : wc.cell? ⟨gb181, 17, none⟩ = some (.int .i64 t161) := (blk_cell BK181.out 17).trans rfl
                  have hcz49_18 : wc.cell? ⟨gb181, 18, none⟩ = some (.int .i64 t162) := (blk_cell BK181.out 18).trans rfl
                  have hcz49_19 : wc.cell? ⟨gb181, 19, none⟩ = some (.string t163) := (blk_cell BK181.out 19).trans rfl
                  have hcz49_20 : wc.cell? ⟨gb181, 20, none⟩ = some (.int .i64 t164) := (blk_cell BK181.out 20).trans rfl
                  have hcz49_21 : wc.cell? ⟨gb181, 21, none⟩ = some (.int .i64 t165) := (blk_cell BK181.out 21).trans rfl
                  have hcz49_22 : wc.cell? ⟨gb181, 22, none⟩ = some (.int .i64 t166) := (blk_cell BK181.out 22).trans rfl
                  have hcz49_23 : wc.cell? ⟨gb181, 23, none⟩ = some (.int .i64 t167) := (blk_cell BK181.out 23).trans rfl
                  have hcz49_24 : wc.cell? ⟨gb181, 24, none⟩ = some (.int .i64 t168) := (blk_cell BK181.out 24).trans rfl
                  have hcz49_25 : wc.cell? ⟨gb181, 25, none⟩ = some (.bool t169) := (blk_cell BK181.out 25).trans rfl
                  have hcz49_26 : wc.cell? ⟨gb181, 26, none⟩ = some (.int .u64 t170) := (blk_cell BK181.out 26).trans rfl
                  have hcz49_27 : wc.cell? ⟨gb181, 27, none⟩ = some (.slice Aq179 nq179 cq179) := (blk_cell BK181.out 27).trans rfl
                  have hcz49_28 : wc.cell? ⟨gb181, 28, none⟩ = some (.int .i64 t174) := (blk_cell BK181.out 28).trans rfl
                  have hcz49_29 : wc.cell? ⟨gb181, 29, none⟩ = some (.string t175) := (blk_cell BK181.out 29).trans rfl
                  have hcz49_30 : wc.cell? ⟨gb181, 30, none⟩ = some (.int .i64 t176) := (blk_cell BK181.out 30).trans rfl
                  have hcz49_31 : wc.cell? ⟨gb181, 31, none⟩ = some (.int .i64 t177) := (blk_cell BK181.out 31).trans rfl
                  have hfz49_0 := blk_frozen BK181.out 0
                  have hfz49_1 := blk_frozen BK181.out 1
                  have hfz49_2 := blk_frozen BK181.out 2
                  have hfz49_3 := blk_frozen BK181.out 3
                  have hfz49_4 := blk_frozen BK181.out 4
                  have hfz49_5 := blk_frozen BK181.out 5
                  have hfz49_6 := blk_frozen BK181.out 6
                  have hfz49_7 := blk_frozen BK181.out 7
                  have hfz49_8 := blk_frozen BK181.out 8
                  have hfz49_9 := blk_frozen BK181.out 9
                  have hfz49_10 := blk_frozen BK181.out 10
                  have hfz49_11 := blk_frozen BK181.out 11
                  have hfz49_12 := blk_frozen BK181.out 12
                  have hfz49_13 := blk_frozen BK181.out 13
                  have hfz49_14 := blk_frozen BK181.out 14
                  have hfz49_15 := blk_frozen BK181.out 15
                  have hfz49_16 := blk_frozen BK181.out 16
                  have hfz49_17 := blk_frozen BK181.out 17
                  have hfz49_18 := blk_frozen BK181.out 18
                  have hfz49_19 := blk_frozen BK181.out 19
                  have hfz49_20 := blk_frozen BK181.out 20
                  have hfz49_21 := blk_frozen BK181.out 21
                  have hfz49_22 := blk_frozen BK181.out 22
                  have hfz49_23 := blk_frozen BK181.out 23
                  have hfz49_24 := blk_frozen BK181.out 24
                  have hfz49_25 := blk_frozen BK181.out 25
                  have hfz49_26 := blk_frozen BK181.out 26
                  have hfz49_27 := blk_frozen BK181.out 27
                  have hfz49_28 := blk_frozen BK181.out 28
                  have hfz49_29 := blk_frozen BK181.out 29
                  have hfz49_30 := blk_frozen BK181.out 30
                  have hfz49_31 := blk_frozen BK181.out 31
                  try go_wp2
                  have n0_ := Aside0.mk (blk_drew BK101.out)
                  have n1_ := Aside0.mk (blk_drew BK141.out)
                  have n2_ := Aside0.mk (blk_drew BK181.out)
                  have n3_ := Aside0.mk (below_drew1 HB.out)
                  clear BK101
                  clear BK141
                  clear BK181
                  clear HB
                  have BK101 := n0_
                  have BK141 := n1_
                  have BK181 := n2_
                  have HB := n3_
                  clear n0_ n1_ n2_ n3_
                  refine start_ (n := 11) (S := fun w' => w'.cell? ⟨gb101, 0, none⟩ = some (.slice A0_0 l0_0.length c0_0) ∧ w'.cell? ⟨gb101, 1, none⟩ = some (.slice A0_1 l0_1.length c0_1) ∧ w'.cell? ⟨gb101, 2, none⟩ = some (.slice A0_2 l0_2.length c0_2) ∧ w'.cell? ⟨gb101, 3, none⟩ = some (.slice A0_3 l0_3.length c0_3) ∧ w'.cell? ⟨gb141, 0, none⟩ = some (.int .i64 t102) ∧ w'.cell? ⟨gb141, 1, none⟩ = some (.string t103) ∧ w'.cell? ⟨gb141, 2, none⟩ = some (.int .i64 t104) ∧ w'.cell? ⟨gb141, 3, none⟩ = some (.int .i64 t105) ∧ w'.cell? ⟨gb141, 4, none⟩ = some (.slice Aq138 nq138 cq138) ∧ w'.cell? ⟨gb141, 5, none⟩ = some (.int .i64 t109) ∧ w'.cell? ⟨gb141, 6, none⟩ = some (.int .i64 t110) ∧ w'.cell? ⟨gb141, 7, none⟩ = some (.bool t111) ∧ w'.cell? ⟨gb141, 8, none⟩ = some (.bool t112) ∧ w'.cell? ⟨gb141, 9, none⟩ = some (.bool t113) ∧ w'.cell? ⟨gb141, 10, none⟩ = some (.int .i64 t114) ∧ w'.cell? ⟨gb141, 11, none⟩ = some (.string t115) ∧ w'.cell? ⟨gb141, 12, none⟩ = some (.string t116) ∧ w'.cell? ⟨gb141, 13, none⟩ = some (.string t117) ∧ w'.cell? ⟨gb141, 14, none⟩ = some (.int .i64 t118) ∧ w'.cell? ⟨gb141, 15, none⟩ = some (.bool t119) ∧ w'.cell? ⟨gb141, 16, none⟩ = some (.bool false) ∧ w'.cell? ⟨gb141, 17, none⟩ = some (.int .i64 t121) ∧ w'.cell? ⟨gb141, 18, none⟩ = some (.int .i64 t122) ∧ w'.cell? ⟨gb141, 19, none⟩ = some (.string t123) ∧ w'.cell? ⟨gb141, 20, none⟩ = some (.int .i64 t124) ∧ w'.cell? ⟨gb141, 21, none⟩ = some (.int .i64 t125) ∧ w'.cell? ⟨gb141, 22, none⟩ = some (.int .i64 t126) ∧ w'.cell? ⟨gb141, 23, none⟩ = some (.int .i64 t127) ∧ w'.cell? ⟨gb141, 24, none⟩ = some (.int .i64 t128) ∧ w'.cell? ⟨gb141, 25, none⟩ = some (.bool t129) ∧ w'.cell? ⟨gb141, 26, none⟩ = some (.int .u64 t130) ∧ w'.cell? ⟨gb141, 27, none⟩ = some (.slice Aq139 nq139 cq139) ∧ w'.cell? ⟨gb141, 28, none⟩ = some (.int .i64 t134) ∧ w'.cell? ⟨gb141, 29, none⟩ = some (.string t135) ∧ w'.cell? ⟨gb141, 30, none⟩ = some (.int .i64 t136) ∧ w'.cell? ⟨gb141, 31, none⟩ = some (.int .i64 t137) ∧ w'.cell? ⟨gb181, 0, none⟩ = some (.int .i64 t142) ∧ w'.cell? ⟨gb181, 1, none⟩ = some (.string t143) ∧ w'.cell? ⟨gb181, 2, none⟩ = some (.int .i64 t144) ∧ w'.cell? ⟨gb181, 3, none⟩ = some (.int .i64 t145) ∧ w'.cell? ⟨gb181, 4, none⟩ = some (.slice Aq178 nq178 cq178) ∧ w'.cell? ⟨gb181, 5, none⟩ = some (.int .i64 t149) ∧ w'.cell? ⟨gb181, 6, none⟩ = some (.int .i64 t150) ∧ w'.cell? ⟨gb181, 7, none⟩ = some (.bool false) ∧ w'.cell? ⟨gb181, 8, none⟩ = some (.bool t152) ∧ w'.cell? ⟨gb181, 9, none⟩ = some (.bool false) ∧ w'.cell? ⟨gb181, 10, none⟩ = some (.int .i64 t154) ∧ w'.cell? ⟨gb181, 11, none⟩ = some (.string t155) ∧ w'.cell? ⟨gb181, 12, none⟩ = some (.string t156) ∧ w'.cell? ⟨gb181, 13, none⟩ = some (.string t157) ∧ w'.cell? ⟨gb181, 14, none⟩ = some (.int .i64 t158) ∧ w'.cell? ⟨gb181, 15, none⟩ = some (.bool t159) ∧ w'.cell? ⟨gb181, 16, none⟩ = some (.bool t160) ∧ w'.cell? ⟨gb181, 17, none⟩ = some (.int .i64 t161) ∧ w'.cell? ⟨gb181, 18, none⟩ = some (.int .i64 t162) ∧ w'.cell? ⟨gb181, 19, none⟩ = some (.string t163) ∧ w'.cell? ⟨gb181, 20, none⟩ = some (.int .i64 t164) ∧ w'.cell? ⟨gb181, 21, none⟩ = some (.int .i64 t165) ∧ w'.cell? ⟨gb181, 22, none⟩ = some (.int .i64 t166) ∧ w'.cell? ⟨gb181, 23, none⟩ = some (.int .i64 t167) ∧ w'.cell? ⟨gb181, 24, none⟩ = some (.int .i64 t168) ∧ w'.cell? ⟨gb181, 25, none⟩ = some (.bool t169) ∧ w'.cell? ⟨gb181, 26, none⟩ = some (.int .u64 t170) ∧ w'.cell? ⟨gb181, 27, none⟩ = some (.slice Aq179 nq179 cq179) ∧ w'.cell? ⟨gb181, 28, none⟩ = some (.int .i64 t174) ∧ w'.cell? ⟨gb181, 29, none⟩ = some (.string t175) ∧ w'.cell? ⟨gb181, 30, none⟩ = some (.int .i64 t176) ∧ w'.cell? ⟨gb181, 31, none⟩ = some (.int .i64 t177)) (ds := []) #[false, false, false, false, false, false, false, false, false, false, false] (by kernel_rfl) rfl rfl ⟨(blk_cell BK101.out 0).trans rfl, (blk_cell BK101.out 1).trans rfl, (blk_cell BK101.out 2).trans rfl, (blk_cell BK101.out 3).trans rfl, (blk_cell BK141.out 0).trans rfl, (blk_cell BK141.out 1).trans rfl, (blk_cell BK141.out 2).trans rfl, (blk_cell BK141.out 3).trans rfl, (blk_cell BK141.out 4).trans rfl, (blk_cell BK141.out 5).trans rfl, (blk_cell BK141.out 6).trans rfl, (blk_cell BK141.out 7).trans rfl, (blk_cell BK141.out 8).trans rfl, (blk_cell BK141.out 9).trans rfl, (blk_cell BK141.out 10).trans rfl, (blk_cell BK141.out 11).trans rfl, (blk_cell BK141.out 12).trans rfl, (blk_cell BK141.out 13).trans rfl, (blk_cell BK141.out 14).trans rfl, (blk_cell BK141.out 15).trans rfl, (blk_cell BK141.out 16).trans rfl, (blk_cell BK141.out 17).trans rfl, (blk_cell BK141.out 18).trans rfl, (blk_cell BK141.out 19).trans rfl, (blk_cell BK141.out 20).trans rfl, (blk_cell BK141.out 21).trans rfl, (blk_cell BK141.out 22).trans rfl, (blk_cell BK141.out 23).trans rfl, (blk_cell BK141.out 24).trans rfl, (blk_cell BK141.out 25).trans rfl, (blk_cell BK141.out 26).trans rfl, (blk_cell BK141.out 27).trans rfl, (blk_cell BK141.out 28).trans rfl, (blk_cell BK141.out 29).trans rfl, (blk_cell BK141.out 30).trans rfl, (blk_cell BK141.out 31).trans rfl, (blk_cell BK181.out 0).trans rfl, (blk_cell BK181.out 1).trans rfl, (blk_cell BK181.out 2).trans rfl, (blk_cell BK181.out 3).trans rfl, (blk_cell BK181.out 4).trans rfl, (blk_cell BK181.out 5).trans rfl, (blk_cell BK181.out 6).trans rfl, (blk_cell BK181.out 7).trans rfl, (blk_cell BK181.out 8).trans rfl, (blk_cell BK181.out 9).trans rfl, (blk_cell BK181.out 10).trans rfl, (blk_cell BK181.out 11).trans rfl, (blk_cell BK181.out 12).trans rfl, (blk_cell BK181.out 13).trans rfl, (blk_cell BK181.out 14).trans rfl, (blk_cell BK181.out 15).trans rfl, (blk_cell BK181.out 16).trans rfl, (blk_cell BK181.out 17).trans rfl, (blk_cell BK181.out 18).trans rfl, (blk_cell BK181.out 19).trans rfl, (blk_cell BK181.out 20).trans rfl, (blk_cell BK181.out 21).trans rfl, (blk_cell BK181.out 22).trans rfl, (blk_cell BK181.out 23).trans rfl, (blk_cell BK181.out 24).trans rfl, (blk_cell BK181.out 25).trans rfl, (blk_cell BK181.out 26).trans rfl, (blk_cell BK181.out 27).trans rfl, (blk_cell BK181.out 28).trans rfl, (blk_cell BK181.out 29).trans rfl, (blk_cell BK181.out 30).trans rfl, (blk_cell BK181.out 31).trans rfl⟩ (fun hHeld => ?_); refine with_tabW rules_Bind.tab13 rules_Bind.bits13 (fun HT_ HW_ => ?_)
                  generalize wc.drew = w50 at BK101 BK141 BK181 HB hHeld ⊢
                  refine pure_ (i := 1) (N := some 56) (v := ?_) (a' := ?_) #[false, true, false, false, false, false, false, false, false, false, false] rfl rfl (any_of HT_.out (by kernel_rfl)) (fun _ _ _ h => h) (Or.inl ⟨by rfl, ?_⟩) ?_ ?_
                  rotate_left
                  · intro w'
                    go_simp
                    with_reducible rfl
                  rotate_left
                  · simp only [Act.put, List.setIfInBounds_toArray, List.set_cons_zero, List.set_cons_succ, i64_w, i32_w]
                    rfl
                  refine pure_ (i := 3) (N := some 58) (v := ?_) (a' := ?_) #[false, true, false, true, false, false, false, false, false, false, false] rfl rfl (any_of HT_.out (by kernel_rfl)) (fun _ _ _ h => h) (Or.inl ⟨by rfl, ?_⟩) ?_ ?_
                  rotate_left
                  · intro w'
                    go_simp
                    with_reducible rfl
                  rotate_left
                  · simp only [Act.put, List.setIfInBounds_toArray, List.set_cons_zero, List.set_cons_succ, i64_w, i32_w]
                    rfl
                  refine pure_ (i := 6) (N := some 61) (v := ?_) (a' := ?_) #[false, true, false, true, false, false, true, false, false, false, false] rfl rfl (any_of HT_.out (by kernel_rfl)) (fun _ _ _ h => h) (Or.inl ⟨by rfl, ?_⟩) ?_ ?_
                  rotate_left
                  · intro w'
                    go_simp
                    with_reducible rfl
                  rotate_left
                  · simp only [Act.put, List.setIfInBounds_toArray, List.set_cons_zero, List.set_cons_succ, i64_w, i32_w]
                    rfl
                  refine take_ (i := 0) (N := some 55) (v := ?_) (a' := ?_) #[true, true, false, true, false, false, true, false, false, false, false] rfl rfl (take_ofW HT_.out HW_.out (by kernel_rfl)) (fun _ _ _ h => h) (Or.inl ⟨by rfl, ?_⟩) hHeld ?_ ?_
                  rotate_left
                  · rintro w' ⟨s0, s1, s2, s3, s4, s5, s6, s7, s8, s9, s10, s11, s12, s13, s14, s15, s16, s17, s18, s19, s20, s21, s22, s23, s24, s25, s26, s27, s28, s29, s30, s31, s32, s33, s34, s35, s36, s37, s38, s39, s40, s41, s42, s43, s44, s45, s46, s47, s48, s49, s50, s51, s52, s53, s54, s55, s56, s57, s58, s59, s60, s61, s62, s63, s64, s65, s66, s67⟩
                    go_simp
                    with_reducible rfl
                  rotate_left
                  · simp only [Act.put, List.setIfInBounds_toArray, List.set_cons_zero, List.set_cons_succ, i64_w, i32_w]
                    rfl
                  refine take_ (i := 4) (N := some 59) (v := ?_) (a' := ?_) #[true, true, false, true, true, false, true, false, false, false, false] rfl rfl (take_ofW HT_.out HW_.out (by kernel_rfl)) (fun _ _ _ h => h) (Or.inl ⟨by rfl, ?_⟩) hHeld ?_ ?_
                  rotate_left
                  · rintro w' ⟨s0, s1, s2, s3, s4, s5, s6, s7, s8, s9, s10, s11, s12, s13, s14, s15, s16, s17, s18, s19, s20, s21, s22, s23, s24, s25, s26, s27, s28, s29, s30, s31, s32, s33, s34, s35, s36, s37, s38, s39, s40, s41, s42, s43, s44, s45, s46, s47, s48, s49, s50, s51, s52, s53, s54, s55, s56, s57, s58, s59, s60, s61, s62, s63, s64, s65, s66, s67⟩
                    go_simp
                    with_reducible rfl
                  rotate_left
                  · simp only [Act.put, List.setIfInBounds_toArray, List.set_cons_zero, List.set_cons_succ, i64_w, i32_w]
                    rfl
                  refine take_ (i := 7) (N := some 62) (v := ?_) (a' := ?_) #[true, true, false, true, true, false, true, true, false, false, false] rfl rfl (take_ofW HT_.out HW_.out (by kernel_rfl)) (fun _ _ _ h => h) (Or.inl ⟨by rfl, ?_⟩) hHeld ?_ ?_
                  rotate_left
                  · rintro w' ⟨s0, s1, s2, s3, s4, s5, s6, s7, s8, s9, s10, s11, s12, s13, s14, s15, s16, s17, s18, s19, s20, s21, s22, s23, s24, s25, s26, s27, s28, s29, s30, s31, s32, s33, s34, s35, s36, s37, s38, s39, s40, s41, s42, s43, s44, s45, s46, s47, s48, s49, s50, s51, s52, s53, s54, s55, s56, s57, s58, s59, s60, s61, s62, s63, s64, s65, s66, s67⟩
                    go_simp
                    with_reducible rfl
                  rotate_left
                  · simp only [Act.put, List.setIfInBounds_toArray, List.set_cons_zero, List.set_cons_succ, i64_w, i32_w]
                    rfl
                  refine one_ (i := 2) (N := some 57) #[true, true, true, true, true, false, true, true, false, false, false] rfl rfl (one_of HT_.out (by kernel_rfl)) (by decide) (fun K hK => ?_)
                  refine goes_ Try.func38 (by kernel_rfl) rfl #[.agg #[.slice A0_0 l0_0.length c0_0, .slice A0_1 l0_1.length c0_1, .slice A0_2 l0_2.length c0_2, .slice A0_3 l0_3.length c0_3], .string a2] (by rfl) rfl rfl (by (try simp only [List.map_toArray, List.map_cons, List.map_nil]); first | done | rfl | (simp only [List.length_drop, List.length_take]; rfl)) ?_
                  with_reducible refine (rules_Used.calls kj5 _ _ l0_0 _ _ l0_1 _ _ l0_2 _ _ l0_3 a2 t182 t183 _ ?side1 ?side2 ?side3 ?side4 ?side5 ?side6 ?side7 ?side8 A41.out).mono ?_
                  (case side1 => repeat (first | exact (Kd.C_below HR0_0.out HB.out) | (with_reducible refine Kd.C_alloc ?_ _) | (with_reducible refine Kd.C_drewN ?_ _) | (with_reducible refine Kd.C_drew ?_)))
                  (case side2 => exact HC0_0.out)
                  (case side3 => repeat (first | exact (Kd.C_below HR0_1.out HB.out) | (with_reducible refine Kd.C_alloc ?_ _) | (with_reducible refine Kd.C_drewN ?_ _) | (with_reducible refine Kd.C_drew ?_)))
                  (case side4 => exact HC0_1.out)
                  (case side5 => repeat (first | exact (Kd.C_below HR0_2.out HB.out) | (with_reducible refine Kd.C_alloc ?_ _) | (with_reducible refine Kd.C_drewN ?_ _) | (with_reducible refine Kd.C_drew ?_)))
                  (case side6 => exact HC0_2.out)
                  (case side7 => repeat (first | exact (Kd.C_below HR0_3.out HB.out) | (with_reducible refine Kd.C_alloc ?_ _) | (with_reducible refine Kd.C_drewN ?_ _) | (with_reducible refine Kd.C_drew ?_)))
                  (case side8 => exact HC0_3.out)
                  rintro e w51 ⟨rfl, hb⟩
                  refine ⟨_, rfl, ?_⟩
                  have n0_ := Aside0.mk (blk_below (g := gb101) (o := .cells #[.slice A0_0 l0_0.length c0_0, .slice A0_1 l0_1.length c0_1, .slice A0_2 l0_2.length c0_2, .slice A0_3 l0_3.length c0_3] 59 (0, 0)) (by (with_reducible repeat (first | refine blk_drewN ?_ _ | refine blk_drew ?_ | refine blk_alloc ?_ _)); exact BK101.out) hb)
                  have n1_ := Aside0.mk (blk_below (g := gb141) (o := .cells #[.int .i64 t102, .string t103, .int .i64 t104, .int .i64 t105, .slice Aq138 nq138 cq138, .int .i64 t109, .int .i64 t110, .bool t111, .bool t112, .bool t113, .int .i64 t114, .string t115, .string t116, .string t117, .int .i64 t118, .bool t119, .bool false, .int .i64 t121, .int .i64 t122, .string t123, .int .i64 t124, .int .i64 t125, .int .i64 t126, .int .i64 t127, .int .i64 t128, .bool t129, .int .u64 t130, .slice Aq139 nq139 cq139, .int .i64 t134, .string t135, .int .i64 t136, .int .i64 t137] 68 (0, 0)) (by (with_reducible repeat (first | refine blk_drewN ?_ _ | refine blk_drew ?_ | refine blk_alloc ?_ _)); exact BK141.out) hb)
                  have n2_ := Aside0.mk (blk_below (g := gb181) (o := .cells #[.int .i64 t142, .string t143, .int .i64 t144, .int .i64 t145, .slice Aq178 nq178 cq178, .int .i64 t149, .int .i64 t150, .bool false, .bool t152, .bool false, .int .i64 t154, .string t155, .string t156, .string t157, .int .i64 t158, .bool t159, .bool t160, .int .i64 t161, .int .i64 t162, .string t163, .int .i64 t164, .int .i64 t165, .int .i64 t166, .int .i64 t167, .int .i64 t168, .bool t169, .int .u64 t170, .slice Aq179 nq179 cq179, .int .i64 t174, .string t175, .int .i64 t176, .int .i64 t177] 68 (0, 0)) (by (with_reducible repeat (first | refine blk_drewN ?_ _ | refine blk_drew ?_ | refine blk_alloc ?_ _)); exact BK181.out) hb)
                  have n3_ := Aside0.mk (below_step (by repeat (first | (with_reducible first | exact HB.out | apply below_alloc | apply pw_below_drewN | apply below_drew1 | refine below_set ?_ GE101.out | refine below_set ?_ GE141.out | refine below_set ?_ GE181.out) | exact HB.out)) hb)
                  clear BK101
                  clear BK141
                  clear BK181
                  clear HB
                  have BK101 := n0_
                  have BK141 := n1_
                  have BK181 := n2_
                  have HB := n3_
                  clear n0_ n1_ n2_ n3_
                  (try clear hb)
                  (try clear hb2)
                  (try clear hk)
                  (try clear hi)
                  refine hK.out _ _ ⟨(blk_cell BK101.out 0).trans rfl, (blk_cell BK101.out 1).trans rfl, (blk_cell BK101.out 2).trans rfl, (blk_cell BK101.out 3).trans rfl, (blk_cell BK141.out 0).trans rfl, (blk_cell BK141.out 1).trans rfl, (blk_cell BK141.out 2).trans rfl, (blk_cell BK141.out 3).trans rfl, (blk_cell BK141.out 4).trans rfl, (blk_cell BK141.out 5).trans rfl, (blk_cell BK141.out 6).trans rfl, (blk_cell BK141.out 7).trans rfl, (blk_cell BK141.out 8).trans rfl, (blk_cell BK141.out 9).trans rfl, (blk_cell BK141.out 10).trans rfl, (blk_cell BK141.out 11).trans rfl, (blk_cell BK141.out 12).trans rfl, (blk_cell BK141.out 13).trans rfl, (blk_cell BK141.out 14).trans rfl, (blk_cell BK141.out 15).trans rfl, (blk_cell BK141.out 16).trans rfl, (blk_cell BK141.out 17).trans rfl, (blk_cell BK141.out 18).trans rfl, (blk_cell BK141.out 19).trans rfl, (blk_cell BK141.out 20).trans rfl, (blk_cell BK141.out 21).trans rfl, (blk_cell BK141.out 22).trans rfl, (blk_cell BK141.out 23).trans rfl, (blk_cell BK141.out 24).trans rfl, (blk_cell BK141.out 25).trans rfl, (blk_cell BK141.out 26).trans rfl, (blk_cell BK141.out 27).trans rfl, (blk_cell BK141.out 28).trans rfl, (blk_cell BK141.out 29).trans rfl, (blk_cell BK141.out 30).trans rfl, (blk_cell BK141.out 31).trans rfl, (blk_cell BK181.out 0).trans rfl, (blk_cell BK181.out 1).trans rfl, (blk_cell BK181.out 2).trans rfl, (blk_cell BK181.out 3).trans rfl, (blk_cell BK181.out 4).trans rfl, (blk_cell BK181.out 5).trans rfl, (blk_cell BK181.out 6).trans rfl, (blk_cell BK181.out 7).trans rfl, (blk_cell BK181.out 8).trans rfl, (blk_cell BK181.out 9).trans rfl, (blk_cell BK181.out 10).trans rfl, (blk_cell BK181.out 11).trans rfl, (blk_cell BK181.out 12).trans rfl, (blk_cell BK181.out 13).trans rfl, (blk_cell BK181.out 14).trans rfl, (blk_cell BK181.out 15).trans rfl, (blk_cell BK181.out 16).trans rfl, (blk_cell BK181.out 17).trans rfl, (blk_cell BK181.out 18).trans rfl, (blk_cell BK181.out 19).trans rfl, (blk_cell BK181.out 20).trans rfl, (blk_cell BK181.out 21).trans rfl, (blk_cell BK181.out 22).trans rfl, (blk_cell BK181.out 23).trans rfl, (blk_cell BK181.out 24).trans rfl, (blk_cell BK181.out 25).trans rfl, (blk_cell BK181.out 26).trans rfl, (blk_cell BK181.out 27).trans rfl, (blk_cell BK181.out 28).trans rfl, (blk_cell BK181.out 29).trans rfl, (blk_cell BK181.out 30).trans rfl, (blk_cell BK181.out 31).trans rfl⟩ (fun hHeld => ?_)
                  clear hK K
                  refine norm_ (a' := ?_) ?_ ?_
                  rotate_left
                  · show Act.put _ (some 57) _ = _
                    simp only [Act.put, List.setIfInBounds_toArray, List.set_cons_zero, List.set_cons_succ, i64_w, i32_w]
                    rfl
                  refine one_ (i := 5) (N := some 60) #[true, true, true, true, true, true, true, true, false, false, false] rfl rfl (one_of HT_.out (by kernel_rfl)) (by decide) (fun K hK => ?_)
                  refine goes_ Try.func88 (by kernel_rfl) rfl #[.agg #[.int .i64 t182, .int .i64 t183], .agg #[.int .i64 t121, .int .i64 t122]] (by rfl) rfl rfl (by (try simp only [List.map_toArray, List.map_cons, List.map_nil]); first | done | rfl | (simp only [List.length_drop, List.length_take]; rfl)) ?_
                  with_reducible refine (rules_both.calls t182 t183 t121 t122 t184 t185 _ A42.out).mono ?_
                  rintro e w52 ⟨rfl, hb⟩
                  refine ⟨_, rfl, ?_⟩
                  have n0_ := Aside0.mk (blk_below (g := gb101) (o := .cells #[.slice A0_0 l0_0.length c0_0, .slice A0_1 l0_1.length c0_1, .slice A0_2 l0_2.length c0_2, .slice A0_3 l0_3.length c0_3] 59 (0, 0)) (by (with_reducible repeat (first | refine blk_drewN ?_ _ | refine blk_drew ?_ | refine blk_alloc ?_ _)); exact BK101.out) hb)
                  have n1_ := Aside0.mk (blk_below (g := gb141) (o := .cells #[.int .i64 t102, .string t103, .int .i64 t104, .int .i64 t105, .slice Aq138 nq138 cq138, .int .i64 t109, .int .i64 t110, .bool t111, .bool t112, .bool t113, .int .i64 t114, .string t115, .string t116, .string t117, .int .i64 t118, .bool t119, .bool false, .int .i64 t121, .int .i64 t122, .string t123, .int .i64 t124, .int .i64 t125, .int .i64 t126, .int .i64 t127, .int .i64 t128, .bool t129, .int .u64 t130, .slice Aq139 nq139 cq139, .int .i64 t134, .string t135, .int .i64 t136, .int .i64 t137] 68 (0, 0)) (by (with_reducible repeat (first | refine blk_drewN ?_ _ | refine blk_drew ?_ | refine blk_alloc ?_ _)); exact BK141.out) hb)
                  have n2_ := Aside0.mk (blk_below (g := gb181) (o := .cells #[.int .i64 t142, .string t143, .int .i64 t144, .int .i64 t145, .slice Aq178 nq178 cq178, .int .i64 t149, .int .i64 t150, .bool false, .bool t152, .bool false, .int .i64 t154, .string t155, .string t156, .string t157, .int .i64 t158, .bool t159, .bool t160, .int .i64 t161, .int .i64 t162, .string t163, .int .i64 t164, .int .i64 t165, .int .i64 t166, .int .i64 t167, .int .i64 t168, .bool t169, .int .u64 t170, .slice Aq179 nq179 cq179, .int .i64 t174, .string t175, .int .i64 t176, .int .i64 t177] 68 (0, 0)) (by (with_reducible repeat (first | refine blk_drewN ?_ _ | refine blk_drew ?_ | refine blk_alloc ?_ _)); exact BK181.out) hb)
                  have n3_ := Aside0.mk (below_step (by repeat (first | (with_reducible first | exact HB.out | apply below_alloc | apply pw_below_drewN | apply below_drew1 | refine below_set ?_ GE101.out | refine below_set ?_ GE141.out | refine below_set ?_ GE181.out) | exact HB.out)) hb)
                  clear BK101
                  clear BK141
                  clear BK181
                  clear HB
                  have BK101 := n0_
                  have BK141 := n1_
                  have BK181 := n2_
                  have HB := n3_
                  clear n0_ n1_ n2_ n3_
                  (try clear hb)
                  (try clear hb2)
                  (try clear hk)
                  (try clear hi)
                  refine hK.out _ _ ⟨(blk_cell BK101.out 0).trans rfl, (blk_cell BK101.out 1).trans rfl, (blk_cell BK101.out 2).trans rfl, (blk_cell BK101.out 3).trans rfl, (blk_cell BK141.out 0).trans rfl, (blk_cell BK141.out 1).trans rfl, (blk_cell BK141.out 2).trans rfl, (blk_cell BK141.out 3).trans rfl, (blk_cell BK141.out 4).trans rfl, (blk_cell BK141.out 5).trans rfl, (blk_cell BK141.out 6).trans rfl, (blk_cell BK141.out 7).trans rfl, (blk_cell BK141.out 8).trans rfl, (blk_cell BK141.out 9).trans rfl, (blk_cell BK141.out 10).trans rfl, (blk_cell BK141.out 11).trans rfl, (blk_cell BK141.out 12).trans rfl, (blk_cell BK141.out 13).trans rfl, (blk_cell BK141.out 14).trans rfl, (blk_cell BK141.out 15).trans rfl, (blk_cell BK141.out 16).trans rfl, (blk_cell BK141.out 17).trans rfl, (blk_cell BK141.out 18).trans rfl, (blk_cell BK141.out 19).trans rfl, (blk_cell BK141.out 20).trans rfl, (blk_cell BK141.out 21).trans rfl, (blk_cell BK141.out 22).trans rfl, (blk_cell BK141.out 23).trans rfl, (blk_cell BK141.out 24).trans rfl, (blk_cell BK141.out 25).trans rfl, (blk_cell BK141.out 26).trans rfl, (blk_cell BK141.out 27).trans rfl, (blk_cell BK141.out 28).trans rfl, (blk_cell BK141.out 29).trans rfl, (blk_cell BK141.out 30).trans rfl, (blk_cell BK141.out 31).trans rfl, (blk_cell BK181.out 0).trans rfl, (blk_cell BK181.out 1).trans rfl, (blk_cell BK181.out 2).trans rfl, (blk_cell BK181.out 3).trans rfl, (blk_cell BK181.out 4).trans rfl, (blk_cell BK181.out 5).trans rfl, (blk_cell BK181.out 6).trans rfl, (blk_cell BK181.out 7).trans rfl, (blk_cell BK181.out 8).trans rfl, (blk_cell BK181.out 9).trans rfl, (blk_cell BK181.out 10).trans rfl, (blk_cell BK181.out 11).trans rfl, (blk_cell BK181.out 12).trans rfl, (blk_cell BK181.out 13).trans rfl, (blk_cell BK181.out 14).trans rfl, (blk_cell BK181.out 15).trans rfl, (blk_cell BK181.out 16).trans rfl, (blk_cell BK181.out 17).trans rfl, (blk_cell BK181.out 18).trans rfl, (blk_cell BK181.out 19).trans rfl, (blk_cell BK181.out 20).trans rfl, (blk_cell BK181.out 21).trans rfl, (blk_cell BK181.out 22).trans rfl, (blk_cell BK181.out 23).trans rfl, (blk_cell BK181.out 24).trans rfl, (blk_cell BK181.out 25).trans rfl, (blk_cell BK181.out 26).trans rfl, (blk_cell BK181.out 27).trans rfl, (blk_cell BK181.out 28).trans rfl, (blk_cell BK181.out 29).trans rfl, (blk_cell BK181.out 30).trans rfl, (blk_cell BK181.out 31).trans rfl⟩ (fun hHeld => ?_)
                  clear hK K
                  refine norm_ (a' := ?_) ?_ ?_
                  rotate_left
                  · show Act.put _ (some 60) _ = _
                    simp only [Act.put, List.setIfInBounds_toArray, List.set_cons_zero, List.set_cons_succ, i64_w, i32_w]
                    rfl
                  refine one_ (i := 8) (N := some 63) #[true, true, true, true, true, true, true, true, true, false, false] rfl rfl (one_of HT_.out (by kernel_rfl)) (by decide) (fun K hK => ?_)
                  refine goes_ Try.func102 (by kernel_rfl) rfl #[.agg #[.int .i64 t184, .int .i64 t185], .agg #[.int .i64 t149, .int .i64 t150]] (by rfl) rfl rfl (by (try simp only [List.map_toArray, List.map_cons, List.map_nil]); first | done | rfl | (simp only [List.length_drop, List.length_take]; rfl)) ?_
                  with_reducible refine (amount_Fits.calls t184 t185 t149 t150 true _ A43.out).mono ?_
                  rintro e w53 ⟨rfl, hb⟩
                  refine ⟨_, rfl, ?_⟩
                  have n0_ := Aside0.mk (blk_below (g := gb101) (o := .cells #[.slice A0_0 l0_0.length c0_0, .slice A0_1 l0_1.length c0_1, .slice A0_2 l0_2.length c0_2, .slice A0_3 l0_3.length c0_3] 59 (0, 0)) (by (with_reducible repeat (first | refine blk_drewN ?_ _ | refine blk_drew ?_ | refine blk_alloc ?_ _)); exact BK101.out) hb)
                  have n1_ := Aside0.mk (blk_below (g := gb141) (o := .cells #[.int .i64 t102, .string t103, .int .i64 t104, .int .i64 t105, .slice Aq138 nq138 cq138, .int .i64 t109, .int .i64 t110, .bool t111, .bool t112, .bool t113, .int .i64 t114, .string t115, .string t116, .string t117, .int .i64 t118, .bool t119, .bool false, .int .i64 t121, .int .i64 t122, .string t123, .int .i64 t124, .int .i64 t125, .int .i64 t126, .int .i64 t127, .int .i64 t128, .bool t129, .int .u64 t130, .slice Aq139 nq139 cq139, .int .i64 t134, .string t135, .int .i64 t136, .int .i64 t137] 68 (0, 0)) (by (with_reducible repeat (first | refine blk_drewN ?_ _ | refine blk_drew ?_ | refine blk_alloc ?_ _)); exact BK141.out) hb)
                  have n2_ := Aside0.mk (blk_below (g := gb181) (o := .cells #[.int .i64 t142, .string t143, .int .i64 t144, .int .i64 t145, .slice Aq178 nq178 cq178, .int .i64 t149, .int .i64 t150, .bool false, .bool t152, .bool false, .int .i64 t154, .string t155, .string t156, .string t157, .int .i64 t158, .bool t159, .bool t160, .int .i64 t161, .int .i64 t162, .string t163, .int .i64 t164, .int .i64 t165, .int .i64 t166, .int .i64 t167, .int .i64 t168, .bool t169, .int .u64 t170, .slice Aq179 nq179 cq179, .int .i64 t174, .string t175, .int .i64 t176, .int .i64 t177] 68 (0, 0)) (by (with_reducible repeat (first | refine blk_drewN ?_ _ | refine blk_drew ?_ | refine blk_alloc ?_ _)); exact BK181.out) hb)
                  have n3_ := Aside0.mk (below_step (by repeat (first | (with_reducible first | exact HB.out | apply below_alloc | apply pw_below_drewN | apply below_drew1 | refine below_set ?_ GE101.out | refine below_set ?_ GE141.out | refine below_set ?_ GE181.out) | exact HB.out)) hb)
                  clear BK101
                  clear BK141
                  clear BK181
                  clear HB
                  have BK101 := n0_
                  have BK141 := n1_
                  have BK181 := n2_
                  have HB := n3_
                  clear n0_ n1_ n2_ n3_
                  (try clear hb)
                  (try clear hb2)
                  (try clear hk)
                  (try clear hi)
                  refine hK.out _ _ ⟨(blk_cell BK101.out 0).trans rfl, (blk_cell BK101.out 1).trans rfl, (blk_cell BK101.out 2).trans rfl, (blk_cell BK101.out 3).trans rfl, (blk_cell BK141.out 0).trans rfl, (blk_cell BK141.out 1).trans rfl, (blk_cell BK141.out 2).trans rfl, (blk_cell BK141.out 3).trans rfl, (blk_cell BK141.out 4).trans rfl, (blk_cell BK141.out 5).trans rfl, (blk_cell BK141.out 6).trans rfl, (blk_cell BK141.out 7).trans rfl, (blk_cell BK141.out 8).trans rfl, (blk_cell BK141.out 9).trans rfl, (blk_cell BK141.out 10).trans rfl, (blk_cell BK141.out 11).trans rfl, (blk_cell BK141.out 12).trans rfl, (blk_cell BK141.out 13).trans rfl, (blk_cell BK141.out 14).trans rfl, (blk_cell BK141.out 15).trans rfl, (blk_cell BK141.out 16).trans rfl, (blk_cell BK141.out 17).trans rfl, (blk_cell BK141.out 18).trans rfl, (blk_cell BK141.out 19).trans rfl, (blk_cell BK141.out 20).trans rfl, (blk_cell BK141.out 21).trans rfl, (blk_cell BK141.out 22).trans rfl, (blk_cell BK141.out 23).trans rfl, (blk_cell BK141.out 24).trans rfl, (blk_cell BK141.out 25).trans rfl, (blk_cell BK141.out 26).trans rfl, (blk_cell BK141.out 27).trans rfl, (blk_cell BK141.out 28).trans rfl, (blk_cell BK141.out 29).trans rfl, (blk_cell BK141.out 30).trans rfl, (blk_cell BK141.out 31).trans rfl, (blk_cell BK181.out 0).trans rfl, (blk_cell BK181.out 1).trans rfl, (blk_cell BK181.out 2).trans rfl, (blk_cell BK181.out 3).trans rfl, (blk_cell BK181.out 4).trans rfl, (blk_cell BK181.out 5).trans rfl, (blk_cell BK181.out 6).trans rfl, (blk_cell BK181.out 7).trans rfl, (blk_cell BK181.out 8).trans rfl, (blk_cell BK181.out 9).trans rfl, (blk_cell BK181.out 10).trans rfl, (blk_cell BK181.out 11).trans rfl, (blk_cell BK181.out 12).trans rfl, (blk_cell BK181.out 13).trans rfl, (blk_cell BK181.out 14).trans rfl, (blk_cell BK181.out 15).trans rfl, (blk_cell BK181.out 16).trans rfl, (blk_cell BK181.out 17).trans rfl, (blk_cell BK181.out 18).trans rfl, (blk_cell BK181.out 19).trans rfl, (blk_cell BK181.out 20).trans rfl, (blk_cell BK181.out 21).trans rfl, (blk_cell BK181.out 22).trans rfl, (blk_cell BK181.out 23).trans rfl, (blk_cell BK181.out 24).trans rfl, (blk_cell BK181.out 25).trans rfl, (blk_cell BK181.out 26).trans rfl, (blk_cell BK181.out 27).trans rfl, (blk_cell BK181.out 28).trans rfl, (blk_cell BK181.out 29).trans rfl, (blk_cell BK181.out 30).trans rfl, (blk_cell BK181.out 31).trans rfl⟩ (fun hHeld => ?_)
                  clear hK K
                  refine norm_ (a' := ?_) ?_ ?_
                  rotate_left
                  · show Act.put _ (some 63) _ = _
                    simp only [Act.put, List.setIfInBounds_toArray, List.set_cons_zero, List.set_cons_succ, i64_w, i32_w]
                    rfl
                  refine pure_ (i := 9) (N := some 64) (v := ?_) (a' := ?_) #[true, true, true, true, true, true, true, true, true, true, false] rfl rfl (any_of HT_.out (by kernel_rfl)) (fun _ _ _ h => h) (Or.inl ⟨by rfl, ?_⟩) ?_ ?_
                  rotate_left
                  · intro w'
                    go_simp
                    with_reducible rfl
                  rotate_left
                  · simp only [Act.put, List.setIfInBounds_toArray, List.set_cons_zero, List.set_cons_succ, i64_w, i32_w]
                    rfl
                  refine pure_ (i := 10) (N := some 54) (v := ?_) (a' := ?_) #[true, true, true, true, true, true, true, true, true, true, true] rfl rfl (any_of HT_.out (by kernel_rfl)) (fun _ _ _ h => h) (Or.inl ⟨by rfl, ?_⟩) ?_ ?_
                  rotate_left
                  · intro w'
                    go_simp
                    with_reducible rfl
                  rotate_left
                  · simp only [Act.put, List.setIfInBounds_toArray, List.set_cons_zero, List.set_cons_succ, i64_w, i32_w]
                    rfl
                  refine done_ (done_of HT_.out (by kernel_rfl)) ?_
                  try go_wp2
                  go_ret
                  exact ⟨by first | rfl | (simp [errW_none, errW_some] <;> rfl) | (simp [*, errW_none, errW_some] <;> rfl), by repeat (first | (with_reducible first | exact HB.out | apply below_alloc | apply pw_below_drewN | apply below_drew1 | refine below_set ?_ GE101.out | refine below_set ?_ GE141.out | refine below_set ?_ GE181.out) | exact HB.out)⟩
                · replace c44 := Bool.eq_false_iff.mpr c44
                  subst c44
                  have H1 : (some (some 23)) = some r := by rw [if_neg (show ¬ (false = true) by decide)] at H; exact H
                  clear H
                  have H := H1
                  clear H1
                  obtain rfl := Option.some.inj H
                  have hnb54 := NB141_101.out
                  have hnc54 := NB101_141.out
                  have hnb55 := NB141_181.out
                  have hnc55 := NB181_141.out
                  have hcz56_0 : wc.cell? ⟨gb141, 0, none⟩ = some (.int .i64 t102) := (blk_cell BK141.out 0).trans rfl
                  have hcz56_1 : wc.cell? ⟨gb141, 1, none⟩ = some (.string t103) := (blk_cell BK141.out 1).trans rfl
                  have hcz56_2 : wc.cell? ⟨gb141, 2, none⟩ = some (.int .i64 t104) := (blk_cell BK141.out 2).trans rfl
                  have hcz56_3 : wc.cell? ⟨gb141, 3, none⟩ = some (.int .i64 t105) := (blk_cell BK141.out 3).trans rfl
                  have hcz56_4 : wc.cell? ⟨gb141, 4, none⟩ = some (.slice Aq138 nq138 cq138) := (blk_cell BK141.out 4).trans rfl
                  have hcz56_5 : wc.cell? ⟨gb141, 5, none⟩ = some (.int .i64 t109) := (blk_cell BK141.out 5).trans rfl
                  have hcz56_6 : wc.cell? ⟨gb141, 6, none⟩ = some (.int .i64 t110) := (blk_cell BK141.out 6).trans rfl
                  have hcz56_7 : wc.cell? ⟨gb141, 7, none⟩ = some (.bool t111) := (blk_cell BK141.out 7).trans rfl
                  have hcz56_8 : wc.cell? ⟨gb141, 8, none⟩ = some (.bool t112) := (blk_cell BK141.out 8).trans rfl
                  have hcz56_9 : wc.cell? ⟨gb141, 9, none⟩ = some (.bool t113) := (blk_cell BK141.out 9).trans rfl
                  have hcz56_10 : wc.cell? ⟨gb141, 10, none⟩ = some (.int .i64 t114) := (blk_cell BK141.out 10).trans rfl
                  have hcz56_11 : wc.cell? ⟨gb141, 11, none⟩ = some (.string t115) := (blk_cell BK141.out 11).trans rfl
                  have hcz56_12 : wc.cell? ⟨gb141, 12, none⟩ = some (.string t116) := (blk_cell BK141.out 12).trans rfl
                  have hcz56_13 : wc.cell? ⟨gb141, 13, none⟩ = some (.string t117) := (blk_cell BK141.out 13).trans rfl
                  have hcz56_14 : wc.cell? ⟨gb141, 14, none⟩ = some (.int .i64 t118) := (blk_cell BK141.out 14).trans rfl
                  have hcz56_15 : wc.cell? ⟨gb141, 15, none⟩ = some (.bool t119) := (blk_cell BK141.out 15).trans rfl
                  have hcz56_16 : wc.cell? ⟨gb141, 16, none⟩ = some (.bool false) := (blk_cell BK141.out 16).trans rfl
                  have hcz56_17 : wc.cell? ⟨gb141, 17, none⟩ = some (.int .i64 t121) := (blk_cell BK141.out 17).trans rfl
                  have hcz56_18 : wc.cell? ⟨gb141, 18, none⟩ = some (.int .i64 t122) := (blk_cell BK141.out 18).trans rfl
                  have hcz56_19 : wc.cell? ⟨gb141, 19, none⟩ = some (.string t123) := (blk_cell BK141.out 19).trans rfl
                  have hcz56_20 : wc.cell? ⟨gb141, 20, none⟩ = some (.int .i64 t124) := (blk_cell BK141.out 20).trans rfl
                  have hcz56_21 : wc.cell? ⟨gb141, 21, none⟩ = some (.int .i64 t125) := (blk_cell BK141.out 21).trans rfl
                  have hcz56_22 : wc.cell? ⟨gb141, 22, none⟩ = some (.int .i64 t126) := (blk_cell BK141.out 22).trans rfl
                  have hcz56_23 : wc.cell? ⟨gb141, 23, none⟩ = some (.int .i64 t127) := (blk_cell BK141.out 23).trans rfl
                  have hcz56_24 : wc.cell? ⟨gb141, 24, none⟩ = some (.int .i64 t128) := (blk_cell BK141.out 24).trans rfl
                  have hcz56_25 : wc.cell? ⟨gb141, 25, none⟩ = some (.bool t129) := (blk_cell BK141.out 25).trans rfl
                  have hcz56_26 : wc.cell? ⟨gb141, 26, none⟩ = some (.int .u64 t130) := (blk_cell BK141.out 26).trans rfl
                  have hcz56_27 : wc.cell? ⟨gb141, 27, none⟩ = some (.slice Aq139 nq139 cq139) := (blk_cell BK141.out 27).trans rfl
                  have hcz56_28 : wc.cell? ⟨gb141, 28, none⟩ = some (.int .i64 t134) := (blk_cell BK141.out 28).trans rfl
                  have hcz56_29 : wc.cell? ⟨gb141, 29, none⟩ = some (.string t135) := (blk_cell BK141.out 29).trans rfl
                  have hcz56_30 : wc.cell? ⟨gb141, 30, none⟩ = some (.int .i64 t136) := (blk_cell BK141.out 30).trans rfl
                  have hcz56_31 : wc.cell? ⟨gb141, 31, none⟩ = some (.int .i64 t137) := (blk_cell BK141.out 31).trans rfl
                  have hfz56_0 := blk_frozen BK141.out 0
                  have hfz56_1 := blk_frozen BK141.out 1
                  have hfz56_2 := blk_frozen BK141.out 2
                  have hfz56_3 := blk_frozen BK141.out 3
                  have hfz56_4 := blk_frozen BK141.out 4
                  have hfz56_5 := blk_frozen BK141.out 5
                  have hfz56_6 := blk_frozen BK141.out 6
                  have hfz56_7 := blk_frozen BK141.out 7
                  have hfz56_8 := blk_frozen BK141.out 8
                  have hfz56_9 := blk_frozen BK141.out 9
                  have hfz56_10 := blk_frozen BK141.out 10
                  have hfz56_11 := blk_frozen BK141.out 11
                  have hfz56_12 := blk_frozen BK141.out 12
                  have hfz56_13 := blk_frozen BK141.out 13
                  have hfz56_14 := blk_frozen BK141.out 14
                  have hfz56_15 := blk_frozen BK141.out 15
                  have hfz56_16 := blk_frozen BK141.out 16
                  have hfz56_17 := blk_frozen BK141.out 17
                  have hfz56_18 := blk_frozen BK141.out 18
                  have hfz56_19 := blk_frozen BK141.out 19
                  have hfz56_20 := blk_frozen BK141.out 20
                  have hfz56_21 := blk_frozen BK141.out 21
                  have hfz56_22 := blk_frozen BK141.out 22
                  have hfz56_23 := blk_frozen BK141.out 23
                  have hfz56_24 := blk_frozen BK141.out 24
                  have hfz56_25 := blk_frozen BK141.out 25
                  have hfz56_26 := blk_frozen BK141.out 26
                  have hfz56_27 := blk_frozen BK141.out 27
                  have hfz56_28 := blk_frozen BK141.out 28
                  have hfz56_29 := blk_frozen BK141.out 29
                  have hfz56_30 := blk_frozen BK141.out 30
                  have hfz56_31 := blk_frozen BK141.out 31
                  have hnb57 := NB181_101.out
                  have hnc57 := NB101_181.out
                  have hcz58_0 : wc.cell? ⟨gb181, 0, none⟩ = some (.int .i64 t142) := (blk_cell BK181.out 0).trans rfl
                  have hcz58_1 : wc.cell? ⟨gb181, 1, none⟩ = some (.string t143) := (blk_cell BK181.out 1).trans rfl
                  have hcz58_2 : wc.cell? ⟨gb181, 2, none⟩ = some (.int .i64 t144) := (blk_cell BK181.out 2).trans rfl
                  have hcz58_3 : wc.cell? ⟨gb181, 3, none⟩ = some (.int .i64 t145) := (blk_cell BK181.out 3).trans rfl
                  have hcz58_4 : wc.cell? ⟨gb181, 4, none⟩ = some (.slice Aq178 nq178 cq178) := (blk_cell BK181.out 4).trans rfl
                  have hcz58_5 : wc.cell? ⟨gb181, 5, none⟩ = some (.int .i64 t149) := (blk_cell BK181.out 5).trans rfl
                  have hcz58_6 : wc.cell? ⟨gb181, 6, none⟩ = some (.int .i64 t150) := (blk_cell BK181.out 6).trans rfl
                  have hcz58_7 : wc.cell? ⟨gb181, 7, none⟩ = some (.bool false) := (blk_cell BK181.out 7).trans rfl
                  have hcz58_8 : wc.cell? ⟨gb181, 8, none⟩ = some (.bool t152) := (blk_cell BK181.out 8).trans rfl
                  have hcz58_9 : wc.cell? ⟨gb181, 9, none⟩ = some (.bool false) := (blk_cell BK181.out 9).trans rfl
                  have hcz58_10 : wc.cell? ⟨gb181, 10, none⟩ = some (.int .i64 t154) := (blk_cell BK181.out 10).trans rfl
                  have hcz58_11 : wc.cell? ⟨gb181, 11, none⟩ = some (.string t155) := (blk_cell BK181.out 11).trans rfl
                  have hcz58_12 : wc.cell? ⟨gb181, 12, none⟩ = some (.string t156) := (blk_cell BK181.out 12).trans rfl
                  have hcz58_13 : wc.cell? ⟨gb181, 13, none⟩ = some (.string t157) := (blk_cell BK181.out 13).trans rfl
                  have hcz58_14 : wc.cell? ⟨gb181, 14, none⟩ = some (.int .i64 t158) := (blk_cell BK181.out 14).trans rfl
                  have hcz58_15 : wc.cell? ⟨gb181, 15, none⟩ = some (.bool t159) := (blk_cell BK181.out 15).trans rfl
                  have hcz58_16 : wc.cell? ⟨gb181, 16, none⟩ = some (.bool t160) := (blk_cell BK181.out 16).trans rfl
                  have hcz58_17 : wc.cell? ⟨gb181, 17, none⟩ = some (.int .i64 t161) := (blk_cell BK181.out 17).trans rfl
                  have hcz58_18 : wc.cell? ⟨gb181, 18, none⟩ = some (.int .i64 t162) := (blk_cell BK181.out 18).trans rfl
                  have hcz58_19 : wc.cell? ⟨gb181, 19, none⟩ = some (.string t163) := (blk_cell BK181.out 19).trans rfl
                  have hcz58_20 : wc.cell? ⟨gb181, 20, none⟩ = some (.int .i64 t164) := (blk_cell BK181.out 20).trans rfl
                  have hcz58_21 : wc.cell? ⟨gb181, 21, none⟩ = some (.int .i64 t165) := (blk_cell BK181.out 21).trans rfl
                  have hcz58_22 : wc.cell? ⟨gb181, 22, none⟩ = some (.int .i64 t166) := (blk_cell BK181.out 22).trans rfl
                  have hcz58_23 : wc.cell? ⟨gb181, 23, none⟩ = some (.int .i64 t167) := (blk_cell BK181.out 23).trans rfl
                  have hcz58_24 : wc.cell? ⟨gb181, 24, none⟩ = some (.int .i64 t168) := (blk_cell BK181.out 24).trans rfl
                  have hcz58_25 : wc.cell? ⟨gb181, 25, none⟩ = some (.bool t169) := (blk_cell BK181.out 25).trans rfl
                  have hcz58_26 : wc.cell? ⟨gb181, 26, none⟩ = some (.int .u64 t170) := (blk_cell BK181.out 26).trans rfl
                  have hcz58_27 : wc.cell? ⟨gb181, 27, none⟩ = some (.slice Aq179 nq179 cq179) := (blk_cell BK181.out 27).trans rfl
                  have hcz58_28 : wc.cell? ⟨gb181, 28, none⟩ = some (.int .i64 t174) := (blk_cell BK181.out 28).trans rfl
                  have hcz58_29 : wc.cell? ⟨gb181, 29, none⟩ = some (.string t175) := (blk_cell BK181.out 29).trans rfl
                  have hcz58_30 : wc.cell? ⟨gb181, 30, none⟩ = some (.int .i64 t176) := (blk_cell BK181.out 30).trans rfl
                  have hcz58_31 : wc.cell? ⟨gb181, 31, none⟩ = some (.int .i64 t177) := (blk_cell BK181.out 31).trans rfl
                  have hfz58_0 := blk_frozen BK181.out 0
                  have hfz58_1 := blk_frozen BK181.out 1
                  have hfz58_2 := blk_frozen BK181.out 2
                  have hfz58_3 := blk_frozen BK181.out 3
                  have hfz58_4 := blk_frozen BK181.out 4
                  have hfz58_5 := blk_frozen BK181.out 5
                  have hfz58_6 := blk_frozen BK181.out 6
                  have hfz58_7 := blk_frozen BK181.out 7
                  have hfz58_8 := blk_frozen BK181.out 8
                  have hfz58_9 := blk_frozen BK181.out 9
                  have hfz58_10 := blk_frozen BK181.out 10
                  have hfz58_11 := blk_frozen BK181.out 11
                  have hfz58_12 := blk_frozen BK181.out 12
                  have hfz58_13 := blk_frozen BK181.out 13
                  have hfz58_14 := blk_frozen BK181.out 14
                  have hfz58_15 := blk_frozen BK181.out 15
                  have hfz58_16 := blk_frozen BK181.out 16
                  have hfz58_17 := blk_frozen BK181.out 17
                  have hfz58_18 := blk_frozen BK181.out 18
                  have hfz58_19 := blk_frozen BK181.out 19
                  have hfz58_20 := blk_frozen BK181.out 20
                  have hfz58_21 := blk_frozen BK181.out 21
                  have hfz58_22 := blk_frozen BK181.out 22
                  have hfz58_23 := blk_frozen BK181.out 23
                  have hfz58_24 := blk_frozen BK181.out 24
                  have hfz58_25 := blk_frozen BK181.out 25
                  have hfz58_26 := blk_frozen BK181.out 26
                  have hfz58_27 := blk_frozen BK181.out 27
                  have hfz58_28 := blk_frozen BK181.out 28
                  have hfz58_29 := blk_frozen BK181.out 29
                  have hfz58_30 := blk_frozen BK181.out 30
                  have hfz58_31 := blk_frozen BK181.out 31
                  try go_wp2
                  have n0_ := Aside0.mk (blk_drew BK101.out)
                  have n1_ := Aside0.mk (blk_drew BK141.out)
                  have n2_ := Aside0.mk (blk_drew BK181.out)
                  have n3_ := Aside0.mk (below_drew1 HB.out)
                  clear BK101
                  clear BK141
                  clear BK181
                  clear HB
                  have BK101 := n0_
                  have BK141 := n1_
                  have BK181 := n2_
                  have HB := n3_
                  clear n0_ n1_ n2_ n3_
                  refine start_ (n := 11) (S := fun w' => w'.cell? ⟨gb101, 0, none⟩ = some (.slice A0_0 l0_0.length c0_0) ∧ w'.cell? ⟨gb101, 1, none⟩ = some (.slice A0_1 l0_1.length c0_1) ∧ w'.cell? ⟨gb101, 2, none⟩ = some (.slice A0_2 l0_2.length c0_2) ∧ w'.cell? ⟨gb101, 3, none⟩ = some (.slice A0_3 l0_3.length c0_3) ∧ w'.cell? ⟨gb141, 0, none⟩ = some (.int .i64 t102) ∧ w'.cell? ⟨gb141, 1, none⟩ = some (.string t103) ∧ w'.cell? ⟨gb141, 2, none⟩ = some (.int .i64 t104) ∧ w'.cell? ⟨gb141, 3, none⟩ = some (.int .i64 t105) ∧ w'.cell? ⟨gb141, 4, none⟩ = some (.slice Aq138 nq138 cq138) ∧ w'.cell? ⟨gb141, 5, none⟩ = some (.int .i64 t109) ∧ w'.cell? ⟨gb141, 6, none⟩ = some (.int .i64 t110) ∧ w'.cell? ⟨gb141, 7, none⟩ = some (.bool t111) ∧ w'.cell? ⟨gb141, 8, none⟩ = some (.bool t112) ∧ w'.cell? ⟨gb141, 9, none⟩ = some (.bool t113) ∧ w'.cell? ⟨gb141, 10, none⟩ = some (.int .i64 t114) ∧ w'.cell? ⟨gb141, 11, none⟩ = some (.string t115) ∧ w'.cell? ⟨gb141, 12, none⟩ = some (.string t116) ∧ w'.cell? ⟨gb141, 13, none⟩ = some (.string t117) ∧ w'.cell? ⟨gb141, 14, none⟩ = some (.int .i64 t118) ∧ w'.cell? ⟨gb141, 15, none⟩ = some (.bool t119) ∧ w'.cell? ⟨gb141, 16, none⟩ = some (.bool false) ∧ w'.cell? ⟨gb141, 17, none⟩ = some (.int .i64 t121) ∧ w'.cell? ⟨gb141, 18, none⟩ = some (.int .i64 t122) ∧ w'.cell? ⟨gb141, 19, none⟩ = some (.string t123) ∧ w'.cell? ⟨gb141, 20, none⟩ = some (.int .i64 t124) ∧ w'.cell? ⟨gb141, 21, none⟩ = some (.int .i64 t125) ∧ w'.cell? ⟨gb141, 22, none⟩ = some (.int .i64 t126) ∧ w'.cell? ⟨gb141, 23, none⟩ = some (.int .i64 t127) ∧ w'.cell? ⟨gb141, 24, none⟩ = some (.int .i64 t128) ∧ w'.cell? ⟨gb141, 25, none⟩ = some (.bool t129) ∧ w'.cell? ⟨gb141, 26, none⟩ = some (.int .u64 t130) ∧ w'.cell? ⟨gb141, 27, none⟩ = some (.slice Aq139 nq139 cq139) ∧ w'.cell? ⟨gb141, 28, none⟩ = some (.int .i64 t134) ∧ w'.cell? ⟨gb141, 29, none⟩ = some (.string t135) ∧ w'.cell? ⟨gb141, 30, none⟩ = some (.int .i64 t136) ∧ w'.cell? ⟨gb141, 31, none⟩ = some (.int .i64 t137) ∧ w'.cell? ⟨gb181, 0, none⟩ = some (.int .i64 t142) ∧ w'.cell? ⟨gb181, 1, none⟩ = some (.string t143) ∧ w'.cell? ⟨gb181, 2, none⟩ = some (.int .i64 t144) ∧ w'.cell? ⟨gb181, 3, none⟩ = some (.int .i64 t145) ∧ w'.cell? ⟨gb181, 4, none⟩ = some (.slice Aq178 nq178 cq178) ∧ w'.cell? ⟨gb181, 5, none⟩ = some (.int .i64 t149) ∧ w'.cell? ⟨gb181, 6, none⟩ = some (.int .i64 t150) ∧ w'.cell? ⟨gb181, 7, none⟩ = some (.bool false) ∧ w'.cell? ⟨gb181, 8, none⟩ = some (.bool t152) ∧ w'.cell? ⟨gb181, 9, none⟩ = some (.bool false) ∧ w'.cell? ⟨gb181, 10, none⟩ = some (.int .i64 t154) ∧ w'.cell? ⟨gb181, 11, none⟩ = some (.string t155) ∧ w'.cell? ⟨gb181, 12, none⟩ = some (.string t156) ∧ w'.cell? ⟨gb181, 13, none⟩ = some (.string t157) ∧ w'.cell? ⟨gb181, 14, none⟩ = some (.int .i64 t158) ∧ w'.cell? ⟨gb181, 15, none⟩ = some (.bool t159) ∧ w'.cell? ⟨gb181, 16, none⟩ = some (.bool t160) ∧ w'.cell? ⟨gb181, 17, none⟩ = some (.int .i64 t161) ∧ w'.cell? ⟨gb181, 18, none⟩ = some (.int .i64 t162) ∧ w'.cell? ⟨gb181, 19, none⟩ = some (.string t163) ∧ w'.cell? ⟨gb181, 20, none⟩ = some (.int .i64 t164) ∧ w'.cell? ⟨gb181, 21, none⟩ = some (.int .i64 t165) ∧ w'.cell? ⟨gb181, 22, none⟩ = some (.int .i64 t166) ∧ w'.cell? ⟨gb181, 23, none⟩ = some (.int .i64 t167) ∧ w'.cell? ⟨gb181, 24, none⟩ = some (.int .i64 t168) ∧ w'.cell? ⟨gb181, 25, none⟩ = some (.bool t169) ∧ w'.cell? ⟨gb181, 26, none⟩ = some (.int .u64 t170) ∧ w'.cell? ⟨gb181, 27, none⟩ = some (.slice Aq179 nq179 cq179) ∧ w'.cell? ⟨gb181, 28, none⟩ = some (.int .i64 t174) ∧ w'.cell? ⟨gb181, 29, none⟩ = some (.string t175) ∧ w'.cell? ⟨gb181, 30, none⟩ = some (.int .i64 t176) ∧ w'.cell? ⟨gb181, 31, none⟩ = some (.int .i64 t177)) (ds := []) #[false, false, false, false, false, false, false, false, false, false, false] (by kernel_rfl) rfl rfl ⟨(blk_cell BK101.out 0).trans rfl, (blk_cell BK101.out 1).trans rfl, (blk_cell BK101.out 2).trans rfl, (blk_cell BK101.out 3).trans rfl, (blk_cell BK141.out 0).trans rfl, (blk_cell BK141.out 1).trans rfl, (blk_cell BK141.out 2).trans rfl, (blk_cell BK141.out 3).trans rfl, (blk_cell BK141.out 4).trans rfl, (blk_cell BK141.out 5).trans rfl, (blk_cell BK141.out 6).trans rfl, (blk_cell BK141.out 7).trans rfl, (blk_cell BK141.out 8).trans rfl, (blk_cell BK141.out 9).trans rfl, (blk_cell BK141.out 10).trans rfl, (blk_cell BK141.out 11).trans rfl, (blk_cell BK141.out 12).trans rfl, (blk_cell BK141.out 13).trans rfl, (blk_cell BK141.out 14).trans rfl, (blk_cell BK141.out 15).trans rfl, (blk_cell BK141.out 16).trans rfl, (blk_cell BK141.out 17).trans rfl, (blk_cell BK141.out 18).trans rfl, (blk_cell BK141.out 19).trans rfl, (blk_cell BK141.out 20).trans rfl, (blk_cell BK141.out 21).trans rfl, (blk_cell BK141.out 22).trans rfl, (blk_cell BK141.out 23).trans rfl, (blk_cell BK141.out 24).trans rfl, (blk_cell BK141.out 25).trans rfl, (blk_cell BK141.out 26).trans rfl, (blk_cell BK141.out 27).trans rfl, (blk_cell BK141.out 28).trans rfl, (blk_cell BK141.out 29).trans rfl, (blk_cell BK141.out 30).trans rfl, (blk_cell BK141.out 31).trans rfl, (blk_cell BK181.out 0).trans rfl, (blk_cell BK181.out 1).trans rfl, (blk_cell BK181.out 2).trans rfl, (blk_cell BK181.out 3).trans rfl, (blk_cell BK181.out 4).trans rfl, (blk_cell BK181.out 5).trans rfl, (blk_cell BK181.out 6).trans rfl, (blk_cell BK181.out 7).trans rfl, (blk_cell BK181.out 8).trans rfl, (blk_cell BK181.out 9).trans rfl, (blk_cell BK181.out 10).trans rfl, (blk_cell BK181.out 11).trans rfl, (blk_cell BK181.out 12).trans rfl, (blk_cell BK181.out 13).trans rfl, (blk_cell BK181.out 14).trans rfl, (blk_cell BK181.out 15).trans rfl, (blk_cell BK181.out 16).trans rfl, (blk_cell BK181.out 17).trans rfl, (blk_cell BK181.out 18).trans rfl, (blk_cell BK181.out 19).trans rfl, (blk_cell BK181.out 20).trans rfl, (blk_cell BK181.out 21).trans rfl, (blk_cell BK181.out 22).trans rfl, (blk_cell BK181.out 23).trans rfl, (blk_cell BK181.out 24).trans rfl, (blk_cell BK181.out 25).trans rfl, (blk_cell BK181.out 26).trans rfl, (blk_cell BK181.out 27).trans rfl, (blk_cell BK181.out 28).trans rfl, (blk_cell BK181.out 29).trans rfl, (blk_cell BK181.out 30).trans rfl, (blk_cell BK181.out 31).trans rfl⟩ (fun hHeld => ?_); refine with_tabW rules_Bind.tab13 rules_Bind.bits13 (fun HT_ HW_ => ?_)
                  generalize wc.drew = w59 at BK101 BK141 BK181 HB hHeld ⊢
                  refine pure_ (i := 1) (N := some 56) (v := ?_) (a' := ?_) #[false, true, false, false, false, false, false, false, false, false, false] rfl rfl (any_of HT_.out (by kernel_rfl)) (fun _ _ _ h => h) (Or.inl ⟨by rfl, ?_⟩) ?_ ?_
                  rotate_left
                  · intro w'
                    go_simp
                    with_reducible rfl
                  rotate_left
                  · simp only [Act.put, List.setIfInBounds_toArray, List.set_cons_zero, List.set_cons_succ, i64_w, i32_w]
                    rfl
                  refine pure_ (i := 3) (N := some 58) (v := ?_) (a' := ?_) #[false, true, false, true, false, false, false, false, false, false, false] rfl rfl (any_of HT_.out (by kernel_rfl)) (fun _ _ _ h => h) (Or.inl ⟨by rfl, ?_⟩) ?_ ?_
                  rotate_left
                  · intro w'
                    go_simp
                    with_reducible rfl
                  rotate_left
                  · simp only [Act.put, List.setIfInBounds_toArray, List.set_cons_zero, List.set_cons_succ, i64_w, i32_w]
                    rfl
                  refine pure_ (i := 6) (N := some 61) (v := ?_) (a' := ?_) #[false, true, false, true, false, false, true, false, false, false, false] rfl rfl (any_of HT_.out (by kernel_rfl)) (fun _ _ _ h => h) (Or.inl ⟨by rfl, ?_⟩) ?_ ?_
                  rotate_left
                  · intro w'
                    go_simp
                    with_reducible rfl
                  rotate_left
                  · simp only [Act.put, List.setIfInBounds_toArray, List.set_cons_zero, List.set_cons_succ, i64_w, i32_w]
                    rfl
                  refine take_ (i := 0) (N := some 55) (v := ?_) (a' := ?_) #[true, true, false, true, false, false, true, false, false, false, false] rfl rfl (take_ofW HT_.out HW_.out (by kernel_rfl)) (fun _ _ _ h => h) (Or.inl ⟨by rfl, ?_⟩) hHeld ?_ ?_
                  rotate_left
                  · rintro w' ⟨s0, s1, s2, s3, s4, s5, s6, s7, s8, s9, s10, s11, s12, s13, s14, s15, s16, s17, s18, s19, s20, s21, s22, s23, s24, s25, s26, s27, s28, s29, s30, s31, s32, s33, s34, s35, s36, s37, s38, s39, s40, s41, s42, s43, s44, s45, s46, s47, s48, s49, s50, s51, s52, s53, s54, s55, s56, s57, s58, s59, s60, s61, s62, s63, s64, s65, s66, s67⟩
                    go_simp
                    with_reducible rfl
                  rotate_left
                  · simp only [Act.put, List.setIfInBounds_toArray, List.set_cons_zero, List.set_cons_succ, i64_w, i32_w]
                    rfl
                  refine take_ (i := 4) (N := some 59) (v := ?_) (a' := ?_) #[true, true, false, true, true, false, true, false, false, false, false] rfl rfl (take_ofW HT_.out HW_.out (by kernel_rfl)) (fun _ _ _ h => h) (Or.inl ⟨by rfl, ?_⟩) hHeld ?_ ?_
                  rotate_left
                  · rintro w' ⟨s0, s1, s2, s3, s4, s5, s6, s7, s8, s9, s10, s11, s12, s13, s14, s15, s16, s17, s18, s19, s20, s21, s22, s23, s24, s25, s26, s27, s28, s29, s30, s31, s32, s33, s34, s35, s36, s37, s38, s39, s40, s41, s42, s43, s44, s45, s46, s47, s48, s49, s50, s51, s52, s53, s54, s55, s56, s57, s58, s59, s60, s61, s62, s63, s64, s65, s66, s67⟩
                    go_simp
                    with_reducible rfl
                  rotate_left
                  · simp only [Act.put, List.setIfInBounds_toArray, List.set_cons_zero, List.set_cons_succ, i64_w, i32_w]
                    rfl
                  refine take_ (i := 7) (N := some 62) (v := ?_) (a' := ?_) #[true, true, false, true, true, false, true, true, false, false, false] rfl rfl (take_ofW HT_.out HW_.out (by kernel_rfl)) (fun _ _ _ h => h) (Or.inl ⟨by rfl, ?_⟩) hHeld ?_ ?_
                  rotate_left
                  · rintro w' ⟨s0, s1, s2, s3, s4, s5, s6, s7, s8, s9, s10, s11, s12, s13, s14, s15, s16, s17, s18, s19, s20, s21, s22, s23, s24, s25, s26, s27, s28, s29, s30, s31, s32, s33, s34, s35, s36, s37, s38, s39, s40, s41, s42, s43, s44, s45, s46, s47, s48, s49, s50, s51, s52, s53, s54, s55, s56, s57, s58, s59, s60, s61, s62, s63, s64, s65, s66, s67⟩
                    go_simp
                    with_reducible rfl
                  rotate_left
                  · simp only [Act.put, List.setIfInBounds_toArray, List.set_cons_zero, List.set_cons_succ, i64_w, i32_w]
                    rfl
                  refine one_ (i := 2) (N := some 57) #[true, true, true, true, true, false, true, true, false, false, false] rfl rfl (one_of HT_.out (by kernel_rfl)) (by decide) (fun K hK => ?_)
                  refine goes_ Try.func38 (by kernel_rfl) rfl #[.agg #[.slice A0_0 l0_0.length c0_0, .slice A0_1 l0_1.length c0_1, .slice A0_2 l0_2.length c0_2, .slice A0_3 l0_3.length c0_3], .string a2] (by rfl) rfl rfl (by (try simp only [List.map_toArray, List.map_cons, List.map_nil]); first | done | rfl | (simp only [List.length_drop, List.length_take]; rfl)) ?_
                  with_reducible refine (rules_Used.calls kj5 _ _ l0_0 _ _ l0_1 _ _ l0_2 _ _ l0_3 a2 t182 t183 _ ?side1 ?side2 ?side3 ?side4 ?side5 ?side6 ?side7 ?side8 A41.out).mono ?_
                  (case side1 => repeat (first | exact (Kd.C_below HR0_0.out HB.out) | (with_reducible refine Kd.C_alloc ?_ _) | (with_reducible refine Kd.C_drewN ?_ _) | (with_reducible refine Kd.C_drew ?_)))
                  (case side2 => exact HC0_0.out)
                  (case side3 => repeat (first | exact (Kd.C_below HR0_1.out HB.out) | (with_reducible refine Kd.C_alloc ?_ _) | (with_reducible refine Kd.C_drewN ?_ _) | (with_reducible refine Kd.C_drew ?_)))
                  (case side4 => exact HC0_1.out)
                  (case side5 => repeat (first | exact (Kd.C_below HR0_2.out HB.out) | (with_reducible refine Kd.C_alloc ?_ _) | (with_reducible refine Kd.C_drewN ?_ _) | (with_reducible refine Kd.C_drew ?_)))
                  (case side6 => exact HC0_2.out)
                  (case side7 => repeat (first | exact (Kd.C_below HR0_3.out HB.out) | (with_reducible refine Kd.C_alloc ?_ _) | (with_reducible refine Kd.C_drewN ?_ _) | (with_reducible refine Kd.C_drew ?_)))
                  (case side8 => exact HC0_3.out)
                  rintro e w60 ⟨rfl, hb⟩
                  refine ⟨_, rfl, ?_⟩
                  have n0_ := Aside0.mk (blk_below (g := gb101) (o := .cells #[.slice A0_0 l0_0.length c0_0, .slice A0_1 l0_1.length c0_1, .slice A0_2 l0_2.length c0_2, .slice A0_3 l0_3.length c0_3] 59 (0, 0)) (by (with_reducible repeat (first | refine blk_drewN ?_ _ | refine blk_drew ?_ | refine blk_alloc ?_ _)); exact BK101.out) hb)
                  have n1_ := Aside0.mk (blk_below (g := gb141) (o := .cells #[.int .i64 t102, .string t103, .int .i64 t104, .int .i64 t105, .slice Aq138 nq138 cq138, .int .i64 t109, .int .i64 t110, .bool t111, .bool t112, .bool t113, .int .i64 t114, .string t115, .string t116, .string t117, .int .i64 t118, .bool t119, .bool false, .int .i64 t121, .int .i64 t122, .string t123, .int .i64 t124, .int .i64 t125, .int .i64 t126, .int .i64 t127, .int .i64 t128, .bool t129, .int .u64 t130, .slice Aq139 nq139 cq139, .int .i64 t134, .string t135, .int .i64 t136, .int .i64 t137] 68 (0, 0)) (by (with_reducible repeat (first | refine blk_drewN ?_ _ | refine blk_drew ?_ | refine blk_alloc ?_ _)); exact BK141.out) hb)
                  have n2_ := Aside0.mk (blk_below (g := gb181) (o := .cells #[.int .i64 t142, .string t143, .int .i64 t144, .int .i64 t145, .slice Aq178 nq178 cq178, .int .i64 t149, .int .i64 t150, .bool false, .bool t152, .bool false, .int .i64 t154, .string t155, .string t156, .string t157, .int .i64 t158, .bool t159, .bool t160, .int .i64 t161, .int .i64 t162, .string t163, .int .i64 t164, .int .i64 t165, .int .i64 t166, .int .i64 t167, .int .i64 t168, .bool t169, .int .u64 t170, .slice Aq179 nq179 cq179, .int .i64 t174, .string t175, .int .i64 t176, .int .i64 t177] 68 (0, 0)) (by (with_reducible repeat (first | refine blk_drewN ?_ _ | refine blk_drew ?_ | refine blk_alloc ?_ _)); exact BK181.out) hb)
                  have n3_ := Aside0.mk (below_step (by repeat (first | (with_reducible first | exact HB.out | apply below_alloc | apply pw_below_drewN | apply below_drew1 | refine below_set ?_ GE101.out | refine below_set ?_ GE141.out | refine below_set ?_ GE181.out) | exact HB.out)) hb)
                  clear BK101
                  clear BK141
                  clear BK181
                  clear HB
                  have BK101 := n0_
                  have BK141 := n1_
                  have BK181 := n2_
                  have HB := n3_
                  clear n0_ n1_ n2_ n3_
                  (try clear hb)
                  (try clear hb2)
                  (try clear hk)
                  (try clear hi)
                  refine hK.out _ _ ⟨(blk_cell BK101.out 0).trans rfl, (blk_cell BK101.out 1).trans rfl, (blk_cell BK101.out 2).trans rfl, (blk_cell BK101.out 3).trans rfl, (blk_cell BK141.out 0).trans rfl, (blk_cell BK141.out 1).trans rfl, (blk_cell BK141.out 2).trans rfl, (blk_cell BK141.out 3).trans rfl, (blk_cell BK141.out 4).trans rfl, (blk_cell BK141.out 5).trans rfl, (blk_cell BK141.out 6).trans rfl, (blk_cell BK141.out 7).trans rfl, (blk_cell BK141.out 8).trans rfl, (blk_cell BK141.out 9).trans rfl, (blk_cell BK141.out 10).trans rfl, (blk_cell BK141.out 11).trans rfl, (blk_cell BK141.out 12).trans rfl, (blk_cell BK141.out 13).trans rfl, (blk_cell BK141.out 14).trans rfl, (blk_cell BK141.out 15).trans rfl, (blk_cell BK141.out 16).trans rfl, (blk_cell BK141.out 17).trans rfl, (blk_cell BK141.out 18).trans rfl, (blk_cell BK141.out 19).trans rfl, (blk_cell BK141.out 20).trans rfl, (blk_cell BK141.out 21).trans rfl, (blk_cell BK141.out 22).trans rfl, (blk_cell BK141.out 23).trans rfl, (blk_cell BK141.out 24).trans rfl, (blk_cell BK141.out 25).trans rfl, (blk_cell BK141.out 26).trans rfl, (blk_cell BK141.out 27).trans rfl, (blk_cell BK141.out 28).trans rfl, (blk_cell BK141.out 29).trans rfl, (blk_cell BK141.out 30).trans rfl, (blk_cell BK141.out 31).trans rfl, (blk_cell BK181.out 0).trans rfl, (blk_cell BK181.out 1).trans rfl, (blk_cell BK181.out 2).trans rfl, (blk_cell BK181.out 3).trans rfl, (blk_cell BK181.out 4).trans rfl, (blk_cell BK181.out 5).trans rfl, (blk_cell BK181.out 6).trans rfl, (blk_cell BK181.out 7).trans rfl, (blk_cell BK181.out 8).trans rfl, (blk_cell BK181.out 9).trans rfl, (blk_cell BK181.out 10).trans rfl, (blk_cell BK181.out 11).trans rfl, (blk_cell BK181.out 12).trans rfl, (blk_cell BK181.out 13).trans rfl, (blk_cell BK181.out 14).trans rfl, (blk_cell BK181.out 15).trans rfl, (blk_cell BK181.out 16).trans rfl, (blk_cell BK181.out 17).trans rfl, (blk_cell BK181.out 18).trans rfl, (blk_cell BK181.out 19).trans rfl, (blk_cell BK181.out 20).trans rfl, (blk_cell BK181.out 21).trans rfl, (blk_cell BK181.out 22).trans rfl, (blk_cell BK181.out 23).trans rfl, (blk_cell BK181.out 24).trans rfl, (blk_cell BK181.out 25).trans rfl, (blk_cell BK181.out 26).trans rfl, (blk_cell BK181.out 27).trans rfl, (blk_cell BK181.out 28).trans rfl, (blk_cell BK181.out 29).trans rfl, (blk_cell BK181.out 30).trans rfl, (blk_cell BK181.out 31).trans rfl⟩ (fun hHeld => ?_)
                  clear hK K
                  refine norm_ (a' := ?_) ?_ ?_
                  rotate_left
                  · show Act.put _ (some 57) _ = _
                    simp only [Act.put, List.setIfInBounds_toArray, List.set_cons_zero, List.set_cons_succ, i64_w, i32_w]
                    rfl
                  refine one_ (i := 5) (N := some 60) #[true, true, true, true, true, true, true, true, false, false, false] rfl rfl (one_of HT_.out (by kernel_rfl)) (by decide) (fun K hK => ?_)
                  refine goes_ Try.func88 (by kernel_rfl) rfl #[.agg #[.int .i64 t182, .int .i64 t183], .agg #[.int .i64 t121, .int .i64 t122]] (by rfl) rfl rfl (by (try simp only [List.map_toArray, List.map_cons, List.map_nil]); first | done | rfl | (simp only [List.length_drop, List.length_take]; rfl)) ?_
                  with_reducible refine (rules_both.calls t182 t183 t121 t122 t184 t185 _ A42.out).mono ?_
                  rintro e w61 ⟨rfl, hb⟩
                  refine ⟨_, rfl, ?_⟩
                  have n0_ := Aside0.mk (blk_below (g := gb101) (o := .cells #[.slice A0_0 l0_0.length c0_0, .slice A0_1 l0_1.length c0_1, .slice A0_2 l0_2.length c0_2, .slice A0_3 l0_3.length c0_3] 59 (0, 0)) (by (with_reducible repeat (first | refine blk_drewN ?_ _ | refine blk_drew ?_ | refine blk_alloc ?_ _)); exact BK101.out) hb)
                  have n1_ := Aside0.mk (blk_below (g := gb141) (o := .cells #[.int .i64 t102, .string t103, .int .i64 t104, .int .i64 t105, .slice Aq138 nq138 cq138, .int .i64 t109, .int .i64 t110, .bool t111, .bool t112, .bool t113, .int .i64 t114, .string t115, .string t116, .string t117, .int .i64 t118, .bool t119, .bool false, .int .i64 t121, .int .i64 t122, .string t123, .int .i64 t124, .int .i64 t125, .int .i64 t126, .int .i64 t127, .int .i64 t128, .bool t129, .int .u64 t130, .slice Aq139 nq139 cq139, .int .i64 t134, .string t135, .int .i64 t136, .int .i64 t137] 68 (0, 0)) (by (with_reducible repeat (first | refine blk_drewN ?_ _ | refine blk_drew ?_ | refine blk_alloc ?_ _)); exact BK141.out) hb)
                  have n2_ := Aside0.mk (blk_below (g := gb181) (o := .cells #[.int .i64 t142, .string t143, .int .i64 t144, .int .i64 t145, .slice Aq178 nq178 cq178, .int .i64 t149, .int .i64 t150, .bool false, .bool t152, .bool false, .int .i64 t154, .string t155, .string t156, .string t157, .int .i64 t158, .bool t159, .bool t160, .int .i64 t161, .int .i64 t162, .string t163, .int .i64 t164, .int .i64 t165, .int .i64 t166, .int .i64 t167, .int .i64 t168, .bool t169, .int .u64 t170, .slice Aq179 nq179 cq179, .int .i64 t174, .string t175, .int .i64 t176, .int .i64 t177] 68 (0, 0)) (by (with_reducible repeat (first | refine blk_drewN ?_ _ | refine blk_drew ?_ | refine blk_alloc ?_ _)); exact BK181.out) hb)
                  have n3_ := Aside0.mk (below_step (by repeat (first | (with_reducible first | exact HB.out | apply below_alloc | apply pw_below_drewN | apply below_drew1 | refine below_set ?_ GE101.out | refine below_set ?_ GE141.out | refine below_set ?_ GE181.out) | exact HB.out)) hb)
                  clear BK101
                  clear BK141
                  clear BK181
                  clear HB
                  have BK101 := n0_
                  have BK141 := n1_
                  have BK181 := n2_
                  have HB := n3_
                  clear n0_ n1_ n2_ n3_
                  (try clear hb)
                  (try clear hb2)
                  (try clear hk)
                  (try clear hi)
                  refine hK.out _ _ ⟨(blk_cell BK101.out 0).trans rfl, (blk_cell BK101.out 1).trans rfl, (blk_cell BK101.out 2).trans rfl, (blk_cell BK101.out 3).trans rfl, (blk_cell BK141.out 0).trans rfl, (blk_cell BK141.out 1).trans rfl, (blk_cell BK141.out 2).trans rfl, (blk_cell BK141.out 3).trans rfl, (blk_cell BK141.out 4).trans rfl, (blk_cell BK141.out 5).trans rfl, (blk_cell BK141.out 6).trans rfl, (blk_cell BK141.out 7).trans rfl, (blk_cell BK141.out 8).trans rfl, (blk_cell BK141.out 9).trans rfl, (blk_cell BK141.out 10).trans rfl, (blk_cell BK141.out 11).trans rfl, (blk_cell BK141.out 12).trans rfl, (blk_cell BK141.out 13).trans rfl, (blk_cell BK141.out 14).trans rfl, (blk_cell BK141.out 15).trans rfl, (blk_cell BK141.out 16).trans rfl, (blk_cell BK141.out 17).trans rfl, (blk_cell BK141.out 18).trans rfl, (blk_cell BK141.out 19).trans rfl, (blk_cell BK141.out 20).trans rfl, (blk_cell BK141.out 21).trans rfl, (blk_cell BK141.out 22).trans rfl, (blk_cell BK141.out 23).trans rfl, (blk_cell BK141.out 24).trans rfl, (blk_cell BK141.out 25).trans rfl, (blk_cell BK141.out 26).trans rfl, (blk_cell BK141.out 27).trans rfl, (blk_cell BK141.out 28).trans rfl, (blk_cell BK141.out 29).trans rfl, (blk_cell BK141.out 30).trans rfl, (blk_cell BK141.out 31).trans rfl, (blk_cell BK181.out 0).trans rfl, (blk_cell BK181.out 1).trans rfl, (blk_cell BK181.out 2).trans rfl, (blk_cell BK181.out 3).trans rfl, (blk_cell BK181.out 4).trans rfl, (blk_cell BK181.out 5).trans rfl, (blk_cell BK181.out 6).trans rfl, (blk_cell BK181.out 7).trans rfl, (blk_cell BK181.out 8).trans rfl, (blk_cell BK181.out 9).trans rfl, (blk_cell BK181.out 10).trans rfl, (blk_cell BK181.out 11).trans rfl, (blk_cell BK181.out 12).trans rfl, (blk_cell BK181.out 13).trans rfl, (blk_cell BK181.out 14).trans rfl, (blk_cell BK181.out 15).trans rfl, (blk_cell BK181.out 16).trans rfl, (blk_cell BK181.out 17).trans rfl, (blk_cell BK181.out 18).trans rfl, (blk_cell BK181.out 19).trans rfl, (blk_cell BK181.out 20).trans rfl, (blk_cell BK181.out 21).trans rfl, (blk_cell BK181.out 22).trans rfl, (blk_cell BK181.out 23).trans rfl, (blk_cell BK181.out 24).trans rfl, (blk_cell BK181.out 25).trans rfl, (blk_cell BK181.out 26).trans rfl, (blk_cell BK181.out 27).trans rfl, (blk_cell BK181.out 28).trans rfl, (blk_cell BK181.out 29).trans rfl, (blk_cell BK181.out 30).trans rfl, (blk_cell BK181.out 31).trans rfl⟩ (fun hHeld => ?_)
                  clear hK K
                  refine norm_ (a' := ?_) ?_ ?_
                  rotate_left
                  · show Act.put _ (some 60) _ = _
                    simp only [Act.put, List.setIfInBounds_toArray, List.set_cons_zero, List.set_cons_succ, i64_w, i32_w]
                    rfl
                  refine one_ (i := 8) (N := some 63) #[true, true, true, true, true, true, true, true, true, false, false] rfl rfl (one_of HT_.out (by kernel_rfl)) (by decide) (fun K hK => ?_)
                  refine goes_ Try.func102 (by kernel_rfl) rfl #[.agg #[.int .i64 t184, .int .i64 t185], .agg #[.int .i64 t149, .int .i64 t150]] (by rfl) rfl rfl (by (try simp only [List.map_toArray, List.map_cons, List.map_nil]); first | done | rfl | (simp only [List.length_drop, List.length_take]; rfl)) ?_
                  with_reducible refine (amount_Fits.calls t184 t185 t149 t150 false _ A43.out).mono ?_
                  rintro e w62 ⟨rfl, hb⟩
                  refine ⟨_, rfl, ?_⟩
                  have n0_ := Aside0.mk (blk_below (g := gb101) (o := .cells #[.slice A0_0 l0_0.length c0_0, .slice A0_1 l0_1.length c0_1, .slice A0_2 l0_2.length c0_2, .slice A0_3 l0_3.length c0_3] 59 (0, 0)) (by (with_reducible repeat (first | refine blk_drewN ?_ _ | refine blk_drew ?_ | refine blk_alloc ?_ _)); exact BK101.out) hb)
                  have n1_ := Aside0.mk (blk_below (g := gb141) (o := .cells #[.int .i64 t102, .string t103, .int .i64 t104, .int .i64 t105, .slice Aq138 nq138 cq138, .int .i64 t109, .int .i64 t110, .bool t111, .bool t112, .bool t113, .int .i64 t114, .string t115, .string t116, .string t117, .int .i64 t118, .bool t119, .bool false, .int .i64 t121, .int .i64 t122, .string t123, .int .i64 t124, .int .i64 t125, .int .i64 t126, .int .i64 t127, .int .i64 t128, .bool t129, .int .u64 t130, .slice Aq139 nq139 cq139, .int .i64 t134, .string t135, .int .i64 t136, .int .i64 t137] 68 (0, 0)) (by (with_reducible repeat (first | refine blk_drewN ?_ _ | refine blk_drew ?_ | refine blk_alloc ?_ _)); exact BK141.out) hb)
                  have n2_ := Aside0.mk (blk_below (g := gb181) (o := .cells #[.int .i64 t142, .string t143, .int .i64 t144, .int .i64 t145, .slice Aq178 nq178 cq178, .int .i64 t149, .int .i64 t150, .bool false, .bool t152, .bool false, .int .i64 t154, .string t155, .string t156, .string t157, .int .i64 t158, .bool t159, .bool t160, .int .i64 t161, .int .i64 t162, .string t163, .int .i64 t164, .int .i64 t165, .int .i64 t166, .int .i64 t167, .int .i64 t168, .bool t169, .int .u64 t170, .slice Aq179 nq179 cq179, .int .i64 t174, .string t175, .int .i64 t176, .int .i64 t177] 68 (0, 0)) (by (with_reducible repeat (first | refine blk_drewN ?_ _ | refine blk_drew ?_ | refine blk_alloc ?_ _)); exact BK181.out) hb)
                  have n3_ := Aside0.mk (below_step (by repeat (first | (with_reducible first | exact HB.out | apply below_alloc | apply pw_below_drewN | apply below_drew1 | refine below_set ?_ GE101.out | refine below_set ?_ GE141.out | refine below_set ?_ GE181.out) | exact HB.out)) hb)
                  clear BK101
                  clear BK141
                  clear BK181
                  clear HB
                  have BK101 := n0_
                  have BK141 := n1_
                  have BK181 := n2_
                  have HB := n3_
                  clear n0_ n1_ n2_ n3_
                  (try clear hb)
                  (try clear hb2)
                  (try clear hk)
                  (try clear hi)
                  refine hK.out _ _ ⟨(blk_cell BK101.out 0).trans rfl, (blk_cell BK101.out 1).trans rfl, (blk_cell BK101.out 2).trans rfl, (blk_cell BK101.out 3).trans rfl, (blk_cell BK141.out 0).trans rfl, (blk_cell BK141.out 1).trans rfl, (blk_cell BK141.out 2).trans rfl, (blk_cell BK141.out 3).trans rfl, (blk_cell BK141.out 4).trans rfl, (blk_cell BK141.out 5).trans rfl, (blk_cell BK141.out 6).trans rfl, (blk_cell BK141.out 7).trans rfl, (blk_cell BK141.out 8).trans rfl, (blk_cell BK141.out 9).trans rfl, (blk_cell BK141.out 10).trans rfl, (blk_cell BK141.out 11).trans rfl, (blk_cell BK141.out 12).trans rfl, (blk_cell BK141.out 13).trans rfl, (blk_cell BK141.out 14).trans rfl, (blk_cell BK141.out 15).trans rfl, (blk_cell BK141.out 16).trans rfl, (blk_cell BK141.out 17).trans rfl, (blk_cell BK141.out 18).trans rfl, (blk_cell BK141.out 19).trans rfl, (blk_cell BK141.out 20).trans rfl, (blk_cell BK141.out 21).trans rfl, (blk_cell BK141.out 22).trans rfl, (blk_cell BK141.out 23).trans rfl, (blk_cell BK141.out 24).trans rfl, (blk_cell BK141.out 25).trans rfl, (blk_cell BK141.out 26).trans rfl, (blk_cell BK141.out 27).trans rfl, (blk_cell BK141.out 28).trans rfl, (blk_cell BK141.out 29).trans rfl, (blk_cell BK141.out 30).trans rfl, (blk_cell BK141.out 31).trans rfl, (blk_cell BK181.out 0).trans rfl, (blk_cell BK181.out 1).trans rfl, (blk_cell BK181.out 2).trans rfl, (blk_cell BK181.out 3).trans rfl, (blk_cell BK181.out 4).trans rfl, (blk_cell BK181.out 5).trans rfl, (blk_cell BK181.out 6).trans rfl, (blk_cell BK181.out 7).trans rfl, (blk_cell BK181.out 8).trans rfl, (blk_cell BK181.out 9).trans rfl, (blk_cell BK181.out 10).trans rfl, (blk_cell BK181.out 11).trans rfl, (blk_cell BK181.out 12).trans rfl, (blk_cell BK181.out 13).trans rfl, (blk_cell BK181.out 14).trans rfl, (blk_cell BK181.out 15).trans rfl, (blk_cell BK181.out 16).trans rfl, (blk_cell BK181.out 17).trans rfl, (blk_cell BK181.out 18).trans rfl, (blk_cell BK181.out 19).trans rfl, (blk_cell BK181.out 20).trans rfl, (blk_cell BK181.out 21).trans rfl, (blk_cell BK181.out 22).trans rfl, (blk_cell BK181.out 23).trans rfl, (blk_cell BK181.out 24).trans rfl, (blk_cell BK181.out 25).trans rfl, (blk_cell BK181.out 26).trans rfl, (blk_cell BK181.out 27).trans rfl, (blk_cell BK181.out 28).trans rfl, (blk_cell BK181.out 29).trans rfl, (blk_cell BK181.out 30).trans rfl, (blk_cell BK181.out 31).trans rfl⟩ (fun hHeld => ?_)
                  clear hK K
                  refine norm_ (a' := ?_) ?_ ?_
                  rotate_left
                  · show Act.put _ (some 63) _ = _
                    simp only [Act.put, List.setIfInBounds_toArray, List.set_cons_zero, List.set_cons_succ, i64_w, i32_w]
                    rfl
                  refine pure_ (i := 9) (N := some 64) (v := ?_) (a' := ?_) #[true, true, true, true, true, true, true, true, true, true, false] rfl rfl (any_of HT_.out (by kernel_rfl)) (fun _ _ _ h => h) (Or.inl ⟨by rfl, ?_⟩) ?_ ?_
                  rotate_left
                  · intro w'
                    go_simp
                    with_reducible rfl
                  rotate_left
                  · simp only [Act.put, List.setIfInBounds_toArray, List.set_cons_zero, List.set_cons_succ, i64_w, i32_w]
                    rfl
                  refine pure_ (i := 10) (N := some 54) (v := ?_) (a' := ?_) #[true, true, true, true, true, true, true, true, true, true, true] rfl rfl (any_of HT_.out (by kernel_rfl)) (fun _ _ _ h => h) (Or.inl ⟨by rfl, ?_⟩) ?_ ?_
                  rotate_left
                  · intro w'
                    go_simp
                    with_reducible rfl
                  rotate_left
                  · simp only [Act.put, List.setIfInBounds_toArray, List.set_cons_zero, List.set_cons_succ, i64_w, i32_w]
                    rfl
                  refine done_ (done_of HT_.out (by kernel_rfl)) ?_
                  try go_wp2
                  go_ret
                  exact ⟨by first | rfl | (simp [errW_none, errW_some] <;> rfl) | (simp [*, errW_none, errW_some] <;> rfl), by repeat (first | (with_reducible first | exact HB.out | apply below_alloc | apply pw_below_drewN | apply below_drew1 | refine below_set ?_ GE101.out | refine below_set ?_ GE141.out | refine below_set ?_ GE181.out) | exact HB.out)⟩
          · rw [if_neg c28] at H
            have c28b0 : (t117.toList == ([] : List UInt8)) = false := beq_eq_false_iff_ne.mpr c28
            have c28b1 : (t117.toList != ([] : List UInt8)) = true := bne_iff_ne.mpr c28
            obtain rfl := Option.some.inj H
            have hnb63 := NB141_101.out
            have hnc63 := NB101_141.out
            have hnb64 := NB141_181.out
            have hnc64 := NB181_141.out
            have hcz65_0 : wc.cell? ⟨gb141, 0, none⟩ = some (.int .i64 t102) := (blk_cell BK141.out 0).trans rfl
            have hcz65_1 : wc.cell? ⟨gb141, 1, none⟩ = some (.string t103) := (blk_cell BK141.out 1).trans rfl
            have hcz65_2 : wc.cell? ⟨gb141, 2, none⟩ = some (.int .i64 t104) := (blk_cell BK141.out 2).trans rfl
            have hcz65_3 : wc.cell? ⟨gb141, 3, none⟩ = some (.int .i64 t105) := (blk_cell BK141.out 3).trans rfl
            have hcz65_4 : wc.cell? ⟨gb141, 4, none⟩ = some (.slice Aq138 nq138 cq138) := (blk_cell BK141.out 4).trans rfl
            have hcz65_5 : wc.cell? ⟨gb141, 5, none⟩ = some (.int .i64 t109) := (blk_cell BK141.out 5).trans rfl
            have hcz65_6 : wc.cell? ⟨gb141, 6, none⟩ = some (.int .i64 t110) := (blk_cell BK141.out 6).trans rfl
            have hcz65_7 : wc.cell? ⟨gb141, 7, none⟩ = some (.bool t111) := (blk_cell BK141.out 7).trans rfl
            have hcz65_8 : wc.cell? ⟨gb141, 8, none⟩ = some (.bool t112) := (blk_cell BK141.out 8).trans rfl
            have hcz65_9 : wc.cell? ⟨gb141, 9, none⟩ = some (.bool t113) := (blk_cell BK141.out 9).trans rfl
            have hcz65_10 : wc.cell? ⟨gb141, 10, none⟩ = some (.int .i64 t114) := (blk_cell BK141.out 10).trans rfl
            have hcz65_11 : wc.cell? ⟨gb141, 11, none⟩ = some (.string t115) := (blk_cell BK141.out 11).trans rfl
            have hcz65_12 : wc.cell? ⟨gb141, 12, none⟩ = some (.string t116) := (blk_cell BK141.out 12).trans rfl
            have hcz65_13 : wc.cell? ⟨gb141, 13, none⟩ = some (.string t117) := (blk_cell BK141.out 13).trans rfl
            have hcz65_14 : wc.cell? ⟨gb141, 14, none⟩ = some (.int .i64 t118) := (blk_cell BK141.out 14).trans rfl
            have hcz65_15 : wc.cell? ⟨gb141, 15, none⟩ = some (.bool t119) := (blk_cell BK141.out 15).trans rfl
            have hcz65_16 : wc.cell? ⟨gb141, 16, none⟩ = some (.bool false) := (blk_cell BK141.out 16).trans rfl
            have hcz65_17 : wc.cell? ⟨gb141, 17, none⟩ = some (.int .i64 t121) := (blk_cell BK141.out 17).trans rfl
            have hcz65_18 : wc.cell? ⟨gb141, 18, none⟩ = some (.int .i64 t122) := (blk_cell BK141.out 18).trans rfl
            have hcz65_19 : wc.cell? ⟨gb141, 19, none⟩ = some (.string t123) := (blk_cell BK141.out 19).trans rfl
            have hcz65_20 : wc.cell? ⟨gb141, 20, none⟩ = some (.int .i64 t124) := (blk_cell BK141.out 20).trans rfl
            have hcz65_21 : wc.cell? ⟨gb141, 21, none⟩ = some (.int .i64 t125) := (blk_cell BK141.out 21).trans rfl
            have hcz65_22 : wc.cell? ⟨gb141, 22, none⟩ = some (.int .i64 t126) := (blk_cell BK141.out 22).trans rfl
            have hcz65_23 : wc.cell? ⟨gb141, 23, none⟩ = some (.int .i64 t127) := (blk_cell BK141.out 23).trans rfl
            have hcz65_24 : wc.cell? ⟨gb141, 24, none⟩ = some (.int .i64 t128) := (blk_cell BK141.out 24).trans rfl
            have hcz65_25 : wc.cell? ⟨gb141, 25, none⟩ = some (.bool t129) := (blk_cell BK141.out 25).trans rfl
            have hcz65_26 : wc.cell? ⟨gb141, 26, none⟩ = some (.int .u64 t130) := (blk_cell BK141.out 26).trans rfl
            have hcz65_27 : wc.cell? ⟨gb141, 27, none⟩ = some (.slice Aq139 nq139 cq139) := (blk_cell BK141.out 27).trans rfl
            have hcz65_28 : wc.cell? ⟨gb141, 28, none⟩ = some (.int .i64 t134) := (blk_cell BK141.out 28).trans rfl
            have hcz65_29 : wc.cell? ⟨gb141, 29, none⟩ = some (.string t135) := (blk_cell BK141.out 29).trans rfl
            have hcz65_30 : wc.cell? ⟨gb141, 30, none⟩ = some (.int .i64 t136) := (blk_cell BK141.out 30).trans rfl
            have hcz65_31 : wc.cell? ⟨gb141, 31, none⟩ = some (.int .i64 t137) := (blk_cell BK141.out 31).trans rfl
            have hfz65_0 := blk_frozen BK141.out 0
            have hfz65_1 := blk_frozen BK141.out 1
            have hfz65_2 := blk_frozen BK141.out 2
            have hfz65_3 := blk_frozen BK141.out 3
            have hfz65_4 := blk_frozen BK141.out 4
            have hfz65_5 := blk_frozen BK141.out 5
            have hfz65_6 := blk_frozen BK141.out 6
            have hfz65_7 := blk_frozen BK141.out 7
            have hfz65_8 := blk_frozen BK141.out 8
            have hfz65_9 := blk_frozen BK141.out 9
            have hfz65_10 := blk_frozen BK141.out 10
            have hfz65_11 := blk_frozen BK141.out 11
            have hfz65_12 := blk_frozen BK141.out 12
            have hfz65_13 := blk_frozen BK141.out 13
            have hfz65_14 := blk_frozen BK141.out 14
            have hfz65_15 := blk_frozen BK141.out 15
            have hfz65_16 := blk_frozen BK141.out 16
            have hfz65_17 := blk_frozen BK141.out 17
            have hfz65_18 := blk_frozen BK141.out 18
            have hfz65_19 := blk_frozen BK141.out 19
            have hfz65_20 := blk_frozen BK141.out 20
            have hfz65_21 := blk_frozen BK141.out 21
            have hfz65_22 := blk_frozen BK141.out 22
            have hfz65_23 := blk_frozen BK141.out 23
            have hfz65_24 := blk_frozen BK141.out 24
            have hfz65_25 := blk_frozen BK141.out 25
            have hfz65_26 := blk_frozen BK141.out 26
            have hfz65_27 := blk_frozen BK141.out 27
            have hfz65_28 := blk_frozen BK141.out 28
            have hfz65_29 := blk_frozen BK141.out 29
            have hfz65_30 := blk_frozen BK141.out 30
            have hfz65_31 := blk_frozen BK141.out 31
            go_wp2
            go_ret
            exact ⟨by first | rfl | (simp [errW_none, errW_some] <;> rfl) | (simp [*, errW_none, errW_some] <;> rfl), by repeat (first | (with_reducible first | exact HB.out | apply below_alloc | apply pw_below_drewN | apply below_drew1 | refine below_set ?_ GE101.out | refine below_set ?_ GE141.out | refine below_set ?_ GE181.out) | exact HB.out)⟩
end Go.Proofs.Ytamjjeakkkdfhaa.PC
end
section
namespace Go.Proofs.Ytamjjeakkkdfhaa.PB
open Go.RowKit Go.Proofs.YtamjjeakkkdfhaaW.PrintWords Go.Proofs.YtamjjeakkkdfhaaW.PrintLast Go.Proofs.YtamjjeakkkdfhaaW.PrintMore
open Go.Proofs.Ytamjjeakkkdfhaa.K Go.Proofs.Ytamjjeakkkdfhaa.G Go.Proofs.YtamjjeakkkdfhaaE
attribute [local go_sem] max2_int min2_int max_two min_two max_three min_three max_four min_four
set_option linter.unusedVariables false
set_option linter.unusedSimpArgs false
def flotillakit_Pick.f (a0 : Int) (a1 : Int) : Option (Int) := if a1 < 1 then (some 0) else (if a1 = 0 then (none) else (if (Int.tmod a0 a1) < 0 then (some (wrap64 ((Int.tmod a0 a1) + a1))) else (some (Int.tmod a0 a1))))
set_option maxHeartbeats 8000000 in
set_option maxRecDepth 100000 in
theorem flotillakit_Pick.calls (a0 : Int) (a1 : Int) (r : Int) (w : World) (h : flotillakit_Pick.f a0 a1 = some r) :
    Calls Try.prog 21 #[.int .i64 a0, .int .i64 a1] w fun e w' => e = .returned (.int .i64 r) ∧ Drawn0 w w' := by
  have H : (if a1 < 1 then (some 0) else (if a1 = 0 then (none) else (if (Int.tmod a0 a1) < 0 then (some (wrap64 ((Int.tmod a0 a1) + a1))) else (some (Int.tmod a0 a1))))) = some r := h
  clear h
  by_cases c3 : a1 < 1
  · rw [if_pos c3] at H
    have c3b0 : decide (a1 < 1) = true := decide_eq_true c3
    clear c3
    obtain rfl := Option.some.inj H
    go_enter Try.func21, Try.ntmps21
    go_wp2
    go_ret
    exact ⟨by first | rfl | (simp; done) | (simp [*]; done), by repeat (first | exact Drawn0.refl _ | apply Drawn0.step)⟩
  · rw [if_neg c3] at H
    have c3b0 : decide (a1 < 1) = false := decide_eq_false c3
    clear c3
    by_cases c4 : a1 = 0
    · rw [if_pos c4] at H
      exact absurd H (by simp)
    · rw [if_neg c4] at H
      have c4b0 : (a1 == 0) = false := beq_eq_false_iff_ne.mpr c4
      have c4b1 : (a1 != 0) = true := bne_iff_ne.mpr c4
      by_cases c5 : (Int.tmod a0 a1) < 0
      · rw [if_pos c5] at H
        have c5b0 : decide ((Int.tmod a0 a1) < 0) = true := decide_eq_true c5
        clear c5
        obtain rfl := Option.some.inj H
        go_enter Try.func21, Try.ntmps21
        go_wp2
        go_ret
        exact ⟨by first | rfl | (simp; done) | (simp [*]; done), by repeat (first | exact Drawn0.refl _ | apply Drawn0.step)⟩
      · rw [if_neg c5] at H
        have c5b0 : decide ((Int.tmod a0 a1) < 0) = false := decide_eq_false c5
        clear c5
        obtain rfl := Option.some.inj H
        go_enter Try.func21, Try.ntmps21
        go_wp2
        go_ret
        exact ⟨by first | rfl | (simp; done) | (simp [*]; done), by repeat (first | exact Drawn0.refl _ | apply Drawn0.step)⟩
end Go.Proofs.Ytamjjeakkkdfhaa.PB
end
section
namespace Go.Proofs.Ytamjjeakkkdfhaa.PB
open Go.RowKit Go.Proofs.YtamjjeakkkdfhaaW.PrintWords Go.Proofs.YtamjjeakkkdfhaaW.PrintLast Go.Proofs.YtamjjeakkkdfhaaW.PrintMore
open Go.Proofs.Ytamjjeakkkdfhaa.K Go.Proofs.Ytamjjeakkkdfhaa.G Go.Proofs.YtamjjeakkkdfhaaE
attribute [local go_sem] max2_int min2_int max_two min_two max_three min_three max_four min_four
set_option linter.unusedVariables false
set_option linter.unusedSimpArgs false
def flotillalaw16_pick.f (l0 : List (S68)) (a1 : Int) : Option (ByteArray) := if (l0.length : Int) = 0 then (some (⟨#[]⟩ : ByteArray)) else ((flotillakit_Pick.f a1 (l0.length : Int)).bind fun t357 => (if 0 ≤ t357 then (if t357 < (l0.length : Int) then (some ((rd_T68 l0 t357).f1)) else (none)) else (none)))
set_option maxHeartbeats 8000000 in
set_option maxRecDepth 100000 in
theorem flotillalaw16_pick.calls (A0 : Option Addr) (c0 : Nat) (l0 : List (S68)) (a1 : Int) (r : ByteArray) (w : World) (hr0 : Kd.C k68 w A0 l0.length l0) (hc0 : l0.length ≤ c0) (h : flotillalaw16_pick.f l0 a1 = some r) :
    Calls Try.prog 56 #[.slice A0 l0.length c0, .int .i64 a1] w fun e w' => e = .returned (.string r) ∧ Drawn0 w w' := by
  have HR0 := Aside0.mk hr0
  have HC0 := Aside0.mk hc0
  clear hr0 hc0
  have H : (if (l0.length : Int) = 0 then (some (⟨#[]⟩ : ByteArray)) else ((flotillakit_Pick.f a1 (l0.length : Int)).bind fun t357 => (if 0 ≤ t357 then (if t357 < (l0.length : Int) then (some ((rd_T68 l0 t357).f1)) else (none)) else (none)))) = some r := h
  clear h
  by_cases c3 : (l0.length : Int) = 0
  · rw [if_pos c3] at H
    have c3b0 : ((l0.length : Int) == 0) = true := beq_iff_eq.mpr c3
    have c3b1 : ((l0.length : Int) != 0) = false := bne_eq_false_iff_eq.mpr c3
    clear c3
    obtain rfl := Option.some.inj H
    go_enter Try.func56, Try.ntmps56
    go_wp2
    go_ret
    exact ⟨by first | rfl | (simp; done) | (simp [*]; done), by repeat (first | exact Drawn0.refl _ | apply Drawn0.step)⟩
  · rw [if_neg c3] at H
    have c3b0 : ((l0.length : Int) == 0) = false := beq_eq_false_iff_ne.mpr c3
    have c3b1 : ((l0.length : Int) != 0) = true := bne_iff_ne.mpr c3
    have c3b2 : ¬ (l0 = []) := fun h_ => c3 (by rw [h_]; rfl)
    replace H := Option.bind_eq_some_iff.mp H
    obtain ⟨t357, A40, H⟩ := H
    replace H : (if 0 ≤ t357 then (if t357 < (l0.length : Int) then (some ((rd_T68 l0 t357).f1)) else (none)) else (none)) = some r := H
    have A4 := Aside0.mk A40
    clear A40
    by_cases c5 : 0 ≤ t357
    · rw [if_pos c5] at H
      have c5b0 : decide (0 ≤ t357) = true := decide_eq_true c5
      clear c5
      by_cases c6 : t357 < (l0.length : Int)
      · rw [if_pos c6] at H
        have c6b0 : decide (t357 < (l0.length : Int)) = true := decide_eq_true c6
        clear c6
        obtain rfl := Option.some.inj H
        go_enter Try.func56, Try.ntmps56
        go_wp2_with (first | ((with_reducible refine gate_callee (f := 21) rfl ?_); refine goesL_ (some 12) rfl rfl Try.func21 (by kernel_rfl) rfl #[.int .i64 a1, .int .i64 (l0.length : Int)] rfl (by (try simp only [List.map_toArray, List.map_cons, List.map_nil]); first | done | rfl | (simp only [List.length_drop, List.length_take]; rfl)) ?_; (with_reducible refine (flotillakit_Pick.calls a1 (l0.length : Int) t357 _ A4.out).mono ?_); rintro e w' ⟨rfl, ⟨nd, rfl⟩⟩; refine ⟨_, rfl, ?_⟩; have p358 : 0 ≤ (t357 : Int) := of_decide_eq_true (by first | (with_reducible assumption) | assumption); have q358 : t357 < (l0.length : Int) := of_decide_eq_true (by first | (with_reducible assumption) | assumption); obtain ⟨ad358, A358_4, c358_4, A358_27, c358_27, e358, hx358_0, hx358_1, hx358_2, hx358_3, hx358_4, hx358_5, hx358_6, hx358_7, hx358_8, hx358_9, hx358_10, hx358_11, hx358_12, hx358_13, hx358_14, hx358_15, hx358_16, hx358_17, hx358_18, hx358_19, hx358_20, hx358_21, hx358_22, hx358_23, hx358_24, hx358_25, hx358_26, hx358_27, hx358_28, hx358_29, hx358_30, hx358_31, hl358_4, hi358_4, hl358_27, hi358_27⟩ := at_T68 HR0.out t357 p358 q358; cases e358; have HR358_4 := Aside0.mk hi358_4; have HC358_4 := Aside0.mk hl358_4; clear hi358_4 hl358_4; have HR358_27 := Aside0.mk hi358_27; have HC358_27 := Aside0.mk hl358_27; clear hi358_27 hl358_27; replace p358 := eq_true p358; replace q358 := eq_true q358))
        go_ret
        exact ⟨by first | rfl | (simp; done) | (simp [*]; done), by repeat (first | exact Drawn0.refl _ | apply Drawn0.step)⟩
      · rw [if_neg c6] at H
        exact absurd H (by simp)
    · rw [if_neg c5] at H
      exact absurd H (by simp)
end Go.Proofs.Ytamjjeakkkdfhaa.PB
end
section
namespace Go.Proofs.Ytamjjeakkkdfhaa.PB
open Go.RowKit Go.Proofs.YtamjjeakkkdfhaaW.PrintWords Go.Proofs.YtamjjeakkkdfhaaW.PrintLast Go.Proofs.YtamjjeakkkdfhaaW.PrintMore
open Go.Proofs.Ytamjjeakkkdfhaa.K Go.Proofs.Ytamjjeakkkdfhaa.G Go.Proofs.YtamjjeakkkdfhaaE
attribute [local go_sem] max2_int min2_int max_two min_two max_three min_three max_four min_four
set_option linter.unusedVariables false
set_option linter.unusedSimpArgs false
def flotillalaw16_at.l0 : Nat → List (S68) → ByteArray → Int → Option (Int)
  | 0, _, _, _ => none
  | k + 1, x0, x1, x5 => if x5 < (x0.length : Int) then (if 0 ≤ x5 then (if ((rd_T68 x0 x5).f1).toList = x1.toList then (some x5) else (flotillalaw16_at.l0 k x0 x1 (wrap64 (x5 + 1)))) else (none)) else (some (-1))
def flotillalaw16_at.f (k : Nat) (l0 : List (S68)) (a1 : ByteArray) : Option (Int) := flotillalaw16_at.l0 k l0 a1 0
set_option maxHeartbeats 8000000 in
set_option maxRecDepth 100000 in
theorem flotillalaw16_at.calls (k : Nat) (A0 : Option Addr) (c0 : Nat) (l0 : List (S68)) (a1 : ByteArray) (r : Int) (w : World) (hr0 : Kd.C k68 w A0 l0.length l0) (hc0 : l0.length ≤ c0) (h : flotillalaw16_at.f k l0 a1 = some r) :
    Calls Try.prog 59 #[.slice A0 l0.length c0, .string a1] w fun e w' => e = .returned (.int .i64 r) ∧ Drawn0 w w' := by
  have HR0 := Aside0.mk hr0
  have HC0 := Aside0.mk hc0
  clear hr0 hc0
  have H : (flotillalaw16_at.l0 k l0 a1 0) = some r := h
  clear h
  have H' := Aside0.mk H
  clear H
  go_enter Try.func59, Try.ntmps59
  go_wp2
  go_loopg [5] k (fun kq v5 w' => ∃ (x5_1 : Int), v5 = .int .i64 x5_1 ∧ Aside0 (flotillalaw16_at.l0 kq l0 a1 x5_1 = some r) ∧ Aside0 (kq ≤ k) ∧ Drawn0 w w')
  case atStart => exact ⟨(0), (by first | rfl | (simp; done) | (simp [*]; done)), H', ⟨Nat.le_refl _⟩, by repeat (first | exact Drawn0.refl _ | apply Drawn0.step)⟩
  case round =>
    clear H'
    try clear p2
    obtain ⟨x5_1, rfl, HA, HK1, ⟨m1, rfl⟩⟩ := hrel
    cases gk with
    | zero => exact absurd HA.out (by simp [flotillalaw16_at.l0])
    | succ k1 =>
      have H := HA.out
      clear HA
      simp only [flotillalaw16_at.l0] at H
      by_cases c3 : x5_1 < (l0.length : Int)
      · rw [if_pos c3] at H
        have c3b0 : decide (x5_1 < (l0.length : Int)) = true := decide_eq_true c3
        clear c3
        by_cases c4 : 0 ≤ x5_1
        · rw [if_pos c4] at H
          have c4b0 : decide (0 ≤ x5_1) = true := decide_eq_true c4
          clear c4
          by_cases c5 : ((rd_T68 l0 x5_1).f1).toList = a1.toList
          · rw [if_pos c5] at H
            have c5b0 : (((rd_T68 l0 x5_1).f1).toList == a1.toList) = true := beq_iff_eq.mpr c5
            have c5b1 : (((rd_T68 l0 x5_1).f1).toList != a1.toList) = false := bne_eq_false_iff_eq.mpr c5
            clear c5
            obtain rfl := Option.some.inj H
            have p428 : 0 ≤ (x5_1 : Int) := of_decide_eq_true (by first | (with_reducible assumption) | assumption)
            have q428 : x5_1 < (l0.length : Int) := of_decide_eq_true (by first | (with_reducible assumption) | assumption)
            obtain ⟨ad428, A428_4, c428_4, A428_27, c428_27, e428, hx428_0, hx428_1, hx428_2, hx428_3, hx428_4, hx428_5, hx428_6, hx428_7, hx428_8, hx428_9, hx428_10, hx428_11, hx428_12, hx428_13, hx428_14, hx428_15, hx428_16, hx428_17, hx428_18, hx428_19, hx428_20, hx428_21, hx428_22, hx428_23, hx428_24, hx428_25, hx428_26, hx428_27, hx428_28, hx428_29, hx428_30, hx428_31, hl428_4, hi428_4, hl428_27, hi428_27⟩ := at_T68 HR0.out x5_1 p428 q428
            cases e428
            have HR428_4 := Aside0.mk hi428_4
            have HC428_4 := Aside0.mk hl428_4
            clear hi428_4 hl428_4
            have HR428_27 := Aside0.mk hi428_27
            have HC428_27 := Aside0.mk hl428_27
            clear hi428_27 hl428_27
            replace p428 := eq_true p428
            replace q428 := eq_true q428
            go_wp2
            go_ret
            exact ⟨by first | rfl | (simp; done) | (simp [*]; done), by repeat (first | exact Drawn0.refl _ | apply Drawn0.step)⟩
          · rw [if_neg c5] at H
            have c5b0 : (((rd_T68 l0 x5_1).f1).toList == a1.toList) = false := beq_eq_false_iff_ne.mpr c5
            have c5b1 : (((rd_T68 l0 x5_1).f1).toList != a1.toList) = true := bne_iff_ne.mpr c5
            have H' := Aside0.mk H
            clear H
            have p428 : 0 ≤ (x5_1 : Int) := of_decide_eq_true (by first | (with_reducible assumption) | assumption)
            have q428 : x5_1 < (l0.length : Int) := of_decide_eq_true (by first | (with_reducible assumption) | assumption)
            obtain ⟨ad428, A428_4, c428_4, A428_27, c428_27, e428, hx428_0, hx428_1, hx428_2, hx428_3, hx428_4, hx428_5, hx428_6, hx428_7, hx428_8, hx428_9, hx428_10, hx428_11, hx428_12, hx428_13, hx428_14, hx428_15, hx428_16, hx428_17, hx428_18, hx428_19, hx428_20, hx428_21, hx428_22, hx428_23, hx428_24, hx428_25, hx428_26, hx428_27, hx428_28, hx428_29, hx428_30, hx428_31, hl428_4, hi428_4, hl428_27, hi428_27⟩ := at_T68 HR0.out x5_1 p428 q428
            cases e428
            have HR428_4 := Aside0.mk hi428_4
            have HC428_4 := Aside0.mk hl428_4
            clear hi428_4 hl428_4
            have HR428_27 := Aside0.mk hi428_27
            have HC428_27 := Aside0.mk hl428_27
            clear hi428_27 hl428_27
            replace p428 := eq_true p428
            replace q428 := eq_true q428
            go_wp2
            go_roundg k1
            case measure => have := HK1.out; omega
            case rel => exact ⟨(wrap64 (x5_1 + 1)), (by first | rfl | (simp; done) | (simp [*]; done)), H', ⟨by have := HK1.out; omega⟩, by repeat (first | exact Drawn0.refl _ | apply Drawn0.step)⟩
        · rw [if_neg c4] at H
          exact absurd H (by simp)
      · rw [if_neg c3] at H
        have c3b0 : decide (x5_1 < (l0.length : Int)) = false := decide_eq_false c3
        clear c3
        obtain rfl := Option.some.inj H
        go_wp2
        go_ret
        exact ⟨by first | rfl | (simp; done) | (simp [*]; done), by repeat (first | exact Drawn0.refl _ | apply Drawn0.step)⟩
end Go.Proofs.Ytamjjeakkkdfhaa.PB
end
section
namespace Go.Proofs.Ytamjjeakkkdfhaa.PB
open Go.RowKit Go.Proofs.YtamjjeakkkdfhaaW.PrintWords Go.Proofs.YtamjjeakkkdfhaaW.PrintLast Go.Proofs.YtamjjeakkkdfhaaW.PrintMore
open Go.Proofs.Ytamjjeakkkdfhaa.K Go.Proofs.Ytamjjeakkkdfhaa.G Go.Proofs.YtamjjeakkkdfhaaE
attribute [local go_sem] max2_int min2_int max_two min_two max_three min_three max_four min_four
set_option linter.unusedVariables false
set_option linter.unusedSimpArgs false
def flotillalaw16_big.f (l0_0 : List (S68)) (l0_1 : List (S68)) (l0_2 : List (S68)) (l0_3 : List (S68)) : Option (Bool) := if (l0_0.length : Int) > 300 then (some true) else (if (l0_1.length : Int) > 300 then (some true) else (if (l0_2.length : Int) > 300 then (some true) else (some (decide ((l0_3.length : Int) > 300)))))
set_option maxHeartbeats 8000000 in
set_option maxRecDepth 100000 in
theorem flotillalaw16_big.calls (A0_0 : Option Addr) (c0_0 : Nat) (l0_0 : List (S68)) (A0_1 : Option Addr) (c0_1 : Nat) (l0_1 : List (S68)) (A0_2 : Option Addr) (c0_2 : Nat) (l0_2 : List (S68)) (A0_3 : Option Addr) (c0_3 : Nat) (l0_3 : List (S68)) (r : Bool) (w : World) (hr0_0 : Kd.C k68 w A0_0 l0_0.length l0_0) (hc0_0 : l0_0.length ≤ c0_0) (hr0_1 : Kd.C k68 w A0_1 l0_1.length l0_1) (hc0_1 : l0_1.length ≤ c0_1) (hr0_2 : Kd.C k68 w A0_2 l0_2.length l0_2) (hc0_2 : l0_2.length ≤ c0_2) (hr0_3 : Kd.C k68 w A0_3 l0_3.length l0_3) (hc0_3 : l0_3.length ≤ c0_3) (h : flotillalaw16_big.f l0_0 l0_1 l0_2 l0_3 = some r) :
    Calls Try.prog 32 #[.agg #[.slice A0_0 l0_0.length c0_0, .slice A0_1 l0_1.length c0_1, .slice A0_2 l0_2.length c0_2, .slice A0_3 l0_3.length c0_3]] w fun e w' => e = .returned (.bool r) ∧ Below w.heap.size w w' := by
  have hu59 := Try.underlying59
  have HR0_0 := Aside0.mk hr0_0
  have HC0_0 := Aside0.mk hc0_0
  clear hr0_0 hc0_0
  have HR0_1 := Aside0.mk hr0_1
  have HC0_1 := Aside0.mk hc0_1
  clear hr0_1 hc0_1
  have HR0_2 := Aside0.mk hr0_2
  have HC0_2 := Aside0.mk hc0_2
  clear hr0_2 hc0_2
  have HR0_3 := Aside0.mk hr0_3
  have HC0_3 := Aside0.mk hc0_3
  clear hr0_3 hc0_3
  have HB := Aside0.mk (Below.refl w.heap.size w)
  have H : (if (l0_0.length : Int) > 300 then (some true) else (if (l0_1.length : Int) > 300 then (some true) else (if (l0_2.length : Int) > 300 then (some true) else (some (decide ((l0_3.length : Int) > 300)))))) = some r := h
  clear h
  by_cases c2 : (l0_0.length : Int) > 300
  · rw [if_pos c2] at H
    have c2b0 : decide (300 < (l0_0.length : Int)) = true := decide_eq_true c2
    have c2b1 : decide (300 < l0_0.length) = true := decide_eq_true (by omega)
    clear c2
    obtain rfl := Option.some.inj H
    go_enter Try.func32, Try.ntmps32
    go_wp2_with (first | ((with_reducible refine gate_dst (N := 1) rfl ?_); (try (refine gate_guard (by rfl) ?_; dsimp only)); refine box_event ?hg (N := 1) ?hd (cs := #[.slice A0_0 l0_0.length c0_0, .slice A0_1 l0_1.length c0_1, .slice A0_2 l0_2.length c0_2, .slice A0_3 l0_3.length c0_3]) (t := 59) ?hr ?_; (case hd => rfl); (case hg => rfl); (case hr => first | (go_simp; done) | (go_simp; rfl)); intro gb206 hg w3 hbox hb; have n0_ := Aside0.mk (below_step (by repeat (first | (with_reducible first | exact HB.out | apply below_alloc | apply pw_below_drewN | apply below_drew1) | exact HB.out)) hb); have n1_ := Aside0.mk (hbox); have n2_ := Aside0.mk ((by rw [hg]; exact (below_size (by repeat (first | (with_reducible first | exact HB.out | apply below_alloc | apply pw_below_drewN | apply below_drew1) | exact HB.out))) : w.heap.size ≤ gb206)); have n3_ := Aside0.mk ((by rw [hg]; exact (below_size (by repeat (first | (with_reducible first | exact HB.out | apply below_alloc | apply pw_below_drewN | apply below_drew1) | exact HB.out))) : w.heap.size ≤ gb206)); clear HB; have HB := n0_; have BK206 := n1_; have GW206 := n2_; have GE206 := n3_; clear n0_ n1_ n2_ n3_; clear hb hbox hg; have hcz4_0 : w3.cell? ⟨gb206, 0, none⟩ = some (.slice A0_0 l0_0.length c0_0) := (blk_cell BK206.out 0).trans rfl; have hcz4_1 : w3.cell? ⟨gb206, 1, none⟩ = some (.slice A0_1 l0_1.length c0_1) := (blk_cell BK206.out 1).trans rfl; have hcz4_2 : w3.cell? ⟨gb206, 2, none⟩ = some (.slice A0_2 l0_2.length c0_2) := (blk_cell BK206.out 2).trans rfl; have hcz4_3 : w3.cell? ⟨gb206, 3, none⟩ = some (.slice A0_3 l0_3.length c0_3) := (blk_cell BK206.out 3).trans rfl; have hfz4_0 := blk_frozen BK206.out 0; have hfz4_1 := blk_frozen BK206.out 1; have hfz4_2 := blk_frozen BK206.out 2; have hfz4_3 := blk_frozen BK206.out 3))
    go_ret
    exact ⟨by first | rfl | (simp [errW_none, errW_some] <;> rfl) | (simp [*, errW_none, errW_some] <;> rfl), by repeat (first | (with_reducible first | exact HB.out | apply below_alloc | apply pw_below_drewN | apply below_drew1 | refine below_set ?_ GE206.out) | exact HB.out)⟩
  · rw [if_neg c2] at H
    have c2b0 : decide (300 < (l0_0.length : Int)) = false := decide_eq_false c2
    have c2b1 : decide (300 < l0_0.length) = false := decide_eq_false (by omega)
    clear c2
    by_cases c5 : (l0_1.length : Int) > 300
    · rw [if_pos c5] at H
      have c5b0 : decide (300 < (l0_1.length : Int)) = true := decide_eq_true c5
      have c5b1 : decide (300 < l0_1.length) = true := decide_eq_true (by omega)
      clear c5
      obtain rfl := Option.some.inj H
      go_enter Try.func32, Try.ntmps32
      go_wp2_with (first | ((with_reducible refine gate_dst (N := 1) rfl ?_); (try (refine gate_guard (by rfl) ?_; dsimp only)); refine box_event ?hg (N := 1) ?hd (cs := #[.slice A0_0 l0_0.length c0_0, .slice A0_1 l0_1.length c0_1, .slice A0_2 l0_2.length c0_2, .slice A0_3 l0_3.length c0_3]) (t := 59) ?hr ?_; (case hd => rfl); (case hg => rfl); (case hr => first | (go_simp; done) | (go_simp; rfl)); intro gb206 hg w6 hbox hb; have n0_ := Aside0.mk (below_step (by repeat (first | (with_reducible first | exact HB.out | apply below_alloc | apply pw_below_drewN | apply below_drew1) | exact HB.out)) hb); have n1_ := Aside0.mk (hbox); have n2_ := Aside0.mk ((by rw [hg]; exact (below_size (by repeat (first | (with_reducible first | exact HB.out | apply below_alloc | apply pw_below_drewN | apply below_drew1) | exact HB.out))) : w.heap.size ≤ gb206)); have n3_ := Aside0.mk ((by rw [hg]; exact (below_size (by repeat (first | (with_reducible first | exact HB.out | apply below_alloc | apply pw_below_drewN | apply below_drew1) | exact HB.out))) : w.heap.size ≤ gb206)); clear HB; have HB := n0_; have BK206 := n1_; have GW206 := n2_; have GE206 := n3_; clear n0_ n1_ n2_ n3_; clear hb hbox hg; have hcz7_0 : w6.cell? ⟨gb206, 0, none⟩ = some (.slice A0_0 l0_0.length c0_0) := (blk_cell BK206.out 0).trans rfl; have hcz7_1 : w6.cell? ⟨gb206, 1, none⟩ = some (.slice A0_1 l0_1.length c0_1) := (blk_cell BK206.out 1).trans rfl; have hcz7_2 : w6.cell? ⟨gb206, 2, none⟩ = some (.slice A0_2 l0_2.length c0_2) := (blk_cell BK206.out 2).trans rfl; have hcz7_3 : w6.cell? ⟨gb206, 3, none⟩ = some (.slice A0_3 l0_3.length c0_3) := (blk_cell BK206.out 3).trans rfl; have hfz7_0 := blk_frozen BK206.out 0; have hfz7_1 := blk_frozen BK206.out 1; have hfz7_2 := blk_frozen BK206.out 2; have hfz7_3 := blk_frozen BK206.out 3))
      go_ret
      exact ⟨by first | rfl | (simp [errW_none, errW_some] <;> rfl) | (simp [*, errW_none, errW_some] <;> rfl), by repeat (first | (with_reducible first | exact HB.out | apply below_alloc | apply pw_below_drewN | apply below_drew1 | refine below_set ?_ GE206.out) | exact HB.out)⟩
    · rw [if_neg c5] at H
      have c5b0 : decide (300 < (l0_1.length : Int)) = false := decide_eq_false c5
      have c5b1 : decide (300 < l0_1.length) = false := decide_eq_false (by omega)
      clear c5
      by_cases c8 : (l0_2.length : Int) > 300
      · rw [if_pos c8] at H
        have c8b0 : decide (300 < (l0_2.length : Int)) = true := decide_eq_true c8
        have c8b1 : decide (300 < l0_2.length) = true := decide_eq_true (by omega)
        clear c8
        obtain rfl := Option.some.inj H
        go_enter Try.func32, Try.ntmps32
        go_wp2_with (first | ((with_reducible refine gate_dst (N := 1) rfl ?_); (try (refine gate_guard (by rfl) ?_; dsimp only)); refine box_event ?hg (N := 1) ?hd (cs := #[.slice A0_0 l0_0.length c0_0, .slice A0_1 l0_1.length c0_1, .slice A0_2 l0_2.length c0_2, .slice A0_3 l0_3.length c0_3]) (t := 59) ?hr ?_; (case hd => rfl); (case hg => rfl); (case hr => first | (go_simp; done) | (go_simp; rfl)); intro gb206 hg w9 hbox hb; have n0_ := Aside0.mk (below_step (by repeat (first | (with_reducible first | exact HB.out | apply below_alloc | apply pw_below_drewN | apply below_drew1) | exact HB.out)) hb); have n1_ := Aside0.mk (hbox); have n2_ := Aside0.mk ((by rw [hg]; exact (below_size (by repeat (first | (with_reducible first | exact HB.out | apply below_alloc | apply pw_below_drewN | apply below_drew1) | exact HB.out))) : w.heap.size ≤ gb206)); have n3_ := Aside0.mk ((by rw [hg]; exact (below_size (by repeat (first | (with_reducible first | exact HB.out | apply below_alloc | apply pw_below_drewN | apply below_drew1) | exact HB.out))) : w.heap.size ≤ gb206)); clear HB; have HB := n0_; have BK206 := n1_; have GW206 := n2_; have GE206 := n3_; clear n0_ n1_ n2_ n3_; clear hb hbox hg; have hcz10_0 : w9.cell? ⟨gb206, 0, none⟩ = some (.slice A0_0 l0_0.length c0_0) := (blk_cell BK206.out 0).trans rfl; have hcz10_1 : w9.cell? ⟨gb206, 1, none⟩ = some (.slice A0_1 l0_1.length c0_1) := (blk_cell BK206.out 1).trans rfl; have hcz10_2 : w9.cell? ⟨gb206, 2, none⟩ = some (.slice A0_2 l0_2.length c0_2) := (blk_cell BK206.out 2).trans rfl; have hcz10_3 : w9.cell? ⟨gb206, 3, none⟩ = some (.slice A0_3 l0_3.length c0_3) := (blk_cell BK206.out 3).trans rfl; have hfz10_0 := blk_frozen BK206.out 0; have hfz10_1 := blk_frozen BK206.out 1; have hfz10_2 := blk_frozen BK206.out 2; have hfz10_3 := blk_frozen BK206.out 3))
        go_ret
        exact ⟨by first | rfl | (simp [errW_none, errW_some] <;> rfl) | (simp [*, errW_none, errW_some] <;> rfl), by repeat (first | (with_reducible first | exact HB.out | apply below_alloc | apply pw_below_drewN | apply below_drew1 | refine below_set ?_ GE206.out) | exact HB.out)⟩
      · rw [if_neg c8] at H
        have c8b0 : decide (300 < (l0_2.length : Int)) = false := decide_eq_false c8
        have c8b1 : decide (300 < l0_2.length) = false := decide_eq_false (by omega)
        clear c8
        obtain rfl := Option.some.inj H
        go_enter Try.func32, Try.ntmps32
        go_wp2_with (first | ((with_reducible refine gate_dst (N := 1) rfl ?_); (try (refine gate_guard (by rfl) ?_; dsimp only)); refine box_event ?hg (N := 1) ?hd (cs := #[.slice A0_0 l0_0.length c0_0, .slice A0_1 l0_1.length c0_1, .slice A0_2 l0_2.length c0_2, .slice A0_3 l0_3.length c0_3]) (t := 59) ?hr ?_; (case hd => rfl); (case hg => rfl); (case hr => first | (go_simp; done) | (go_simp; rfl)); intro gb206 hg w11 hbox hb; have n0_ := Aside0.mk (below_step (by repeat (first | (with_reducible first | exact HB.out | apply below_alloc | apply pw_below_drewN | apply below_drew1) | exact HB.out)) hb); have n1_ := Aside0.mk (hbox); have n2_ := Aside0.mk ((by rw [hg]; exact (below_size (by repeat (first | (with_reducible first | exact HB.out | apply below_alloc | apply pw_below_drewN | apply below_drew1) | exact HB.out))) : w.heap.size ≤ gb206)); have n3_ := Aside0.mk ((by rw [hg]; exact (below_size (by repeat (first | (with_reducible first | exact HB.out | apply below_alloc | apply pw_below_drewN | apply below_drew1) | exact HB.out))) : w.heap.size ≤ gb206)); clear HB; have HB := n0_; have BK206 := n1_; have GW206 := n2_; have GE206 := n3_; clear n0_ n1_ n2_ n3_; clear hb hbox hg; have hcz12_0 : w11.cell? ⟨gb206, 0, none⟩ = some (.slice A0_0 l0_0.length c0_0) := (blk_cell BK206.out 0).trans rfl; have hcz12_1 : w11.cell? ⟨gb206, 1, none⟩ = some (.slice A0_1 l0_1.length c0_1) := (blk_cell BK206.out 1).trans rfl; have hcz12_2 : w11.cell? ⟨gb206, 2, none⟩ = some (.slice A0_2 l0_2.length c0_2) := (blk_cell BK206.out 2).trans rfl; have hcz12_3 : w11.cell? ⟨gb206, 3, none⟩ = some (.slice A0_3 l0_3.length c0_3) := (blk_cell BK206.out 3).trans rfl; have hfz12_0 := blk_frozen BK206.out 0; have hfz12_1 := blk_frozen BK206.out 1; have hfz12_2 := blk_frozen BK206.out 2; have hfz12_3 := blk_frozen BK206.out 3))
        go_ret
        exact ⟨by first | rfl | (simp [errW_none, errW_some] <;> rfl) | (simp [*, errW_none, errW_some] <;> rfl), by repeat (first | (with_reducible first | exact HB.out | apply below_alloc | apply pw_below_drewN | apply below_drew1 | refine below_set ?_ GE206.out) | exact HB.out)⟩
end Go.Proofs.Ytamjjeakkkdfhaa.PB
end
section
namespace Go.Proofs.Ytamjjeakkkdfhaa.PB
open Go.RowKit Go.Proofs.YtamjjeakkkdfhaaW.PrintWords Go.Proofs.YtamjjeakkkdfhaaW.PrintLast Go.Proofs.YtamjjeakkkdfhaaW.PrintMore
open Go.Proofs.Ytamjjeakkkdfhaa.K Go.Proofs.Ytamjjeakkkdfhaa.G Go.Proofs.YtamjjeakkkdfhaaE
attribute [local go_sem] max2_int min2_int max_two min_two max_three min_three max_four min_four
set_option linter.unusedVariables false
set_option linter.unusedSimpArgs false
def flotillaref0_CopyLabels.l0 : Nat → List (S31) → List (S31) → Int → Option ((List (S31)))
  | 0, _, _, _ => none
  | k + 1, x0, x3, x4 => if x4 < (x0.length : Int) then (if 0 ≤ x4 then (if x3.length < 4398046511104 then (flotillaref0_CopyLabels.l0 k x0 (x3 ++ [(⟨(rd_T31 x0 x4).f0, (rd_T31 x0 x4).f1⟩ : S31)]) (wrap64 (x4 + 1))) else (none)) else (none)) else (some x3)
def flotillaref0_CopyLabels.f (k : Nat) (l0 : List (S31)) : Option ((List (S31))) := flotillaref0_CopyLabels.l0 k l0 ([] : List (S31)) 0
set_option maxHeartbeats 8000000 in
set_option maxRecDepth 100000 in
theorem flotillaref0_CopyLabels.calls (k : Nat) (A0 : Option Addr) (c0 : Nat) (l0 : List (S31)) (r : List (S31)) (w : World) (hr0 : Kd.C k31 w A0 l0.length l0) (hc0 : l0.length ≤ c0) (h : flotillaref0_CopyLabels.f k l0 = some r) :
    Calls Try.prog 106 #[.slice A0 l0.length c0] w fun e w' => ∃ v0_ : Value, e = .returned (v0_) ∧ Kd.R k31 31 w' w.heap.size (fun _ => True) v0_ r ∧ Below w.heap.size w w' := by
  have hu31 := Try.underlying31
  have HR0 := Aside0.mk hr0
  have HC0 := Aside0.mk hc0
  clear hr0 hc0
  have HB := Aside0.mk (Below.refl w.heap.size w)
  have H : (flotillaref0_CopyLabels.l0 k l0 ([] : List (S31)) 0) = some r := h
  clear h
  have H' := Aside0.mk H
  clear H
  go_enter Try.func106, Try.ntmps106
  go_wp2
  go_loopg [3, 4] k (fun kq v3 v4 w' => ∃ (x3_1 : List (S31)) (x4_1 : Int), v4 = .int .i64 x4_1 ∧ Aside0 (flotillaref0_CopyLabels.l0 kq l0 x3_1 x4_1 = some r) ∧ Aside0 (kq ≤ k) ∧ Aside0 (Kd.R k31 31 w' w.heap.size (fun _ => True) v3 x3_1) ∧ Aside0 (Below w.heap.size w w'))
  case atStart => exact ⟨(([] : List (S31))), (0), (by first | rfl | (simp; done) | (simp [*]; done)), H', ⟨Nat.le_refl _⟩, ⟨by first | exact Kd.R_nil _ _ _ _ _ | exact Kd.N_nil _ _ _ _ _ | exact Kd.V_nil _ _ _ _ _ | exact Kd.Q_nil _ _ _ _ _ | exact Kd.S_nil _ _ _ _ _⟩, ⟨by repeat (first | (with_reducible first | exact HB.out | apply below_alloc | apply pw_below_drewN | apply below_drew1) | exact HB.out)⟩⟩
  case round =>
    clear H'
    try clear c1
    obtain ⟨x3_1, x4_1, rfl, HA, HK1, HO_3, HB⟩ := hrel
    cases gk with
    | zero => exact absurd HA.out (by simp [flotillaref0_CopyLabels.l0])
    | succ k1 =>
      have H := HA.out
      clear HA
      simp only [flotillaref0_CopyLabels.l0] at H
      by_cases c2 : x4_1 < (l0.length : Int)
      · rw [if_pos c2] at H
        have c2b0 : decide (x4_1 < (l0.length : Int)) = true := decide_eq_true c2
        clear c2
        by_cases c3 : 0 ≤ x4_1
        · rw [if_pos c3] at H
          have c3b0 : decide (0 ≤ x4_1) = true := decide_eq_true c3
          clear c3
          by_cases c4 : x3_1.length < 4398046511104
          · rw [if_pos c4] at H
            have LMc4 := Aside0.mk c4
            clear c4
            obtain ⟨y360, hy360⟩ : ∃ y_ : List (S31), y_ = (x3_1 ++ [(⟨(rd_T31 l0 x4_1).f0, (rd_T31 l0 x4_1).f1⟩ : S31)]) := ⟨_, rfl⟩
            replace H : (flotillaref0_CopyLabels.l0 k1 l0 y360 (wrap64 (x4_1 + 1))) = some r := by first | (rw [hy360]; with_reducible exact H) | (have H2_ := (Option.bind_some _ _).symm.trans H; rw [hy360]; with_reducible exact H2_) | (have H2_ := (Option.bind_some _ _).symm.trans H; with_reducible exact H2_) | with_reducible exact H | (rw [hy360]; exact H) | exact H
            have Ny360 := Aside0.mk hy360
            clear hy360
            have H' := Aside0.mk H
            clear H
            have p359 : 0 ≤ (x4_1 : Int) := of_decide_eq_true (by first | (with_reducible assumption) | assumption)
            have q359 : x4_1 < (l0.length : Int) := of_decide_eq_true (by first | (with_reducible assumption) | assumption)
            obtain ⟨ad359, e359, hx359_0, hx359_1⟩ := at_T31 HR0.out x4_1 p359 q359
            cases e359
            replace hx359_0 := (HB.out.cell (World.block_lt_of_cell? w _ hx359_0)).trans hx359_0
            replace hx359_1 := (HB.out.cell (World.block_lt_of_cell? w _ hx359_1)).trans hx359_1
            replace p359 := eq_true p359
            replace q359 := eq_true q359
            go_wp2_with (first | ((with_reducible refine gate_builtin (b := .append) (xs := #[.tmp 11, .tmp 16]) rfl ?_); at_builtin; refine Kd.R_append k31 (w0 := w) w.heap.size rfl (.tmp 11) (.tmp 16) 22 31 (.agg #[(.string ⟨#[]⟩), (.string ⟨#[]⟩)]) 32 rfl Try.underlying22 info31 rfl (by decide) (by omega) u3 x3_1 (⟨(rd_T31 l0 x4_1).f0, (rd_T31 l0 x4_1).f1⟩ : S31) [.string ((rd_T31 l0 x4_1).f0), .string ((rd_T31 l0 x4_1).f1)] (fun _ => True) (fun _ => False) rfl rfl ?aP (fun _ hk => hk.elim) ?aF ?aO ?aB ?aS ?aL ?_; (case aP => exact k31_mkM _ _ _ (⟨(rd_T31 l0 x4_1).f0, (rd_T31 l0 x4_1).f1⟩ : S31)); (case aB => exact (by repeat (first | (with_reducible first | exact HB.out | apply below_alloc | apply pw_below_drewN | apply below_drew1) | exact HB.out))); (case aF => exact (fun _ _ => trivial)); (case aO => exact (by (with_reducible repeat (first | apply Kd.R_alloc | apply Kd.R_drewN | apply Kd.R_drew)); exact HO_3.out)); (case aS => exact (below_size (by repeat (first | (with_reducible first | exact HB.out | apply below_alloc | apply pw_below_drewN | apply below_drew1) | exact HB.out)))); (case aL => have := LMc4.out; omega); intro v361 w5 ho hb hg hat; rw [← Ny360.out] at ho; have n0_ := Aside0.mk (hb); have n1_ := Aside0.mk (ho); clear HB; clear HO_3; have HB := n0_; have HO362 := n1_; clear n0_ n1_; clear ho hb hg hat))
            go_roundg k1
            case measure => have := HK1.out; omega
            case rel => exact ⟨(y360), (wrap64 (x4_1 + 1)), (by first | rfl | (simp; done) | (simp [*]; done)), H', ⟨by have := HK1.out; omega⟩, ⟨by (with_reducible repeat (first | apply Kd.R_alloc | apply Kd.R_drewN | apply Kd.R_drew)); exact HO362.out⟩, ⟨by repeat (first | (with_reducible first | exact HB.out | apply below_alloc | apply pw_below_drewN | apply below_drew1) | exact HB.out)⟩⟩
          · rw [if_neg c4] at H
            exact absurd H (by simp)
        · rw [if_neg c3] at H
          exact absurd H (by simp)
      · rw [if_neg c2] at H
        have c2b0 : decide (x4_1 < (l0.length : Int)) = false := decide_eq_false c2
        clear c2
        obtain rfl := Option.some.inj H
        go_wp2
        go_ret
        exact ⟨_, by first | rfl | (simp [errW_none, errW_some] <;> rfl) | (simp [*, errW_none, errW_some] <;> rfl), by (with_reducible repeat (first | apply Kd.R_alloc | apply Kd.R_drewN | apply Kd.R_drew)); exact HO_3.out, by repeat (first | (with_reducible first | exact HB.out | apply below_alloc | apply pw_below_drewN | apply below_drew1) | exact HB.out)⟩
end Go.Proofs.Ytamjjeakkkdfhaa.PB
end
