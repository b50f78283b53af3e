/-
  No cell of these rows narrows 'for every input' (looked for: loops, veiled, ifaces, maps, wideKeys, modest, calm, conditions, laid).
  DERIVED. THE GIVEN ROWS OF THIS SEAT. 10 by the template 'for every input the law returns true; each argument reads behind the call as it read before'; 0 by the template 'total and deterministic' (their statements: YtamjjeakkkdfhaaTotals.lean).
  GIVEN WITH THE SEED: the statements are not yours to turn. If you find one false, say at which input.
  Laid BY PROGRAM, IN A SANDBOX (cutbox-rows.mjs): the forced cells as the released guide's own fill.sh prints them over the translation a887c7984e5c35e9… (all of the seat's roots in one cut). By AI agents, Wed Nov 11 2026. No macro, syntax, notation, axiom, sorry.
-/
import Derived.Test.YtamjjeakkkdfhaaChecked
import GoSem.Claim
import GoSem.ClaimJoined
import GoSem.ClaimMapViews
import Derived.JoinedTies
import Derived.KernelRfl
namespace Go.Proofs.Ytamjjeakkkdfhaa
/- THE CELL 'sum', in the pinned program and in every row, IS THE sha256 OF THE DUMP (.gsa) THAT YtamjjeakkkdfhaaProg.lean LOADS. Nothing in Lean hashes anything: it is a label: what it is worth is what the hold of that sum in a sandbox is worth. -/
noncomputable def Try.pinned : Pinned := { name := "ytamjjeakkkdfhaa", sum := "a887c7984e5c35e9f32494c2b8bf426d8e8cb06d472decd1cb46cae4fd7769e0", checked := Try.checked }
namespace Rows
def none {H : Type} : Left H := { results := [], args := [] }

/-- 'flotillalaw02.LabelsMatch': WHATEVER THE INPUT: true; the input reads as it did. -/
def labelsMatchSpec : ChangeSpec := { name := "labelsMatch", fn := fun _ => fun
  | [d1, d2, d3] => { results := [.lit (.bool true)], args := [d1, d2, d3] }
  | _ => none }
def labelsMatchRow : OpenClaim := { program := "ytamjjeakkkdfhaa", sum := "a887c7984e5c35e9f32494c2b8bf426d8e8cb06d472decd1cb46cae4fd7769e0", func := "flotilla/flotillalaw02.LabelsMatch", spec := "labelsMatch", unfollowed := true, recurses := true, apart := false }
def LabelsMatchSaid : Prop := labelsMatchRow.holds Try.pinned (OpenSpec.ofChange labelsMatchSpec)

/-- ITS FALSE NEIGHBOUR: 'it returns false'. Refute it at one input. -/
def labelsMatchWrong : ChangeSpec := { name := "labelsMatch", fn := fun _ => fun
  | [d1, d2, d3] => { results := [.lit (.bool false)], args := [d1, d2, d3] }
  | _ => none }
def LabelsMatchWrongFalsely : Prop := labelsMatchRow.holds Try.pinned (OpenSpec.ofChange labelsMatchWrong)

/-- 'flotillalaw22.ProbeTurned': WHATEVER THE INPUT: true; the input reads as it did. -/
def probeTurnedSpec : ChangeSpec := { name := "probeTurned", fn := fun _ => fun
  | [d1, d2, d3] => { results := [.lit (.bool true)], args := [d1, d2, d3] }
  | _ => none }
def probeTurnedRow : OpenClaim := { program := "ytamjjeakkkdfhaa", sum := "a887c7984e5c35e9f32494c2b8bf426d8e8cb06d472decd1cb46cae4fd7769e0", func := "flotilla/flotillalaw22.ProbeTurned", spec := "probeTurned", unfollowed := true, recurses := true, apart := false }
def ProbeTurnedSaid : Prop := probeTurnedRow.holds Try.pinned (OpenSpec.ofChange probeTurnedSpec)

/-- ITS FALSE NEIGHBOUR: 'it returns false'. Refute it at one input. -/
def probeTurnedWrong : ChangeSpec := { name := "probeTurned", fn := fun _ => fun
  | [d1, d2, d3] => { results := [.lit (.bool false)], args := [d1, d2, d3] }
  | _ => none }
def ProbeTurnedWrongFalsely : Prop := probeTurnedRow.holds Try.pinned (OpenSpec.ofChange probeTurnedWrong)

/-- 'flotillalaw22.ProbeTold': WHATEVER THE INPUT: true; the input reads as it did. -/
def probeToldSpec : ChangeSpec := { name := "probeTold", fn := fun _ => fun
  | [d1, d2, d3] => { results := [.lit (.bool true)], args := [d1, d2, d3] }
  | _ => none }
def probeToldRow : OpenClaim := { program := "ytamjjeakkkdfhaa", sum := "a887c7984e5c35e9f32494c2b8bf426d8e8cb06d472decd1cb46cae4fd7769e0", func := "flotilla/flotillalaw22.ProbeTold", spec := "probeTold", unfollowed := true, recurses := true, apart := false }
def ProbeToldSaid : Prop := probeToldRow.holds Try.pinned (OpenSpec.ofChange probeToldSpec)

/-- ITS FALSE NEIGHBOUR: 'it returns false'. Refute it at one input. -/
def probeToldWrong : ChangeSpec := { name := "probeTold", fn := fun _ => fun
  | [d1, d2, d3] => { results := [.lit (.bool false)], args := [d1, d2, d3] }
  | _ => none }
def ProbeToldWrongFalsely : Prop := probeToldRow.holds Try.pinned (OpenSpec.ofChange probeToldWrong)

/-- 'flotillalaw16.RulesCounted': WHATEVER THE INPUT: true; the input reads as it did. -/
def rulesCountedSpec : ChangeSpec := { name := "rulesCounted", fn := fun _ => fun
  | [d1, d2] => { results := [.lit (.bool true)], args := [d1, d2] }
  | _ => none }
def rulesCountedRow : OpenClaim := { program := "ytamjjeakkkdfhaa", sum := "a887c7984e5c35e9f32494c2b8bf426d8e8cb06d472decd1cb46cae4fd7769e0", func := "flotilla/flotillalaw16.RulesCounted", spec := "rulesCounted", unfollowed := true, recurses := true, apart := false }
def RulesCountedSaid : Prop := rulesCountedRow.holds Try.pinned (OpenSpec.ofChange rulesCountedSpec)

/-- ITS FALSE NEIGHBOUR: 'it returns false'. Refute it at one input. -/
def rulesCountedWrong : ChangeSpec := { name := "rulesCounted", fn := fun _ => fun
  | [d1, d2] => { results := [.lit (.bool false)], args := [d1, d2] }
  | _ => none }
def RulesCountedWrongFalsely : Prop := rulesCountedRow.holds Try.pinned (OpenSpec.ofChange rulesCountedWrong)

/-- 'flotillalaw05.DigestFields': WHATEVER THE INPUT: true; the input reads as it did. -/
def digestFieldsSpec : ChangeSpec := { name := "digestFields", fn := fun _ => fun
  | [d1, d2] => { results := [.lit (.bool true)], args := [d1, d2] }
  | _ => none }
def digestFieldsRow : OpenClaim := { program := "ytamjjeakkkdfhaa", sum := "a887c7984e5c35e9f32494c2b8bf426d8e8cb06d472decd1cb46cae4fd7769e0", func := "flotilla/flotillalaw05.DigestFields", spec := "digestFields", inPlace := ["internal/bytealg.IndexByteString"], apart := false }
def DigestFieldsSaid : Prop := digestFieldsRow.holds Try.pinned (OpenSpec.ofChange digestFieldsSpec)

/-- ITS FALSE NEIGHBOUR: 'it returns false'. Refute it at one input. -/
def digestFieldsWrong : ChangeSpec := { name := "digestFields", fn := fun _ => fun
  | [d1, d2] => { results := [.lit (.bool false)], args := [d1, d2] }
  | _ => none }
def DigestFieldsWrongFalsely : Prop := digestFieldsRow.holds Try.pinned (OpenSpec.ofChange digestFieldsWrong)

/-- 'flotillalaw14.HubApart': WHATEVER THE INPUT: true; the input reads as it did. -/
def hubApartSpec : ChangeSpec := { name := "hubApart", fn := fun _ => fun
  | [d1, d2] => { results := [.lit (.bool true)], args := [d1, d2] }
  | _ => none }
def hubApartRow : OpenClaim := { program := "ytamjjeakkkdfhaa", sum := "a887c7984e5c35e9f32494c2b8bf426d8e8cb06d472decd1cb46cae4fd7769e0", func := "flotilla/flotillalaw14.HubApart", spec := "hubApart", apart := false }
def HubApartSaid : Prop := hubApartRow.holds Try.pinned (OpenSpec.ofChange hubApartSpec)

/-- ITS FALSE NEIGHBOUR: 'it returns false'. Refute it at one input. -/
def hubApartWrong : ChangeSpec := { name := "hubApart", fn := fun _ => fun
  | [d1, d2] => { results := [.lit (.bool false)], args := [d1, d2] }
  | _ => none }
def HubApartWrongFalsely : Prop := hubApartRow.holds Try.pinned (OpenSpec.ofChange hubApartWrong)

/-- 'flotillalaw16.RulesRoom': WHATEVER THE INPUT: true; the input reads as it did. -/
def rulesRoomSpec : ChangeSpec := { name := "rulesRoom", fn := fun _ => fun
  | [d1, d2, d3] => { results := [.lit (.bool true)], args := [d1, d2, d3] }
  | _ => none }
def rulesRoomRow : OpenClaim := { program := "ytamjjeakkkdfhaa", sum := "a887c7984e5c35e9f32494c2b8bf426d8e8cb06d472decd1cb46cae4fd7769e0", func := "flotilla/flotillalaw16.RulesRoom", spec := "rulesRoom", unfollowed := true, recurses := true, apart := false }
def RulesRoomSaid : Prop := rulesRoomRow.holds Try.pinned (OpenSpec.ofChange rulesRoomSpec)

/-- ITS FALSE NEIGHBOUR: 'it returns false'. Refute it at one input. -/
def rulesRoomWrong : ChangeSpec := { name := "rulesRoom", fn := fun _ => fun
  | [d1, d2, d3] => { results := [.lit (.bool false)], args := [d1, d2, d3] }
  | _ => none }
def RulesRoomWrongFalsely : Prop := rulesRoomRow.holds Try.pinned (OpenSpec.ofChange rulesRoomWrong)

/-- 'flotillalaw16.RulesSurge': WHATEVER THE INPUT: true; the input reads as it did. -/
def rulesSurgeSpec : ChangeSpec := { name := "rulesSurge", fn := fun _ => fun
  | [d1, d2] => { results := [.lit (.bool true)], args := [d1, d2] }
  | _ => none }
def rulesSurgeRow : OpenClaim := { program := "ytamjjeakkkdfhaa", sum := "a887c7984e5c35e9f32494c2b8bf426d8e8cb06d472decd1cb46cae4fd7769e0", func := "flotilla/flotillalaw16.RulesSurge", spec := "rulesSurge", unfollowed := true, recurses := true, apart := false }
def RulesSurgeSaid : Prop := rulesSurgeRow.holds Try.pinned (OpenSpec.ofChange rulesSurgeSpec)

/-- ITS FALSE NEIGHBOUR: 'it returns false'. Refute it at one input. -/
def rulesSurgeWrong : ChangeSpec := { name := "rulesSurge", fn := fun _ => fun
  | [d1, d2] => { results := [.lit (.bool false)], args := [d1, d2] }
  | _ => none }
def RulesSurgeWrongFalsely : Prop := rulesSurgeRow.holds Try.pinned (OpenSpec.ofChange rulesSurgeWrong)

/-- 'flotillalaw20.PlaceWithout': WHATEVER THE INPUT: true; the input reads as it did. -/
def placeWithoutSpec : ChangeSpec := { name := "placeWithout", fn := fun _ => fun
  | [d1, d2, d3] => { results := [.lit (.bool true)], args := [d1, d2, d3] }
  | _ => none }
def placeWithoutRow : OpenClaim := { program := "ytamjjeakkkdfhaa", sum := "a887c7984e5c35e9f32494c2b8bf426d8e8cb06d472decd1cb46cae4fd7769e0", func := "flotilla/flotillalaw20.PlaceWithout", spec := "placeWithout", unfollowed := true, recurses := true, apart := false }
def PlaceWithoutSaid : Prop := placeWithoutRow.holds Try.pinned (OpenSpec.ofChange placeWithoutSpec)

/-- ITS FALSE NEIGHBOUR: 'it returns false'. Refute it at one input. -/
def placeWithoutWrong : ChangeSpec := { name := "placeWithout", fn := fun _ => fun
  | [d1, d2, d3] => { results := [.lit (.bool false)], args := [d1, d2, d3] }
  | _ => none }
def PlaceWithoutWrongFalsely : Prop := placeWithoutRow.holds Try.pinned (OpenSpec.ofChange placeWithoutWrong)

/-- 'flotillalaw16.RulesKept': WHATEVER THE INPUT: true; the input reads as it did. -/
def rulesKeptSpec : ChangeSpec := { name := "rulesKept", fn := fun _ => fun
  | [d1, d2] => { results := [.lit (.bool true)], args := [d1, d2] }
  | _ => none }
def rulesKeptRow : OpenClaim := { program := "ytamjjeakkkdfhaa", sum := "a887c7984e5c35e9f32494c2b8bf426d8e8cb06d472decd1cb46cae4fd7769e0", func := "flotilla/flotillalaw16.RulesKept", spec := "rulesKept", unfollowed := true, recurses := true, apart := false }
def RulesKeptSaid : Prop := rulesKeptRow.holds Try.pinned (OpenSpec.ofChange rulesKeptSpec)

/-- ITS FALSE NEIGHBOUR: 'it returns false'. Refute it at one input. -/
def rulesKeptWrong : ChangeSpec := { name := "rulesKept", fn := fun _ => fun
  | [d1, d2] => { results := [.lit (.bool false)], args := [d1, d2] }
  | _ => none }
def RulesKeptWrongFalsely : Prop := rulesKeptRow.holds Try.pinned (OpenSpec.ofChange rulesKeptWrong)

/- THE SECOND FORM. 'bulk': how many values and letters a reading holds, each counted each time it is reached (what is shared counts as often as it is met; a slice's spare places count too). A statement '..UptoSaid' is the law's where the arguments, and the package variables that the reading takes, are together of bulk at most 1048576: NARROWER than '..Said'. Prove '..Said' where nothing that the law and all that it calls make is longer than what came in: it says more and counts as full. Else prove '..UptoSaid'. A law counts once. -/
mutual
def uptoBulk {H : Type} : DataW H → Nat
  | .lit (.string bytes) => bytes.length + 1
  | .lit _ => 1
  | .nil => 1
  | .ptr d => uptoBulk d + 1
  | .slice elems spare => uptoBulkAll elems + uptoBulkAll spare + 1
  | .agg parts => uptoBulkAll parts + 1
  | .iface _ d => uptoBulk d + 1
  | .map entries => uptoBulkEntries entries + 1
  | .held _ => 1
def uptoBulkAll {H : Type} : List (DataW H) → Nat
  | [] => 0
  | d :: r => uptoBulk d + uptoBulkAll r
def uptoBulkEntries {H : Type} : List (Lit × DataW H) → Nat
  | [] => 0
  | x :: r => uptoBulkEntry x + uptoBulkEntries r
def uptoBulkEntry {H : Type} : Lit × DataW H → Nat
  | (.string bytes, d) => bytes.length + uptoBulk d + 1
  | (_, d) => uptoBulk d + 1
 end
def uptoSmall : (H : Type) → List (DataW H) → Bool := fun _ ds => decide (uptoBulkAll ds ≤ 1048576)
def OpenSpec.upto (s : _root_.Go.ChangeSpec) : _root_.Go.OpenSpec := { _root_.Go.OpenSpec.ofChange s with cond := some uptoSmall }

/-- 'flotillalaw02.LabelsMatch', WHERE WHAT IT READS IS OF BULK AT MOST 1048576: true; the input reads as it did. -/
def labelsMatchUptoRow : OpenClaim := { program := "ytamjjeakkkdfhaa", sum := "a887c7984e5c35e9f32494c2b8bf426d8e8cb06d472decd1cb46cae4fd7769e0", func := "flotilla/flotillalaw02.LabelsMatch", spec := "labelsMatch", unfollowed := true, recurses := true, apart := false, narrowed := true }
def LabelsMatchUptoSaid : Prop := labelsMatchUptoRow.holds Try.pinned (OpenSpec.upto labelsMatchSpec)

/-- 'flotillalaw22.ProbeTurned', WHERE WHAT IT READS IS OF BULK AT MOST 1048576: true; the input reads as it did. -/
def probeTurnedUptoRow : OpenClaim := { program := "ytamjjeakkkdfhaa", sum := "a887c7984e5c35e9f32494c2b8bf426d8e8cb06d472decd1cb46cae4fd7769e0", func := "flotilla/flotillalaw22.ProbeTurned", spec := "probeTurned", unfollowed := true, recurses := true, apart := false, narrowed := true }
def ProbeTurnedUptoSaid : Prop := probeTurnedUptoRow.holds Try.pinned (OpenSpec.upto probeTurnedSpec)

/-- 'flotillalaw22.ProbeTold', WHERE WHAT IT READS IS OF BULK AT MOST 1048576: true; the input reads as it did. -/
def probeToldUptoRow : OpenClaim := { program := "ytamjjeakkkdfhaa", sum := "a887c7984e5c35e9f32494c2b8bf426d8e8cb06d472decd1cb46cae4fd7769e0", func := "flotilla/flotillalaw22.ProbeTold", spec := "probeTold", unfollowed := true, recurses := true, apart := false, narrowed := true }
def ProbeToldUptoSaid : Prop := probeToldUptoRow.holds Try.pinned (OpenSpec.upto probeToldSpec)

/-- 'flotillalaw16.RulesCounted', WHERE WHAT IT READS IS OF BULK AT MOST 1048576: true; the input reads as it did. -/
def rulesCountedUptoRow : OpenClaim := { program := "ytamjjeakkkdfhaa", sum := "a887c7984e5c35e9f32494c2b8bf426d8e8cb06d472decd1cb46cae4fd7769e0", func := "flotilla/flotillalaw16.RulesCounted", spec := "rulesCounted", unfollowed := true, recurses := true, apart := false, narrowed := true }
def RulesCountedUptoSaid : Prop := rulesCountedUptoRow.holds Try.pinned (OpenSpec.upto rulesCountedSpec)

/-- 'flotillalaw05.DigestFields', WHERE WHAT IT READS IS OF BULK AT MOST 1048576: true; the input reads as it did. -/
def digestFieldsUptoRow : OpenClaim := { program := "ytamjjeakkkdfhaa", sum := "a887c7984e5c35e9f32494c2b8bf426d8e8cb06d472decd1cb46cae4fd7769e0", func := "flotilla/flotillalaw05.DigestFields", spec := "digestFields", inPlace := ["internal/bytealg.IndexByteString"], apart := false, narrowed := true }
def DigestFieldsUptoSaid : Prop := digestFieldsUptoRow.holds Try.pinned (OpenSpec.upto digestFieldsSpec)

/-- 'flotillalaw14.HubApart', WHERE WHAT IT READS IS OF BULK AT MOST 1048576: true; the input reads as it did. -/
def hubApartUptoRow : OpenClaim := { program := "ytamjjeakkkdfhaa", sum := "a887c7984e5c35e9f32494c2b8bf426d8e8cb06d472decd1cb46cae4fd7769e0", func := "flotilla/flotillalaw14.HubApart", spec := "hubApart", apart := false, narrowed := true }
def HubApartUptoSaid : Prop := hubApartUptoRow.holds Try.pinned (OpenSpec.upto hubApartSpec)

/-- 'flotillalaw16.RulesRoom', WHERE WHAT IT READS IS OF BULK AT MOST 1048576: true; the input reads as it did. -/
def rulesRoomUptoRow : OpenClaim := { program := "ytamjjeakkkdfhaa", sum := "a887c7984e5c35e9f32494c2b8bf426d8e8cb06d472decd1cb46cae4fd7769e0", func := "flotilla/flotillalaw16.RulesRoom", spec := "rulesRoom", unfollowed := true, recurses := true, apart := false, narrowed := true }
def RulesRoomUptoSaid : Prop := rulesRoomUptoRow.holds Try.pinned (OpenSpec.upto rulesRoomSpec)

/-- 'flotillalaw16.RulesSurge', WHERE WHAT IT READS IS OF BULK AT MOST 1048576: true; the input reads as it did. -/
def rulesSurgeUptoRow : OpenClaim := { program := "ytamjjeakkkdfhaa", sum := "a887c7984e5c35e9f32494c2b8bf426d8e8cb06d472decd1cb46cae4fd7769e0", func := "flotilla/flotillalaw16.RulesSurge", spec := "rulesSurge", unfollowed := true, recurses := true, apart := false, narrowed := true }
def RulesSurgeUptoSaid : Prop := rulesSurgeUptoRow.holds Try.pinned (OpenSpec.upto rulesSurgeSpec)

/-- 'flotillalaw20.PlaceWithout', WHERE WHAT IT READS IS OF BULK AT MOST 1048576: true; the input reads as it did. -/
def placeWithoutUptoRow : OpenClaim := { program := "ytamjjeakkkdfhaa", sum := "a887c7984e5c35e9f32494c2b8bf426d8e8cb06d472decd1cb46cae4fd7769e0", func := "flotilla/flotillalaw20.PlaceWithout", spec := "placeWithout", unfollowed := true, recurses := true, apart := false, narrowed := true }
def PlaceWithoutUptoSaid : Prop := placeWithoutUptoRow.holds Try.pinned (OpenSpec.upto placeWithoutSpec)

/-- 'flotillalaw16.RulesKept', WHERE WHAT IT READS IS OF BULK AT MOST 1048576: true; the input reads as it did. -/
def rulesKeptUptoRow : OpenClaim := { program := "ytamjjeakkkdfhaa", sum := "a887c7984e5c35e9f32494c2b8bf426d8e8cb06d472decd1cb46cae4fd7769e0", func := "flotilla/flotillalaw16.RulesKept", spec := "rulesKept", unfollowed := true, recurses := true, apart := false, narrowed := true }
def RulesKeptUptoSaid : Prop := rulesKeptUptoRow.holds Try.pinned (OpenSpec.upto rulesKeptSpec)

end Rows
end Go.Proofs.Ytamjjeakkkdfhaa
