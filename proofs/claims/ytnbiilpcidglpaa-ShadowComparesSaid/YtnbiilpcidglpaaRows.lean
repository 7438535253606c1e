/-
  No cell of these rows narrows 'for every input' (looked for: loops, veiled, ifaces, maps, wideKeys, modest, calm, conditions, laid).
  DERIVED. THE GIVEN ROWS OF THIS SEAT. 12 by the template 'for every input the law returns true; each argument reads behind the call as it read before'; 0 by the template 'total and deterministic' (their statements: YtnbiilpcidglpaaTotals.lean).
  GIVEN WITH THE SEED: the statements are not yours to turn. If you find one false, say at which input.
  Laid BY PROGRAM, IN A SANDBOX (cutbox-rows.mjs): the forced cells as the released guide's own fill.sh prints them over the translation d2de328840aae76d… (all of the seat's roots in one cut). By AI agents, Wed Nov 11 2026. No macro, syntax, notation, axiom, sorry.
-/
import Derived.Test.YtnbiilpcidglpaaChecked
import GoSem.Claim
import GoSem.ClaimJoined
import GoSem.ClaimMapViews
import Derived.JoinedTies
import Derived.KernelRfl
namespace Go.Proofs.Ytnbiilpcidglpaa
/- THE CELL 'sum', in the pinned program and in every row, IS THE sha256 OF THE DUMP (.gsa) THAT YtnbiilpcidglpaaProg.lean LOADS. Nothing in Lean hashes anything: it is a label: what it is worth is what the hold of that sum in a sandbox is worth. -/
noncomputable def Try.pinned : Pinned := { name := "ytnbiilpcidglpaa", sum := "d2de328840aae76dc9f4963f46d465bb4271de0b06ecb42fc33979ff689af90d", checked := Try.checked }
namespace Rows
def none {H : Type} : Left H := { results := [], args := [] }

/-- 'wireloomlaw52.ShadowCompares': WHATEVER THE INPUT: true; the input reads as it did. -/
def shadowComparesSpec : ChangeSpec := { name := "shadowCompares", fn := fun _ => fun
  | [d1, d2, d3] => { results := [.lit (.bool true)], args := [d1, d2, d3] }
  | _ => none }
def shadowComparesRow : OpenClaim := { program := "ytnbiilpcidglpaa", sum := "d2de328840aae76dc9f4963f46d465bb4271de0b06ecb42fc33979ff689af90d", func := "wireloom/wireloomlaw52.ShadowCompares", spec := "shadowCompares", unfollowed := true, recurses := true, apart := false }
def ShadowComparesSaid : Prop := shadowComparesRow.holds Try.pinned (OpenSpec.ofChange shadowComparesSpec)

/-- ITS FALSE NEIGHBOUR: 'it returns false'. Refute it at one input. -/
def shadowComparesWrong : ChangeSpec := { name := "shadowCompares", fn := fun _ => fun
  | [d1, d2, d3] => { results := [.lit (.bool false)], args := [d1, d2, d3] }
  | _ => none }
def ShadowComparesWrongFalsely : Prop := shadowComparesRow.holds Try.pinned (OpenSpec.ofChange shadowComparesWrong)

/-- 'wireloomlaw52.ShadowFeeds': WHATEVER THE INPUT: true; the input reads as it did. -/
def shadowFeedsSpec : ChangeSpec := { name := "shadowFeeds", fn := fun _ => fun
  | [d1, d2, d3] => { results := [.lit (.bool true)], args := [d1, d2, d3] }
  | _ => none }
def shadowFeedsRow : OpenClaim := { program := "ytnbiilpcidglpaa", sum := "d2de328840aae76dc9f4963f46d465bb4271de0b06ecb42fc33979ff689af90d", func := "wireloom/wireloomlaw52.ShadowFeeds", spec := "shadowFeeds", unfollowed := true, recurses := true, apart := false }
def ShadowFeedsSaid : Prop := shadowFeedsRow.holds Try.pinned (OpenSpec.ofChange shadowFeedsSpec)

/-- ITS FALSE NEIGHBOUR: 'it returns false'. Refute it at one input. -/
def shadowFeedsWrong : ChangeSpec := { name := "shadowFeeds", fn := fun _ => fun
  | [d1, d2, d3] => { results := [.lit (.bool false)], args := [d1, d2, d3] }
  | _ => none }
def ShadowFeedsWrongFalsely : Prop := shadowFeedsRow.holds Try.pinned (OpenSpec.ofChange shadowFeedsWrong)

/-- 'wireloomlaw29.PlacementMatchesReference': WHATEVER THE INPUT: true; the input reads as it did. -/
def placementMatchesReferenceSpec : ChangeSpec := { name := "placementMatchesReference", fn := fun _ => fun
  | [d1, d2, d3] => { results := [.lit (.bool true)], args := [d1, d2, d3] }
  | _ => none }
def placementMatchesReferenceRow : OpenClaim := { program := "ytnbiilpcidglpaa", sum := "d2de328840aae76dc9f4963f46d465bb4271de0b06ecb42fc33979ff689af90d", func := "wireloom/wireloomlaw29.PlacementMatchesReference", spec := "placementMatchesReference", unfollowed := true, recurses := true, apart := false }
def PlacementMatchesReferenceSaid : Prop := placementMatchesReferenceRow.holds Try.pinned (OpenSpec.ofChange placementMatchesReferenceSpec)

/-- ITS FALSE NEIGHBOUR: 'it returns false'. Refute it at one input. -/
def placementMatchesReferenceWrong : ChangeSpec := { name := "placementMatchesReference", fn := fun _ => fun
  | [d1, d2, d3] => { results := [.lit (.bool false)], args := [d1, d2, d3] }
  | _ => none }
def PlacementMatchesReferenceWrongFalsely : Prop := placementMatchesReferenceRow.holds Try.pinned (OpenSpec.ofChange placementMatchesReferenceWrong)

/-- 'wireloomlaw29.PlacementLegal': WHATEVER THE INPUT: true; the input reads as it did. -/
def placementLegalSpec : ChangeSpec := { name := "placementLegal", fn := fun _ => fun
  | [d1, d2, d3] => { results := [.lit (.bool true)], args := [d1, d2, d3] }
  | _ => none }
def placementLegalRow : OpenClaim := { program := "ytnbiilpcidglpaa", sum := "d2de328840aae76dc9f4963f46d465bb4271de0b06ecb42fc33979ff689af90d", func := "wireloom/wireloomlaw29.PlacementLegal", spec := "placementLegal", unfollowed := true, recurses := true, apart := false }
def PlacementLegalSaid : Prop := placementLegalRow.holds Try.pinned (OpenSpec.ofChange placementLegalSpec)

/-- ITS FALSE NEIGHBOUR: 'it returns false'. Refute it at one input. -/
def placementLegalWrong : ChangeSpec := { name := "placementLegal", fn := fun _ => fun
  | [d1, d2, d3] => { results := [.lit (.bool false)], args := [d1, d2, d3] }
  | _ => none }
def PlacementLegalWrongFalsely : Prop := placementLegalRow.holds Try.pinned (OpenSpec.ofChange placementLegalWrong)

/-- 'wireloomlaw29.PlacementImproves': WHATEVER THE INPUT: true; the input reads as it did. -/
def placementImprovesSpec : ChangeSpec := { name := "placementImproves", fn := fun _ => fun
  | [d1, d2, d3] => { results := [.lit (.bool true)], args := [d1, d2, d3] }
  | _ => none }
def placementImprovesRow : OpenClaim := { program := "ytnbiilpcidglpaa", sum := "d2de328840aae76dc9f4963f46d465bb4271de0b06ecb42fc33979ff689af90d", func := "wireloom/wireloomlaw29.PlacementImproves", spec := "placementImproves", unfollowed := true, recurses := true, apart := false }
def PlacementImprovesSaid : Prop := placementImprovesRow.holds Try.pinned (OpenSpec.ofChange placementImprovesSpec)

/-- ITS FALSE NEIGHBOUR: 'it returns false'. Refute it at one input. -/
def placementImprovesWrong : ChangeSpec := { name := "placementImproves", fn := fun _ => fun
  | [d1, d2, d3] => { results := [.lit (.bool false)], args := [d1, d2, d3] }
  | _ => none }
def PlacementImprovesWrongFalsely : Prop := placementImprovesRow.holds Try.pinned (OpenSpec.ofChange placementImprovesWrong)

/-- 'wireloomlaw29.PlacementRoom': WHATEVER THE INPUT: true; the input reads as it did. -/
def placementRoomSpec : ChangeSpec := { name := "placementRoom", fn := fun _ => fun
  | [d1, d2, d3] => { results := [.lit (.bool true)], args := [d1, d2, d3] }
  | _ => none }
def placementRoomRow : OpenClaim := { program := "ytnbiilpcidglpaa", sum := "d2de328840aae76dc9f4963f46d465bb4271de0b06ecb42fc33979ff689af90d", func := "wireloom/wireloomlaw29.PlacementRoom", spec := "placementRoom", unfollowed := true, recurses := true, apart := false }
def PlacementRoomSaid : Prop := placementRoomRow.holds Try.pinned (OpenSpec.ofChange placementRoomSpec)

/-- ITS FALSE NEIGHBOUR: 'it returns false'. Refute it at one input. -/
def placementRoomWrong : ChangeSpec := { name := "placementRoom", fn := fun _ => fun
  | [d1, d2, d3] => { results := [.lit (.bool false)], args := [d1, d2, d3] }
  | _ => none }
def PlacementRoomWrongFalsely : Prop := placementRoomRow.holds Try.pinned (OpenSpec.ofChange placementRoomWrong)

/-- 'wireloomtop.TopFifos': WHATEVER THE INPUT: true; the input reads as it did. -/
def topFifosSpec : ChangeSpec := { name := "topFifos", fn := fun _ => fun
  | [d1, d2, d3] => { results := [.lit (.bool true)], args := [d1, d2, d3] }
  | _ => none }
def topFifosRow : OpenClaim := { program := "ytnbiilpcidglpaa", sum := "d2de328840aae76dc9f4963f46d465bb4271de0b06ecb42fc33979ff689af90d", func := "wireloom/wireloomtop.TopFifos", spec := "topFifos", unfollowed := true, recurses := true, apart := false }
def TopFifosSaid : Prop := topFifosRow.holds Try.pinned (OpenSpec.ofChange topFifosSpec)

/-- ITS FALSE NEIGHBOUR: 'it returns false'. Refute it at one input. -/
def topFifosWrong : ChangeSpec := { name := "topFifos", fn := fun _ => fun
  | [d1, d2, d3] => { results := [.lit (.bool false)], args := [d1, d2, d3] }
  | _ => none }
def TopFifosWrongFalsely : Prop := topFifosRow.holds Try.pinned (OpenSpec.ofChange topFifosWrong)

/-- 'wireloomlaw29.PlacementRefuses': WHATEVER THE INPUT: true; the input reads as it did. -/
def placementRefusesSpec : ChangeSpec := { name := "placementRefuses", fn := fun _ => fun
  | [d1, d2, d3] => { results := [.lit (.bool true)], args := [d1, d2, d3] }
  | _ => none }
def placementRefusesRow : OpenClaim := { program := "ytnbiilpcidglpaa", sum := "d2de328840aae76dc9f4963f46d465bb4271de0b06ecb42fc33979ff689af90d", func := "wireloom/wireloomlaw29.PlacementRefuses", spec := "placementRefuses", unfollowed := true, recurses := true, apart := false }
def PlacementRefusesSaid : Prop := placementRefusesRow.holds Try.pinned (OpenSpec.ofChange placementRefusesSpec)

/-- ITS FALSE NEIGHBOUR: 'it returns false'. Refute it at one input. -/
def placementRefusesWrong : ChangeSpec := { name := "placementRefuses", fn := fun _ => fun
  | [d1, d2, d3] => { results := [.lit (.bool false)], args := [d1, d2, d3] }
  | _ => none }
def PlacementRefusesWrongFalsely : Prop := placementRefusesRow.holds Try.pinned (OpenSpec.ofChange placementRefusesWrong)

/-- 'wireloomlaw29.PlacementRenumbers': WHATEVER THE INPUT: true; the input reads as it did. -/
def placementRenumbersSpec : ChangeSpec := { name := "placementRenumbers", fn := fun _ => fun
  | [d1, d2, d3] => { results := [.lit (.bool true)], args := [d1, d2, d3] }
  | _ => none }
def placementRenumbersRow : OpenClaim := { program := "ytnbiilpcidglpaa", sum := "d2de328840aae76dc9f4963f46d465bb4271de0b06ecb42fc33979ff689af90d", func := "wireloom/wireloomlaw29.PlacementRenumbers", spec := "placementRenumbers", unfollowed := true, recurses := true, apart := false }
def PlacementRenumbersSaid : Prop := placementRenumbersRow.holds Try.pinned (OpenSpec.ofChange placementRenumbersSpec)

/-- ITS FALSE NEIGHBOUR: 'it returns false'. Refute it at one input. -/
def placementRenumbersWrong : ChangeSpec := { name := "placementRenumbers", fn := fun _ => fun
  | [d1, d2, d3] => { results := [.lit (.bool false)], args := [d1, d2, d3] }
  | _ => none }
def PlacementRenumbersWrongFalsely : Prop := placementRenumbersRow.holds Try.pinned (OpenSpec.ofChange placementRenumbersWrong)

/-- 'wireloomlaw14.StreamsRuns': WHATEVER THE INPUT: true; the input reads as it did. -/
def streamsRunsSpec : ChangeSpec := { name := "streamsRuns", fn := fun _ => fun
  | [d1, d2, d3] => { results := [.lit (.bool true)], args := [d1, d2, d3] }
  | _ => none }
def streamsRunsRow : OpenClaim := { program := "ytnbiilpcidglpaa", sum := "d2de328840aae76dc9f4963f46d465bb4271de0b06ecb42fc33979ff689af90d", func := "wireloom/wireloomlaw14.StreamsRuns", spec := "streamsRuns", unfollowed := true, recurses := true, apart := false }
def StreamsRunsSaid : Prop := streamsRunsRow.holds Try.pinned (OpenSpec.ofChange streamsRunsSpec)

/-- ITS FALSE NEIGHBOUR: 'it returns false'. Refute it at one input. -/
def streamsRunsWrong : ChangeSpec := { name := "streamsRuns", fn := fun _ => fun
  | [d1, d2, d3] => { results := [.lit (.bool false)], args := [d1, d2, d3] }
  | _ => none }
def StreamsRunsWrongFalsely : Prop := streamsRunsRow.holds Try.pinned (OpenSpec.ofChange streamsRunsWrong)

/-- 'wireloomlaw14.StreamsContinue': WHATEVER THE INPUT: true; the input reads as it did. -/
def streamsContinueSpec : ChangeSpec := { name := "streamsContinue", fn := fun _ => fun
  | [d1, d2, d3] => { results := [.lit (.bool true)], args := [d1, d2, d3] }
  | _ => none }
def streamsContinueRow : OpenClaim := { program := "ytnbiilpcidglpaa", sum := "d2de328840aae76dc9f4963f46d465bb4271de0b06ecb42fc33979ff689af90d", func := "wireloom/wireloomlaw14.StreamsContinue", spec := "streamsContinue", unfollowed := true, recurses := true, apart := false }
def StreamsContinueSaid : Prop := streamsContinueRow.holds Try.pinned (OpenSpec.ofChange streamsContinueSpec)

/-- ITS FALSE NEIGHBOUR: 'it returns false'. Refute it at one input. -/
def streamsContinueWrong : ChangeSpec := { name := "streamsContinue", fn := fun _ => fun
  | [d1, d2, d3] => { results := [.lit (.bool false)], args := [d1, d2, d3] }
  | _ => none }
def StreamsContinueWrongFalsely : Prop := streamsContinueRow.holds Try.pinned (OpenSpec.ofChange streamsContinueWrong)

/-- 'wireloomlaw14.StreamsCompare': WHATEVER THE INPUT: true; the input reads as it did. -/
def streamsCompareSpec : ChangeSpec := { name := "streamsCompare", fn := fun _ => fun
  | [d1, d2, d3] => { results := [.lit (.bool true)], args := [d1, d2, d3] }
  | _ => none }
def streamsCompareRow : OpenClaim := { program := "ytnbiilpcidglpaa", sum := "d2de328840aae76dc9f4963f46d465bb4271de0b06ecb42fc33979ff689af90d", func := "wireloom/wireloomlaw14.StreamsCompare", spec := "streamsCompare", unfollowed := true, recurses := true, apart := false }
def StreamsCompareSaid : Prop := streamsCompareRow.holds Try.pinned (OpenSpec.ofChange streamsCompareSpec)

/-- ITS FALSE NEIGHBOUR: 'it returns false'. Refute it at one input. -/
def streamsCompareWrong : ChangeSpec := { name := "streamsCompare", fn := fun _ => fun
  | [d1, d2, d3] => { results := [.lit (.bool false)], args := [d1, d2, d3] }
  | _ => none }
def StreamsCompareWrongFalsely : Prop := streamsCompareRow.holds Try.pinned (OpenSpec.ofChange streamsCompareWrong)

/- THE SECOND FORM. 'bulk': how many values and letters a reading holds, each counted each time it is reached (what is shared counts as often as it is met; a slice's spare places count too). A statement '..UptoSaid' is the law's where the arguments, and the package variables that the reading takes, are together of bulk at most 1048576: NARROWER than '..Said'. Prove '..Said' where nothing that the law and all that it calls make is longer than what came in: it says more and counts as full. Else prove '..UptoSaid'. A law counts once. -/
mutual
def uptoBulk {H : Type} : DataW H → Nat
  | .lit (.string bytes) => bytes.length + 1
  | .lit _ => 1
  | .nil => 1
  | .ptr d => uptoBulk d + 1
  | .slice elems spare => uptoBulkAll elems + uptoBulkAll spare + 1
  | .agg parts => uptoBulkAll parts + 1
  | .iface _ d => uptoBulk d + 1
  | .map entries => uptoBulkEntries entries + 1
  | .held _ => 1
def uptoBulkAll {H : Type} : List (DataW H) → Nat
  | [] => 0
  | d :: r => uptoBulk d + uptoBulkAll r
def uptoBulkEntries {H : Type} : List (Lit × DataW H) → Nat
  | [] => 0
  | x :: r => uptoBulkEntry x + uptoBulkEntries r
def uptoBulkEntry {H : Type} : Lit × DataW H → Nat
  | (.string bytes, d) => bytes.length + uptoBulk d + 1
  | (_, d) => uptoBulk d + 1
 end
def uptoSmall : (H : Type) → List (DataW H) → Bool := fun _ ds => decide (uptoBulkAll ds ≤ 1048576)
def OpenSpec.upto (s : _root_.Go.ChangeSpec) : _root_.Go.OpenSpec := { _root_.Go.OpenSpec.ofChange s with cond := some uptoSmall }

/-- 'wireloomlaw52.ShadowCompares', WHERE WHAT IT READS IS OF BULK AT MOST 1048576: true; the input reads as it did. -/
def shadowComparesUptoRow : OpenClaim := { program := "ytnbiilpcidglpaa", sum := "d2de328840aae76dc9f4963f46d465bb4271de0b06ecb42fc33979ff689af90d", func := "wireloom/wireloomlaw52.ShadowCompares", spec := "shadowCompares", unfollowed := true, recurses := true, apart := false, narrowed := true }
def ShadowComparesUptoSaid : Prop := shadowComparesUptoRow.holds Try.pinned (OpenSpec.upto shadowComparesSpec)

/-- 'wireloomlaw52.ShadowFeeds', WHERE WHAT IT READS IS OF BULK AT MOST 1048576: true; the input reads as it did. -/
def shadowFeedsUptoRow : OpenClaim := { program := "ytnbiilpcidglpaa", sum := "d2de328840aae76dc9f4963f46d465bb4271de0b06ecb42fc33979ff689af90d", func := "wireloom/wireloomlaw52.ShadowFeeds", spec := "shadowFeeds", unfollowed := true, recurses := true, apart := false, narrowed := true }
def ShadowFeedsUptoSaid : Prop := shadowFeedsUptoRow.holds Try.pinned (OpenSpec.upto shadowFeedsSpec)

/-- 'wireloomlaw29.PlacementMatchesReference', WHERE WHAT IT READS IS OF BULK AT MOST 1048576: true; the input reads as it did. -/
def placementMatchesReferenceUptoRow : OpenClaim := { program := "ytnbiilpcidglpaa", sum := "d2de328840aae76dc9f4963f46d465bb4271de0b06ecb42fc33979ff689af90d", func := "wireloom/wireloomlaw29.PlacementMatchesReference", spec := "placementMatchesReference", unfollowed := true, recurses := true, apart := false, narrowed := true }
def PlacementMatchesReferenceUptoSaid : Prop := placementMatchesReferenceUptoRow.holds Try.pinned (OpenSpec.upto placementMatchesReferenceSpec)

/-- 'wireloomlaw29.PlacementLegal', WHERE WHAT IT READS IS OF BULK AT MOST 1048576: true; the input reads as it did. -/
def placementLegalUptoRow : OpenClaim := { program := "ytnbiilpcidglpaa", sum := "d2de328840aae76dc9f4963f46d465bb4271de0b06ecb42fc33979ff689af90d", func := "wireloom/wireloomlaw29.PlacementLegal", spec := "placementLegal", unfollowed := true, recurses := true, apart := false, narrowed := true }
def PlacementLegalUptoSaid : Prop := placementLegalUptoRow.holds Try.pinned (OpenSpec.upto placementLegalSpec)

/-- 'wireloomlaw29.PlacementImproves', WHERE WHAT IT READS IS OF BULK AT MOST 1048576: true; the input reads as it did. -/
def placementImprovesUptoRow : OpenClaim := { program := "ytnbiilpcidglpaa", sum := "d2de328840aae76dc9f4963f46d465bb4271de0b06ecb42fc33979ff689af90d", func := "wireloom/wireloomlaw29.PlacementImproves", spec := "placementImproves", unfollowed := true, recurses := true, apart := false, narrowed := true }
def PlacementImprovesUptoSaid : Prop := placementImprovesUptoRow.holds Try.pinned (OpenSpec.upto placementImprovesSpec)

/-- 'wireloomlaw29.PlacementRoom', WHERE WHAT IT READS IS OF BULK AT MOST 1048576: true; the input reads as it did. -/
def placementRoomUptoRow : OpenClaim := { program := "ytnbiilpcidglpaa", sum := "d2de328840aae76dc9f4963f46d465bb4271de0b06ecb42fc33979ff689af90d", func := "wireloom/wireloomlaw29.PlacementRoom", spec := "placementRoom", unfollowed := true, recurses := true, apart := false, narrowed := true }
def PlacementRoomUptoSaid : Prop := placementRoomUptoRow.holds Try.pinned (OpenSpec.upto placementRoomSpec)

/-- 'wireloomtop.TopFifos', WHERE WHAT IT READS IS OF BULK AT MOST 1048576: true; the input reads as it did. -/
def topFifosUptoRow : OpenClaim := { program := "ytnbiilpcidglpaa", sum := "d2de328840aae76dc9f4963f46d465bb4271de0b06ecb42fc33979ff689af90d", func := "wireloom/wireloomtop.TopFifos", spec := "topFifos", unfollowed := true, recurses := true, apart := false, narrowed := true }
def TopFifosUptoSaid : Prop := topFifosUptoRow.holds Try.pinned (OpenSpec.upto topFifosSpec)

/-- 'wireloomlaw29.PlacementRefuses', WHERE WHAT IT READS IS OF BULK AT MOST 1048576: true; the input reads as it did. -/
def placementRefusesUptoRow : OpenClaim := { program := "ytnbiilpcidglpaa", sum := "d2de328840aae76dc9f4963f46d465bb4271de0b06ecb42fc33979ff689af90d", func := "wireloom/wireloomlaw29.PlacementRefuses", spec := "placementRefuses", unfollowed := true, recurses := true, apart := false, narrowed := true }
def PlacementRefusesUptoSaid : Prop := placementRefusesUptoRow.holds Try.pinned (OpenSpec.upto placementRefusesSpec)

/-- 'wireloomlaw29.PlacementRenumbers', WHERE WHAT IT READS IS OF BULK AT MOST 1048576: true; the input reads as it did. -/
def placementRenumbersUptoRow : OpenClaim := { program := "ytnbiilpcidglpaa", sum := "d2de328840aae76dc9f4963f46d465bb4271de0b06ecb42fc33979ff689af90d", func := "wireloom/wireloomlaw29.PlacementRenumbers", spec := "placementRenumbers", unfollowed := true, recurses := true, apart := false, narrowed := true }
def PlacementRenumbersUptoSaid : Prop := placementRenumbersUptoRow.holds Try.pinned (OpenSpec.upto placementRenumbersSpec)

/-- 'wireloomlaw14.StreamsRuns', WHERE WHAT IT READS IS OF BULK AT MOST 1048576: true; the input reads as it did. -/
def streamsRunsUptoRow : OpenClaim := { program := "ytnbiilpcidglpaa", sum := "d2de328840aae76dc9f4963f46d465bb4271de0b06ecb42fc33979ff689af90d", func := "wireloom/wireloomlaw14.StreamsRuns", spec := "streamsRuns", unfollowed := true, recurses := true, apart := false, narrowed := true }
def StreamsRunsUptoSaid : Prop := streamsRunsUptoRow.holds Try.pinned (OpenSpec.upto streamsRunsSpec)

/-- 'wireloomlaw14.StreamsContinue', WHERE WHAT IT READS IS OF BULK AT MOST 1048576: true; the input reads as it did. -/
def streamsContinueUptoRow : OpenClaim := { program := "ytnbiilpcidglpaa", sum := "d2de328840aae76dc9f4963f46d465bb4271de0b06ecb42fc33979ff689af90d", func := "wireloom/wireloomlaw14.StreamsContinue", spec := "streamsContinue", unfollowed := true, recurses := true, apart := false, narrowed := true }
def StreamsContinueUptoSaid : Prop := streamsContinueUptoRow.holds Try.pinned (OpenSpec.upto streamsContinueSpec)

/-- 'wireloomlaw14.StreamsCompare', WHERE WHAT IT READS IS OF BULK AT MOST 1048576: true; the input reads as it did. -/
def streamsCompareUptoRow : OpenClaim := { program := "ytnbiilpcidglpaa", sum := "d2de328840aae76dc9f4963f46d465bb4271de0b06ecb42fc33979ff689af90d", func := "wireloom/wireloomlaw14.StreamsCompare", spec := "streamsCompare", unfollowed := true, recurses := true, apart := false, narrowed := true }
def StreamsCompareUptoSaid : Prop := streamsCompareUptoRow.holds Try.pinned (OpenSpec.upto streamsCompareSpec)

end Rows
end Go.Proofs.Ytnbiilpcidglpaa
