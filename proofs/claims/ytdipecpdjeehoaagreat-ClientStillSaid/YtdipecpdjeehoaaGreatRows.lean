/-
  No cell of these rows narrows 'for every input' (looked for: loops, veiled, ifaces, maps, wideKeys, modest, calm, conditions, laid).
  DERIVED. THE GIVEN ROWS OF THIS SEAT. 19 by the template 'for every input the law returns true; each argument reads behind the call as it read before'; 0 by the template 'total and deterministic' (their statements: YtdipecpdjeehoaaGreatTotals.lean).
  GIVEN WITH THE SEED: the statements are not yours to turn. If you find one false, say at which input.
  Laid BY PROGRAM, IN A SANDBOX (cutbox-rows.mjs): the forced cells as the released guide's own fill.sh prints them over the translation ce6b1e3238ffcbec… (all of the seat's roots in one cut). By AI agents, Wed Nov 11 2026. No macro, syntax, notation, axiom, sorry.
-/
import Derived.Test.YtdipecpdjeehoaaGreatChecked
import GoSem.Claim
import GoSem.ClaimJoined
import GoSem.ClaimMapViews
import Derived.JoinedTies
import Derived.KernelRfl
namespace Go.Proofs.YtdipecpdjeehoaaGreat
/- THE CELL 'sum', in the pinned program and in every row, IS THE sha256 OF THE DUMP (.gsa) THAT YtdipecpdjeehoaaGreatProg.lean LOADS. Nothing in Lean hashes anything: it is a label: what it is worth is what the hold of that sum in a sandbox is worth. -/
noncomputable def Tryz.pinned : Pinned := { name := "ytdipecpdjeehoaagreat", sum := "ce6b1e3238ffcbec32e332249d3ee9249483480961e511cfeecf05ee7d355cf1", checked := Tryz.checked }
namespace Rows
def none {H : Type} : Left H := { results := [], args := [] }

/-- 'locketlaw16.ReplayOthers': WHATEVER THE INPUT: true; the input reads as it did. -/
def replayOthersSpec : ChangeSpec := { name := "replayOthers", fn := fun _ => fun
  | [d1, d2] => { results := [.lit (.bool true)], args := [d1, d2] }
  | _ => none }
def replayOthersRow : OpenClaim := { program := "ytdipecpdjeehoaagreat", sum := "ce6b1e3238ffcbec32e332249d3ee9249483480961e511cfeecf05ee7d355cf1", func := "locket/locketlaw16.ReplayOthers", spec := "replayOthers", inPlace := ["math/bits.Add64", "slices.overlaps[locket/policy.Member]", "maps.clone"], unfollowed := true, recurses := true, plainKeys := false, apart := false }
def ReplayOthersSaid : Prop := replayOthersRow.holds Tryz.pinned (OpenSpec.ofChange replayOthersSpec)

/-- ITS FALSE NEIGHBOUR: 'it returns false'. Refute it at one input. -/
def replayOthersWrong : ChangeSpec := { name := "replayOthers", fn := fun _ => fun
  | [d1, d2] => { results := [.lit (.bool false)], args := [d1, d2] }
  | _ => none }
def ReplayOthersWrongFalsely : Prop := replayOthersRow.holds Tryz.pinned (OpenSpec.ofChange replayOthersWrong)

/-- 'locketlaw18.ClientAgain': WHATEVER THE INPUT: true; the input reads as it did. -/
def clientAgainSpec : ChangeSpec := { name := "clientAgain", fn := fun _ => fun
  | [d1, d2] => { results := [.lit (.bool true)], args := [d1, d2] }
  | _ => none }
def clientAgainRow : OpenClaim := { program := "ytdipecpdjeehoaagreat", sum := "ce6b1e3238ffcbec32e332249d3ee9249483480961e511cfeecf05ee7d355cf1", func := "locket/locketlaw18.ClientAgain", spec := "clientAgain", inPlace := ["maps.clone", "slices.overlaps[locket/policy.Member]", "math/bits.Add64"], unfollowed := true, recurses := true, plainKeys := false, apart := false }
def ClientAgainSaid : Prop := clientAgainRow.holds Tryz.pinned (OpenSpec.ofChange clientAgainSpec)

/-- ITS FALSE NEIGHBOUR: 'it returns false'. Refute it at one input. -/
def clientAgainWrong : ChangeSpec := { name := "clientAgain", fn := fun _ => fun
  | [d1, d2] => { results := [.lit (.bool false)], args := [d1, d2] }
  | _ => none }
def ClientAgainWrongFalsely : Prop := clientAgainRow.holds Tryz.pinned (OpenSpec.ofChange clientAgainWrong)

/-- 'locketlaw18.ClientStill': WHATEVER THE INPUT: true; the input reads as it did. -/
def clientStillSpec : ChangeSpec := { name := "clientStill", fn := fun _ => fun
  | [d1, d2] => { results := [.lit (.bool true)], args := [d1, d2] }
  | _ => none }
def clientStillRow : OpenClaim := { program := "ytdipecpdjeehoaagreat", sum := "ce6b1e3238ffcbec32e332249d3ee9249483480961e511cfeecf05ee7d355cf1", func := "locket/locketlaw18.ClientStill", spec := "clientStill", inPlace := ["maps.clone", "slices.overlaps[locket/policy.Member]", "math/bits.Add64"], unfollowed := true, recurses := true, plainKeys := false, apart := false }
def ClientStillSaid : Prop := clientStillRow.holds Tryz.pinned (OpenSpec.ofChange clientStillSpec)

/-- ITS FALSE NEIGHBOUR: 'it returns false'. Refute it at one input. -/
def clientStillWrong : ChangeSpec := { name := "clientStill", fn := fun _ => fun
  | [d1, d2] => { results := [.lit (.bool false)], args := [d1, d2] }
  | _ => none }
def ClientStillWrongFalsely : Prop := clientStillRow.holds Tryz.pinned (OpenSpec.ofChange clientStillWrong)

/-- 'locketlaw18.ClientAlarms': WHATEVER THE INPUT: true; the input reads as it did. -/
def clientAlarmsSpec : ChangeSpec := { name := "clientAlarms", fn := fun _ => fun
  | [d1, d2] => { results := [.lit (.bool true)], args := [d1, d2] }
  | _ => none }
def clientAlarmsRow : OpenClaim := { program := "ytdipecpdjeehoaagreat", sum := "ce6b1e3238ffcbec32e332249d3ee9249483480961e511cfeecf05ee7d355cf1", func := "locket/locketlaw18.ClientAlarms", spec := "clientAlarms", inPlace := ["maps.clone", "slices.overlaps[locket/policy.Member]", "math/bits.Add64"], unfollowed := true, recurses := true, plainKeys := false, apart := false }
def ClientAlarmsSaid : Prop := clientAlarmsRow.holds Tryz.pinned (OpenSpec.ofChange clientAlarmsSpec)

/-- ITS FALSE NEIGHBOUR: 'it returns false'. Refute it at one input. -/
def clientAlarmsWrong : ChangeSpec := { name := "clientAlarms", fn := fun _ => fun
  | [d1, d2] => { results := [.lit (.bool false)], args := [d1, d2] }
  | _ => none }
def ClientAlarmsWrongFalsely : Prop := clientAlarmsRow.holds Tryz.pinned (OpenSpec.ofChange clientAlarmsWrong)

/-- 'locketlaw16.ReplayTwice': WHATEVER THE INPUT: true; the input reads as it did. -/
def replayTwiceSpec : ChangeSpec := { name := "replayTwice", fn := fun _ => fun
  | [d1, d2] => { results := [.lit (.bool true)], args := [d1, d2] }
  | _ => none }
def replayTwiceRow : OpenClaim := { program := "ytdipecpdjeehoaagreat", sum := "ce6b1e3238ffcbec32e332249d3ee9249483480961e511cfeecf05ee7d355cf1", func := "locket/locketlaw16.ReplayTwice", spec := "replayTwice", inPlace := ["math/bits.Add64", "slices.overlaps[locket/policy.Member]", "maps.clone"], unfollowed := true, recurses := true, plainKeys := false, apart := false }
def ReplayTwiceSaid : Prop := replayTwiceRow.holds Tryz.pinned (OpenSpec.ofChange replayTwiceSpec)

/-- ITS FALSE NEIGHBOUR: 'it returns false'. Refute it at one input. -/
def replayTwiceWrong : ChangeSpec := { name := "replayTwice", fn := fun _ => fun
  | [d1, d2] => { results := [.lit (.bool false)], args := [d1, d2] }
  | _ => none }
def ReplayTwiceWrongFalsely : Prop := replayTwiceRow.holds Tryz.pinned (OpenSpec.ofChange replayTwiceWrong)

/-- 'locketlaw16.ReplayRefuses': WHATEVER THE INPUT: true; the input reads as it did. -/
def replayRefusesSpec : ChangeSpec := { name := "replayRefuses", fn := fun _ => fun
  | [d1, d2, d3] => { results := [.lit (.bool true)], args := [d1, d2, d3] }
  | _ => none }
def replayRefusesRow : OpenClaim := { program := "ytdipecpdjeehoaagreat", sum := "ce6b1e3238ffcbec32e332249d3ee9249483480961e511cfeecf05ee7d355cf1", func := "locket/locketlaw16.ReplayRefuses", spec := "replayRefuses", inPlace := ["math/bits.Add64", "slices.overlaps[locket/policy.Member]", "maps.clone"], unfollowed := true, recurses := true, plainKeys := false, apart := false }
def ReplayRefusesSaid : Prop := replayRefusesRow.holds Tryz.pinned (OpenSpec.ofChange replayRefusesSpec)

/-- ITS FALSE NEIGHBOUR: 'it returns false'. Refute it at one input. -/
def replayRefusesWrong : ChangeSpec := { name := "replayRefuses", fn := fun _ => fun
  | [d1, d2, d3] => { results := [.lit (.bool false)], args := [d1, d2, d3] }
  | _ => none }
def ReplayRefusesWrongFalsely : Prop := replayRefusesRow.holds Tryz.pinned (OpenSpec.ofChange replayRefusesWrong)

/-- 'locketlaw16.ReplayPlays': WHATEVER THE INPUT: true; the input reads as it did. -/
def replayPlaysSpec : ChangeSpec := { name := "replayPlays", fn := fun _ => fun
  | [d1, d2] => { results := [.lit (.bool true)], args := [d1, d2] }
  | _ => none }
def replayPlaysRow : OpenClaim := { program := "ytdipecpdjeehoaagreat", sum := "ce6b1e3238ffcbec32e332249d3ee9249483480961e511cfeecf05ee7d355cf1", func := "locket/locketlaw16.ReplayPlays", spec := "replayPlays", inPlace := ["math/bits.Add64", "slices.overlaps[locket/policy.Member]", "maps.clone"], unfollowed := true, recurses := true, plainKeys := false, apart := false }
def ReplayPlaysSaid : Prop := replayPlaysRow.holds Tryz.pinned (OpenSpec.ofChange replayPlaysSpec)

/-- ITS FALSE NEIGHBOUR: 'it returns false'. Refute it at one input. -/
def replayPlaysWrong : ChangeSpec := { name := "replayPlays", fn := fun _ => fun
  | [d1, d2] => { results := [.lit (.bool false)], args := [d1, d2] }
  | _ => none }
def ReplayPlaysWrongFalsely : Prop := replayPlaysRow.holds Tryz.pinned (OpenSpec.ofChange replayPlaysWrong)

/-- 'locketlaw16.ReplayViews': WHATEVER THE INPUT: true; the input reads as it did. -/
def replayViewsSpec : ChangeSpec := { name := "replayViews", fn := fun _ => fun
  | [d1, d2, d3] => { results := [.lit (.bool true)], args := [d1, d2, d3] }
  | _ => none }
def replayViewsRow : OpenClaim := { program := "ytdipecpdjeehoaagreat", sum := "ce6b1e3238ffcbec32e332249d3ee9249483480961e511cfeecf05ee7d355cf1", func := "locket/locketlaw16.ReplayViews", spec := "replayViews", inPlace := ["math/bits.Add64", "slices.overlaps[locket/policy.Member]", "maps.clone"], unfollowed := true, recurses := true, plainKeys := false, apart := false }
def ReplayViewsSaid : Prop := replayViewsRow.holds Tryz.pinned (OpenSpec.ofChange replayViewsSpec)

/-- ITS FALSE NEIGHBOUR: 'it returns false'. Refute it at one input. -/
def replayViewsWrong : ChangeSpec := { name := "replayViews", fn := fun _ => fun
  | [d1, d2, d3] => { results := [.lit (.bool false)], args := [d1, d2, d3] }
  | _ => none }
def ReplayViewsWrongFalsely : Prop := replayViewsRow.holds Tryz.pinned (OpenSpec.ofChange replayViewsWrong)

/-- 'locketlaw18.ClientDone': WHATEVER THE INPUT: true; the input reads as it did. -/
def clientDoneSpec : ChangeSpec := { name := "clientDone", fn := fun _ => fun
  | [d1, d2] => { results := [.lit (.bool true)], args := [d1, d2] }
  | _ => none }
def clientDoneRow : OpenClaim := { program := "ytdipecpdjeehoaagreat", sum := "ce6b1e3238ffcbec32e332249d3ee9249483480961e511cfeecf05ee7d355cf1", func := "locket/locketlaw18.ClientDone", spec := "clientDone", inPlace := ["maps.clone", "slices.overlaps[locket/policy.Member]", "math/bits.Add64"], unfollowed := true, recurses := true, plainKeys := false, apart := false }
def ClientDoneSaid : Prop := clientDoneRow.holds Tryz.pinned (OpenSpec.ofChange clientDoneSpec)

/-- ITS FALSE NEIGHBOUR: 'it returns false'. Refute it at one input. -/
def clientDoneWrong : ChangeSpec := { name := "clientDone", fn := fun _ => fun
  | [d1, d2] => { results := [.lit (.bool false)], args := [d1, d2] }
  | _ => none }
def ClientDoneWrongFalsely : Prop := clientDoneRow.holds Tryz.pinned (OpenSpec.ofChange clientDoneWrong)

/-- 'locketlaw20.WorldPost': WHATEVER THE INPUT: true; the input reads as it did. -/
def worldPostSpec : ChangeSpec := { name := "worldPost", fn := fun _ => fun
  | [d] => { results := [.lit (.bool true)], args := [d] }
  | _ => none }
def worldPostRow : OpenClaim := { program := "ytdipecpdjeehoaagreat", sum := "ce6b1e3238ffcbec32e332249d3ee9249483480961e511cfeecf05ee7d355cf1", func := "locket/locketlaw20.WorldPost", spec := "worldPost", inPlace := ["math/bits.Add64", "slices.overlaps[locket/policy.Member]", "maps.clone", "math.archTrunc", "math.Float64bits", "math.Float64frombits"], unfollowed := true, recurses := true, plainKeys := false, apart := false }
def WorldPostSaid : Prop := worldPostRow.holds Tryz.pinned (OpenSpec.ofChange worldPostSpec)

/-- ITS FALSE NEIGHBOUR: 'it returns false'. Refute it at one input. -/
def worldPostWrong : ChangeSpec := { name := "worldPost", fn := fun _ => fun
  | [d] => { results := [.lit (.bool false)], args := [d] }
  | _ => none }
def WorldPostWrongFalsely : Prop := worldPostRow.holds Tryz.pinned (OpenSpec.ofChange worldPostWrong)

/-- 'locketlaw20.WorldTallies': WHATEVER THE INPUT: true; the input reads as it did. -/
def worldTalliesSpec : ChangeSpec := { name := "worldTallies", fn := fun _ => fun
  | [d1, d2] => { results := [.lit (.bool true)], args := [d1, d2] }
  | _ => none }
def worldTalliesRow : OpenClaim := { program := "ytdipecpdjeehoaagreat", sum := "ce6b1e3238ffcbec32e332249d3ee9249483480961e511cfeecf05ee7d355cf1", func := "locket/locketlaw20.WorldTallies", spec := "worldTallies", inPlace := ["math/bits.Add64", "slices.overlaps[locket/policy.Member]", "maps.clone", "math.archTrunc", "math.Float64bits", "math.Float64frombits"], unfollowed := true, recurses := true, plainKeys := false, apart := false }
def WorldTalliesSaid : Prop := worldTalliesRow.holds Tryz.pinned (OpenSpec.ofChange worldTalliesSpec)

/-- ITS FALSE NEIGHBOUR: 'it returns false'. Refute it at one input. -/
def worldTalliesWrong : ChangeSpec := { name := "worldTallies", fn := fun _ => fun
  | [d1, d2] => { results := [.lit (.bool false)], args := [d1, d2] }
  | _ => none }
def WorldTalliesWrongFalsely : Prop := worldTalliesRow.holds Tryz.pinned (OpenSpec.ofChange worldTalliesWrong)

/-- 'locketlaw20.WorldSent': WHATEVER THE INPUT: true; the input reads as it did. -/
def worldSentSpec : ChangeSpec := { name := "worldSent", fn := fun _ => fun
  | [d1, d2] => { results := [.lit (.bool true)], args := [d1, d2] }
  | _ => none }
def worldSentRow : OpenClaim := { program := "ytdipecpdjeehoaagreat", sum := "ce6b1e3238ffcbec32e332249d3ee9249483480961e511cfeecf05ee7d355cf1", func := "locket/locketlaw20.WorldSent", spec := "worldSent", inPlace := ["math/bits.Add64", "slices.overlaps[locket/policy.Member]", "maps.clone", "math.archTrunc", "math.Float64bits", "math.Float64frombits"], unfollowed := true, recurses := true, plainKeys := false, apart := false }
def WorldSentSaid : Prop := worldSentRow.holds Tryz.pinned (OpenSpec.ofChange worldSentSpec)

/-- ITS FALSE NEIGHBOUR: 'it returns false'. Refute it at one input. -/
def worldSentWrong : ChangeSpec := { name := "worldSent", fn := fun _ => fun
  | [d1, d2] => { results := [.lit (.bool false)], args := [d1, d2] }
  | _ => none }
def WorldSentWrongFalsely : Prop := worldSentRow.holds Tryz.pinned (OpenSpec.ofChange worldSentWrong)

/-- 'locketlaw20.WorldRefuses': WHATEVER THE INPUT: true; the input reads as it did. -/
def worldRefusesSpec : ChangeSpec := { name := "worldRefuses", fn := fun _ => fun
  | [d1, d2, d3] => { results := [.lit (.bool true)], args := [d1, d2, d3] }
  | _ => none }
def worldRefusesRow : OpenClaim := { program := "ytdipecpdjeehoaagreat", sum := "ce6b1e3238ffcbec32e332249d3ee9249483480961e511cfeecf05ee7d355cf1", func := "locket/locketlaw20.WorldRefuses", spec := "worldRefuses", inPlace := ["math/bits.Add64", "slices.overlaps[locket/policy.Member]", "maps.clone", "math.archTrunc", "math.Float64bits", "math.Float64frombits"], unfollowed := true, recurses := true, plainKeys := false, apart := false }
def WorldRefusesSaid : Prop := worldRefusesRow.holds Tryz.pinned (OpenSpec.ofChange worldRefusesSpec)

/-- ITS FALSE NEIGHBOUR: 'it returns false'. Refute it at one input. -/
def worldRefusesWrong : ChangeSpec := { name := "worldRefuses", fn := fun _ => fun
  | [d1, d2, d3] => { results := [.lit (.bool false)], args := [d1, d2, d3] }
  | _ => none }
def WorldRefusesWrongFalsely : Prop := worldRefusesRow.holds Tryz.pinned (OpenSpec.ofChange worldRefusesWrong)

/-- 'locketlaw18.ClientSees': WHATEVER THE INPUT: true; the input reads as it did. -/
def clientSeesSpec : ChangeSpec := { name := "clientSees", fn := fun _ => fun
  | [d] => { results := [.lit (.bool true)], args := [d] }
  | _ => none }
def clientSeesRow : OpenClaim := { program := "ytdipecpdjeehoaagreat", sum := "ce6b1e3238ffcbec32e332249d3ee9249483480961e511cfeecf05ee7d355cf1", func := "locket/locketlaw18.ClientSees", spec := "clientSees", inPlace := ["maps.clone", "slices.overlaps[locket/policy.Member]", "math/bits.Add64"], unfollowed := true, recurses := true, plainKeys := false, apart := false }
def ClientSeesSaid : Prop := clientSeesRow.holds Tryz.pinned (OpenSpec.ofChange clientSeesSpec)

/-- ITS FALSE NEIGHBOUR: 'it returns false'. Refute it at one input. -/
def clientSeesWrong : ChangeSpec := { name := "clientSees", fn := fun _ => fun
  | [d] => { results := [.lit (.bool false)], args := [d] }
  | _ => none }
def ClientSeesWrongFalsely : Prop := clientSeesRow.holds Tryz.pinned (OpenSpec.ofChange clientSeesWrong)

/-- 'locketlaw18.ClientPlays': WHATEVER THE INPUT: true; the input reads as it did. -/
def clientPlaysSpec : ChangeSpec := { name := "clientPlays", fn := fun _ => fun
  | [d1, d2, d3] => { results := [.lit (.bool true)], args := [d1, d2, d3] }
  | _ => none }
def clientPlaysRow : OpenClaim := { program := "ytdipecpdjeehoaagreat", sum := "ce6b1e3238ffcbec32e332249d3ee9249483480961e511cfeecf05ee7d355cf1", func := "locket/locketlaw18.ClientPlays", spec := "clientPlays", inPlace := ["maps.clone", "slices.overlaps[locket/policy.Member]", "math/bits.Add64"], unfollowed := true, recurses := true, plainKeys := false, apart := false }
def ClientPlaysSaid : Prop := clientPlaysRow.holds Tryz.pinned (OpenSpec.ofChange clientPlaysSpec)

/-- ITS FALSE NEIGHBOUR: 'it returns false'. Refute it at one input. -/
def clientPlaysWrong : ChangeSpec := { name := "clientPlays", fn := fun _ => fun
  | [d1, d2, d3] => { results := [.lit (.bool false)], args := [d1, d2, d3] }
  | _ => none }
def ClientPlaysWrongFalsely : Prop := clientPlaysRow.holds Tryz.pinned (OpenSpec.ofChange clientPlaysWrong)

/-- 'lockettop.WholeLate': WHATEVER THE INPUT: true; the input reads as it did. -/
def wholeLateSpec : ChangeSpec := { name := "wholeLate", fn := fun _ => fun
  | [d1, d2] => { results := [.lit (.bool true)], args := [d1, d2] }
  | _ => none }
def wholeLateRow : OpenClaim := { program := "ytdipecpdjeehoaagreat", sum := "ce6b1e3238ffcbec32e332249d3ee9249483480961e511cfeecf05ee7d355cf1", func := "locket/lockettop.WholeLate", spec := "wholeLate", inPlace := ["math/bits.Add64", "slices.overlaps[locket/policy.Member]", "maps.clone"], unfollowed := true, recurses := true, plainKeys := false, apart := false }
def WholeLateSaid : Prop := wholeLateRow.holds Tryz.pinned (OpenSpec.ofChange wholeLateSpec)

/-- ITS FALSE NEIGHBOUR: 'it returns false'. Refute it at one input. -/
def wholeLateWrong : ChangeSpec := { name := "wholeLate", fn := fun _ => fun
  | [d1, d2] => { results := [.lit (.bool false)], args := [d1, d2] }
  | _ => none }
def WholeLateWrongFalsely : Prop := wholeLateRow.holds Tryz.pinned (OpenSpec.ofChange wholeLateWrong)

/-- 'lockettop.WholeSettles': WHATEVER THE INPUT: true; the input reads as it did. -/
def wholeSettlesSpec : ChangeSpec := { name := "wholeSettles", fn := fun _ => fun
  | [d1, d2] => { results := [.lit (.bool true)], args := [d1, d2] }
  | _ => none }
def wholeSettlesRow : OpenClaim := { program := "ytdipecpdjeehoaagreat", sum := "ce6b1e3238ffcbec32e332249d3ee9249483480961e511cfeecf05ee7d355cf1", func := "locket/lockettop.WholeSettles", spec := "wholeSettles", inPlace := ["math/bits.Add64", "slices.overlaps[locket/policy.Member]", "maps.clone"], unfollowed := true, recurses := true, plainKeys := false, apart := false }
def WholeSettlesSaid : Prop := wholeSettlesRow.holds Tryz.pinned (OpenSpec.ofChange wholeSettlesSpec)

/-- ITS FALSE NEIGHBOUR: 'it returns false'. Refute it at one input. -/
def wholeSettlesWrong : ChangeSpec := { name := "wholeSettles", fn := fun _ => fun
  | [d1, d2] => { results := [.lit (.bool false)], args := [d1, d2] }
  | _ => none }
def WholeSettlesWrongFalsely : Prop := wholeSettlesRow.holds Tryz.pinned (OpenSpec.ofChange wholeSettlesWrong)

/-- 'lockettop.WholeHides': WHATEVER THE INPUT: true; the input reads as it did. -/
def wholeHidesSpec : ChangeSpec := { name := "wholeHides", fn := fun _ => fun
  | [d1, d2, d3] => { results := [.lit (.bool true)], args := [d1, d2, d3] }
  | _ => none }
def wholeHidesRow : OpenClaim := { program := "ytdipecpdjeehoaagreat", sum := "ce6b1e3238ffcbec32e332249d3ee9249483480961e511cfeecf05ee7d355cf1", func := "locket/lockettop.WholeHides", spec := "wholeHides", inPlace := ["math/bits.Add64", "slices.overlaps[locket/policy.Member]", "maps.clone", "math.archTrunc", "math.Float64bits", "math.Float64frombits"], unfollowed := true, recurses := true, plainKeys := false, apart := false }
def WholeHidesSaid : Prop := wholeHidesRow.holds Tryz.pinned (OpenSpec.ofChange wholeHidesSpec)

/-- ITS FALSE NEIGHBOUR: 'it returns false'. Refute it at one input. -/
def wholeHidesWrong : ChangeSpec := { name := "wholeHides", fn := fun _ => fun
  | [d1, d2, d3] => { results := [.lit (.bool false)], args := [d1, d2, d3] }
  | _ => none }
def WholeHidesWrongFalsely : Prop := wholeHidesRow.holds Tryz.pinned (OpenSpec.ofChange wholeHidesWrong)

/-- 'lockettop.WholeReal': WHATEVER THE INPUT: true; the input reads as it did. -/
def wholeRealSpec : ChangeSpec := { name := "wholeReal", fn := fun _ => fun
  | [d1, d2] => { results := [.lit (.bool true)], args := [d1, d2] }
  | _ => none }
def wholeRealRow : OpenClaim := { program := "ytdipecpdjeehoaagreat", sum := "ce6b1e3238ffcbec32e332249d3ee9249483480961e511cfeecf05ee7d355cf1", func := "locket/lockettop.WholeReal", spec := "wholeReal", inPlace := ["math/bits.Add64", "slices.overlaps[locket/policy.Member]", "maps.clone", "math.archTrunc", "math.Float64bits", "math.Float64frombits"], unfollowed := true, recurses := true, plainKeys := false, apart := false }
def WholeRealSaid : Prop := wholeRealRow.holds Tryz.pinned (OpenSpec.ofChange wholeRealSpec)

/-- ITS FALSE NEIGHBOUR: 'it returns false'. Refute it at one input. -/
def wholeRealWrong : ChangeSpec := { name := "wholeReal", fn := fun _ => fun
  | [d1, d2] => { results := [.lit (.bool false)], args := [d1, d2] }
  | _ => none }
def WholeRealWrongFalsely : Prop := wholeRealRow.holds Tryz.pinned (OpenSpec.ofChange wholeRealWrong)

/- THE SECOND FORM. 'bulk': how many values and letters a reading holds, each counted each time it is reached (what is shared counts as often as it is met; a slice's spare places count too). A statement '..UptoSaid' is the law's where the arguments, and the package variables that the reading takes, are together of bulk at most 1048576: NARROWER than '..Said'. Prove '..Said' where nothing that the law and all that it calls make is longer than what came in: it says more and counts as full. Else prove '..UptoSaid'. A law counts once. -/
mutual
def uptoBulk {H : Type} : DataW H → Nat
  | .lit (.string bytes) => bytes.length + 1
  | .lit _ => 1
  | .nil => 1
  | .ptr d => uptoBulk d + 1
  | .slice elems spare => uptoBulkAll elems + uptoBulkAll spare + 1
  | .agg parts => uptoBulkAll parts + 1
  | .iface _ d => uptoBulk d + 1
  | .map entries => uptoBulkEntries entries + 1
  | .held _ => 1
def uptoBulkAll {H : Type} : List (DataW H) → Nat
  | [] => 0
  | d :: r => uptoBulk d + uptoBulkAll r
def uptoBulkEntries {H : Type} : List (Lit × DataW H) → Nat
  | [] => 0
  | x :: r => uptoBulkEntry x + uptoBulkEntries r
def uptoBulkEntry {H : Type} : Lit × DataW H → Nat
  | (.string bytes, d) => bytes.length + uptoBulk d + 1
  | (_, d) => uptoBulk d + 1
 end
def uptoSmall : (H : Type) → List (DataW H) → Bool := fun _ ds => decide (uptoBulkAll ds ≤ 1048576)
def OpenSpec.upto (s : _root_.Go.ChangeSpec) : _root_.Go.OpenSpec := { _root_.Go.OpenSpec.ofChange s with cond := some uptoSmall }

/-- 'locketlaw16.ReplayOthers', WHERE WHAT IT READS IS OF BULK AT MOST 1048576: true; the input reads as it did. -/
def replayOthersUptoRow : OpenClaim := { program := "ytdipecpdjeehoaagreat", sum := "ce6b1e3238ffcbec32e332249d3ee9249483480961e511cfeecf05ee7d355cf1", func := "locket/locketlaw16.ReplayOthers", spec := "replayOthers", inPlace := ["math/bits.Add64", "slices.overlaps[locket/policy.Member]", "maps.clone"], unfollowed := true, recurses := true, plainKeys := false, apart := false, narrowed := true }
def ReplayOthersUptoSaid : Prop := replayOthersUptoRow.holds Tryz.pinned (OpenSpec.upto replayOthersSpec)

/-- 'locketlaw18.ClientAgain', WHERE WHAT IT READS IS OF BULK AT MOST 1048576: true; the input reads as it did. -/
def clientAgainUptoRow : OpenClaim := { program := "ytdipecpdjeehoaagreat", sum := "ce6b1e3238ffcbec32e332249d3ee9249483480961e511cfeecf05ee7d355cf1", func := "locket/locketlaw18.ClientAgain", spec := "clientAgain", inPlace := ["maps.clone", "slices.overlaps[locket/policy.Member]", "math/bits.Add64"], unfollowed := true, recurses := true, plainKeys := false, apart := false, narrowed := true }
def ClientAgainUptoSaid : Prop := clientAgainUptoRow.holds Tryz.pinned (OpenSpec.upto clientAgainSpec)

/-- 'locketlaw18.ClientStill', WHERE WHAT IT READS IS OF BULK AT MOST 1048576: true; the input reads as it did. -/
def clientStillUptoRow : OpenClaim := { program := "ytdipecpdjeehoaagreat", sum := "ce6b1e3238ffcbec32e332249d3ee9249483480961e511cfeecf05ee7d355cf1", func := "locket/locketlaw18.ClientStill", spec := "clientStill", inPlace := ["maps.clone", "slices.overlaps[locket/policy.Member]", "math/bits.Add64"], unfollowed := true, recurses := true, plainKeys := false, apart := false, narrowed := true }
def ClientStillUptoSaid : Prop := clientStillUptoRow.holds Tryz.pinned (OpenSpec.upto clientStillSpec)

/-- 'locketlaw18.ClientAlarms', WHERE WHAT IT READS IS OF BULK AT MOST 1048576: true; the input reads as it did. -/
def clientAlarmsUptoRow : OpenClaim := { program := "ytdipecpdjeehoaagreat", sum := "ce6b1e3238ffcbec32e332249d3ee9249483480961e511cfeecf05ee7d355cf1", func := "locket/locketlaw18.ClientAlarms", spec := "clientAlarms", inPlace := ["maps.clone", "slices.overlaps[locket/policy.Member]", "math/bits.Add64"], unfollowed := true, recurses := true, plainKeys := false, apart := false, narrowed := true }
def ClientAlarmsUptoSaid : Prop := clientAlarmsUptoRow.holds Tryz.pinned (OpenSpec.upto clientAlarmsSpec)

/-- 'locketlaw16.ReplayTwice', WHERE WHAT IT READS IS OF BULK AT MOST 1048576: true; the input reads as it did. -/
def replayTwiceUptoRow : OpenClaim := { program := "ytdipecpdjeehoaagreat", sum := "ce6b1e3238ffcbec32e332249d3ee9249483480961e511cfeecf05ee7d355cf1", func := "locket/locketlaw16.ReplayTwice", spec := "replayTwice", inPlace := ["math/bits.Add64", "slices.overlaps[locket/policy.Member]", "maps.clone"], unfollowed := true, recurses := true, plainKeys := false, apart := false, narrowed := true }
def ReplayTwiceUptoSaid : Prop := replayTwiceUptoRow.holds Tryz.pinned (OpenSpec.upto replayTwiceSpec)

/-- 'locketlaw16.ReplayRefuses', WHERE WHAT IT READS IS OF BULK AT MOST 1048576: true; the input reads as it did. -/
def replayRefusesUptoRow : OpenClaim := { program := "ytdipecpdjeehoaagreat", sum := "ce6b1e3238ffcbec32e332249d3ee9249483480961e511cfeecf05ee7d355cf1", func := "locket/locketlaw16.ReplayRefuses", spec := "replayRefuses", inPlace := ["math/bits.Add64", "slices.overlaps[locket/policy.Member]", "maps.clone"], unfollowed := true, recurses := true, plainKeys := false, apart := false, narrowed := true }
def ReplayRefusesUptoSaid : Prop := replayRefusesUptoRow.holds Tryz.pinned (OpenSpec.upto replayRefusesSpec)

/-- 'locketlaw16.ReplayPlays', WHERE WHAT IT READS IS OF BULK AT MOST 1048576: true; the input reads as it did. -/
def replayPlaysUptoRow : OpenClaim := { program := "ytdipecpdjeehoaagreat", sum := "ce6b1e3238ffcbec32e332249d3ee9249483480961e511cfeecf05ee7d355cf1", func := "locket/locketlaw16.ReplayPlays", spec := "replayPlays", inPlace := ["math/bits.Add64", "slices.overlaps[locket/policy.Member]", "maps.clone"], unfollowed := true, recurses := true, plainKeys := false, apart := false, narrowed := true }
def ReplayPlaysUptoSaid : Prop := replayPlaysUptoRow.holds Tryz.pinned (OpenSpec.upto replayPlaysSpec)

/-- 'locketlaw16.ReplayViews', WHERE WHAT IT READS IS OF BULK AT MOST 1048576: true; the input reads as it did. -/
def replayViewsUptoRow : OpenClaim := { program := "ytdipecpdjeehoaagreat", sum := "ce6b1e3238ffcbec32e332249d3ee9249483480961e511cfeecf05ee7d355cf1", func := "locket/locketlaw16.ReplayViews", spec := "replayViews", inPlace := ["math/bits.Add64", "slices.overlaps[locket/policy.Member]", "maps.clone"], unfollowed := true, recurses := true, plainKeys := false, apart := false, narrowed := true }
def ReplayViewsUptoSaid : Prop := replayViewsUptoRow.holds Tryz.pinned (OpenSpec.upto replayViewsSpec)

/-- 'locketlaw18.ClientDone', WHERE WHAT IT READS IS OF BULK AT MOST 1048576: true; the input reads as it did. -/
def clientDoneUptoRow : OpenClaim := { program := "ytdipecpdjeehoaagreat", sum := "ce6b1e3238ffcbec32e332249d3ee9249483480961e511cfeecf05ee7d355cf1", func := "locket/locketlaw18.ClientDone", spec := "clientDone", inPlace := ["maps.clone", "slices.overlaps[locket/policy.Member]", "math/bits.Add64"], unfollowed := true, recurses := true, plainKeys := false, apart := false, narrowed := true }
def ClientDoneUptoSaid : Prop := clientDoneUptoRow.holds Tryz.pinned (OpenSpec.upto clientDoneSpec)

/-- 'locketlaw20.WorldPost', WHERE WHAT IT READS IS OF BULK AT MOST 1048576: true; the input reads as it did. -/
def worldPostUptoRow : OpenClaim := { program := "ytdipecpdjeehoaagreat", sum := "ce6b1e3238ffcbec32e332249d3ee9249483480961e511cfeecf05ee7d355cf1", func := "locket/locketlaw20.WorldPost", spec := "worldPost", inPlace := ["math/bits.Add64", "slices.overlaps[locket/policy.Member]", "maps.clone", "math.archTrunc", "math.Float64bits", "math.Float64frombits"], unfollowed := true, recurses := true, plainKeys := false, apart := false, narrowed := true }
def WorldPostUptoSaid : Prop := worldPostUptoRow.holds Tryz.pinned (OpenSpec.upto worldPostSpec)

/-- 'locketlaw20.WorldTallies', WHERE WHAT IT READS IS OF BULK AT MOST 1048576: true; the input reads as it did. -/
def worldTalliesUptoRow : OpenClaim := { program := "ytdipecpdjeehoaagreat", sum := "ce6b1e3238ffcbec32e332249d3ee9249483480961e511cfeecf05ee7d355cf1", func := "locket/locketlaw20.WorldTallies", spec := "worldTallies", inPlace := ["math/bits.Add64", "slices.overlaps[locket/policy.Member]", "maps.clone", "math.archTrunc", "math.Float64bits", "math.Float64frombits"], unfollowed := true, recurses := true, plainKeys := false, apart := false, narrowed := true }
def WorldTalliesUptoSaid : Prop := worldTalliesUptoRow.holds Tryz.pinned (OpenSpec.upto worldTalliesSpec)

/-- 'locketlaw20.WorldSent', WHERE WHAT IT READS IS OF BULK AT MOST 1048576: true; the input reads as it did. -/
def worldSentUptoRow : OpenClaim := { program := "ytdipecpdjeehoaagreat", sum := "ce6b1e3238ffcbec32e332249d3ee9249483480961e511cfeecf05ee7d355cf1", func := "locket/locketlaw20.WorldSent", spec := "worldSent", inPlace := ["math/bits.Add64", "slices.overlaps[locket/policy.Member]", "maps.clone", "math.archTrunc", "math.Float64bits", "math.Float64frombits"], unfollowed := true, recurses := true, plainKeys := false, apart := false, narrowed := true }
def WorldSentUptoSaid : Prop := worldSentUptoRow.holds Tryz.pinned (OpenSpec.upto worldSentSpec)

/-- 'locketlaw20.WorldRefuses', WHERE WHAT IT READS IS OF BULK AT MOST 1048576: true; the input reads as it did. -/
def worldRefusesUptoRow : OpenClaim := { program := "ytdipecpdjeehoaagreat", sum := "ce6b1e3238ffcbec32e332249d3ee9249483480961e511cfeecf05ee7d355cf1", func := "locket/locketlaw20.WorldRefuses", spec := "worldRefuses", inPlace := ["math/bits.Add64", "slices.overlaps[locket/policy.Member]", "maps.clone", "math.archTrunc", "math.Float64bits", "math.Float64frombits"], unfollowed := true, recurses := true, plainKeys := false, apart := false, narrowed := true }
def WorldRefusesUptoSaid : Prop := worldRefusesUptoRow.holds Tryz.pinned (OpenSpec.upto worldRefusesSpec)

/-- 'locketlaw18.ClientSees', WHERE WHAT IT READS IS OF BULK AT MOST 1048576: true; the input reads as it did. -/
def clientSeesUptoRow : OpenClaim := { program := "ytdipecpdjeehoaagreat", sum := "ce6b1e3238ffcbec32e332249d3ee9249483480961e511cfeecf05ee7d355cf1", func := "locket/locketlaw18.ClientSees", spec := "clientSees", inPlace := ["maps.clone", "slices.overlaps[locket/policy.Member]", "math/bits.Add64"], unfollowed := true, recurses := true, plainKeys := false, apart := false, narrowed := true }
def ClientSeesUptoSaid : Prop := clientSeesUptoRow.holds Tryz.pinned (OpenSpec.upto clientSeesSpec)

/-- 'locketlaw18.ClientPlays', WHERE WHAT IT READS IS OF BULK AT MOST 1048576: true; the input reads as it did. -/
def clientPlaysUptoRow : OpenClaim := { program := "ytdipecpdjeehoaagreat", sum := "ce6b1e3238ffcbec32e332249d3ee9249483480961e511cfeecf05ee7d355cf1", func := "locket/locketlaw18.ClientPlays", spec := "clientPlays", inPlace := ["maps.clone", "slices.overlaps[locket/policy.Member]", "math/bits.Add64"], unfollowed := true, recurses := true, plainKeys := false, apart := false, narrowed := true }
def ClientPlaysUptoSaid : Prop := clientPlaysUptoRow.holds Tryz.pinned (OpenSpec.upto clientPlaysSpec)

/-- 'lockettop.WholeLate', WHERE WHAT IT READS IS OF BULK AT MOST 1048576: true; the input reads as it did. -/
def wholeLateUptoRow : OpenClaim := { program := "ytdipecpdjeehoaagreat", sum := "ce6b1e3238ffcbec32e332249d3ee9249483480961e511cfeecf05ee7d355cf1", func := "locket/lockettop.WholeLate", spec := "wholeLate", inPlace := ["math/bits.Add64", "slices.overlaps[locket/policy.Member]", "maps.clone"], unfollowed := true, recurses := true, plainKeys := false, apart := false, narrowed := true }
def WholeLateUptoSaid : Prop := wholeLateUptoRow.holds Tryz.pinned (OpenSpec.upto wholeLateSpec)

/-- 'lockettop.WholeSettles', WHERE WHAT IT READS IS OF BULK AT MOST 1048576: true; the input reads as it did. -/
def wholeSettlesUptoRow : OpenClaim := { program := "ytdipecpdjeehoaagreat", sum := "ce6b1e3238ffcbec32e332249d3ee9249483480961e511cfeecf05ee7d355cf1", func := "locket/lockettop.WholeSettles", spec := "wholeSettles", inPlace := ["math/bits.Add64", "slices.overlaps[locket/policy.Member]", "maps.clone"], unfollowed := true, recurses := true, plainKeys := false, apart := false, narrowed := true }
def WholeSettlesUptoSaid : Prop := wholeSettlesUptoRow.holds Tryz.pinned (OpenSpec.upto wholeSettlesSpec)

/-- 'lockettop.WholeHides', WHERE WHAT IT READS IS OF BULK AT MOST 1048576: true; the input reads as it did. -/
def wholeHidesUptoRow : OpenClaim := { program := "ytdipecpdjeehoaagreat", sum := "ce6b1e3238ffcbec32e332249d3ee9249483480961e511cfeecf05ee7d355cf1", func := "locket/lockettop.WholeHides", spec := "wholeHides", inPlace := ["math/bits.Add64", "slices.overlaps[locket/policy.Member]", "maps.clone", "math.archTrunc", "math.Float64bits", "math.Float64frombits"], unfollowed := true, recurses := true, plainKeys := false, apart := false, narrowed := true }
def WholeHidesUptoSaid : Prop := wholeHidesUptoRow.holds Tryz.pinned (OpenSpec.upto wholeHidesSpec)

/-- 'lockettop.WholeReal', WHERE WHAT IT READS IS OF BULK AT MOST 1048576: true; the input reads as it did. -/
def wholeRealUptoRow : OpenClaim := { program := "ytdipecpdjeehoaagreat", sum := "ce6b1e3238ffcbec32e332249d3ee9249483480961e511cfeecf05ee7d355cf1", func := "locket/lockettop.WholeReal", spec := "wholeReal", inPlace := ["math/bits.Add64", "slices.overlaps[locket/policy.Member]", "maps.clone", "math.archTrunc", "math.Float64bits", "math.Float64frombits"], unfollowed := true, recurses := true, plainKeys := false, apart := false, narrowed := true }
def WholeRealUptoSaid : Prop := wholeRealUptoRow.holds Tryz.pinned (OpenSpec.upto wholeRealSpec)

end Rows
end Go.Proofs.YtdipecpdjeehoaaGreat
