/-
  No cell of these rows narrows 'for every input' (looked for: loops, veiled, ifaces, maps, wideKeys, modest, calm, conditions, laid).
  DERIVED. THE GIVEN ROWS OF THIS SEAT. 19 by the template 'for every input the law returns true; each argument reads behind the call as it read before'; 0 by the template 'total and deterministic' (their statements: YtjlgbgkpiganbaaTotals.lean).
  GIVEN WITH THE SEED: the statements are not yours to turn. If you find one false, say at which input.
  Laid BY PROGRAM, IN A SANDBOX (cutbox-rows.mjs): the forced cells as the released guide's own fill.sh prints them over the translation 16d423a9aca17ec3… (all of the seat's roots in one cut). By AI agents, Wed Nov 11 2026. No macro, syntax, notation, axiom, sorry.
-/
import Derived.Test.YtjlgbgkpiganbaaChecked
import GoSem.Claim
import GoSem.ClaimJoined
import GoSem.ClaimMapViews
import Derived.JoinedTies
import Derived.KernelRfl
namespace Go.Proofs.Ytjlgbgkpiganbaa
/- THE CELL 'sum', in the pinned program and in every row, IS THE sha256 OF THE DUMP (.gsa) THAT YtjlgbgkpiganbaaProg.lean LOADS. Nothing in Lean hashes anything: it is a label: what it is worth is what the hold of that sum in a sandbox is worth. -/
noncomputable def Try.pinned : Pinned := { name := "ytjlgbgkpiganbaa", sum := "16d423a9aca17ec35f92b684b31d246bc8a20b683dca7934013c44c8e2ca6ebe", checked := Try.checked }
namespace Rows
def none {H : Type} : Left H := { results := [], args := [] }

/-- 'bellwetherlaw12.BlockTears': WHATEVER THE INPUT: true; the input reads as it did. -/
def blockTearsSpec : ChangeSpec := { name := "blockTears", fn := fun _ => fun
  | [d1, d2] => { results := [.lit (.bool true)], args := [d1, d2] }
  | _ => none }
def blockTearsRow : OpenClaim := { program := "ytjlgbgkpiganbaa", sum := "16d423a9aca17ec35f92b684b31d246bc8a20b683dca7934013c44c8e2ca6ebe", func := "bellwether/bellwetherlaw12.BlockTears", spec := "blockTears", apart := false }
def BlockTearsSaid : Prop := blockTearsRow.holds Try.pinned (OpenSpec.ofChange blockTearsSpec)

/-- ITS FALSE NEIGHBOUR: 'it returns false'. Refute it at one input. -/
def blockTearsWrong : ChangeSpec := { name := "blockTears", fn := fun _ => fun
  | [d1, d2] => { results := [.lit (.bool false)], args := [d1, d2] }
  | _ => none }
def BlockTearsWrongFalsely : Prop := blockTearsRow.holds Try.pinned (OpenSpec.ofChange blockTearsWrong)

/-- 'bellwetherlaw12.BlockReads': WHATEVER THE INPUT: true; the input reads as it did. -/
def blockReadsSpec : ChangeSpec := { name := "blockReads", fn := fun _ => fun
  | [d1, d2, d3] => { results := [.lit (.bool true)], args := [d1, d2, d3] }
  | _ => none }
def blockReadsRow : OpenClaim := { program := "ytjlgbgkpiganbaa", sum := "16d423a9aca17ec35f92b684b31d246bc8a20b683dca7934013c44c8e2ca6ebe", func := "bellwether/bellwetherlaw12.BlockReads", spec := "blockReads", apart := false }
def BlockReadsSaid : Prop := blockReadsRow.holds Try.pinned (OpenSpec.ofChange blockReadsSpec)

/-- ITS FALSE NEIGHBOUR: 'it returns false'. Refute it at one input. -/
def blockReadsWrong : ChangeSpec := { name := "blockReads", fn := fun _ => fun
  | [d1, d2, d3] => { results := [.lit (.bool false)], args := [d1, d2, d3] }
  | _ => none }
def BlockReadsWrongFalsely : Prop := blockReadsRow.holds Try.pinned (OpenSpec.ofChange blockReadsWrong)

/-- 'bellwetherlaw12.BlockWakes': WHATEVER THE INPUT: true; the input reads as it did. -/
def blockWakesSpec : ChangeSpec := { name := "blockWakes", fn := fun _ => fun
  | [d1, d2] => { results := [.lit (.bool true)], args := [d1, d2] }
  | _ => none }
def blockWakesRow : OpenClaim := { program := "ytjlgbgkpiganbaa", sum := "16d423a9aca17ec35f92b684b31d246bc8a20b683dca7934013c44c8e2ca6ebe", func := "bellwether/bellwetherlaw12.BlockWakes", spec := "blockWakes", apart := false }
def BlockWakesSaid : Prop := blockWakesRow.holds Try.pinned (OpenSpec.ofChange blockWakesSpec)

/-- ITS FALSE NEIGHBOUR: 'it returns false'. Refute it at one input. -/
def blockWakesWrong : ChangeSpec := { name := "blockWakes", fn := fun _ => fun
  | [d1, d2] => { results := [.lit (.bool false)], args := [d1, d2] }
  | _ => none }
def BlockWakesWrongFalsely : Prop := blockWakesRow.holds Try.pinned (OpenSpec.ofChange blockWakesWrong)

/-- 'bellwetherlaw12.BlockAsks': WHATEVER THE INPUT: true; the input reads as it did. -/
def blockAsksSpec : ChangeSpec := { name := "blockAsks", fn := fun _ => fun
  | [d1, d2, d3] => { results := [.lit (.bool true)], args := [d1, d2, d3] }
  | _ => none }
def blockAsksRow : OpenClaim := { program := "ytjlgbgkpiganbaa", sum := "16d423a9aca17ec35f92b684b31d246bc8a20b683dca7934013c44c8e2ca6ebe", func := "bellwether/bellwetherlaw12.BlockAsks", spec := "blockAsks", apart := false }
def BlockAsksSaid : Prop := blockAsksRow.holds Try.pinned (OpenSpec.ofChange blockAsksSpec)

/-- ITS FALSE NEIGHBOUR: 'it returns false'. Refute it at one input. -/
def blockAsksWrong : ChangeSpec := { name := "blockAsks", fn := fun _ => fun
  | [d1, d2, d3] => { results := [.lit (.bool false)], args := [d1, d2, d3] }
  | _ => none }
def BlockAsksWrongFalsely : Prop := blockAsksRow.holds Try.pinned (OpenSpec.ofChange blockAsksWrong)

/-- 'bellwetherlaw10.WindowForgets': WHATEVER THE INPUT: true; the input reads as it did. -/
def windowForgetsSpec : ChangeSpec := { name := "windowForgets", fn := fun _ => fun
  | [d1, d2] => { results := [.lit (.bool true)], args := [d1, d2] }
  | _ => none }
def windowForgetsRow : OpenClaim := { program := "ytjlgbgkpiganbaa", sum := "16d423a9aca17ec35f92b684b31d246bc8a20b683dca7934013c44c8e2ca6ebe", func := "bellwether/bellwetherlaw10.WindowForgets", spec := "windowForgets", inPlace := ["math/bits.Add64"], unfollowed := true, recurses := true, named := ["math/bits.divideError", "math/bits.overflowError"], apart := false }
def WindowForgetsSaid : Prop := windowForgetsRow.holds Try.pinned (OpenSpec.ofChange windowForgetsSpec)

/-- ITS FALSE NEIGHBOUR: 'it returns false'. Refute it at one input. -/
def windowForgetsWrong : ChangeSpec := { name := "windowForgets", fn := fun _ => fun
  | [d1, d2] => { results := [.lit (.bool false)], args := [d1, d2] }
  | _ => none }
def WindowForgetsWrongFalsely : Prop := windowForgetsRow.holds Try.pinned (OpenSpec.ofChange windowForgetsWrong)

/-- 'bellwetherlaw09.RatioOrders': WHATEVER THE INPUT: true; the input reads as it did. -/
def ratioOrdersSpec : ChangeSpec := { name := "ratioOrders", fn := fun _ => fun
  | [d] => { results := [.lit (.bool true)], args := [d] }
  | _ => none }
def ratioOrdersRow : OpenClaim := { program := "ytjlgbgkpiganbaa", sum := "16d423a9aca17ec35f92b684b31d246bc8a20b683dca7934013c44c8e2ca6ebe", func := "bellwether/bellwetherlaw09.RatioOrders", spec := "ratioOrders", inPlace := ["math/bits.Add64"], named := ["math/bits.divideError", "math/bits.overflowError"], apart := false }
def RatioOrdersSaid : Prop := ratioOrdersRow.holds Try.pinned (OpenSpec.ofChange ratioOrdersSpec)

/-- ITS FALSE NEIGHBOUR: 'it returns false'. Refute it at one input. -/
def ratioOrdersWrong : ChangeSpec := { name := "ratioOrders", fn := fun _ => fun
  | [d] => { results := [.lit (.bool false)], args := [d] }
  | _ => none }
def RatioOrdersWrongFalsely : Prop := ratioOrdersRow.holds Try.pinned (OpenSpec.ofChange ratioOrdersWrong)

/-- 'bellwetherlaw08.DeltaWhole': WHATEVER THE INPUT: true; the input reads as it did. -/
def deltaWholeSpec : ChangeSpec := { name := "deltaWhole", fn := fun _ => fun
  | [d1, d2] => { results := [.lit (.bool true)], args := [d1, d2] }
  | _ => none }
def deltaWholeRow : OpenClaim := { program := "ytjlgbgkpiganbaa", sum := "16d423a9aca17ec35f92b684b31d246bc8a20b683dca7934013c44c8e2ca6ebe", func := "bellwether/bellwetherlaw08.DeltaWhole", spec := "deltaWhole", unfollowed := true, recurses := true, apart := false }
def DeltaWholeSaid : Prop := deltaWholeRow.holds Try.pinned (OpenSpec.ofChange deltaWholeSpec)

/-- ITS FALSE NEIGHBOUR: 'it returns false'. Refute it at one input. -/
def deltaWholeWrong : ChangeSpec := { name := "deltaWhole", fn := fun _ => fun
  | [d1, d2] => { results := [.lit (.bool false)], args := [d1, d2] }
  | _ => none }
def DeltaWholeWrongFalsely : Prop := deltaWholeRow.holds Try.pinned (OpenSpec.ofChange deltaWholeWrong)

/-- 'bellwetherlaw08.DeltaTwice': WHATEVER THE INPUT: true; the input reads as it did. -/
def deltaTwiceSpec : ChangeSpec := { name := "deltaTwice", fn := fun _ => fun
  | [d1, d2, d3] => { results := [.lit (.bool true)], args := [d1, d2, d3] }
  | _ => none }
def deltaTwiceRow : OpenClaim := { program := "ytjlgbgkpiganbaa", sum := "16d423a9aca17ec35f92b684b31d246bc8a20b683dca7934013c44c8e2ca6ebe", func := "bellwether/bellwetherlaw08.DeltaTwice", spec := "deltaTwice", unfollowed := true, recurses := true, apart := false }
def DeltaTwiceSaid : Prop := deltaTwiceRow.holds Try.pinned (OpenSpec.ofChange deltaTwiceSpec)

/-- ITS FALSE NEIGHBOUR: 'it returns false'. Refute it at one input. -/
def deltaTwiceWrong : ChangeSpec := { name := "deltaTwice", fn := fun _ => fun
  | [d1, d2, d3] => { results := [.lit (.bool false)], args := [d1, d2, d3] }
  | _ => none }
def DeltaTwiceWrongFalsely : Prop := deltaTwiceRow.holds Try.pinned (OpenSpec.ofChange deltaTwiceWrong)

/-- 'bellwetherlaw08.DeltaApplies': WHATEVER THE INPUT: true; the input reads as it did. -/
def deltaAppliesSpec : ChangeSpec := { name := "deltaApplies", fn := fun _ => fun
  | [d1, d2, d3] => { results := [.lit (.bool true)], args := [d1, d2, d3] }
  | _ => none }
def deltaAppliesRow : OpenClaim := { program := "ytjlgbgkpiganbaa", sum := "16d423a9aca17ec35f92b684b31d246bc8a20b683dca7934013c44c8e2ca6ebe", func := "bellwether/bellwetherlaw08.DeltaApplies", spec := "deltaApplies", unfollowed := true, recurses := true, apart := false }
def DeltaAppliesSaid : Prop := deltaAppliesRow.holds Try.pinned (OpenSpec.ofChange deltaAppliesSpec)

/-- ITS FALSE NEIGHBOUR: 'it returns false'. Refute it at one input. -/
def deltaAppliesWrong : ChangeSpec := { name := "deltaApplies", fn := fun _ => fun
  | [d1, d2, d3] => { results := [.lit (.bool false)], args := [d1, d2, d3] }
  | _ => none }
def DeltaAppliesWrongFalsely : Prop := deltaAppliesRow.holds Try.pinned (OpenSpec.ofChange deltaAppliesWrong)

/-- 'bellwetherlaw05.StateLattice': WHATEVER THE INPUT: true; the input reads as it did. -/
def stateLatticeSpec : ChangeSpec := { name := "stateLattice", fn := fun _ => fun
  | [d1, d2, d3] => { results := [.lit (.bool true)], args := [d1, d2, d3] }
  | _ => none }
def stateLatticeRow : OpenClaim := { program := "ytjlgbgkpiganbaa", sum := "16d423a9aca17ec35f92b684b31d246bc8a20b683dca7934013c44c8e2ca6ebe", func := "bellwether/bellwetherlaw05.StateLattice", spec := "stateLattice", inPlace := ["slices.overlaps[bellwether/api.Entry]"], unfollowed := true, recurses := true, apart := false }
def StateLatticeSaid : Prop := stateLatticeRow.holds Try.pinned (OpenSpec.ofChange stateLatticeSpec)

/-- ITS FALSE NEIGHBOUR: 'it returns false'. Refute it at one input. -/
def stateLatticeWrong : ChangeSpec := { name := "stateLattice", fn := fun _ => fun
  | [d1, d2, d3] => { results := [.lit (.bool false)], args := [d1, d2, d3] }
  | _ => none }
def StateLatticeWrongFalsely : Prop := stateLatticeRow.holds Try.pinned (OpenSpec.ofChange stateLatticeWrong)

/-- 'bellwetherlaw22.WatchSilence': WHATEVER THE INPUT: true; the input reads as it did. -/
def watchSilenceSpec : ChangeSpec := { name := "watchSilence", fn := fun _ => fun
  | [d1, d2, d3] => { results := [.lit (.bool true)], args := [d1, d2, d3] }
  | _ => none }
def watchSilenceRow : OpenClaim := { program := "ytjlgbgkpiganbaa", sum := "16d423a9aca17ec35f92b684b31d246bc8a20b683dca7934013c44c8e2ca6ebe", func := "bellwether/bellwetherlaw22.WatchSilence", spec := "watchSilence", inPlace := ["slices.overlaps[bellwether/api.Watch]", "math/bits.Add64"], unfollowed := true, recurses := true, named := ["math/bits.divideError", "math/bits.overflowError"], apart := false }
def WatchSilenceSaid : Prop := watchSilenceRow.holds Try.pinned (OpenSpec.ofChange watchSilenceSpec)

/-- ITS FALSE NEIGHBOUR: 'it returns false'. Refute it at one input. -/
def watchSilenceWrong : ChangeSpec := { name := "watchSilence", fn := fun _ => fun
  | [d1, d2, d3] => { results := [.lit (.bool false)], args := [d1, d2, d3] }
  | _ => none }
def WatchSilenceWrongFalsely : Prop := watchSilenceRow.holds Try.pinned (OpenSpec.ofChange watchSilenceWrong)

/-- 'bellwetherlaw22.WatchNews': WHATEVER THE INPUT: true; the input reads as it did. -/
def watchNewsSpec : ChangeSpec := { name := "watchNews", fn := fun _ => fun
  | [d1, d2, d3] => { results := [.lit (.bool true)], args := [d1, d2, d3] }
  | _ => none }
def watchNewsRow : OpenClaim := { program := "ytjlgbgkpiganbaa", sum := "16d423a9aca17ec35f92b684b31d246bc8a20b683dca7934013c44c8e2ca6ebe", func := "bellwether/bellwetherlaw22.WatchNews", spec := "watchNews", inPlace := ["slices.overlaps[bellwether/api.Watch]", "math/bits.Add64"], unfollowed := true, recurses := true, named := ["math/bits.divideError", "math/bits.overflowError"], apart := false }
def WatchNewsSaid : Prop := watchNewsRow.holds Try.pinned (OpenSpec.ofChange watchNewsSpec)

/-- ITS FALSE NEIGHBOUR: 'it returns false'. Refute it at one input. -/
def watchNewsWrong : ChangeSpec := { name := "watchNews", fn := fun _ => fun
  | [d1, d2, d3] => { results := [.lit (.bool false)], args := [d1, d2, d3] }
  | _ => none }
def WatchNewsWrongFalsely : Prop := watchNewsRow.holds Try.pinned (OpenSpec.ofChange watchNewsWrong)

/-- 'bellwetherlaw22.WatchBirth': WHATEVER THE INPUT: true; the input reads as it did. -/
def watchBirthSpec : ChangeSpec := { name := "watchBirth", fn := fun _ => fun
  | [d1, d2, d3] => { results := [.lit (.bool true)], args := [d1, d2, d3] }
  | _ => none }
def watchBirthRow : OpenClaim := { program := "ytjlgbgkpiganbaa", sum := "16d423a9aca17ec35f92b684b31d246bc8a20b683dca7934013c44c8e2ca6ebe", func := "bellwether/bellwetherlaw22.WatchBirth", spec := "watchBirth", inPlace := ["slices.overlaps[bellwether/api.Watch]", "math/bits.Add64"], unfollowed := true, recurses := true, named := ["math/bits.divideError", "math/bits.overflowError"], apart := false }
def WatchBirthSaid : Prop := watchBirthRow.holds Try.pinned (OpenSpec.ofChange watchBirthSpec)

/-- ITS FALSE NEIGHBOUR: 'it returns false'. Refute it at one input. -/
def watchBirthWrong : ChangeSpec := { name := "watchBirth", fn := fun _ => fun
  | [d1, d2, d3] => { results := [.lit (.bool false)], args := [d1, d2, d3] }
  | _ => none }
def WatchBirthWrongFalsely : Prop := watchBirthRow.holds Try.pinned (OpenSpec.ofChange watchBirthWrong)

/-- 'bellwetherlaw22.WatchParts': WHATEVER THE INPUT: true; the input reads as it did. -/
def watchPartsSpec : ChangeSpec := { name := "watchParts", fn := fun _ => fun
  | [d1, d2] => { results := [.lit (.bool true)], args := [d1, d2] }
  | _ => none }
def watchPartsRow : OpenClaim := { program := "ytjlgbgkpiganbaa", sum := "16d423a9aca17ec35f92b684b31d246bc8a20b683dca7934013c44c8e2ca6ebe", func := "bellwether/bellwetherlaw22.WatchParts", spec := "watchParts", inPlace := ["slices.overlaps[bellwether/api.Watch]", "math/bits.Add64"], unfollowed := true, recurses := true, named := ["math/bits.divideError", "math/bits.overflowError"], apart := false }
def WatchPartsSaid : Prop := watchPartsRow.holds Try.pinned (OpenSpec.ofChange watchPartsSpec)

/-- ITS FALSE NEIGHBOUR: 'it returns false'. Refute it at one input. -/
def watchPartsWrong : ChangeSpec := { name := "watchParts", fn := fun _ => fun
  | [d1, d2] => { results := [.lit (.bool false)], args := [d1, d2] }
  | _ => none }
def WatchPartsWrongFalsely : Prop := watchPartsRow.holds Try.pinned (OpenSpec.ofChange watchPartsWrong)

/-- 'bellwetherlaw22.WatchHears': WHATEVER THE INPUT: true; the input reads as it did. -/
def watchHearsSpec : ChangeSpec := { name := "watchHears", fn := fun _ => fun
  | [d1, d2, d3] => { results := [.lit (.bool true)], args := [d1, d2, d3] }
  | _ => none }
def watchHearsRow : OpenClaim := { program := "ytjlgbgkpiganbaa", sum := "16d423a9aca17ec35f92b684b31d246bc8a20b683dca7934013c44c8e2ca6ebe", func := "bellwether/bellwetherlaw22.WatchHears", spec := "watchHears", inPlace := ["slices.overlaps[bellwether/api.Watch]", "math/bits.Add64"], unfollowed := true, recurses := true, named := ["math/bits.divideError", "math/bits.overflowError"], apart := false }
def WatchHearsSaid : Prop := watchHearsRow.holds Try.pinned (OpenSpec.ofChange watchHearsSpec)

/-- ITS FALSE NEIGHBOUR: 'it returns false'. Refute it at one input. -/
def watchHearsWrong : ChangeSpec := { name := "watchHears", fn := fun _ => fun
  | [d1, d2, d3] => { results := [.lit (.bool false)], args := [d1, d2, d3] }
  | _ => none }
def WatchHearsWrongFalsely : Prop := watchHearsRow.holds Try.pinned (OpenSpec.ofChange watchHearsWrong)

/-- 'bellwetherlaw14.ChoiceRounds': WHATEVER THE INPUT: true; the input reads as it did. -/
def choiceRoundsSpec : ChangeSpec := { name := "choiceRounds", fn := fun _ => fun
  | [d1, d2, d3] => { results := [.lit (.bool true)], args := [d1, d2, d3] }
  | _ => none }
def choiceRoundsRow : OpenClaim := { program := "ytjlgbgkpiganbaa", sum := "16d423a9aca17ec35f92b684b31d246bc8a20b683dca7934013c44c8e2ca6ebe", func := "bellwether/bellwetherlaw14.ChoiceRounds", spec := "choiceRounds", unfollowed := true, recurses := true, apart := false }
def ChoiceRoundsSaid : Prop := choiceRoundsRow.holds Try.pinned (OpenSpec.ofChange choiceRoundsSpec)

/-- ITS FALSE NEIGHBOUR: 'it returns false'. Refute it at one input. -/
def choiceRoundsWrong : ChangeSpec := { name := "choiceRounds", fn := fun _ => fun
  | [d1, d2, d3] => { results := [.lit (.bool false)], args := [d1, d2, d3] }
  | _ => none }
def ChoiceRoundsWrongFalsely : Prop := choiceRoundsRow.holds Try.pinned (OpenSpec.ofChange choiceRoundsWrong)

/-- 'bellwetherlaw14.ChoiceThree': WHATEVER THE INPUT: true; the input reads as it did. -/
def choiceThreeSpec : ChangeSpec := { name := "choiceThree", fn := fun _ => fun
  | [d1, d2] => { results := [.lit (.bool true)], args := [d1, d2] }
  | _ => none }
def choiceThreeRow : OpenClaim := { program := "ytjlgbgkpiganbaa", sum := "16d423a9aca17ec35f92b684b31d246bc8a20b683dca7934013c44c8e2ca6ebe", func := "bellwether/bellwetherlaw14.ChoiceThree", spec := "choiceThree", unfollowed := true, recurses := true, apart := false }
def ChoiceThreeSaid : Prop := choiceThreeRow.holds Try.pinned (OpenSpec.ofChange choiceThreeSpec)

/-- ITS FALSE NEIGHBOUR: 'it returns false'. Refute it at one input. -/
def choiceThreeWrong : ChangeSpec := { name := "choiceThree", fn := fun _ => fun
  | [d1, d2] => { results := [.lit (.bool false)], args := [d1, d2] }
  | _ => none }
def ChoiceThreeWrongFalsely : Prop := choiceThreeRow.holds Try.pinned (OpenSpec.ofChange choiceThreeWrong)

/-- 'bellwetherlaw14.ChoiceFair': WHATEVER THE INPUT: true; the input reads as it did. -/
def choiceFairSpec : ChangeSpec := { name := "choiceFair", fn := fun _ => fun
  | [d1, d2] => { results := [.lit (.bool true)], args := [d1, d2] }
  | _ => none }
def choiceFairRow : OpenClaim := { program := "ytjlgbgkpiganbaa", sum := "16d423a9aca17ec35f92b684b31d246bc8a20b683dca7934013c44c8e2ca6ebe", func := "bellwether/bellwetherlaw14.ChoiceFair", spec := "choiceFair", unfollowed := true, recurses := true, apart := false }
def ChoiceFairSaid : Prop := choiceFairRow.holds Try.pinned (OpenSpec.ofChange choiceFairSpec)

/-- ITS FALSE NEIGHBOUR: 'it returns false'. Refute it at one input. -/
def choiceFairWrong : ChangeSpec := { name := "choiceFair", fn := fun _ => fun
  | [d1, d2] => { results := [.lit (.bool false)], args := [d1, d2] }
  | _ => none }
def ChoiceFairWrongFalsely : Prop := choiceFairRow.holds Try.pinned (OpenSpec.ofChange choiceFairWrong)

/-- 'bellwetherlaw14.ChoiceSorts': WHATEVER THE INPUT: true; the input reads as it did. -/
def choiceSortsSpec : ChangeSpec := { name := "choiceSorts", fn := fun _ => fun
  | [d1, d2] => { results := [.lit (.bool true)], args := [d1, d2] }
  | _ => none }
def choiceSortsRow : OpenClaim := { program := "ytjlgbgkpiganbaa", sum := "16d423a9aca17ec35f92b684b31d246bc8a20b683dca7934013c44c8e2ca6ebe", func := "bellwether/bellwetherlaw14.ChoiceSorts", spec := "choiceSorts", unfollowed := true, recurses := true, apart := false }
def ChoiceSortsSaid : Prop := choiceSortsRow.holds Try.pinned (OpenSpec.ofChange choiceSortsSpec)

/-- ITS FALSE NEIGHBOUR: 'it returns false'. Refute it at one input. -/
def choiceSortsWrong : ChangeSpec := { name := "choiceSorts", fn := fun _ => fun
  | [d1, d2] => { results := [.lit (.bool false)], args := [d1, d2] }
  | _ => none }
def ChoiceSortsWrongFalsely : Prop := choiceSortsRow.holds Try.pinned (OpenSpec.ofChange choiceSortsWrong)

/- THE SECOND FORM. 'bulk': how many values and letters a reading holds, each counted each time it is reached (what is shared counts as often as it is met; a slice's spare places count too). A statement '..UptoSaid' is the law's where the arguments, and the package variables that the reading takes, are together of bulk at most 1048576: NARROWER than '..Said'. Prove '..Said' where nothing that the law and all that it calls make is longer than what came in: it says more and counts as full. Else prove '..UptoSaid'. A law counts once. -/
mutual
def uptoBulk {H : Type} : DataW H → Nat
  | .lit (.string bytes) => bytes.length + 1
  | .lit _ => 1
  | .nil => 1
  | .ptr d => uptoBulk d + 1
  | .slice elems spare => uptoBulkAll elems + uptoBulkAll spare + 1
  | .agg parts => uptoBulkAll parts + 1
  | .iface _ d => uptoBulk d + 1
  | .map entries => uptoBulkEntries entries + 1
  | .held _ => 1
def uptoBulkAll {H : Type} : List (DataW H) → Nat
  | [] => 0
  | d :: r => uptoBulk d + uptoBulkAll r
def uptoBulkEntries {H : Type} : List (Lit × DataW H) → Nat
  | [] => 0
  | x :: r => uptoBulkEntry x + uptoBulkEntries r
def uptoBulkEntry {H : Type} : Lit × DataW H → Nat
  | (.string bytes, d) => bytes.length + uptoBulk d + 1
  | (_, d) => uptoBulk d + 1
 end
def uptoSmall : (H : Type) → List (DataW H) → Bool := fun _ ds => decide (uptoBulkAll ds ≤ 1048576)
def OpenSpec.upto (s : _root_.Go.ChangeSpec) : _root_.Go.OpenSpec := { _root_.Go.OpenSpec.ofChange s with cond := some uptoSmall }

/-- 'bellwetherlaw12.BlockTears', WHERE WHAT IT READS IS OF BULK AT MOST 1048576: true; the input reads as it did. -/
def blockTearsUptoRow : OpenClaim := { program := "ytjlgbgkpiganbaa", sum := "16d423a9aca17ec35f92b684b31d246bc8a20b683dca7934013c44c8e2ca6ebe", func := "bellwether/bellwetherlaw12.BlockTears", spec := "blockTears", apart := false, narrowed := true }
def BlockTearsUptoSaid : Prop := blockTearsUptoRow.holds Try.pinned (OpenSpec.upto blockTearsSpec)

/-- 'bellwetherlaw12.BlockReads', WHERE WHAT IT READS IS OF BULK AT MOST 1048576: true; the input reads as it did. -/
def blockReadsUptoRow : OpenClaim := { program := "ytjlgbgkpiganbaa", sum := "16d423a9aca17ec35f92b684b31d246bc8a20b683dca7934013c44c8e2ca6ebe", func := "bellwether/bellwetherlaw12.BlockReads", spec := "blockReads", apart := false, narrowed := true }
def BlockReadsUptoSaid : Prop := blockReadsUptoRow.holds Try.pinned (OpenSpec.upto blockReadsSpec)

/-- 'bellwetherlaw12.BlockWakes', WHERE WHAT IT READS IS OF BULK AT MOST 1048576: true; the input reads as it did. -/
def blockWakesUptoRow : OpenClaim := { program := "ytjlgbgkpiganbaa", sum := "16d423a9aca17ec35f92b684b31d246bc8a20b683dca7934013c44c8e2ca6ebe", func := "bellwether/bellwetherlaw12.BlockWakes", spec := "blockWakes", apart := false, narrowed := true }
def BlockWakesUptoSaid : Prop := blockWakesUptoRow.holds Try.pinned (OpenSpec.upto blockWakesSpec)

/-- 'bellwetherlaw12.BlockAsks', WHERE WHAT IT READS IS OF BULK AT MOST 1048576: true; the input reads as it did. -/
def blockAsksUptoRow : OpenClaim := { program := "ytjlgbgkpiganbaa", sum := "16d423a9aca17ec35f92b684b31d246bc8a20b683dca7934013c44c8e2ca6ebe", func := "bellwether/bellwetherlaw12.BlockAsks", spec := "blockAsks", apart := false, narrowed := true }
def BlockAsksUptoSaid : Prop := blockAsksUptoRow.holds Try.pinned (OpenSpec.upto blockAsksSpec)

/-- 'bellwetherlaw10.WindowForgets', WHERE WHAT IT READS IS OF BULK AT MOST 1048576: true; the input reads as it did. -/
def windowForgetsUptoRow : OpenClaim := { program := "ytjlgbgkpiganbaa", sum := "16d423a9aca17ec35f92b684b31d246bc8a20b683dca7934013c44c8e2ca6ebe", func := "bellwether/bellwetherlaw10.WindowForgets", spec := "windowForgets", inPlace := ["math/bits.Add64"], unfollowed := true, recurses := true, named := ["math/bits.divideError", "math/bits.overflowError"], apart := false, narrowed := true }
def WindowForgetsUptoSaid : Prop := windowForgetsUptoRow.holds Try.pinned (OpenSpec.upto windowForgetsSpec)

/-- 'bellwetherlaw09.RatioOrders', WHERE WHAT IT READS IS OF BULK AT MOST 1048576: true; the input reads as it did. -/
def ratioOrdersUptoRow : OpenClaim := { program := "ytjlgbgkpiganbaa", sum := "16d423a9aca17ec35f92b684b31d246bc8a20b683dca7934013c44c8e2ca6ebe", func := "bellwether/bellwetherlaw09.RatioOrders", spec := "ratioOrders", inPlace := ["math/bits.Add64"], named := ["math/bits.divideError", "math/bits.overflowError"], apart := false, narrowed := true }
def RatioOrdersUptoSaid : Prop := ratioOrdersUptoRow.holds Try.pinned (OpenSpec.upto ratioOrdersSpec)

/-- 'bellwetherlaw08.DeltaWhole', WHERE WHAT IT READS IS OF BULK AT MOST 1048576: true; the input reads as it did. -/
def deltaWholeUptoRow : OpenClaim := { program := "ytjlgbgkpiganbaa", sum := "16d423a9aca17ec35f92b684b31d246bc8a20b683dca7934013c44c8e2ca6ebe", func := "bellwether/bellwetherlaw08.DeltaWhole", spec := "deltaWhole", unfollowed := true, recurses := true, apart := false, narrowed := true }
def DeltaWholeUptoSaid : Prop := deltaWholeUptoRow.holds Try.pinned (OpenSpec.upto deltaWholeSpec)

/-- 'bellwetherlaw08.DeltaTwice', WHERE WHAT IT READS IS OF BULK AT MOST 1048576: true; the input reads as it did. -/
def deltaTwiceUptoRow : OpenClaim := { program := "ytjlgbgkpiganbaa", sum := "16d423a9aca17ec35f92b684b31d246bc8a20b683dca7934013c44c8e2ca6ebe", func := "bellwether/bellwetherlaw08.DeltaTwice", spec := "deltaTwice", unfollowed := true, recurses := true, apart := false, narrowed := true }
def DeltaTwiceUptoSaid : Prop := deltaTwiceUptoRow.holds Try.pinned (OpenSpec.upto deltaTwiceSpec)

/-- 'bellwetherlaw08.DeltaApplies', WHERE WHAT IT READS IS OF BULK AT MOST 1048576: true; the input reads as it did. -/
def deltaAppliesUptoRow : OpenClaim := { program := "ytjlgbgkpiganbaa", sum := "16d423a9aca17ec35f92b684b31d246bc8a20b683dca7934013c44c8e2ca6ebe", func := "bellwether/bellwetherlaw08.DeltaApplies", spec := "deltaApplies", unfollowed := true, recurses := true, apart := false, narrowed := true }
def DeltaAppliesUptoSaid : Prop := deltaAppliesUptoRow.holds Try.pinned (OpenSpec.upto deltaAppliesSpec)

/-- 'bellwetherlaw05.StateLattice', WHERE WHAT IT READS IS OF BULK AT MOST 1048576: true; the input reads as it did. -/
def stateLatticeUptoRow : OpenClaim := { program := "ytjlgbgkpiganbaa", sum := "16d423a9aca17ec35f92b684b31d246bc8a20b683dca7934013c44c8e2ca6ebe", func := "bellwether/bellwetherlaw05.StateLattice", spec := "stateLattice", inPlace := ["slices.overlaps[bellwether/api.Entry]"], unfollowed := true, recurses := true, apart := false, narrowed := true }
def StateLatticeUptoSaid : Prop := stateLatticeUptoRow.holds Try.pinned (OpenSpec.upto stateLatticeSpec)

/-- 'bellwetherlaw22.WatchSilence', WHERE WHAT IT READS IS OF BULK AT MOST 1048576: true; the input reads as it did. -/
def watchSilenceUptoRow : OpenClaim := { program := "ytjlgbgkpiganbaa", sum := "16d423a9aca17ec35f92b684b31d246bc8a20b683dca7934013c44c8e2ca6ebe", func := "bellwether/bellwetherlaw22.WatchSilence", spec := "watchSilence", inPlace := ["slices.overlaps[bellwether/api.Watch]", "math/bits.Add64"], unfollowed := true, recurses := true, named := ["math/bits.divideError", "math/bits.overflowError"], apart := false, narrowed := true }
def WatchSilenceUptoSaid : Prop := watchSilenceUptoRow.holds Try.pinned (OpenSpec.upto watchSilenceSpec)

/-- 'bellwetherlaw22.WatchNews', WHERE WHAT IT READS IS OF BULK AT MOST 1048576: true; the input reads as it did. -/
def watchNewsUptoRow : OpenClaim := { program := "ytjlgbgkpiganbaa", sum := "16d423a9aca17ec35f92b684b31d246bc8a20b683dca7934013c44c8e2ca6ebe", func := "bellwether/bellwetherlaw22.WatchNews", spec := "watchNews", inPlace := ["slices.overlaps[bellwether/api.Watch]", "math/bits.Add64"], unfollowed := true, recurses := true, named := ["math/bits.divideError", "math/bits.overflowError"], apart := false, narrowed := true }
def WatchNewsUptoSaid : Prop := watchNewsUptoRow.holds Try.pinned (OpenSpec.upto watchNewsSpec)

/-- 'bellwetherlaw22.WatchBirth', WHERE WHAT IT READS IS OF BULK AT MOST 1048576: true; the input reads as it did. -/
def watchBirthUptoRow : OpenClaim := { program := "ytjlgbgkpiganbaa", sum := "16d423a9aca17ec35f92b684b31d246bc8a20b683dca7934013c44c8e2ca6ebe", func := "bellwether/bellwetherlaw22.WatchBirth", spec := "watchBirth", inPlace := ["slices.overlaps[bellwether/api.Watch]", "math/bits.Add64"], unfollowed := true, recurses := true, named := ["math/bits.divideError", "math/bits.overflowError"], apart := false, narrowed := true }
def WatchBirthUptoSaid : Prop := watchBirthUptoRow.holds Try.pinned (OpenSpec.upto watchBirthSpec)

/-- 'bellwetherlaw22.WatchParts', WHERE WHAT IT READS IS OF BULK AT MOST 1048576: true; the input reads as it did. -/
def watchPartsUptoRow : OpenClaim := { program := "ytjlgbgkpiganbaa", sum := "16d423a9aca17ec35f92b684b31d246bc8a20b683dca7934013c44c8e2ca6ebe", func := "bellwether/bellwetherlaw22.WatchParts", spec := "watchParts", inPlace := ["slices.overlaps[bellwether/api.Watch]", "math/bits.Add64"], unfollowed := true, recurses := true, named := ["math/bits.divideError", "math/bits.overflowError"], apart := false, narrowed := true }
def WatchPartsUptoSaid : Prop := watchPartsUptoRow.holds Try.pinned (OpenSpec.upto watchPartsSpec)

/-- 'bellwetherlaw22.WatchHears', WHERE WHAT IT READS IS OF BULK AT MOST 1048576: true; the input reads as it did. -/
def watchHearsUptoRow : OpenClaim := { program := "ytjlgbgkpiganbaa", sum := "16d423a9aca17ec35f92b684b31d246bc8a20b683dca7934013c44c8e2ca6ebe", func := "bellwether/bellwetherlaw22.WatchHears", spec := "watchHears", inPlace := ["slices.overlaps[bellwether/api.Watch]", "math/bits.Add64"], unfollowed := true, recurses := true, named := ["math/bits.divideError", "math/bits.overflowError"], apart := false, narrowed := true }
def WatchHearsUptoSaid : Prop := watchHearsUptoRow.holds Try.pinned (OpenSpec.upto watchHearsSpec)

/-- 'bellwetherlaw14.ChoiceRounds', WHERE WHAT IT READS IS OF BULK AT MOST 1048576: true; the input reads as it did. -/
def choiceRoundsUptoRow : OpenClaim := { program := "ytjlgbgkpiganbaa", sum := "16d423a9aca17ec35f92b684b31d246bc8a20b683dca7934013c44c8e2ca6ebe", func := "bellwether/bellwetherlaw14.ChoiceRounds", spec := "choiceRounds", unfollowed := true, recurses := true, apart := false, narrowed := true }
def ChoiceRoundsUptoSaid : Prop := choiceRoundsUptoRow.holds Try.pinned (OpenSpec.upto choiceRoundsSpec)

/-- 'bellwetherlaw14.ChoiceThree', WHERE WHAT IT READS IS OF BULK AT MOST 1048576: true; the input reads as it did. -/
def choiceThreeUptoRow : OpenClaim := { program := "ytjlgbgkpiganbaa", sum := "16d423a9aca17ec35f92b684b31d246bc8a20b683dca7934013c44c8e2ca6ebe", func := "bellwether/bellwetherlaw14.ChoiceThree", spec := "choiceThree", unfollowed := true, recurses := true, apart := false, narrowed := true }
def ChoiceThreeUptoSaid : Prop := choiceThreeUptoRow.holds Try.pinned (OpenSpec.upto choiceThreeSpec)

/-- 'bellwetherlaw14.ChoiceFair', WHERE WHAT IT READS IS OF BULK AT MOST 1048576: true; the input reads as it did. -/
def choiceFairUptoRow : OpenClaim := { program := "ytjlgbgkpiganbaa", sum := "16d423a9aca17ec35f92b684b31d246bc8a20b683dca7934013c44c8e2ca6ebe", func := "bellwether/bellwetherlaw14.ChoiceFair", spec := "choiceFair", unfollowed := true, recurses := true, apart := false, narrowed := true }
def ChoiceFairUptoSaid : Prop := choiceFairUptoRow.holds Try.pinned (OpenSpec.upto choiceFairSpec)

/-- 'bellwetherlaw14.ChoiceSorts', WHERE WHAT IT READS IS OF BULK AT MOST 1048576: true; the input reads as it did. -/
def choiceSortsUptoRow : OpenClaim := { program := "ytjlgbgkpiganbaa", sum := "16d423a9aca17ec35f92b684b31d246bc8a20b683dca7934013c44c8e2ca6ebe", func := "bellwether/bellwetherlaw14.ChoiceSorts", spec := "choiceSorts", unfollowed := true, recurses := true, apart := false, narrowed := true }
def ChoiceSortsUptoSaid : Prop := choiceSortsUptoRow.holds Try.pinned (OpenSpec.upto choiceSortsSpec)

end Rows
end Go.Proofs.Ytjlgbgkpiganbaa
