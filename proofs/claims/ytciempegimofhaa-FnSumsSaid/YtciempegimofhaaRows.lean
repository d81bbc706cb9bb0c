/-
  No cell of these rows narrows 'for every input' (looked for: loops, veiled, ifaces, maps, wideKeys, modest, calm, conditions, laid).
  DERIVED. THE GIVEN ROWS OF THIS SEAT. 24 by the template 'for every input the law returns true; each argument reads behind the call as it read before'; 0 by the template 'total and deterministic' (their statements: YtciempegimofhaaTotals.lean).
  GIVEN WITH THE SEED: the statements are not yours to turn. If you find one false, say at which input.
  Laid BY PROGRAM, IN A SANDBOX (cutbox-rows.mjs): the forced cells as the released guide's own fill.sh prints them over the translation ad4d9e8bb67fc332… (all of the seat's roots in one cut). By AI agents, Wed Nov 11 2026. No macro, syntax, notation, axiom, sorry.
-/
import Derived.Test.YtciempegimofhaaChecked
import GoSem.Claim
import GoSem.ClaimJoined
import GoSem.ClaimMapViews
import Derived.JoinedTies
import Derived.KernelRfl
namespace Go.Proofs.Ytciempegimofhaa
/- THE CELL 'sum', in the pinned program and in every row, IS THE sha256 OF THE DUMP (.gsa) THAT YtciempegimofhaaProg.lean LOADS. Nothing in Lean hashes anything: it is a label: what it is worth is what the hold of that sum in a sandbox is worth. -/
noncomputable def Try.pinned : Pinned := { name := "ytciempegimofhaa", sum := "ad4d9e8bb67fc332c3df909365ad433e239225bd13e43a0b2abad59efa69a067", checked := Try.checked }
namespace Rows
def none {H : Type} : Left H := { results := [], args := [] }

/-- 'laws.FnExactPairOk': WHATEVER THE INPUT: true; the input reads as it did. -/
def fnExactPairOkSpec : ChangeSpec := { name := "fnExactPairOk", fn := fun _ => fun
  | [d] => { results := [.lit (.bool true)], args := [d] }
  | _ => none }
def fnExactPairOkRow : OpenClaim := { program := "ytciempegimofhaa", sum := "ad4d9e8bb67fc332c3df909365ad433e239225bd13e43a0b2abad59efa69a067", func := "loop.example/g00945/laws.FnExactPairOk", spec := "fnExactPairOk", apart := false }
def FnExactPairOkSaid : Prop := fnExactPairOkRow.holds Try.pinned (OpenSpec.ofChange fnExactPairOkSpec)

/-- ITS FALSE NEIGHBOUR: 'it returns false'. Refute it at one input. -/
def fnExactPairOkWrong : ChangeSpec := { name := "fnExactPairOk", fn := fun _ => fun
  | [d] => { results := [.lit (.bool false)], args := [d] }
  | _ => none }
def FnExactPairOkWrongFalsely : Prop := fnExactPairOkRow.holds Try.pinned (OpenSpec.ofChange fnExactPairOkWrong)

/-- 'laws.FnExactDealOk': WHATEVER THE INPUT: true; the input reads as it did. -/
def fnExactDealOkSpec : ChangeSpec := { name := "fnExactDealOk", fn := fun _ => fun
  | [d] => { results := [.lit (.bool true)], args := [d] }
  | _ => none }
def fnExactDealOkRow : OpenClaim := { program := "ytciempegimofhaa", sum := "ad4d9e8bb67fc332c3df909365ad433e239225bd13e43a0b2abad59efa69a067", func := "loop.example/g00945/laws.FnExactDealOk", spec := "fnExactDealOk", apart := false }
def FnExactDealOkSaid : Prop := fnExactDealOkRow.holds Try.pinned (OpenSpec.ofChange fnExactDealOkSpec)

/-- ITS FALSE NEIGHBOUR: 'it returns false'. Refute it at one input. -/
def fnExactDealOkWrong : ChangeSpec := { name := "fnExactDealOk", fn := fun _ => fun
  | [d] => { results := [.lit (.bool false)], args := [d] }
  | _ => none }
def FnExactDealOkWrongFalsely : Prop := fnExactDealOkRow.holds Try.pinned (OpenSpec.ofChange fnExactDealOkWrong)

/-- 'laws.FnExactSumPairs': WHATEVER THE INPUT: true; the input reads as it did. -/
def fnExactSumPairsSpec : ChangeSpec := { name := "fnExactSumPairs", fn := fun _ => fun
  | [d] => { results := [.lit (.bool true)], args := [d] }
  | _ => none }
def fnExactSumPairsRow : OpenClaim := { program := "ytciempegimofhaa", sum := "ad4d9e8bb67fc332c3df909365ad433e239225bd13e43a0b2abad59efa69a067", func := "loop.example/g00945/laws.FnExactSumPairs", spec := "fnExactSumPairs", apart := false }
def FnExactSumPairsSaid : Prop := fnExactSumPairsRow.holds Try.pinned (OpenSpec.ofChange fnExactSumPairsSpec)

/-- ITS FALSE NEIGHBOUR: 'it returns false'. Refute it at one input. -/
def fnExactSumPairsWrong : ChangeSpec := { name := "fnExactSumPairs", fn := fun _ => fun
  | [d] => { results := [.lit (.bool false)], args := [d] }
  | _ => none }
def FnExactSumPairsWrongFalsely : Prop := fnExactSumPairsRow.holds Try.pinned (OpenSpec.ofChange fnExactSumPairsWrong)

/-- 'laws.FnExactAllPairs': WHATEVER THE INPUT: true; the input reads as it did. -/
def fnExactAllPairsSpec : ChangeSpec := { name := "fnExactAllPairs", fn := fun _ => fun
  | [d] => { results := [.lit (.bool true)], args := [d] }
  | _ => none }
def fnExactAllPairsRow : OpenClaim := { program := "ytciempegimofhaa", sum := "ad4d9e8bb67fc332c3df909365ad433e239225bd13e43a0b2abad59efa69a067", func := "loop.example/g00945/laws.FnExactAllPairs", spec := "fnExactAllPairs", apart := false }
def FnExactAllPairsSaid : Prop := fnExactAllPairsRow.holds Try.pinned (OpenSpec.ofChange fnExactAllPairsSpec)

/-- ITS FALSE NEIGHBOUR: 'it returns false'. Refute it at one input. -/
def fnExactAllPairsWrong : ChangeSpec := { name := "fnExactAllPairs", fn := fun _ => fun
  | [d] => { results := [.lit (.bool false)], args := [d] }
  | _ => none }
def FnExactAllPairsWrongFalsely : Prop := fnExactAllPairsRow.holds Try.pinned (OpenSpec.ofChange fnExactAllPairsWrong)

/-- 'laws.FnExactKnowsOwn': WHATEVER THE INPUT: true; the input reads as it did. -/
def fnExactKnowsOwnSpec : ChangeSpec := { name := "fnExactKnowsOwn", fn := fun _ => fun
  | [d1, d2, d3] => { results := [.lit (.bool true)], args := [d1, d2, d3] }
  | _ => none }
def fnExactKnowsOwnRow : OpenClaim := { program := "ytciempegimofhaa", sum := "ad4d9e8bb67fc332c3df909365ad433e239225bd13e43a0b2abad59efa69a067", func := "loop.example/g00945/laws.FnExactKnowsOwn", spec := "fnExactKnowsOwn", apart := false }
def FnExactKnowsOwnSaid : Prop := fnExactKnowsOwnRow.holds Try.pinned (OpenSpec.ofChange fnExactKnowsOwnSpec)

/-- ITS FALSE NEIGHBOUR: 'it returns false'. Refute it at one input. -/
def fnExactKnowsOwnWrong : ChangeSpec := { name := "fnExactKnowsOwn", fn := fun _ => fun
  | [d1, d2, d3] => { results := [.lit (.bool false)], args := [d1, d2, d3] }
  | _ => none }
def FnExactKnowsOwnWrongFalsely : Prop := fnExactKnowsOwnRow.holds Try.pinned (OpenSpec.ofChange fnExactKnowsOwnWrong)

/-- 'laws.FnExactUniqueProduct': WHATEVER THE INPUT: true; the input reads as it did. -/
def fnExactUniqueProductSpec : ChangeSpec := { name := "fnExactUniqueProduct", fn := fun _ => fun
  | [d1, d2] => { results := [.lit (.bool true)], args := [d1, d2] }
  | _ => none }
def fnExactUniqueProductRow : OpenClaim := { program := "ytciempegimofhaa", sum := "ad4d9e8bb67fc332c3df909365ad433e239225bd13e43a0b2abad59efa69a067", func := "loop.example/g00945/laws.FnExactUniqueProduct", spec := "fnExactUniqueProduct", unfollowed := true, recurses := true, apart := false }
def FnExactUniqueProductSaid : Prop := fnExactUniqueProductRow.holds Try.pinned (OpenSpec.ofChange fnExactUniqueProductSpec)

/-- ITS FALSE NEIGHBOUR: 'it returns false'. Refute it at one input. -/
def fnExactUniqueProductWrong : ChangeSpec := { name := "fnExactUniqueProduct", fn := fun _ => fun
  | [d1, d2] => { results := [.lit (.bool false)], args := [d1, d2] }
  | _ => none }
def FnExactUniqueProductWrongFalsely : Prop := fnExactUniqueProductRow.holds Try.pinned (OpenSpec.ofChange fnExactUniqueProductWrong)

/-- 'laws.FnExactUniqueSum': WHATEVER THE INPUT: true; the input reads as it did. -/
def fnExactUniqueSumSpec : ChangeSpec := { name := "fnExactUniqueSum", fn := fun _ => fun
  | [d1, d2] => { results := [.lit (.bool true)], args := [d1, d2] }
  | _ => none }
def fnExactUniqueSumRow : OpenClaim := { program := "ytciempegimofhaa", sum := "ad4d9e8bb67fc332c3df909365ad433e239225bd13e43a0b2abad59efa69a067", func := "loop.example/g00945/laws.FnExactUniqueSum", spec := "fnExactUniqueSum", unfollowed := true, recurses := true, apart := false }
def FnExactUniqueSumSaid : Prop := fnExactUniqueSumRow.holds Try.pinned (OpenSpec.ofChange fnExactUniqueSumSpec)

/-- ITS FALSE NEIGHBOUR: 'it returns false'. Refute it at one input. -/
def fnExactUniqueSumWrong : ChangeSpec := { name := "fnExactUniqueSum", fn := fun _ => fun
  | [d1, d2] => { results := [.lit (.bool false)], args := [d1, d2] }
  | _ => none }
def FnExactUniqueSumWrongFalsely : Prop := fnExactUniqueSumRow.holds Try.pinned (OpenSpec.ofChange fnExactUniqueSumWrong)

/-- 'laws.FnSums': WHATEVER THE INPUT: true; the input reads as it did. -/
def fnSumsSpec : ChangeSpec := { name := "fnSums", fn := fun _ => fun
  | [d] => { results := [.lit (.bool true)], args := [d] }
  | _ => none }
def fnSumsRow : OpenClaim := { program := "ytciempegimofhaa", sum := "ad4d9e8bb67fc332c3df909365ad433e239225bd13e43a0b2abad59efa69a067", func := "loop.example/g00945/laws.FnSums", spec := "fnSums", unfollowed := true, recurses := true, apart := false }
def FnSumsSaid : Prop := fnSumsRow.holds Try.pinned (OpenSpec.ofChange fnSumsSpec)

/-- ITS FALSE NEIGHBOUR: 'it returns false'. Refute it at one input. -/
def fnSumsWrong : ChangeSpec := { name := "fnSums", fn := fun _ => fun
  | [d] => { results := [.lit (.bool false)], args := [d] }
  | _ => none }
def FnSumsWrongFalsely : Prop := fnSumsRow.holds Try.pinned (OpenSpec.ofChange fnSumsWrong)

/-- 'laws.FnExactNowProduct': WHATEVER THE INPUT: true; the input reads as it did. -/
def fnExactNowProductSpec : ChangeSpec := { name := "fnExactNowProduct", fn := fun _ => fun
  | [d] => { results := [.lit (.bool true)], args := [d] }
  | _ => none }
def fnExactNowProductRow : OpenClaim := { program := "ytciempegimofhaa", sum := "ad4d9e8bb67fc332c3df909365ad433e239225bd13e43a0b2abad59efa69a067", func := "loop.example/g00945/laws.FnExactNowProduct", spec := "fnExactNowProduct", unfollowed := true, recurses := true, apart := false }
def FnExactNowProductSaid : Prop := fnExactNowProductRow.holds Try.pinned (OpenSpec.ofChange fnExactNowProductSpec)

/-- ITS FALSE NEIGHBOUR: 'it returns false'. Refute it at one input. -/
def fnExactNowProductWrong : ChangeSpec := { name := "fnExactNowProduct", fn := fun _ => fun
  | [d] => { results := [.lit (.bool false)], args := [d] }
  | _ => none }
def FnExactNowProductWrongFalsely : Prop := fnExactNowProductRow.holds Try.pinned (OpenSpec.ofChange fnExactNowProductWrong)

/-- 'laws.FnExactNowSum': WHATEVER THE INPUT: true; the input reads as it did. -/
def fnExactNowSumSpec : ChangeSpec := { name := "fnExactNowSum", fn := fun _ => fun
  | [d] => { results := [.lit (.bool true)], args := [d] }
  | _ => none }
def fnExactNowSumRow : OpenClaim := { program := "ytciempegimofhaa", sum := "ad4d9e8bb67fc332c3df909365ad433e239225bd13e43a0b2abad59efa69a067", func := "loop.example/g00945/laws.FnExactNowSum", spec := "fnExactNowSum", unfollowed := true, recurses := true, apart := false }
def FnExactNowSumSaid : Prop := fnExactNowSumRow.holds Try.pinned (OpenSpec.ofChange fnExactNowSumSpec)

/-- ITS FALSE NEIGHBOUR: 'it returns false'. Refute it at one input. -/
def fnExactNowSumWrong : ChangeSpec := { name := "fnExactNowSum", fn := fun _ => fun
  | [d] => { results := [.lit (.bool false)], args := [d] }
  | _ => none }
def FnExactNowSumWrongFalsely : Prop := fnExactNowSumRow.holds Try.pinned (OpenSpec.ofChange fnExactNowSumWrong)

/-- 'laws.FnExactAfterAnswer': WHATEVER THE INPUT: true; the input reads as it did. -/
def fnExactAfterAnswerSpec : ChangeSpec := { name := "fnExactAfterAnswer", fn := fun _ => fun
  | [d1, d2, d3] => { results := [.lit (.bool true)], args := [d1, d2, d3] }
  | _ => none }
def fnExactAfterAnswerRow : OpenClaim := { program := "ytciempegimofhaa", sum := "ad4d9e8bb67fc332c3df909365ad433e239225bd13e43a0b2abad59efa69a067", func := "loop.example/g00945/laws.FnExactAfterAnswer", spec := "fnExactAfterAnswer", apart := false }
def FnExactAfterAnswerSaid : Prop := fnExactAfterAnswerRow.holds Try.pinned (OpenSpec.ofChange fnExactAfterAnswerSpec)

/-- ITS FALSE NEIGHBOUR: 'it returns false'. Refute it at one input. -/
def fnExactAfterAnswerWrong : ChangeSpec := { name := "fnExactAfterAnswer", fn := fun _ => fun
  | [d1, d2, d3] => { results := [.lit (.bool false)], args := [d1, d2, d3] }
  | _ => none }
def FnExactAfterAnswerWrongFalsely : Prop := fnExactAfterAnswerRow.holds Try.pinned (OpenSpec.ofChange fnExactAfterAnswerWrong)

/-- 'laws.FnExactHandsOf': WHATEVER THE INPUT: true; the input reads as it did. -/
def fnExactHandsOfSpec : ChangeSpec := { name := "fnExactHandsOf", fn := fun _ => fun
  | [d] => { results := [.lit (.bool true)], args := [d] }
  | _ => none }
def fnExactHandsOfRow : OpenClaim := { program := "ytciempegimofhaa", sum := "ad4d9e8bb67fc332c3df909365ad433e239225bd13e43a0b2abad59efa69a067", func := "loop.example/g00945/laws.FnExactHandsOf", spec := "fnExactHandsOf", apart := false }
def FnExactHandsOfSaid : Prop := fnExactHandsOfRow.holds Try.pinned (OpenSpec.ofChange fnExactHandsOfSpec)

/-- ITS FALSE NEIGHBOUR: 'it returns false'. Refute it at one input. -/
def fnExactHandsOfWrong : ChangeSpec := { name := "fnExactHandsOf", fn := fun _ => fun
  | [d] => { results := [.lit (.bool false)], args := [d] }
  | _ => none }
def FnExactHandsOfWrongFalsely : Prop := fnExactHandsOfRow.holds Try.pinned (OpenSpec.ofChange fnExactHandsOfWrong)

/-- 'laws.FnExactKnewIt': WHATEVER THE INPUT: true; the input reads as it did. -/
def fnExactKnewItSpec : ChangeSpec := { name := "fnExactKnewIt", fn := fun _ => fun
  | [d] => { results := [.lit (.bool true)], args := [d] }
  | _ => none }
def fnExactKnewItRow : OpenClaim := { program := "ytciempegimofhaa", sum := "ad4d9e8bb67fc332c3df909365ad433e239225bd13e43a0b2abad59efa69a067", func := "loop.example/g00945/laws.FnExactKnewIt", spec := "fnExactKnewIt", unfollowed := true, recurses := true, apart := false }
def FnExactKnewItSaid : Prop := fnExactKnewItRow.holds Try.pinned (OpenSpec.ofChange fnExactKnewItSpec)

/-- ITS FALSE NEIGHBOUR: 'it returns false'. Refute it at one input. -/
def fnExactKnewItWrong : ChangeSpec := { name := "fnExactKnewIt", fn := fun _ => fun
  | [d] => { results := [.lit (.bool false)], args := [d] }
  | _ => none }
def FnExactKnewItWrongFalsely : Prop := fnExactKnewItRow.holds Try.pinned (OpenSpec.ofChange fnExactKnewItWrong)

/-- 'laws.FnNumbers': WHATEVER THE INPUT: true; the input reads as it did. -/
def fnNumbersSpec : ChangeSpec := { name := "fnNumbers", fn := fun _ => fun
  | [d] => { results := [.lit (.bool true)], args := [d] }
  | _ => none }
def fnNumbersRow : OpenClaim := { program := "ytciempegimofhaa", sum := "ad4d9e8bb67fc332c3df909365ad433e239225bd13e43a0b2abad59efa69a067", func := "loop.example/g00945/laws.FnNumbers", spec := "fnNumbers", apart := false }
def FnNumbersSaid : Prop := fnNumbersRow.holds Try.pinned (OpenSpec.ofChange fnNumbersSpec)

/-- ITS FALSE NEIGHBOUR: 'it returns false'. Refute it at one input. -/
def fnNumbersWrong : ChangeSpec := { name := "fnNumbers", fn := fun _ => fun
  | [d] => { results := [.lit (.bool false)], args := [d] }
  | _ => none }
def FnNumbersWrongFalsely : Prop := fnNumbersRow.holds Try.pinned (OpenSpec.ofChange fnNumbersWrong)

/-- 'laws.FnExactTurnOf': WHATEVER THE INPUT: true; the input reads as it did. -/
def fnExactTurnOfSpec : ChangeSpec := { name := "fnExactTurnOf", fn := fun _ => fun
  | [d1, d2] => { results := [.lit (.bool true)], args := [d1, d2] }
  | _ => none }
def fnExactTurnOfRow : OpenClaim := { program := "ytciempegimofhaa", sum := "ad4d9e8bb67fc332c3df909365ad433e239225bd13e43a0b2abad59efa69a067", func := "loop.example/g00945/laws.FnExactTurnOf", spec := "fnExactTurnOf", apart := false }
def FnExactTurnOfSaid : Prop := fnExactTurnOfRow.holds Try.pinned (OpenSpec.ofChange fnExactTurnOfSpec)

/-- ITS FALSE NEIGHBOUR: 'it returns false'. Refute it at one input. -/
def fnExactTurnOfWrong : ChangeSpec := { name := "fnExactTurnOf", fn := fun _ => fun
  | [d1, d2] => { results := [.lit (.bool false)], args := [d1, d2] }
  | _ => none }
def FnExactTurnOfWrongFalsely : Prop := fnExactTurnOfRow.holds Try.pinned (OpenSpec.ofChange fnExactTurnOfWrong)

/-- 'laws.FnExactPuzzleLimit': WHATEVER THE INPUT: true; the input reads as it did. -/
def fnExactPuzzleLimitSpec : ChangeSpec := { name := "fnExactPuzzleLimit", fn := fun _ => fun
  | [d] => { results := [.lit (.bool true)], args := [d] }
  | _ => none }
def fnExactPuzzleLimitRow : OpenClaim := { program := "ytciempegimofhaa", sum := "ad4d9e8bb67fc332c3df909365ad433e239225bd13e43a0b2abad59efa69a067", func := "loop.example/g00945/laws.FnExactPuzzleLimit", spec := "fnExactPuzzleLimit", unfollowed := true, recurses := true, apart := false }
def FnExactPuzzleLimitSaid : Prop := fnExactPuzzleLimitRow.holds Try.pinned (OpenSpec.ofChange fnExactPuzzleLimitSpec)

/-- ITS FALSE NEIGHBOUR: 'it returns false'. Refute it at one input. -/
def fnExactPuzzleLimitWrong : ChangeSpec := { name := "fnExactPuzzleLimit", fn := fun _ => fun
  | [d] => { results := [.lit (.bool false)], args := [d] }
  | _ => none }
def FnExactPuzzleLimitWrongFalsely : Prop := fnExactPuzzleLimitRow.holds Try.pinned (OpenSpec.ofChange fnExactPuzzleLimitWrong)

/-- 'laws.FnExactAnswersFor': WHATEVER THE INPUT: true; the input reads as it did. -/
def fnExactAnswersForSpec : ChangeSpec := { name := "fnExactAnswersFor", fn := fun _ => fun
  | [d1, d2] => { results := [.lit (.bool true)], args := [d1, d2] }
  | _ => none }
def fnExactAnswersForRow : OpenClaim := { program := "ytciempegimofhaa", sum := "ad4d9e8bb67fc332c3df909365ad433e239225bd13e43a0b2abad59efa69a067", func := "loop.example/g00945/laws.FnExactAnswersFor", spec := "fnExactAnswersFor", apart := false }
def FnExactAnswersForSaid : Prop := fnExactAnswersForRow.holds Try.pinned (OpenSpec.ofChange fnExactAnswersForSpec)

/-- ITS FALSE NEIGHBOUR: 'it returns false'. Refute it at one input. -/
def fnExactAnswersForWrong : ChangeSpec := { name := "fnExactAnswersFor", fn := fun _ => fun
  | [d1, d2] => { results := [.lit (.bool false)], args := [d1, d2] }
  | _ => none }
def FnExactAnswersForWrongFalsely : Prop := fnExactAnswersForRow.holds Try.pinned (OpenSpec.ofChange fnExactAnswersForWrong)

/-- 'laws.FnExactAnnouncementOk': WHATEVER THE INPUT: true; the input reads as it did. -/
def fnExactAnnouncementOkSpec : ChangeSpec := { name := "fnExactAnnouncementOk", fn := fun _ => fun
  | [d1, d2] => { results := [.lit (.bool true)], args := [d1, d2] }
  | _ => none }
def fnExactAnnouncementOkRow : OpenClaim := { program := "ytciempegimofhaa", sum := "ad4d9e8bb67fc332c3df909365ad433e239225bd13e43a0b2abad59efa69a067", func := "loop.example/g00945/laws.FnExactAnnouncementOk", spec := "fnExactAnnouncementOk", apart := false }
def FnExactAnnouncementOkSaid : Prop := fnExactAnnouncementOkRow.holds Try.pinned (OpenSpec.ofChange fnExactAnnouncementOkSpec)

/-- ITS FALSE NEIGHBOUR: 'it returns false'. Refute it at one input. -/
def fnExactAnnouncementOkWrong : ChangeSpec := { name := "fnExactAnnouncementOk", fn := fun _ => fun
  | [d1, d2] => { results := [.lit (.bool false)], args := [d1, d2] }
  | _ => none }
def FnExactAnnouncementOkWrongFalsely : Prop := fnExactAnnouncementOkRow.holds Try.pinned (OpenSpec.ofChange fnExactAnnouncementOkWrong)

/-- 'laws.FnExactPairsLeft': WHATEVER THE INPUT: true; the input reads as it did. -/
def fnExactPairsLeftSpec : ChangeSpec := { name := "fnExactPairsLeft", fn := fun _ => fun
  | [d1, d2] => { results := [.lit (.bool true)], args := [d1, d2] }
  | _ => none }
def fnExactPairsLeftRow : OpenClaim := { program := "ytciempegimofhaa", sum := "ad4d9e8bb67fc332c3df909365ad433e239225bd13e43a0b2abad59efa69a067", func := "loop.example/g00945/laws.FnExactPairsLeft", spec := "fnExactPairsLeft", apart := false }
def FnExactPairsLeftSaid : Prop := fnExactPairsLeftRow.holds Try.pinned (OpenSpec.ofChange fnExactPairsLeftSpec)

/-- ITS FALSE NEIGHBOUR: 'it returns false'. Refute it at one input. -/
def fnExactPairsLeftWrong : ChangeSpec := { name := "fnExactPairsLeft", fn := fun _ => fun
  | [d1, d2] => { results := [.lit (.bool false)], args := [d1, d2] }
  | _ => none }
def FnExactPairsLeftWrongFalsely : Prop := fnExactPairsLeftRow.holds Try.pinned (OpenSpec.ofChange fnExactPairsLeftWrong)

/-- 'laws.FnExactPuzzlePairs': WHATEVER THE INPUT: true; the input reads as it did. -/
def fnExactPuzzlePairsSpec : ChangeSpec := { name := "fnExactPuzzlePairs", fn := fun _ => fun
  | [d] => { results := [.lit (.bool true)], args := [d] }
  | _ => none }
def fnExactPuzzlePairsRow : OpenClaim := { program := "ytciempegimofhaa", sum := "ad4d9e8bb67fc332c3df909365ad433e239225bd13e43a0b2abad59efa69a067", func := "loop.example/g00945/laws.FnExactPuzzlePairs", spec := "fnExactPuzzlePairs", unfollowed := true, recurses := true, apart := false }
def FnExactPuzzlePairsSaid : Prop := fnExactPuzzlePairsRow.holds Try.pinned (OpenSpec.ofChange fnExactPuzzlePairsSpec)

/-- ITS FALSE NEIGHBOUR: 'it returns false'. Refute it at one input. -/
def fnExactPuzzlePairsWrong : ChangeSpec := { name := "fnExactPuzzlePairs", fn := fun _ => fun
  | [d] => { results := [.lit (.bool false)], args := [d] }
  | _ => none }
def FnExactPuzzlePairsWrongFalsely : Prop := fnExactPuzzlePairsRow.holds Try.pinned (OpenSpec.ofChange fnExactPuzzlePairsWrong)

/-- 'laws.FnExactTellsSecond': WHATEVER THE INPUT: true; the input reads as it did. -/
def fnExactTellsSecondSpec : ChangeSpec := { name := "fnExactTellsSecond", fn := fun _ => fun
  | [d1, d2] => { results := [.lit (.bool true)], args := [d1, d2] }
  | _ => none }
def fnExactTellsSecondRow : OpenClaim := { program := "ytciempegimofhaa", sum := "ad4d9e8bb67fc332c3df909365ad433e239225bd13e43a0b2abad59efa69a067", func := "loop.example/g00945/laws.FnExactTellsSecond", spec := "fnExactTellsSecond", apart := false }
def FnExactTellsSecondSaid : Prop := fnExactTellsSecondRow.holds Try.pinned (OpenSpec.ofChange fnExactTellsSecondSpec)

/-- ITS FALSE NEIGHBOUR: 'it returns false'. Refute it at one input. -/
def fnExactTellsSecondWrong : ChangeSpec := { name := "fnExactTellsSecond", fn := fun _ => fun
  | [d1, d2] => { results := [.lit (.bool false)], args := [d1, d2] }
  | _ => none }
def FnExactTellsSecondWrongFalsely : Prop := fnExactTellsSecondRow.holds Try.pinned (OpenSpec.ofChange fnExactTellsSecondWrong)

/-- 'laws.FnExactHidesAll': WHATEVER THE INPUT: true; the input reads as it did. -/
def fnExactHidesAllSpec : ChangeSpec := { name := "fnExactHidesAll", fn := fun _ => fun
  | [d1, d2] => { results := [.lit (.bool true)], args := [d1, d2] }
  | _ => none }
def fnExactHidesAllRow : OpenClaim := { program := "ytciempegimofhaa", sum := "ad4d9e8bb67fc332c3df909365ad433e239225bd13e43a0b2abad59efa69a067", func := "loop.example/g00945/laws.FnExactHidesAll", spec := "fnExactHidesAll", apart := false }
def FnExactHidesAllSaid : Prop := fnExactHidesAllRow.holds Try.pinned (OpenSpec.ofChange fnExactHidesAllSpec)

/-- ITS FALSE NEIGHBOUR: 'it returns false'. Refute it at one input. -/
def fnExactHidesAllWrong : ChangeSpec := { name := "fnExactHidesAll", fn := fun _ => fun
  | [d1, d2] => { results := [.lit (.bool false)], args := [d1, d2] }
  | _ => none }
def FnExactHidesAllWrongFalsely : Prop := fnExactHidesAllRow.holds Try.pinned (OpenSpec.ofChange fnExactHidesAllWrong)

/-- 'laws.FnExactIsSafe': WHATEVER THE INPUT: true; the input reads as it did. -/
def fnExactIsSafeSpec : ChangeSpec := { name := "fnExactIsSafe", fn := fun _ => fun
  | [d1, d2] => { results := [.lit (.bool true)], args := [d1, d2] }
  | _ => none }
def fnExactIsSafeRow : OpenClaim := { program := "ytciempegimofhaa", sum := "ad4d9e8bb67fc332c3df909365ad433e239225bd13e43a0b2abad59efa69a067", func := "loop.example/g00945/laws.FnExactIsSafe", spec := "fnExactIsSafe", apart := false }
def FnExactIsSafeSaid : Prop := fnExactIsSafeRow.holds Try.pinned (OpenSpec.ofChange fnExactIsSafeSpec)

/-- ITS FALSE NEIGHBOUR: 'it returns false'. Refute it at one input. -/
def fnExactIsSafeWrong : ChangeSpec := { name := "fnExactIsSafe", fn := fun _ => fun
  | [d1, d2] => { results := [.lit (.bool false)], args := [d1, d2] }
  | _ => none }
def FnExactIsSafeWrongFalsely : Prop := fnExactIsSafeRow.holds Try.pinned (OpenSpec.ofChange fnExactIsSafeWrong)

/-- 'laws.FnExactFirstSafe': WHATEVER THE INPUT: true; the input reads as it did. -/
def fnExactFirstSafeSpec : ChangeSpec := { name := "fnExactFirstSafe", fn := fun _ => fun
  | [d1, d2, d3] => { results := [.lit (.bool true)], args := [d1, d2, d3] }
  | _ => none }
def fnExactFirstSafeRow : OpenClaim := { program := "ytciempegimofhaa", sum := "ad4d9e8bb67fc332c3df909365ad433e239225bd13e43a0b2abad59efa69a067", func := "loop.example/g00945/laws.FnExactFirstSafe", spec := "fnExactFirstSafe", unfollowed := true, recurses := true, apart := false }
def FnExactFirstSafeSaid : Prop := fnExactFirstSafeRow.holds Try.pinned (OpenSpec.ofChange fnExactFirstSafeSpec)

/-- ITS FALSE NEIGHBOUR: 'it returns false'. Refute it at one input. -/
def fnExactFirstSafeWrong : ChangeSpec := { name := "fnExactFirstSafe", fn := fun _ => fun
  | [d1, d2, d3] => { results := [.lit (.bool false)], args := [d1, d2, d3] }
  | _ => none }
def FnExactFirstSafeWrongFalsely : Prop := fnExactFirstSafeRow.holds Try.pinned (OpenSpec.ofChange fnExactFirstSafeWrong)

/- THE SECOND FORM. 'bulk': how many values and letters a reading holds, each counted each time it is reached (what is shared counts as often as it is met; a slice's spare places count too). A statement '..UptoSaid' is the law's where the arguments, and the package variables that the reading takes, are together of bulk at most 1048576: NARROWER than '..Said'. Prove '..Said' where nothing that the law and all that it calls make is longer than what came in: it says more and counts as full. Else prove '..UptoSaid'. A law counts once. -/
mutual
def uptoBulk {H : Type} : DataW H → Nat
  | .lit (.string bytes) => bytes.length + 1
  | .lit _ => 1
  | .nil => 1
  | .ptr d => uptoBulk d + 1
  | .slice elems spare => uptoBulkAll elems + uptoBulkAll spare + 1
  | .agg parts => uptoBulkAll parts + 1
  | .iface _ d => uptoBulk d + 1
  | .map entries => uptoBulkEntries entries + 1
  | .held _ => 1
def uptoBulkAll {H : Type} : List (DataW H) → Nat
  | [] => 0
  | d :: r => uptoBulk d + uptoBulkAll r
def uptoBulkEntries {H : Type} : List (Lit × DataW H) → Nat
  | [] => 0
  | x :: r => uptoBulkEntry x + uptoBulkEntries r
def uptoBulkEntry {H : Type} : Lit × DataW H → Nat
  | (.string bytes, d) => bytes.length + uptoBulk d + 1
  | (_, d) => uptoBulk d + 1
 end
def uptoSmall : (H : Type) → List (DataW H) → Bool := fun _ ds => decide (uptoBulkAll ds ≤ 1048576)
def OpenSpec.upto (s : _root_.Go.ChangeSpec) : _root_.Go.OpenSpec := { _root_.Go.OpenSpec.ofChange s with cond := some uptoSmall }

/-- 'laws.FnExactPairOk', WHERE WHAT IT READS IS OF BULK AT MOST 1048576: true; the input reads as it did. -/
def fnExactPairOkUptoRow : OpenClaim := { program := "ytciempegimofhaa", sum := "ad4d9e8bb67fc332c3df909365ad433e239225bd13e43a0b2abad59efa69a067", func := "loop.example/g00945/laws.FnExactPairOk", spec := "fnExactPairOk", apart := false, narrowed := true }
def FnExactPairOkUptoSaid : Prop := fnExactPairOkUptoRow.holds Try.pinned (OpenSpec.upto fnExactPairOkSpec)

/-- 'laws.FnExactDealOk', WHERE WHAT IT READS IS OF BULK AT MOST 1048576: true; the input reads as it did. -/
def fnExactDealOkUptoRow : OpenClaim := { program := "ytciempegimofhaa", sum := "ad4d9e8bb67fc332c3df909365ad433e239225bd13e43a0b2abad59efa69a067", func := "loop.example/g00945/laws.FnExactDealOk", spec := "fnExactDealOk", apart := false, narrowed := true }
def FnExactDealOkUptoSaid : Prop := fnExactDealOkUptoRow.holds Try.pinned (OpenSpec.upto fnExactDealOkSpec)

/-- 'laws.FnExactSumPairs', WHERE WHAT IT READS IS OF BULK AT MOST 1048576: true; the input reads as it did. -/
def fnExactSumPairsUptoRow : OpenClaim := { program := "ytciempegimofhaa", sum := "ad4d9e8bb67fc332c3df909365ad433e239225bd13e43a0b2abad59efa69a067", func := "loop.example/g00945/laws.FnExactSumPairs", spec := "fnExactSumPairs", apart := false, narrowed := true }
def FnExactSumPairsUptoSaid : Prop := fnExactSumPairsUptoRow.holds Try.pinned (OpenSpec.upto fnExactSumPairsSpec)

/-- 'laws.FnExactAllPairs', WHERE WHAT IT READS IS OF BULK AT MOST 1048576: true; the input reads as it did. -/
def fnExactAllPairsUptoRow : OpenClaim := { program := "ytciempegimofhaa", sum := "ad4d9e8bb67fc332c3df909365ad433e239225bd13e43a0b2abad59efa69a067", func := "loop.example/g00945/laws.FnExactAllPairs", spec := "fnExactAllPairs", apart := false, narrowed := true }
def FnExactAllPairsUptoSaid : Prop := fnExactAllPairsUptoRow.holds Try.pinned (OpenSpec.upto fnExactAllPairsSpec)

/-- 'laws.FnExactKnowsOwn', WHERE WHAT IT READS IS OF BULK AT MOST 1048576: true; the input reads as it did. -/
def fnExactKnowsOwnUptoRow : OpenClaim := { program := "ytciempegimofhaa", sum := "ad4d9e8bb67fc332c3df909365ad433e239225bd13e43a0b2abad59efa69a067", func := "loop.example/g00945/laws.FnExactKnowsOwn", spec := "fnExactKnowsOwn", apart := false, narrowed := true }
def FnExactKnowsOwnUptoSaid : Prop := fnExactKnowsOwnUptoRow.holds Try.pinned (OpenSpec.upto fnExactKnowsOwnSpec)

/-- 'laws.FnExactUniqueProduct', WHERE WHAT IT READS IS OF BULK AT MOST 1048576: true; the input reads as it did. -/
def fnExactUniqueProductUptoRow : OpenClaim := { program := "ytciempegimofhaa", sum := "ad4d9e8bb67fc332c3df909365ad433e239225bd13e43a0b2abad59efa69a067", func := "loop.example/g00945/laws.FnExactUniqueProduct", spec := "fnExactUniqueProduct", unfollowed := true, recurses := true, apart := false, narrowed := true }
def FnExactUniqueProductUptoSaid : Prop := fnExactUniqueProductUptoRow.holds Try.pinned (OpenSpec.upto fnExactUniqueProductSpec)

/-- 'laws.FnExactUniqueSum', WHERE WHAT IT READS IS OF BULK AT MOST 1048576: true; the input reads as it did. -/
def fnExactUniqueSumUptoRow : OpenClaim := { program := "ytciempegimofhaa", sum := "ad4d9e8bb67fc332c3df909365ad433e239225bd13e43a0b2abad59efa69a067", func := "loop.example/g00945/laws.FnExactUniqueSum", spec := "fnExactUniqueSum", unfollowed := true, recurses := true, apart := false, narrowed := true }
def FnExactUniqueSumUptoSaid : Prop := fnExactUniqueSumUptoRow.holds Try.pinned (OpenSpec.upto fnExactUniqueSumSpec)

/-- 'laws.FnSums', WHERE WHAT IT READS IS OF BULK AT MOST 1048576: true; the input reads as it did. -/
def fnSumsUptoRow : OpenClaim := { program := "ytciempegimofhaa", sum := "ad4d9e8bb67fc332c3df909365ad433e239225bd13e43a0b2abad59efa69a067", func := "loop.example/g00945/laws.FnSums", spec := "fnSums", unfollowed := true, recurses := true, apart := false, narrowed := true }
def FnSumsUptoSaid : Prop := fnSumsUptoRow.holds Try.pinned (OpenSpec.upto fnSumsSpec)

/-- 'laws.FnExactNowProduct', WHERE WHAT IT READS IS OF BULK AT MOST 1048576: true; the input reads as it did. -/
def fnExactNowProductUptoRow : OpenClaim := { program := "ytciempegimofhaa", sum := "ad4d9e8bb67fc332c3df909365ad433e239225bd13e43a0b2abad59efa69a067", func := "loop.example/g00945/laws.FnExactNowProduct", spec := "fnExactNowProduct", unfollowed := true, recurses := true, apart := false, narrowed := true }
def FnExactNowProductUptoSaid : Prop := fnExactNowProductUptoRow.holds Try.pinned (OpenSpec.upto fnExactNowProductSpec)

/-- 'laws.FnExactNowSum', WHERE WHAT IT READS IS OF BULK AT MOST 1048576: true; the input reads as it did. -/
def fnExactNowSumUptoRow : OpenClaim := { program := "ytciempegimofhaa", sum := "ad4d9e8bb67fc332c3df909365ad433e239225bd13e43a0b2abad59efa69a067", func := "loop.example/g00945/laws.FnExactNowSum", spec := "fnExactNowSum", unfollowed := true, recurses := true, apart := false, narrowed := true }
def FnExactNowSumUptoSaid : Prop := fnExactNowSumUptoRow.holds Try.pinned (OpenSpec.upto fnExactNowSumSpec)

/-- 'laws.FnExactAfterAnswer', WHERE WHAT IT READS IS OF BULK AT MOST 1048576: true; the input reads as it did. -/
def fnExactAfterAnswerUptoRow : OpenClaim := { program := "ytciempegimofhaa", sum := "ad4d9e8bb67fc332c3df909365ad433e239225bd13e43a0b2abad59efa69a067", func := "loop.example/g00945/laws.FnExactAfterAnswer", spec := "fnExactAfterAnswer", apart := false, narrowed := true }
def FnExactAfterAnswerUptoSaid : Prop := fnExactAfterAnswerUptoRow.holds Try.pinned (OpenSpec.upto fnExactAfterAnswerSpec)

/-- 'laws.FnExactHandsOf', WHERE WHAT IT READS IS OF BULK AT MOST 1048576: true; the input reads as it did. -/
def fnExactHandsOfUptoRow : OpenClaim := { program := "ytciempegimofhaa", sum := "ad4d9e8bb67fc332c3df909365ad433e239225bd13e43a0b2abad59efa69a067", func := "loop.example/g00945/laws.FnExactHandsOf", spec := "fnExactHandsOf", apart := false, narrowed := true }
def FnExactHandsOfUptoSaid : Prop := fnExactHandsOfUptoRow.holds Try.pinned (OpenSpec.upto fnExactHandsOfSpec)

/-- 'laws.FnExactKnewIt', WHERE WHAT IT READS IS OF BULK AT MOST 1048576: true; the input reads as it did. -/
def fnExactKnewItUptoRow : OpenClaim := { program := "ytciempegimofhaa", sum := "ad4d9e8bb67fc332c3df909365ad433e239225bd13e43a0b2abad59efa69a067", func := "loop.example/g00945/laws.FnExactKnewIt", spec := "fnExactKnewIt", unfollowed := true, recurses := true, apart := false, narrowed := true }
def FnExactKnewItUptoSaid : Prop := fnExactKnewItUptoRow.holds Try.pinned (OpenSpec.upto fnExactKnewItSpec)

/-- 'laws.FnNumbers', WHERE WHAT IT READS IS OF BULK AT MOST 1048576: true; the input reads as it did. -/
def fnNumbersUptoRow : OpenClaim := { program := "ytciempegimofhaa", sum := "ad4d9e8bb67fc332c3df909365ad433e239225bd13e43a0b2abad59efa69a067", func := "loop.example/g00945/laws.FnNumbers", spec := "fnNumbers", apart := false, narrowed := true }
def FnNumbersUptoSaid : Prop := fnNumbersUptoRow.holds Try.pinned (OpenSpec.upto fnNumbersSpec)

/-- 'laws.FnExactTurnOf', WHERE WHAT IT READS IS OF BULK AT MOST 1048576: true; the input reads as it did. -/
def fnExactTurnOfUptoRow : OpenClaim := { program := "ytciempegimofhaa", sum := "ad4d9e8bb67fc332c3df909365ad433e239225bd13e43a0b2abad59efa69a067", func := "loop.example/g00945/laws.FnExactTurnOf", spec := "fnExactTurnOf", apart := false, narrowed := true }
def FnExactTurnOfUptoSaid : Prop := fnExactTurnOfUptoRow.holds Try.pinned (OpenSpec.upto fnExactTurnOfSpec)

/-- 'laws.FnExactPuzzleLimit', WHERE WHAT IT READS IS OF BULK AT MOST 1048576: true; the input reads as it did. -/
def fnExactPuzzleLimitUptoRow : OpenClaim := { program := "ytciempegimofhaa", sum := "ad4d9e8bb67fc332c3df909365ad433e239225bd13e43a0b2abad59efa69a067", func := "loop.example/g00945/laws.FnExactPuzzleLimit", spec := "fnExactPuzzleLimit", unfollowed := true, recurses := true, apart := false, narrowed := true }
def FnExactPuzzleLimitUptoSaid : Prop := fnExactPuzzleLimitUptoRow.holds Try.pinned (OpenSpec.upto fnExactPuzzleLimitSpec)

/-- 'laws.FnExactAnswersFor', WHERE WHAT IT READS IS OF BULK AT MOST 1048576: true; the input reads as it did. -/
def fnExactAnswersForUptoRow : OpenClaim := { program := "ytciempegimofhaa", sum := "ad4d9e8bb67fc332c3df909365ad433e239225bd13e43a0b2abad59efa69a067", func := "loop.example/g00945/laws.FnExactAnswersFor", spec := "fnExactAnswersFor", apart := false, narrowed := true }
def FnExactAnswersForUptoSaid : Prop := fnExactAnswersForUptoRow.holds Try.pinned (OpenSpec.upto fnExactAnswersForSpec)

/-- 'laws.FnExactAnnouncementOk', WHERE WHAT IT READS IS OF BULK AT MOST 1048576: true; the input reads as it did. -/
def fnExactAnnouncementOkUptoRow : OpenClaim := { program := "ytciempegimofhaa", sum := "ad4d9e8bb67fc332c3df909365ad433e239225bd13e43a0b2abad59efa69a067", func := "loop.example/g00945/laws.FnExactAnnouncementOk", spec := "fnExactAnnouncementOk", apart := false, narrowed := true }
def FnExactAnnouncementOkUptoSaid : Prop := fnExactAnnouncementOkUptoRow.holds Try.pinned (OpenSpec.upto fnExactAnnouncementOkSpec)

/-- 'laws.FnExactPairsLeft', WHERE WHAT IT READS IS OF BULK AT MOST 1048576: true; the input reads as it did. -/
def fnExactPairsLeftUptoRow : OpenClaim := { program := "ytciempegimofhaa", sum := "ad4d9e8bb67fc332c3df909365ad433e239225bd13e43a0b2abad59efa69a067", func := "loop.example/g00945/laws.FnExactPairsLeft", spec := "fnExactPairsLeft", apart := false, narrowed := true }
def FnExactPairsLeftUptoSaid : Prop := fnExactPairsLeftUptoRow.holds Try.pinned (OpenSpec.upto fnExactPairsLeftSpec)

/-- 'laws.FnExactPuzzlePairs', WHERE WHAT IT READS IS OF BULK AT MOST 1048576: true; the input reads as it did. -/
def fnExactPuzzlePairsUptoRow : OpenClaim := { program := "ytciempegimofhaa", sum := "ad4d9e8bb67fc332c3df909365ad433e239225bd13e43a0b2abad59efa69a067", func := "loop.example/g00945/laws.FnExactPuzzlePairs", spec := "fnExactPuzzlePairs", unfollowed := true, recurses := true, apart := false, narrowed := true }
def FnExactPuzzlePairsUptoSaid : Prop := fnExactPuzzlePairsUptoRow.holds Try.pinned (OpenSpec.upto fnExactPuzzlePairsSpec)

/-- 'laws.FnExactTellsSecond', WHERE WHAT IT READS IS OF BULK AT MOST 1048576: true; the input reads as it did. -/
def fnExactTellsSecondUptoRow : OpenClaim := { program := "ytciempegimofhaa", sum := "ad4d9e8bb67fc332c3df909365ad433e239225bd13e43a0b2abad59efa69a067", func := "loop.example/g00945/laws.FnExactTellsSecond", spec := "fnExactTellsSecond", apart := false, narrowed := true }
def FnExactTellsSecondUptoSaid : Prop := fnExactTellsSecondUptoRow.holds Try.pinned (OpenSpec.upto fnExactTellsSecondSpec)

/-- 'laws.FnExactHidesAll', WHERE WHAT IT READS IS OF BULK AT MOST 1048576: true; the input reads as it did. -/
def fnExactHidesAllUptoRow : OpenClaim := { program := "ytciempegimofhaa", sum := "ad4d9e8bb67fc332c3df909365ad433e239225bd13e43a0b2abad59efa69a067", func := "loop.example/g00945/laws.FnExactHidesAll", spec := "fnExactHidesAll", apart := false, narrowed := true }
def FnExactHidesAllUptoSaid : Prop := fnExactHidesAllUptoRow.holds Try.pinned (OpenSpec.upto fnExactHidesAllSpec)

/-- 'laws.FnExactIsSafe', WHERE WHAT IT READS IS OF BULK AT MOST 1048576: true; the input reads as it did. -/
def fnExactIsSafeUptoRow : OpenClaim := { program := "ytciempegimofhaa", sum := "ad4d9e8bb67fc332c3df909365ad433e239225bd13e43a0b2abad59efa69a067", func := "loop.example/g00945/laws.FnExactIsSafe", spec := "fnExactIsSafe", apart := false, narrowed := true }
def FnExactIsSafeUptoSaid : Prop := fnExactIsSafeUptoRow.holds Try.pinned (OpenSpec.upto fnExactIsSafeSpec)

/-- 'laws.FnExactFirstSafe', WHERE WHAT IT READS IS OF BULK AT MOST 1048576: true; the input reads as it did. -/
def fnExactFirstSafeUptoRow : OpenClaim := { program := "ytciempegimofhaa", sum := "ad4d9e8bb67fc332c3df909365ad433e239225bd13e43a0b2abad59efa69a067", func := "loop.example/g00945/laws.FnExactFirstSafe", spec := "fnExactFirstSafe", unfollowed := true, recurses := true, apart := false, narrowed := true }
def FnExactFirstSafeUptoSaid : Prop := fnExactFirstSafeUptoRow.holds Try.pinned (OpenSpec.upto fnExactFirstSafeSpec)

end Rows
end Go.Proofs.Ytciempegimofhaa
