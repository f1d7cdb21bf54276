/-
  NARROWER THAN 'FOR EVERY INPUT', by the rows' own cells (each row's printed sentence says how): ValueRights: loops · ValueMakes: loops · ValueSames: loops · ValueGets: loops · ValueKids: loops · ValueAlike: loops · FieldsPuts: loops · FieldsSymbols: loops · FieldsPlays: loops · FieldsSpoils: loops · OutcomeBack: loops.
  DERIVED. THE GIVEN ROWS OF THIS SEAT. 11 by the template 'for every input the law returns true; each argument reads behind the call as it read before'; 0 by the template 'total and deterministic' (their statements: YtdilbnggedidnaaTotals.lean).
  GIVEN WITH THE SEED: the statements are not yours to turn. If you find one false, say at which input.
  Laid BY PROGRAM, IN A SANDBOX (cutbox-rows.mjs): the forced cells as the released guide's own fill.sh prints them over the translation 4134cbd0042f5c06… (all of the seat's roots in one cut). By AI agents, Wed Nov 11 2026. No macro, syntax, notation, axiom, sorry.
-/
import Derived.Test.YtdilbnggedidnaaChecked
import GoSem.Claim
import GoSem.ClaimJoined
import GoSem.ClaimMapViews
import Derived.JoinedTies
import Derived.KernelRfl
namespace Go.Proofs.Ytdilbnggedidnaa
/- THE CELL 'sum', in the pinned program and in every row, IS THE sha256 OF THE DUMP (.gsa) THAT YtdilbnggedidnaaProg.lean LOADS. Nothing in Lean hashes anything: it is a label: what it is worth is what the hold of that sum in a sandbox is worth. -/
noncomputable def Try.pinned : Pinned := { name := "ytdilbnggedidnaa", sum := "4134cbd0042f5c0667c460ef26cea91fe08e3ab386fe2e5c9719ecc3ea8b03f3", checked := Try.checked }
namespace Rows
def none {H : Type} : Left H := { results := [], args := [] }

/-- 'bellwetherlaw04.ValueRights': WHATEVER THE INPUT: true; the input reads as it did. -/
def valueRightsSpec : ChangeSpec := { name := "valueRights", fn := fun _ => fun
  | [d] => { results := [.lit (.bool true)], args := [d] }
  | _ => none }
def valueRightsRow : OpenClaim := { program := "ytdilbnggedidnaa", sum := "4134cbd0042f5c0667c460ef26cea91fe08e3ab386fe2e5c9719ecc3ea8b03f3", func := "bellwether/bellwetherlaw04.ValueRights", spec := "valueRights", unfollowed := true, recurses := true, loops := true, apart := false }
def ValueRightsSaid : Prop := valueRightsRow.holds Try.pinned (OpenSpec.ofChange valueRightsSpec)

/-- ITS FALSE NEIGHBOUR: 'it returns false'. Refute it at one input. -/
def valueRightsWrong : ChangeSpec := { name := "valueRights", fn := fun _ => fun
  | [d] => { results := [.lit (.bool false)], args := [d] }
  | _ => none }
def ValueRightsWrongFalsely : Prop := valueRightsRow.holds Try.pinned (OpenSpec.ofChange valueRightsWrong)

/-- 'bellwetherlaw04.ValueMakes': WHATEVER THE INPUT: true; the input reads as it did. -/
def valueMakesSpec : ChangeSpec := { name := "valueMakes", fn := fun _ => fun
  | [d1, d2, d3, d4] => { results := [.lit (.bool true)], args := [d1, d2, d3, d4] }
  | _ => none }
def valueMakesRow : OpenClaim := { program := "ytdilbnggedidnaa", sum := "4134cbd0042f5c0667c460ef26cea91fe08e3ab386fe2e5c9719ecc3ea8b03f3", func := "bellwether/bellwetherlaw04.ValueMakes", spec := "valueMakes", unfollowed := true, recurses := true, loops := true, apart := false }
def ValueMakesSaid : Prop := valueMakesRow.holds Try.pinned (OpenSpec.ofChange valueMakesSpec)

/-- ITS FALSE NEIGHBOUR: 'it returns false'. Refute it at one input. -/
def valueMakesWrong : ChangeSpec := { name := "valueMakes", fn := fun _ => fun
  | [d1, d2, d3, d4] => { results := [.lit (.bool false)], args := [d1, d2, d3, d4] }
  | _ => none }
def ValueMakesWrongFalsely : Prop := valueMakesRow.holds Try.pinned (OpenSpec.ofChange valueMakesWrong)

/-- 'bellwetherlaw04.ValueSames': WHATEVER THE INPUT: true; the input reads as it did. -/
def valueSamesSpec : ChangeSpec := { name := "valueSames", fn := fun _ => fun
  | [d1, d2] => { results := [.lit (.bool true)], args := [d1, d2] }
  | _ => none }
def valueSamesRow : OpenClaim := { program := "ytdilbnggedidnaa", sum := "4134cbd0042f5c0667c460ef26cea91fe08e3ab386fe2e5c9719ecc3ea8b03f3", func := "bellwether/bellwetherlaw04.ValueSames", spec := "valueSames", unfollowed := true, recurses := true, loops := true, apart := false }
def ValueSamesSaid : Prop := valueSamesRow.holds Try.pinned (OpenSpec.ofChange valueSamesSpec)

/-- ITS FALSE NEIGHBOUR: 'it returns false'. Refute it at one input. -/
def valueSamesWrong : ChangeSpec := { name := "valueSames", fn := fun _ => fun
  | [d1, d2] => { results := [.lit (.bool false)], args := [d1, d2] }
  | _ => none }
def ValueSamesWrongFalsely : Prop := valueSamesRow.holds Try.pinned (OpenSpec.ofChange valueSamesWrong)

/-- 'bellwetherlaw04.ValueGets': WHATEVER THE INPUT: true; the input reads as it did. -/
def valueGetsSpec : ChangeSpec := { name := "valueGets", fn := fun _ => fun
  | [d1, d2] => { results := [.lit (.bool true)], args := [d1, d2] }
  | _ => none }
def valueGetsRow : OpenClaim := { program := "ytdilbnggedidnaa", sum := "4134cbd0042f5c0667c460ef26cea91fe08e3ab386fe2e5c9719ecc3ea8b03f3", func := "bellwether/bellwetherlaw04.ValueGets", spec := "valueGets", unfollowed := true, recurses := true, loops := true, apart := false }
def ValueGetsSaid : Prop := valueGetsRow.holds Try.pinned (OpenSpec.ofChange valueGetsSpec)

/-- ITS FALSE NEIGHBOUR: 'it returns false'. Refute it at one input. -/
def valueGetsWrong : ChangeSpec := { name := "valueGets", fn := fun _ => fun
  | [d1, d2] => { results := [.lit (.bool false)], args := [d1, d2] }
  | _ => none }
def ValueGetsWrongFalsely : Prop := valueGetsRow.holds Try.pinned (OpenSpec.ofChange valueGetsWrong)

/-- 'bellwetherlaw04.ValueKids': WHATEVER THE INPUT: true; the input reads as it did. -/
def valueKidsSpec : ChangeSpec := { name := "valueKids", fn := fun _ => fun
  | [d1, d2] => { results := [.lit (.bool true)], args := [d1, d2] }
  | _ => none }
def valueKidsRow : OpenClaim := { program := "ytdilbnggedidnaa", sum := "4134cbd0042f5c0667c460ef26cea91fe08e3ab386fe2e5c9719ecc3ea8b03f3", func := "bellwether/bellwetherlaw04.ValueKids", spec := "valueKids", unfollowed := true, recurses := true, loops := true, apart := false }
def ValueKidsSaid : Prop := valueKidsRow.holds Try.pinned (OpenSpec.ofChange valueKidsSpec)

/-- ITS FALSE NEIGHBOUR: 'it returns false'. Refute it at one input. -/
def valueKidsWrong : ChangeSpec := { name := "valueKids", fn := fun _ => fun
  | [d1, d2] => { results := [.lit (.bool false)], args := [d1, d2] }
  | _ => none }
def ValueKidsWrongFalsely : Prop := valueKidsRow.holds Try.pinned (OpenSpec.ofChange valueKidsWrong)

/-- 'bellwetherlaw04.ValueAlike': WHATEVER THE INPUT: true; the input reads as it did. -/
def valueAlikeSpec : ChangeSpec := { name := "valueAlike", fn := fun _ => fun
  | [d] => { results := [.lit (.bool true)], args := [d] }
  | _ => none }
def valueAlikeRow : OpenClaim := { program := "ytdilbnggedidnaa", sum := "4134cbd0042f5c0667c460ef26cea91fe08e3ab386fe2e5c9719ecc3ea8b03f3", func := "bellwether/bellwetherlaw04.ValueAlike", spec := "valueAlike", unfollowed := true, recurses := true, loops := true, apart := false }
def ValueAlikeSaid : Prop := valueAlikeRow.holds Try.pinned (OpenSpec.ofChange valueAlikeSpec)

/-- ITS FALSE NEIGHBOUR: 'it returns false'. Refute it at one input. -/
def valueAlikeWrong : ChangeSpec := { name := "valueAlike", fn := fun _ => fun
  | [d] => { results := [.lit (.bool false)], args := [d] }
  | _ => none }
def ValueAlikeWrongFalsely : Prop := valueAlikeRow.holds Try.pinned (OpenSpec.ofChange valueAlikeWrong)

/-- 'bellwetherlaw07.FieldsPuts': WHATEVER THE INPUT: true; the input reads as it did. -/
def fieldsPutsSpec : ChangeSpec := { name := "fieldsPuts", fn := fun _ => fun
  | [d1, d2] => { results := [.lit (.bool true)], args := [d1, d2] }
  | _ => none }
def fieldsPutsRow : OpenClaim := { program := "ytdilbnggedidnaa", sum := "4134cbd0042f5c0667c460ef26cea91fe08e3ab386fe2e5c9719ecc3ea8b03f3", func := "bellwether/bellwetherlaw07.FieldsPuts", spec := "fieldsPuts", unfollowed := true, recurses := true, loops := true, apart := false }
def FieldsPutsSaid : Prop := fieldsPutsRow.holds Try.pinned (OpenSpec.ofChange fieldsPutsSpec)

/-- ITS FALSE NEIGHBOUR: 'it returns false'. Refute it at one input. -/
def fieldsPutsWrong : ChangeSpec := { name := "fieldsPuts", fn := fun _ => fun
  | [d1, d2] => { results := [.lit (.bool false)], args := [d1, d2] }
  | _ => none }
def FieldsPutsWrongFalsely : Prop := fieldsPutsRow.holds Try.pinned (OpenSpec.ofChange fieldsPutsWrong)

/-- 'bellwetherlaw07.FieldsSymbols': WHATEVER THE INPUT: true; the input reads as it did. -/
def fieldsSymbolsSpec : ChangeSpec := { name := "fieldsSymbols", fn := fun _ => fun
  | [d1, d2] => { results := [.lit (.bool true)], args := [d1, d2] }
  | _ => none }
def fieldsSymbolsRow : OpenClaim := { program := "ytdilbnggedidnaa", sum := "4134cbd0042f5c0667c460ef26cea91fe08e3ab386fe2e5c9719ecc3ea8b03f3", func := "bellwether/bellwetherlaw07.FieldsSymbols", spec := "fieldsSymbols", unfollowed := true, recurses := true, loops := true, apart := false }
def FieldsSymbolsSaid : Prop := fieldsSymbolsRow.holds Try.pinned (OpenSpec.ofChange fieldsSymbolsSpec)

/-- ITS FALSE NEIGHBOUR: 'it returns false'. Refute it at one input. -/
def fieldsSymbolsWrong : ChangeSpec := { name := "fieldsSymbols", fn := fun _ => fun
  | [d1, d2] => { results := [.lit (.bool false)], args := [d1, d2] }
  | _ => none }
def FieldsSymbolsWrongFalsely : Prop := fieldsSymbolsRow.holds Try.pinned (OpenSpec.ofChange fieldsSymbolsWrong)

/-- 'bellwetherlaw07.FieldsPlays': WHATEVER THE INPUT: true; the input reads as it did. -/
def fieldsPlaysSpec : ChangeSpec := { name := "fieldsPlays", fn := fun _ => fun
  | [d1, d2, d3, d4] => { results := [.lit (.bool true)], args := [d1, d2, d3, d4] }
  | _ => none }
def fieldsPlaysRow : OpenClaim := { program := "ytdilbnggedidnaa", sum := "4134cbd0042f5c0667c460ef26cea91fe08e3ab386fe2e5c9719ecc3ea8b03f3", func := "bellwether/bellwetherlaw07.FieldsPlays", spec := "fieldsPlays", unfollowed := true, recurses := true, loops := true, apart := false }
def FieldsPlaysSaid : Prop := fieldsPlaysRow.holds Try.pinned (OpenSpec.ofChange fieldsPlaysSpec)

/-- ITS FALSE NEIGHBOUR: 'it returns false'. Refute it at one input. -/
def fieldsPlaysWrong : ChangeSpec := { name := "fieldsPlays", fn := fun _ => fun
  | [d1, d2, d3, d4] => { results := [.lit (.bool false)], args := [d1, d2, d3, d4] }
  | _ => none }
def FieldsPlaysWrongFalsely : Prop := fieldsPlaysRow.holds Try.pinned (OpenSpec.ofChange fieldsPlaysWrong)

/-- 'bellwetherlaw07.FieldsSpoils': WHATEVER THE INPUT: true; the input reads as it did. -/
def fieldsSpoilsSpec : ChangeSpec := { name := "fieldsSpoils", fn := fun _ => fun
  | [d1, d2] => { results := [.lit (.bool true)], args := [d1, d2] }
  | _ => none }
def fieldsSpoilsRow : OpenClaim := { program := "ytdilbnggedidnaa", sum := "4134cbd0042f5c0667c460ef26cea91fe08e3ab386fe2e5c9719ecc3ea8b03f3", func := "bellwether/bellwetherlaw07.FieldsSpoils", spec := "fieldsSpoils", unfollowed := true, recurses := true, loops := true, apart := false }
def FieldsSpoilsSaid : Prop := fieldsSpoilsRow.holds Try.pinned (OpenSpec.ofChange fieldsSpoilsSpec)

/-- ITS FALSE NEIGHBOUR: 'it returns false'. Refute it at one input. -/
def fieldsSpoilsWrong : ChangeSpec := { name := "fieldsSpoils", fn := fun _ => fun
  | [d1, d2] => { results := [.lit (.bool false)], args := [d1, d2] }
  | _ => none }
def FieldsSpoilsWrongFalsely : Prop := fieldsSpoilsRow.holds Try.pinned (OpenSpec.ofChange fieldsSpoilsWrong)

/-- 'bellwetherlaw08.OutcomeBack': WHATEVER THE INPUT: true; the input reads as it did. -/
def outcomeBackSpec : ChangeSpec := { name := "outcomeBack", fn := fun _ => fun
  | [d1, d2, d3] => { results := [.lit (.bool true)], args := [d1, d2, d3] }
  | _ => none }
def outcomeBackRow : OpenClaim := { program := "ytdilbnggedidnaa", sum := "4134cbd0042f5c0667c460ef26cea91fe08e3ab386fe2e5c9719ecc3ea8b03f3", func := "bellwether/bellwetherlaw08.OutcomeBack", spec := "outcomeBack", unfollowed := true, recurses := true, loops := true, apart := false }
def OutcomeBackSaid : Prop := outcomeBackRow.holds Try.pinned (OpenSpec.ofChange outcomeBackSpec)

/-- ITS FALSE NEIGHBOUR: 'it returns false'. Refute it at one input. -/
def outcomeBackWrong : ChangeSpec := { name := "outcomeBack", fn := fun _ => fun
  | [d1, d2, d3] => { results := [.lit (.bool false)], args := [d1, d2, d3] }
  | _ => none }
def OutcomeBackWrongFalsely : Prop := outcomeBackRow.holds Try.pinned (OpenSpec.ofChange outcomeBackWrong)

/- THE SECOND FORM. 'bulk': how many values and letters a reading holds, each counted each time it is reached (what is shared counts as often as it is met; a slice's spare places count too). A statement '..UptoSaid' is the law's where the arguments, and the package variables that the reading takes, are together of bulk at most 1048576: NARROWER than '..Said'. Prove '..Said' where nothing that the law and all that it calls make is longer than what came in: it says more and counts as full. Else prove '..UptoSaid'. A law counts once. -/
mutual
def uptoBulk {H : Type} : DataW H → Nat
  | .lit (.string bytes) => bytes.length + 1
  | .lit _ => 1
  | .nil => 1
  | .ptr d => uptoBulk d + 1
  | .slice elems spare => uptoBulkAll elems + uptoBulkAll spare + 1
  | .agg parts => uptoBulkAll parts + 1
  | .iface _ d => uptoBulk d + 1
  | .map entries => uptoBulkEntries entries + 1
  | .held _ => 1
def uptoBulkAll {H : Type} : List (DataW H) → Nat
  | [] => 0
  | d :: r => uptoBulk d + uptoBulkAll r
def uptoBulkEntries {H : Type} : List (Lit × DataW H) → Nat
  | [] => 0
  | x :: r => uptoBulkEntry x + uptoBulkEntries r
def uptoBulkEntry {H : Type} : Lit × DataW H → Nat
  | (.string bytes, d) => bytes.length + uptoBulk d + 1
  | (_, d) => uptoBulk d + 1
 end
def uptoSmall : (H : Type) → List (DataW H) → Bool := fun _ ds => decide (uptoBulkAll ds ≤ 1048576)
def OpenSpec.upto (s : _root_.Go.ChangeSpec) : _root_.Go.OpenSpec := { _root_.Go.OpenSpec.ofChange s with cond := some uptoSmall }

/-- 'bellwetherlaw04.ValueRights', WHERE WHAT IT READS IS OF BULK AT MOST 1048576: true; the input reads as it did. -/
def valueRightsUptoRow : OpenClaim := { program := "ytdilbnggedidnaa", sum := "4134cbd0042f5c0667c460ef26cea91fe08e3ab386fe2e5c9719ecc3ea8b03f3", func := "bellwether/bellwetherlaw04.ValueRights", spec := "valueRights", unfollowed := true, recurses := true, loops := true, apart := false, narrowed := true }
def ValueRightsUptoSaid : Prop := valueRightsUptoRow.holds Try.pinned (OpenSpec.upto valueRightsSpec)

/-- 'bellwetherlaw04.ValueMakes', WHERE WHAT IT READS IS OF BULK AT MOST 1048576: true; the input reads as it did. -/
def valueMakesUptoRow : OpenClaim := { program := "ytdilbnggedidnaa", sum := "4134cbd0042f5c0667c460ef26cea91fe08e3ab386fe2e5c9719ecc3ea8b03f3", func := "bellwether/bellwetherlaw04.ValueMakes", spec := "valueMakes", unfollowed := true, recurses := true, loops := true, apart := false, narrowed := true }
def ValueMakesUptoSaid : Prop := valueMakesUptoRow.holds Try.pinned (OpenSpec.upto valueMakesSpec)

/-- 'bellwetherlaw04.ValueSames', WHERE WHAT IT READS IS OF BULK AT MOST 1048576: true; the input reads as it did. -/
def valueSamesUptoRow : OpenClaim := { program := "ytdilbnggedidnaa", sum := "4134cbd0042f5c0667c460ef26cea91fe08e3ab386fe2e5c9719ecc3ea8b03f3", func := "bellwether/bellwetherlaw04.ValueSames", spec := "valueSames", unfollowed := true, recurses := true, loops := true, apart := false, narrowed := true }
def ValueSamesUptoSaid : Prop := valueSamesUptoRow.holds Try.pinned (OpenSpec.upto valueSamesSpec)

/-- 'bellwetherlaw04.ValueGets', WHERE WHAT IT READS IS OF BULK AT MOST 1048576: true; the input reads as it did. -/
def valueGetsUptoRow : OpenClaim := { program := "ytdilbnggedidnaa", sum := "4134cbd0042f5c0667c460ef26cea91fe08e3ab386fe2e5c9719ecc3ea8b03f3", func := "bellwether/bellwetherlaw04.ValueGets", spec := "valueGets", unfollowed := true, recurses := true, loops := true, apart := false, narrowed := true }
def ValueGetsUptoSaid : Prop := valueGetsUptoRow.holds Try.pinned (OpenSpec.upto valueGetsSpec)

/-- 'bellwetherlaw04.ValueKids', WHERE WHAT IT READS IS OF BULK AT MOST 1048576: true; the input reads as it did. -/
def valueKidsUptoRow : OpenClaim := { program := "ytdilbnggedidnaa", sum := "4134cbd0042f5c0667c460ef26cea91fe08e3ab386fe2e5c9719ecc3ea8b03f3", func := "bellwether/bellwetherlaw04.ValueKids", spec := "valueKids", unfollowed := true, recurses := true, loops := true, apart := false, narrowed := true }
def ValueKidsUptoSaid : Prop := valueKidsUptoRow.holds Try.pinned (OpenSpec.upto valueKidsSpec)

/-- 'bellwetherlaw04.ValueAlike', WHERE WHAT IT READS IS OF BULK AT MOST 1048576: true; the input reads as it did. -/
def valueAlikeUptoRow : OpenClaim := { program := "ytdilbnggedidnaa", sum := "4134cbd0042f5c0667c460ef26cea91fe08e3ab386fe2e5c9719ecc3ea8b03f3", func := "bellwether/bellwetherlaw04.ValueAlike", spec := "valueAlike", unfollowed := true, recurses := true, loops := true, apart := false, narrowed := true }
def ValueAlikeUptoSaid : Prop := valueAlikeUptoRow.holds Try.pinned (OpenSpec.upto valueAlikeSpec)

/-- 'bellwetherlaw07.FieldsPuts', WHERE WHAT IT READS IS OF BULK AT MOST 1048576: true; the input reads as it did. -/
def fieldsPutsUptoRow : OpenClaim := { program := "ytdilbnggedidnaa", sum := "4134cbd0042f5c0667c460ef26cea91fe08e3ab386fe2e5c9719ecc3ea8b03f3", func := "bellwether/bellwetherlaw07.FieldsPuts", spec := "fieldsPuts", unfollowed := true, recurses := true, loops := true, apart := false, narrowed := true }
def FieldsPutsUptoSaid : Prop := fieldsPutsUptoRow.holds Try.pinned (OpenSpec.upto fieldsPutsSpec)

/-- 'bellwetherlaw07.FieldsSymbols', WHERE WHAT IT READS IS OF BULK AT MOST 1048576: true; the input reads as it did. -/
def fieldsSymbolsUptoRow : OpenClaim := { program := "ytdilbnggedidnaa", sum := "4134cbd0042f5c0667c460ef26cea91fe08e3ab386fe2e5c9719ecc3ea8b03f3", func := "bellwether/bellwetherlaw07.FieldsSymbols", spec := "fieldsSymbols", unfollowed := true, recurses := true, loops := true, apart := false, narrowed := true }
def FieldsSymbolsUptoSaid : Prop := fieldsSymbolsUptoRow.holds Try.pinned (OpenSpec.upto fieldsSymbolsSpec)

/-- 'bellwetherlaw07.FieldsPlays', WHERE WHAT IT READS IS OF BULK AT MOST 1048576: true; the input reads as it did. -/
def fieldsPlaysUptoRow : OpenClaim := { program := "ytdilbnggedidnaa", sum := "4134cbd0042f5c0667c460ef26cea91fe08e3ab386fe2e5c9719ecc3ea8b03f3", func := "bellwether/bellwetherlaw07.FieldsPlays", spec := "fieldsPlays", unfollowed := true, recurses := true, loops := true, apart := false, narrowed := true }
def FieldsPlaysUptoSaid : Prop := fieldsPlaysUptoRow.holds Try.pinned (OpenSpec.upto fieldsPlaysSpec)

/-- 'bellwetherlaw07.FieldsSpoils', WHERE WHAT IT READS IS OF BULK AT MOST 1048576: true; the input reads as it did. -/
def fieldsSpoilsUptoRow : OpenClaim := { program := "ytdilbnggedidnaa", sum := "4134cbd0042f5c0667c460ef26cea91fe08e3ab386fe2e5c9719ecc3ea8b03f3", func := "bellwether/bellwetherlaw07.FieldsSpoils", spec := "fieldsSpoils", unfollowed := true, recurses := true, loops := true, apart := false, narrowed := true }
def FieldsSpoilsUptoSaid : Prop := fieldsSpoilsUptoRow.holds Try.pinned (OpenSpec.upto fieldsSpoilsSpec)

/-- 'bellwetherlaw08.OutcomeBack', WHERE WHAT IT READS IS OF BULK AT MOST 1048576: true; the input reads as it did. -/
def outcomeBackUptoRow : OpenClaim := { program := "ytdilbnggedidnaa", sum := "4134cbd0042f5c0667c460ef26cea91fe08e3ab386fe2e5c9719ecc3ea8b03f3", func := "bellwether/bellwetherlaw08.OutcomeBack", spec := "outcomeBack", unfollowed := true, recurses := true, loops := true, apart := false, narrowed := true }
def OutcomeBackUptoSaid : Prop := outcomeBackUptoRow.holds Try.pinned (OpenSpec.upto outcomeBackSpec)

end Rows
end Go.Proofs.Ytdilbnggedidnaa
