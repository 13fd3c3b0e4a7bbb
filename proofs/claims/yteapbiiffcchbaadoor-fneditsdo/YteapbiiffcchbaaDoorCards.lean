/-
  DERIVED. GIVEN WITH THE SEED: THE CARDS: each row of YteapbiiffcchbaaDoorRows.lean that lists a variable, with what it lists TIED to the program's text (the seventh form; the later family's looks); each row that meets fmt, with fmt's text TOLD by the authors' own Lean function (tested against real Go, not proved from fmt's source: count such statements apart). THE CARD IS WHAT COUNTS. Prove the row's statement (the work); the ties are given (YteapbiiffcchbaaDoorTie.lean); close each card by the builder's one call (the guide's Derived/Test/ToyasCard.lean, 'card_holds'). Laid BY PROGRAM, IN A SANDBOX (cutbox-door.mjs). By AI agents, Wed Nov 11 2026. No macro, syntax, notation, axiom, sorry.
-/
import Derived.Test.YteapbiiffcchbaaDoorRows
import GoSem.ClaimSeven
namespace Go.Proofs.YteapbiiffcchbaaDoor
namespace Rows

/-- THE TIED CARD OF 'laws.FnEditJoin'. -/
def fnEditJoinCard : Claim7 := { stood := { row := fnEditJoinRow, standIns := [], harness := (true, "06124a4cfdb85dedaeecd8b2c313edae634e03dad06193a7f354c22053534571"), looks := false }, kinds := [], alts := [], laidByText := true, laidKinds := [.data, .pinned], laidTests := true, laidLooks := .later }
def FnEditJoinCardSaid : Prop := Claim7.holds Tryd.pinned (.plain (OpenSpec.ofChange fnEditJoinSpec)) fnEditJoinCard

/-- THE TIED CARD OF 'laws.FnSels'. -/
def fnSelsCard : Claim7 := { stood := { row := fnSelsRow, standIns := [], harness := (true, "06124a4cfdb85dedaeecd8b2c313edae634e03dad06193a7f354c22053534571"), looks := false }, kinds := [], alts := [], laidByText := true, laidKinds := [.data, .pinned], laidTests := true, laidLooks := .later }
def FnSelsCardSaid : Prop := Claim7.holds Tryd.pinned (.plain (OpenSpec.ofChange fnSelsSpec)) fnSelsCard

/-- THE TIED CARD OF 'laws.FnEditsDo'. -/
def fnEditsDoCard : Claim7 := { stood := { row := fnEditsDoRow, standIns := [], harness := (true, "06124a4cfdb85dedaeecd8b2c313edae634e03dad06193a7f354c22053534571"), looks := false }, kinds := [], alts := [], laidByText := true, laidKinds := [.data, .pinned], laidTests := true, laidLooks := .later }
def FnEditsDoCardSaid : Prop := Claim7.holds Tryd.pinned (.plain (OpenSpec.ofChange fnEditsDoSpec)) fnEditsDoCard

/-- THE TIED CARD OF 'laws.FnEditOf'. -/
def fnEditOfCard : Claim7 := { stood := { row := fnEditOfRow, standIns := [], harness := (true, "06124a4cfdb85dedaeecd8b2c313edae634e03dad06193a7f354c22053534571"), looks := false }, kinds := [], alts := [], laidByText := true, laidKinds := [.data, .pinned], laidTests := true, laidLooks := .later }
def FnEditOfCardSaid : Prop := Claim7.holds Tryd.pinned (.plain (OpenSpec.ofChange fnEditOfSpec)) fnEditOfCard

/-- THE TIED CARD OF 'laws.FnExactOutText'. -/
def fnExactOutTextCard : Claim7 := { stood := { row := fnExactOutTextRow, standIns := [], harness := (true, "06124a4cfdb85dedaeecd8b2c313edae634e03dad06193a7f354c22053534571"), looks := false }, kinds := [], alts := [], laidByText := true, laidKinds := [.data, .data, .data], laidTests := true, laidLooks := .later }
def FnExactOutTextCardSaid : Prop := Claim7.holds Tryd.pinned (.plain (OpenSpec.ofChange fnExactOutTextSpec)) fnExactOutTextCard

/-- THE TIED CARD OF 'laws.FnExactRopeEdit'. -/
def fnExactRopeEditCard : Claim7 := { stood := { row := fnExactRopeEditRow, standIns := [], harness := (true, "06124a4cfdb85dedaeecd8b2c313edae634e03dad06193a7f354c22053534571"), looks := false }, kinds := [], alts := [], laidByText := true, laidKinds := [.data, .pinned], laidTests := true, laidLooks := .later }
def FnExactRopeEditCardSaid : Prop := Claim7.holds Tryd.pinned (.plain (OpenSpec.ofChange fnExactRopeEditSpec)) fnExactRopeEditCard

/-- THE TIED CARD OF 'laws.FnExactRopeSplit'. -/
def fnExactRopeSplitCard : Claim7 := { stood := { row := fnExactRopeSplitRow, standIns := [], harness := (true, "06124a4cfdb85dedaeecd8b2c313edae634e03dad06193a7f354c22053534571"), looks := false }, kinds := [], alts := [], laidByText := true, laidKinds := [.data, .pinned], laidTests := true, laidLooks := .later }
def FnExactRopeSplitCardSaid : Prop := Claim7.holds Tryd.pinned (.plain (OpenSpec.ofChange fnExactRopeSplitSpec)) fnExactRopeSplitCard

/-- THE TIED CARD OF 'laws.FnRopeSplit'. -/
def fnRopeSplitCard : Claim7 := { stood := { row := fnRopeSplitRow, standIns := [], harness := (true, "06124a4cfdb85dedaeecd8b2c313edae634e03dad06193a7f354c22053534571"), looks := false }, kinds := [], alts := [], laidByText := true, laidKinds := [.data, .pinned], laidTests := true, laidLooks := .later }
def FnRopeSplitCardSaid : Prop := Claim7.holds Tryd.pinned (.plain (OpenSpec.ofChange fnRopeSplitSpec)) fnRopeSplitCard

/-- THE TIED CARD OF 'laws.FnRopeText'. -/
def fnRopeTextCard : Claim7 := { stood := { row := fnRopeTextRow, standIns := [], harness := (true, "06124a4cfdb85dedaeecd8b2c313edae634e03dad06193a7f354c22053534571"), looks := false }, kinds := [], alts := [], laidByText := true, laidKinds := [.data, .pinned], laidTests := true, laidLooks := .later }
def FnRopeTextCardSaid : Prop := Claim7.holds Tryd.pinned (.plain (OpenSpec.ofChange fnRopeTextSpec)) fnRopeTextCard

/-- THE SECOND FORM's CARD OF 'laws.FnEditJoin'. -/
def fnEditJoinUptoCard : Claim7 := { stood := { row := fnEditJoinUptoRow, standIns := [], harness := (true, "06124a4cfdb85dedaeecd8b2c313edae634e03dad06193a7f354c22053534571"), looks := false }, kinds := [], alts := [], laidByText := true, laidKinds := [.data, .pinned], laidTests := true, laidLooks := .later }
def FnEditJoinUptoCardSaid : Prop := Claim7.holds Tryd.pinned (.plain (OpenSpec.upto fnEditJoinSpec)) fnEditJoinUptoCard

/-- THE SECOND FORM's CARD OF 'laws.FnSels'. -/
def fnSelsUptoCard : Claim7 := { stood := { row := fnSelsUptoRow, standIns := [], harness := (true, "06124a4cfdb85dedaeecd8b2c313edae634e03dad06193a7f354c22053534571"), looks := false }, kinds := [], alts := [], laidByText := true, laidKinds := [.data, .pinned], laidTests := true, laidLooks := .later }
def FnSelsUptoCardSaid : Prop := Claim7.holds Tryd.pinned (.plain (OpenSpec.upto fnSelsSpec)) fnSelsUptoCard

/-- THE SECOND FORM's CARD OF 'laws.FnEditsDo'. -/
def fnEditsDoUptoCard : Claim7 := { stood := { row := fnEditsDoUptoRow, standIns := [], harness := (true, "06124a4cfdb85dedaeecd8b2c313edae634e03dad06193a7f354c22053534571"), looks := false }, kinds := [], alts := [], laidByText := true, laidKinds := [.data, .pinned], laidTests := true, laidLooks := .later }
def FnEditsDoUptoCardSaid : Prop := Claim7.holds Tryd.pinned (.plain (OpenSpec.upto fnEditsDoSpec)) fnEditsDoUptoCard

/-- THE SECOND FORM's CARD OF 'laws.FnEditOf'. -/
def fnEditOfUptoCard : Claim7 := { stood := { row := fnEditOfUptoRow, standIns := [], harness := (true, "06124a4cfdb85dedaeecd8b2c313edae634e03dad06193a7f354c22053534571"), looks := false }, kinds := [], alts := [], laidByText := true, laidKinds := [.data, .pinned], laidTests := true, laidLooks := .later }
def FnEditOfUptoCardSaid : Prop := Claim7.holds Tryd.pinned (.plain (OpenSpec.upto fnEditOfSpec)) fnEditOfUptoCard

/-- THE SECOND FORM's CARD OF 'laws.FnExactOutText'. -/
def fnExactOutTextUptoCard : Claim7 := { stood := { row := fnExactOutTextUptoRow, standIns := [], harness := (true, "06124a4cfdb85dedaeecd8b2c313edae634e03dad06193a7f354c22053534571"), looks := false }, kinds := [], alts := [], laidByText := true, laidKinds := [.data, .data, .data], laidTests := true, laidLooks := .later }
def FnExactOutTextUptoCardSaid : Prop := Claim7.holds Tryd.pinned (.plain (OpenSpec.upto fnExactOutTextSpec)) fnExactOutTextUptoCard

/-- THE SECOND FORM's CARD OF 'laws.FnExactRopeEdit'. -/
def fnExactRopeEditUptoCard : Claim7 := { stood := { row := fnExactRopeEditUptoRow, standIns := [], harness := (true, "06124a4cfdb85dedaeecd8b2c313edae634e03dad06193a7f354c22053534571"), looks := false }, kinds := [], alts := [], laidByText := true, laidKinds := [.data, .pinned], laidTests := true, laidLooks := .later }
def FnExactRopeEditUptoCardSaid : Prop := Claim7.holds Tryd.pinned (.plain (OpenSpec.upto fnExactRopeEditSpec)) fnExactRopeEditUptoCard

/-- THE SECOND FORM's CARD OF 'laws.FnExactRopeSplit'. -/
def fnExactRopeSplitUptoCard : Claim7 := { stood := { row := fnExactRopeSplitUptoRow, standIns := [], harness := (true, "06124a4cfdb85dedaeecd8b2c313edae634e03dad06193a7f354c22053534571"), looks := false }, kinds := [], alts := [], laidByText := true, laidKinds := [.data, .pinned], laidTests := true, laidLooks := .later }
def FnExactRopeSplitUptoCardSaid : Prop := Claim7.holds Tryd.pinned (.plain (OpenSpec.upto fnExactRopeSplitSpec)) fnExactRopeSplitUptoCard

/-- THE SECOND FORM's CARD OF 'laws.FnRopeSplit'. -/
def fnRopeSplitUptoCard : Claim7 := { stood := { row := fnRopeSplitUptoRow, standIns := [], harness := (true, "06124a4cfdb85dedaeecd8b2c313edae634e03dad06193a7f354c22053534571"), looks := false }, kinds := [], alts := [], laidByText := true, laidKinds := [.data, .pinned], laidTests := true, laidLooks := .later }
def FnRopeSplitUptoCardSaid : Prop := Claim7.holds Tryd.pinned (.plain (OpenSpec.upto fnRopeSplitSpec)) fnRopeSplitUptoCard

/-- THE SECOND FORM's CARD OF 'laws.FnRopeText'. -/
def fnRopeTextUptoCard : Claim7 := { stood := { row := fnRopeTextUptoRow, standIns := [], harness := (true, "06124a4cfdb85dedaeecd8b2c313edae634e03dad06193a7f354c22053534571"), looks := false }, kinds := [], alts := [], laidByText := true, laidKinds := [.data, .pinned], laidTests := true, laidLooks := .later }
def FnRopeTextUptoCardSaid : Prop := Claim7.holds Tryd.pinned (.plain (OpenSpec.upto fnRopeTextSpec)) fnRopeTextUptoCard
end Rows
end Go.Proofs.YteapbiiffcchbaaDoor
