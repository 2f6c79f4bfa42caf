/-
  DERIVED. GIVEN WITH THE SEED: THE CARDS: each row of YtlmbmfnimpjgmaaDoorRows.lean that lists a variable, with what it lists TIED to the program's text (the seventh form; the later family's looks); each row that meets fmt, with fmt's text TOLD by the authors' own Lean function (tested against real Go, not proved from fmt's source: count such statements apart). THE CARD IS WHAT COUNTS. Prove the row's statement (the work); the ties are given (YtlmbmfnimpjgmaaDoorTie.lean); close each card by the builder's one call (the guide's Derived/Test/ToyasCard.lean, 'card_holds'). Laid BY PROGRAM, IN A SANDBOX (cutbox-door.mjs). By AI agents, Wed Nov 11 2026. No macro, syntax, notation, axiom, sorry.
-/
import Derived.Test.YtlmbmfnimpjgmaaDoorRows
import GoSem.ClaimSeven
namespace Go.Proofs.YtlmbmfnimpjgmaaDoor
namespace Rows

/-- THE TIED CARD OF 'laws.FnSplitText'. -/
def fnSplitTextCard : Claim7 := { stood := { row := fnSplitTextRow, standIns := [], harness := (true, "869c45140183e0fc758fb13c080196dd39ebb6f1b9b1d81978b098a452c3f6b2"), looks := false }, kinds := [], alts := [], laidByText := true, laidKinds := [.data, .pinned], laidTests := true, laidLooks := .later }
def FnSplitTextCardSaid : Prop := Claim7.holds Tryd.pinned (.plain (OpenSpec.ofChange fnSplitTextSpec)) fnSplitTextCard

/-- THE TIED CARD OF 'laws.FnWrap'. -/
def fnWrapCard : Claim7 := { stood := { row := fnWrapRow, standIns := [], harness := (true, "869c45140183e0fc758fb13c080196dd39ebb6f1b9b1d81978b098a452c3f6b2"), looks := false }, kinds := [], alts := [], laidByText := true, laidKinds := [.data, .pinned], laidTests := true, laidLooks := .later }
def FnWrapCardSaid : Prop := Claim7.holds Tryd.pinned (.plain (OpenSpec.ofChange fnWrapSpec)) fnWrapCard

/-- THE SECOND FORM's CARD OF 'laws.FnSplitText'. -/
def fnSplitTextUptoCard : Claim7 := { stood := { row := fnSplitTextUptoRow, standIns := [], harness := (true, "869c45140183e0fc758fb13c080196dd39ebb6f1b9b1d81978b098a452c3f6b2"), looks := false }, kinds := [], alts := [], laidByText := true, laidKinds := [.data, .pinned], laidTests := true, laidLooks := .later }
def FnSplitTextUptoCardSaid : Prop := Claim7.holds Tryd.pinned (.plain (OpenSpec.upto fnSplitTextSpec)) fnSplitTextUptoCard

/-- THE SECOND FORM's CARD OF 'laws.FnWrap'. -/
def fnWrapUptoCard : Claim7 := { stood := { row := fnWrapUptoRow, standIns := [], harness := (true, "869c45140183e0fc758fb13c080196dd39ebb6f1b9b1d81978b098a452c3f6b2"), looks := false }, kinds := [], alts := [], laidByText := true, laidKinds := [.data, .pinned], laidTests := true, laidLooks := .later }
def FnWrapUptoCardSaid : Prop := Claim7.holds Tryd.pinned (.plain (OpenSpec.upto fnWrapSpec)) fnWrapUptoCard
end Rows
end Go.Proofs.YtlmbmfnimpjgmaaDoor
