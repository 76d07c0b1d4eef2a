/-
  DERIVED. GIVEN WITH THE SEED: THE CARDS: each row of YtakkookpjhaekaaDoorRows.lean that lists a variable, with what it lists TIED to the program's text (the seventh form; the later family's looks); each row that meets fmt, with fmt's text TOLD by the authors' own Lean function (tested against real Go, not proved from fmt's source: count such statements apart). THE CARD IS WHAT COUNTS. Prove the row's statement (the work); the ties are given (YtakkookpjhaekaaDoorTie.lean); close each card by the builder's one call (the guide's Derived/Test/ToyasCard.lean, 'card_holds'). Laid BY PROGRAM, IN A SANDBOX (cutbox-door.mjs). By AI agents, Wed Nov 11 2026. No macro, syntax, notation, axiom, sorry.
-/
import Derived.Test.YtakkookpjhaekaaDoorRows
import GoSem.ClaimSeven
namespace Go.Proofs.YtakkookpjhaekaaDoor
namespace Rows

/-- THE TIED CARD OF 'sandglasslaw16.PrioTells'. -/
def prioTellsCard : Claim7 := { stood := { row := prioTellsRow, standIns := [], harness := (true, "6db762e17d2e6f2daf9235b032c2df869ad922bfff35eaa97f2935e0fee084a9"), looks := false }, kinds := [], alts := [], laidByText := true, laidKinds := [.data], laidTests := true, laidLooks := .later }
def PrioTellsCardSaid : Prop := Claim7.holds Tryd.pinned (.plain (OpenSpec.ofChange prioTellsSpec)) prioTellsCard

/-- THE TIED CARD OF 'sandglasslaw16.PrioOnce'. -/
def prioOnceCard : Claim7 := { stood := { row := prioOnceRow, standIns := [], harness := (true, "6db762e17d2e6f2daf9235b032c2df869ad922bfff35eaa97f2935e0fee084a9"), looks := false }, kinds := [], alts := [], laidByText := true, laidKinds := [.data], laidTests := true, laidLooks := .later }
def PrioOnceCardSaid : Prop := Claim7.holds Tryd.pinned (.plain (OpenSpec.ofChange prioOnceSpec)) prioOnceCard

/-- THE TIED CARD OF 'sandglasslaw16.PrioTurn'. -/
def prioTurnCard : Claim7 := { stood := { row := prioTurnRow, standIns := [], harness := (true, "6db762e17d2e6f2daf9235b032c2df869ad922bfff35eaa97f2935e0fee084a9"), looks := false }, kinds := [], alts := [], laidByText := true, laidKinds := [.data], laidTests := true, laidLooks := .later }
def PrioTurnCardSaid : Prop := Claim7.holds Tryd.pinned (.plain (OpenSpec.ofChange prioTurnSpec)) prioTurnCard

/-- THE TIED CARD OF 'sandglasslaw16.PrioUsual'. -/
def prioUsualCard : Claim7 := { stood := { row := prioUsualRow, standIns := [], harness := (true, "6db762e17d2e6f2daf9235b032c2df869ad922bfff35eaa97f2935e0fee084a9"), looks := false }, kinds := [], alts := [], laidByText := true, laidKinds := [.data], laidTests := true, laidLooks := .later }
def PrioUsualCardSaid : Prop := Claim7.holds Tryd.pinned (.plain (OpenSpec.ofChange prioUsualSpec)) prioUsualCard

/-- THE TIED CARD OF 'sandglasslaw16.PrioBeyond'. -/
def prioBeyondCard : Claim7 := { stood := { row := prioBeyondRow, standIns := [], harness := (true, "6db762e17d2e6f2daf9235b032c2df869ad922bfff35eaa97f2935e0fee084a9"), looks := false }, kinds := [], alts := [], laidByText := true, laidKinds := [.data], laidTests := true, laidLooks := .later }
def PrioBeyondCardSaid : Prop := Claim7.holds Tryd.pinned (.plain (OpenSpec.ofChange prioBeyondSpec)) prioBeyondCard

/-- THE TIED CARD OF 'sandglasslaw22.ConfTells'. -/
def confTellsCard : Claim7 := { stood := { row := confTellsRow, standIns := [], harness := (true, "6db762e17d2e6f2daf9235b032c2df869ad922bfff35eaa97f2935e0fee084a9"), looks := false }, kinds := [], alts := [], laidByText := true, laidKinds := [.data], laidTests := true, laidLooks := .later }
def ConfTellsCardSaid : Prop := Claim7.holds Tryd.pinned (.plain (OpenSpec.ofChange confTellsSpec)) confTellsCard

/-- THE TIED CARD OF 'sandglasslaw22.ConfUsual'. -/
def confUsualCard : Claim7 := { stood := { row := confUsualRow, standIns := [], harness := (true, "6db762e17d2e6f2daf9235b032c2df869ad922bfff35eaa97f2935e0fee084a9"), looks := false }, kinds := [], alts := [], laidByText := true, laidKinds := [.data], laidTests := true, laidLooks := .later }
def ConfUsualCardSaid : Prop := Claim7.holds Tryd.pinned (.plain (OpenSpec.ofChange confUsualSpec)) confUsualCard

/-- THE TIED CARD OF 'sandglasslaw22.ConfWrong'. -/
def confWrongCard : Claim7 := { stood := { row := confWrongRow, standIns := [], harness := (true, "6db762e17d2e6f2daf9235b032c2df869ad922bfff35eaa97f2935e0fee084a9"), looks := false }, kinds := [], alts := [], laidByText := true, laidKinds := [.data], laidTests := true, laidLooks := .later }
def ConfWrongCardSaid : Prop := Claim7.holds Tryd.pinned (.plain (OpenSpec.ofChange confWrongSpec)) confWrongCard

/-- THE TIED CARD OF 'sandglasslaw22.ConfEnds'. -/
def confEndsCard : Claim7 := { stood := { row := confEndsRow, standIns := [], harness := (true, "6db762e17d2e6f2daf9235b032c2df869ad922bfff35eaa97f2935e0fee084a9"), looks := false }, kinds := [], alts := [], laidByText := true, laidKinds := [.data], laidTests := true, laidLooks := .later }
def ConfEndsCardSaid : Prop := Claim7.holds Tryd.pinned (.plain (OpenSpec.ofChange confEndsSpec)) confEndsCard

/-- THE SECOND FORM's CARD OF 'sandglasslaw16.PrioTells'. -/
def prioTellsUptoCard : Claim7 := { stood := { row := prioTellsUptoRow, standIns := [], harness := (true, "6db762e17d2e6f2daf9235b032c2df869ad922bfff35eaa97f2935e0fee084a9"), looks := false }, kinds := [], alts := [], laidByText := true, laidKinds := [.data], laidTests := true, laidLooks := .later }
def PrioTellsUptoCardSaid : Prop := Claim7.holds Tryd.pinned (.plain (OpenSpec.upto prioTellsSpec)) prioTellsUptoCard

/-- THE SECOND FORM's CARD OF 'sandglasslaw16.PrioOnce'. -/
def prioOnceUptoCard : Claim7 := { stood := { row := prioOnceUptoRow, standIns := [], harness := (true, "6db762e17d2e6f2daf9235b032c2df869ad922bfff35eaa97f2935e0fee084a9"), looks := false }, kinds := [], alts := [], laidByText := true, laidKinds := [.data], laidTests := true, laidLooks := .later }
def PrioOnceUptoCardSaid : Prop := Claim7.holds Tryd.pinned (.plain (OpenSpec.upto prioOnceSpec)) prioOnceUptoCard

/-- THE SECOND FORM's CARD OF 'sandglasslaw16.PrioTurn'. -/
def prioTurnUptoCard : Claim7 := { stood := { row := prioTurnUptoRow, standIns := [], harness := (true, "6db762e17d2e6f2daf9235b032c2df869ad922bfff35eaa97f2935e0fee084a9"), looks := false }, kinds := [], alts := [], laidByText := true, laidKinds := [.data], laidTests := true, laidLooks := .later }
def PrioTurnUptoCardSaid : Prop := Claim7.holds Tryd.pinned (.plain (OpenSpec.upto prioTurnSpec)) prioTurnUptoCard

/-- THE SECOND FORM's CARD OF 'sandglasslaw16.PrioUsual'. -/
def prioUsualUptoCard : Claim7 := { stood := { row := prioUsualUptoRow, standIns := [], harness := (true, "6db762e17d2e6f2daf9235b032c2df869ad922bfff35eaa97f2935e0fee084a9"), looks := false }, kinds := [], alts := [], laidByText := true, laidKinds := [.data], laidTests := true, laidLooks := .later }
def PrioUsualUptoCardSaid : Prop := Claim7.holds Tryd.pinned (.plain (OpenSpec.upto prioUsualSpec)) prioUsualUptoCard

/-- THE SECOND FORM's CARD OF 'sandglasslaw16.PrioBeyond'. -/
def prioBeyondUptoCard : Claim7 := { stood := { row := prioBeyondUptoRow, standIns := [], harness := (true, "6db762e17d2e6f2daf9235b032c2df869ad922bfff35eaa97f2935e0fee084a9"), looks := false }, kinds := [], alts := [], laidByText := true, laidKinds := [.data], laidTests := true, laidLooks := .later }
def PrioBeyondUptoCardSaid : Prop := Claim7.holds Tryd.pinned (.plain (OpenSpec.upto prioBeyondSpec)) prioBeyondUptoCard

/-- THE SECOND FORM's CARD OF 'sandglasslaw22.ConfTells'. -/
def confTellsUptoCard : Claim7 := { stood := { row := confTellsUptoRow, standIns := [], harness := (true, "6db762e17d2e6f2daf9235b032c2df869ad922bfff35eaa97f2935e0fee084a9"), looks := false }, kinds := [], alts := [], laidByText := true, laidKinds := [.data], laidTests := true, laidLooks := .later }
def ConfTellsUptoCardSaid : Prop := Claim7.holds Tryd.pinned (.plain (OpenSpec.upto confTellsSpec)) confTellsUptoCard

/-- THE SECOND FORM's CARD OF 'sandglasslaw22.ConfUsual'. -/
def confUsualUptoCard : Claim7 := { stood := { row := confUsualUptoRow, standIns := [], harness := (true, "6db762e17d2e6f2daf9235b032c2df869ad922bfff35eaa97f2935e0fee084a9"), looks := false }, kinds := [], alts := [], laidByText := true, laidKinds := [.data], laidTests := true, laidLooks := .later }
def ConfUsualUptoCardSaid : Prop := Claim7.holds Tryd.pinned (.plain (OpenSpec.upto confUsualSpec)) confUsualUptoCard

/-- THE SECOND FORM's CARD OF 'sandglasslaw22.ConfWrong'. -/
def confWrongUptoCard : Claim7 := { stood := { row := confWrongUptoRow, standIns := [], harness := (true, "6db762e17d2e6f2daf9235b032c2df869ad922bfff35eaa97f2935e0fee084a9"), looks := false }, kinds := [], alts := [], laidByText := true, laidKinds := [.data], laidTests := true, laidLooks := .later }
def ConfWrongUptoCardSaid : Prop := Claim7.holds Tryd.pinned (.plain (OpenSpec.upto confWrongSpec)) confWrongUptoCard

/-- THE SECOND FORM's CARD OF 'sandglasslaw22.ConfEnds'. -/
def confEndsUptoCard : Claim7 := { stood := { row := confEndsUptoRow, standIns := [], harness := (true, "6db762e17d2e6f2daf9235b032c2df869ad922bfff35eaa97f2935e0fee084a9"), looks := false }, kinds := [], alts := [], laidByText := true, laidKinds := [.data], laidTests := true, laidLooks := .later }
def ConfEndsUptoCardSaid : Prop := Claim7.holds Tryd.pinned (.plain (OpenSpec.upto confEndsSpec)) confEndsUptoCard
end Rows
end Go.Proofs.YtakkookpjhaekaaDoor
