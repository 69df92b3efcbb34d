/-
  DERIVED. GIVEN WITH THE SEED: THE CARDS: each row of YtmdbpbncdkdipaaDoorRows.lean that lists a variable, with what it lists TIED to the program's text (the seventh form; the later family's looks); each row that meets fmt, with fmt's text TOLD by the authors' own Lean function (tested against real Go, not proved from fmt's source: count such statements apart). THE CARD IS WHAT COUNTS. Prove the row's statement (the work); the ties are given (YtmdbpbncdkdipaaDoorTie.lean); close each card by the builder's one call (the guide's Derived/Test/ToyasCard.lean, 'card_holds'). Laid BY PROGRAM, IN A SANDBOX (cutbox-door.mjs). By AI agents, Wed Nov 11 2026. No macro, syntax, notation, axiom, sorry.
-/
import Derived.Test.YtmdbpbncdkdipaaDoorRows
import GoSem.ClaimSeven
namespace Go.Proofs.YtmdbpbncdkdipaaDoor
namespace Rows

/-- THE TIED CARD OF 'airchecklaw38.JudgeMatchesReference'. -/
def judgeMatchesReferenceCard : Claim7 := { stood := { row := judgeMatchesReferenceRow, standIns := [], harness := (true, "984cbd4f47a36de3f3a8c7c863464373dfcfd4b99001369f46eb545d6c858c9f"), looks := false }, kinds := [], alts := [], laidByText := true, laidKinds := [.funcs], laidTests := true, laidLooks := .later }
def JudgeMatchesReferenceCardSaid : Prop := Claim7.holds Tryd.pinned (.plain (OpenSpec.ofChange judgeMatchesReferenceSpec)) judgeMatchesReferenceCard

/-- THE TIED CARD OF 'airchecklaw38.JudgeDoubts'. -/
def judgeDoubtsCard : Claim7 := { stood := { row := judgeDoubtsRow, standIns := [], harness := (true, "984cbd4f47a36de3f3a8c7c863464373dfcfd4b99001369f46eb545d6c858c9f"), looks := false }, kinds := [], alts := [], laidByText := true, laidKinds := [.funcs], laidTests := true, laidLooks := .later }
def JudgeDoubtsCardSaid : Prop := Claim7.holds Tryd.pinned (.plain (OpenSpec.ofChange judgeDoubtsSpec)) judgeDoubtsCard

/-- THE TIED CARD OF 'airchecklaw38.JudgeLogs'. -/
def judgeLogsCard : Claim7 := { stood := { row := judgeLogsRow, standIns := [], harness := (true, "984cbd4f47a36de3f3a8c7c863464373dfcfd4b99001369f46eb545d6c858c9f"), looks := false }, kinds := [], alts := [], laidByText := true, laidKinds := [.funcs], laidTests := true, laidLooks := .later }
def JudgeLogsCardSaid : Prop := Claim7.holds Tryd.pinned (.plain (OpenSpec.ofChange judgeLogsSpec)) judgeLogsCard

/-- THE TIED CARD OF 'airchecklaw38.JudgeReasons'. -/
def judgeReasonsCard : Claim7 := { stood := { row := judgeReasonsRow, standIns := [], harness := (true, "984cbd4f47a36de3f3a8c7c863464373dfcfd4b99001369f46eb545d6c858c9f"), looks := false }, kinds := [], alts := [], laidByText := true, laidKinds := [.funcs], laidTests := true, laidLooks := .later }
def JudgeReasonsCardSaid : Prop := Claim7.holds Tryd.pinned (.plain (OpenSpec.ofChange judgeReasonsSpec)) judgeReasonsCard

/-- THE TIED CARD OF 'airchecklaw38.JudgeDiffers'. -/
def judgeDiffersCard : Claim7 := { stood := { row := judgeDiffersRow, standIns := [], harness := (true, "984cbd4f47a36de3f3a8c7c863464373dfcfd4b99001369f46eb545d6c858c9f"), looks := false }, kinds := [], alts := [], laidByText := true, laidKinds := [.funcs], laidTests := true, laidLooks := .later }
def JudgeDiffersCardSaid : Prop := Claim7.holds Tryd.pinned (.plain (OpenSpec.ofChange judgeDiffersSpec)) judgeDiffersCard

/-- THE TIED CARD OF 'airchecklaw38.JudgeProves'. -/
def judgeProvesCard : Claim7 := { stood := { row := judgeProvesRow, standIns := [], harness := (true, "984cbd4f47a36de3f3a8c7c863464373dfcfd4b99001369f46eb545d6c858c9f"), looks := false }, kinds := [], alts := [], laidByText := true, laidKinds := [.funcs], laidTests := true, laidLooks := .later }
def JudgeProvesCardSaid : Prop := Claim7.holds Tryd.pinned (.plain (OpenSpec.ofChange judgeProvesSpec)) judgeProvesCard

/-- THE SECOND FORM's CARD OF 'airchecklaw38.JudgeMatchesReference'. -/
def judgeMatchesReferenceUptoCard : Claim7 := { stood := { row := judgeMatchesReferenceUptoRow, standIns := [], harness := (true, "984cbd4f47a36de3f3a8c7c863464373dfcfd4b99001369f46eb545d6c858c9f"), looks := false }, kinds := [], alts := [], laidByText := true, laidKinds := [.funcs], laidTests := true, laidLooks := .later }
def JudgeMatchesReferenceUptoCardSaid : Prop := Claim7.holds Tryd.pinned (.plain (OpenSpec.upto judgeMatchesReferenceSpec)) judgeMatchesReferenceUptoCard

/-- THE SECOND FORM's CARD OF 'airchecklaw38.JudgeDoubts'. -/
def judgeDoubtsUptoCard : Claim7 := { stood := { row := judgeDoubtsUptoRow, standIns := [], harness := (true, "984cbd4f47a36de3f3a8c7c863464373dfcfd4b99001369f46eb545d6c858c9f"), looks := false }, kinds := [], alts := [], laidByText := true, laidKinds := [.funcs], laidTests := true, laidLooks := .later }
def JudgeDoubtsUptoCardSaid : Prop := Claim7.holds Tryd.pinned (.plain (OpenSpec.upto judgeDoubtsSpec)) judgeDoubtsUptoCard

/-- THE SECOND FORM's CARD OF 'airchecklaw38.JudgeLogs'. -/
def judgeLogsUptoCard : Claim7 := { stood := { row := judgeLogsUptoRow, standIns := [], harness := (true, "984cbd4f47a36de3f3a8c7c863464373dfcfd4b99001369f46eb545d6c858c9f"), looks := false }, kinds := [], alts := [], laidByText := true, laidKinds := [.funcs], laidTests := true, laidLooks := .later }
def JudgeLogsUptoCardSaid : Prop := Claim7.holds Tryd.pinned (.plain (OpenSpec.upto judgeLogsSpec)) judgeLogsUptoCard

/-- THE SECOND FORM's CARD OF 'airchecklaw38.JudgeReasons'. -/
def judgeReasonsUptoCard : Claim7 := { stood := { row := judgeReasonsUptoRow, standIns := [], harness := (true, "984cbd4f47a36de3f3a8c7c863464373dfcfd4b99001369f46eb545d6c858c9f"), looks := false }, kinds := [], alts := [], laidByText := true, laidKinds := [.funcs], laidTests := true, laidLooks := .later }
def JudgeReasonsUptoCardSaid : Prop := Claim7.holds Tryd.pinned (.plain (OpenSpec.upto judgeReasonsSpec)) judgeReasonsUptoCard

/-- THE SECOND FORM's CARD OF 'airchecklaw38.JudgeDiffers'. -/
def judgeDiffersUptoCard : Claim7 := { stood := { row := judgeDiffersUptoRow, standIns := [], harness := (true, "984cbd4f47a36de3f3a8c7c863464373dfcfd4b99001369f46eb545d6c858c9f"), looks := false }, kinds := [], alts := [], laidByText := true, laidKinds := [.funcs], laidTests := true, laidLooks := .later }
def JudgeDiffersUptoCardSaid : Prop := Claim7.holds Tryd.pinned (.plain (OpenSpec.upto judgeDiffersSpec)) judgeDiffersUptoCard

/-- THE SECOND FORM's CARD OF 'airchecklaw38.JudgeProves'. -/
def judgeProvesUptoCard : Claim7 := { stood := { row := judgeProvesUptoRow, standIns := [], harness := (true, "984cbd4f47a36de3f3a8c7c863464373dfcfd4b99001369f46eb545d6c858c9f"), looks := false }, kinds := [], alts := [], laidByText := true, laidKinds := [.funcs], laidTests := true, laidLooks := .later }
def JudgeProvesUptoCardSaid : Prop := Claim7.holds Tryd.pinned (.plain (OpenSpec.upto judgeProvesSpec)) judgeProvesUptoCard
end Rows
end Go.Proofs.YtmdbpbncdkdipaaDoor
