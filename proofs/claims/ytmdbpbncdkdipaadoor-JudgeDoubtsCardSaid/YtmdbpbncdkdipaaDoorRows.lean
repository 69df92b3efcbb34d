/-
  NARROWER THAN 'FOR EVERY INPUT', by the rows' own cells (each row's printed sentence says how): JudgeMatchesReference: laid · JudgeDoubts: laid · JudgeLogs: laid · JudgeReasons: laid · JudgeDiffers: laid · JudgeProves: laid.
  DERIVED. THE GIVEN ROWS OF THIS SEAT. 6 by the template 'for every input the law returns true; each argument reads behind the call as it read before'; 0 by the template 'total and deterministic' (their statements: YtmdbpbncdkdipaaDoorTotals.lean).
  GIVEN WITH THE SEED: the statements are not yours to turn. If you find one false, say at which input.
  Laid BY PROGRAM, IN A SANDBOX (cutbox-rows.mjs): the forced cells as the released guide's own fill.sh prints them over the translation 9945a7604830e9e6… (all of the seat's roots in one cut). By AI agents, Wed Nov 11 2026. No macro, syntax, notation, axiom, sorry.
-/
import Derived.Test.YtmdbpbncdkdipaaDoorChecked
import GoSem.Claim
import GoSem.ClaimJoined
import GoSem.ClaimMapViews
import Derived.JoinedTies
import Derived.KernelRfl
namespace Go.Proofs.YtmdbpbncdkdipaaDoor
/- THE CELL 'sum', in the pinned program and in every row, IS THE sha256 OF THE DUMP (.gsa) THAT YtmdbpbncdkdipaaDoorProg.lean LOADS. Nothing in Lean hashes anything: it is a label: what it is worth is what the hold of that sum in a sandbox is worth. -/
noncomputable def Tryd.pinned : Pinned := { name := "ytmdbpbncdkdipaadoor", sum := "9945a7604830e9e6ce841680321607ae60ec281b496c00077d49041ef5e11838", checked := Tryd.checked }
namespace Rows
def none {H : Type} : Left H := { results := [], args := [] }

/- WHAT THE LISTED PACKAGE-LEVEL VARIABLES READ AS WHEN THE CALL BEGINS. Each datum BY PROGRAM (the guide's laid-datum.mjs) off the statement by which the dump's own 'gosem.cut.vars' lays the variable. In a bare row this is a premise. The card (YtmdbpbncdkdipaaDoorCards.lean) ties it to the program's text. -/
def laid_aircheck_judge_rules {H : Type} : DataW H := .iface "func table" (.agg [.agg [.lit (.bool false), .iface "func" (.lit (.string [97, 105, 114, 99, 104, 101, 99, 107, 47, 106, 117, 100, 103, 101, 46, 110, 101, 118, 101, 114]))], .agg [.lit (.bool true), .iface "func" (.lit (.string [97, 105, 114, 99, 104, 101, 99, 107, 47, 106, 117, 100, 103, 101, 46, 114, 117, 108, 101, 115, 36, 49]))], .agg [.lit (.bool true), .iface "func" (.lit (.string [97, 105, 114, 99, 104, 101, 99, 107, 47, 106, 117, 100, 103, 101, 46, 114, 117, 108, 101, 115, 36, 50]))], .agg [.lit (.bool false), .iface "func" (.lit (.string [97, 105, 114, 99, 104, 101, 99, 107, 47, 106, 117, 100, 103, 101, 46, 110, 101, 118, 101, 114]))], .agg [.lit (.bool false), .iface "func" (.lit (.string [97, 105, 114, 99, 104, 101, 99, 107, 47, 106, 117, 100, 103, 101, 46, 110, 101, 118, 101, 114]))]])

/-- 'airchecklaw38.JudgeMatchesReference': WHATEVER THE INPUT: true; the input reads as it did. -/
def judgeMatchesReferenceSpec : ChangeSpec := { name := "judgeMatchesReference", fn := fun _ => fun
  | [d1, d2, d3, d4, d5, d6, d7, d8, d9, d10, d11, d12] => { results := [.lit (.bool true)], args := [d1, d2, d3, d4, d5, d6, d7, d8, d9, d10, d11, d12] }
  | _ => none }
def judgeMatchesReferenceRow : OpenClaim := { program := "ytmdbpbncdkdipaadoor", sum := "9945a7604830e9e6ce841680321607ae60ec281b496c00077d49041ef5e11838", func := "aircheck/airchecklaw38.JudgeMatchesReference", spec := "judgeMatchesReference", unfollowed := true, recurses := true, named := ["aircheck/judge.rules"], apart := false, laid := [("aircheck/judge.rules", laid_aircheck_judge_rules)] }
def JudgeMatchesReferenceSaid : Prop := judgeMatchesReferenceRow.holds Tryd.pinned (OpenSpec.ofChange judgeMatchesReferenceSpec)

/-- ITS FALSE NEIGHBOUR: 'it returns false'. Refute it at one input. -/
def judgeMatchesReferenceWrong : ChangeSpec := { name := "judgeMatchesReference", fn := fun _ => fun
  | [d1, d2, d3, d4, d5, d6, d7, d8, d9, d10, d11, d12] => { results := [.lit (.bool false)], args := [d1, d2, d3, d4, d5, d6, d7, d8, d9, d10, d11, d12] }
  | _ => none }
def JudgeMatchesReferenceWrongFalsely : Prop := judgeMatchesReferenceRow.holds Tryd.pinned (OpenSpec.ofChange judgeMatchesReferenceWrong)

/-- 'airchecklaw38.JudgeDoubts': WHATEVER THE INPUT: true; the input reads as it did. -/
def judgeDoubtsSpec : ChangeSpec := { name := "judgeDoubts", fn := fun _ => fun
  | [d1, d2, d3, d4] => { results := [.lit (.bool true)], args := [d1, d2, d3, d4] }
  | _ => none }
def judgeDoubtsRow : OpenClaim := { program := "ytmdbpbncdkdipaadoor", sum := "9945a7604830e9e6ce841680321607ae60ec281b496c00077d49041ef5e11838", func := "aircheck/airchecklaw38.JudgeDoubts", spec := "judgeDoubts", unfollowed := true, recurses := true, named := ["aircheck/judge.rules"], apart := false, laid := [("aircheck/judge.rules", laid_aircheck_judge_rules)] }
def JudgeDoubtsSaid : Prop := judgeDoubtsRow.holds Tryd.pinned (OpenSpec.ofChange judgeDoubtsSpec)

/-- ITS FALSE NEIGHBOUR: 'it returns false'. Refute it at one input. -/
def judgeDoubtsWrong : ChangeSpec := { name := "judgeDoubts", fn := fun _ => fun
  | [d1, d2, d3, d4] => { results := [.lit (.bool false)], args := [d1, d2, d3, d4] }
  | _ => none }
def JudgeDoubtsWrongFalsely : Prop := judgeDoubtsRow.holds Tryd.pinned (OpenSpec.ofChange judgeDoubtsWrong)

/-- 'airchecklaw38.JudgeLogs': WHATEVER THE INPUT: true; the input reads as it did. -/
def judgeLogsSpec : ChangeSpec := { name := "judgeLogs", fn := fun _ => fun
  | [d1, d2, d3, d4, d5, d6, d7] => { results := [.lit (.bool true)], args := [d1, d2, d3, d4, d5, d6, d7] }
  | _ => none }
def judgeLogsRow : OpenClaim := { program := "ytmdbpbncdkdipaadoor", sum := "9945a7604830e9e6ce841680321607ae60ec281b496c00077d49041ef5e11838", func := "aircheck/airchecklaw38.JudgeLogs", spec := "judgeLogs", unfollowed := true, recurses := true, named := ["aircheck/judge.rules"], apart := false, laid := [("aircheck/judge.rules", laid_aircheck_judge_rules)] }
def JudgeLogsSaid : Prop := judgeLogsRow.holds Tryd.pinned (OpenSpec.ofChange judgeLogsSpec)

/-- ITS FALSE NEIGHBOUR: 'it returns false'. Refute it at one input. -/
def judgeLogsWrong : ChangeSpec := { name := "judgeLogs", fn := fun _ => fun
  | [d1, d2, d3, d4, d5, d6, d7] => { results := [.lit (.bool false)], args := [d1, d2, d3, d4, d5, d6, d7] }
  | _ => none }
def JudgeLogsWrongFalsely : Prop := judgeLogsRow.holds Tryd.pinned (OpenSpec.ofChange judgeLogsWrong)

/-- 'airchecklaw38.JudgeReasons': WHATEVER THE INPUT: true; the input reads as it did. -/
def judgeReasonsSpec : ChangeSpec := { name := "judgeReasons", fn := fun _ => fun
  | [d1, d2, d3] => { results := [.lit (.bool true)], args := [d1, d2, d3] }
  | _ => none }
def judgeReasonsRow : OpenClaim := { program := "ytmdbpbncdkdipaadoor", sum := "9945a7604830e9e6ce841680321607ae60ec281b496c00077d49041ef5e11838", func := "aircheck/airchecklaw38.JudgeReasons", spec := "judgeReasons", unfollowed := true, recurses := true, named := ["aircheck/judge.rules"], apart := false, laid := [("aircheck/judge.rules", laid_aircheck_judge_rules)] }
def JudgeReasonsSaid : Prop := judgeReasonsRow.holds Tryd.pinned (OpenSpec.ofChange judgeReasonsSpec)

/-- ITS FALSE NEIGHBOUR: 'it returns false'. Refute it at one input. -/
def judgeReasonsWrong : ChangeSpec := { name := "judgeReasons", fn := fun _ => fun
  | [d1, d2, d3] => { results := [.lit (.bool false)], args := [d1, d2, d3] }
  | _ => none }
def JudgeReasonsWrongFalsely : Prop := judgeReasonsRow.holds Tryd.pinned (OpenSpec.ofChange judgeReasonsWrong)

/-- 'airchecklaw38.JudgeDiffers': WHATEVER THE INPUT: true; the input reads as it did. -/
def judgeDiffersSpec : ChangeSpec := { name := "judgeDiffers", fn := fun _ => fun
  | [d1, d2, d3, d4, d5] => { results := [.lit (.bool true)], args := [d1, d2, d3, d4, d5] }
  | _ => none }
def judgeDiffersRow : OpenClaim := { program := "ytmdbpbncdkdipaadoor", sum := "9945a7604830e9e6ce841680321607ae60ec281b496c00077d49041ef5e11838", func := "aircheck/airchecklaw38.JudgeDiffers", spec := "judgeDiffers", unfollowed := true, recurses := true, named := ["aircheck/judge.rules"], apart := false, laid := [("aircheck/judge.rules", laid_aircheck_judge_rules)] }
def JudgeDiffersSaid : Prop := judgeDiffersRow.holds Tryd.pinned (OpenSpec.ofChange judgeDiffersSpec)

/-- ITS FALSE NEIGHBOUR: 'it returns false'. Refute it at one input. -/
def judgeDiffersWrong : ChangeSpec := { name := "judgeDiffers", fn := fun _ => fun
  | [d1, d2, d3, d4, d5] => { results := [.lit (.bool false)], args := [d1, d2, d3, d4, d5] }
  | _ => none }
def JudgeDiffersWrongFalsely : Prop := judgeDiffersRow.holds Tryd.pinned (OpenSpec.ofChange judgeDiffersWrong)

/-- 'airchecklaw38.JudgeProves': WHATEVER THE INPUT: true; the input reads as it did. -/
def judgeProvesSpec : ChangeSpec := { name := "judgeProves", fn := fun _ => fun
  | [d1, d2, d3, d4] => { results := [.lit (.bool true)], args := [d1, d2, d3, d4] }
  | _ => none }
def judgeProvesRow : OpenClaim := { program := "ytmdbpbncdkdipaadoor", sum := "9945a7604830e9e6ce841680321607ae60ec281b496c00077d49041ef5e11838", func := "aircheck/airchecklaw38.JudgeProves", spec := "judgeProves", unfollowed := true, recurses := true, named := ["aircheck/judge.rules"], apart := false, laid := [("aircheck/judge.rules", laid_aircheck_judge_rules)] }
def JudgeProvesSaid : Prop := judgeProvesRow.holds Tryd.pinned (OpenSpec.ofChange judgeProvesSpec)

/-- ITS FALSE NEIGHBOUR: 'it returns false'. Refute it at one input. -/
def judgeProvesWrong : ChangeSpec := { name := "judgeProves", fn := fun _ => fun
  | [d1, d2, d3, d4] => { results := [.lit (.bool false)], args := [d1, d2, d3, d4] }
  | _ => none }
def JudgeProvesWrongFalsely : Prop := judgeProvesRow.holds Tryd.pinned (OpenSpec.ofChange judgeProvesWrong)

/- THE SECOND FORM. 'bulk': how many values and letters a reading holds, each counted each time it is reached (what is shared counts as often as it is met; a slice's spare places count too). A statement '..UptoSaid' is the law's where the arguments, and the package variables that the reading takes, are together of bulk at most 1048576: NARROWER than '..Said'. Prove '..Said' where nothing that the law and all that it calls make is longer than what came in: it says more and counts as full. Else prove '..UptoSaid'. A law counts once. -/
mutual
def uptoBulk {H : Type} : DataW H → Nat
  | .lit (.string bytes) => bytes.length + 1
  | .lit _ => 1
  | .nil => 1
  | .ptr d => uptoBulk d + 1
  | .slice elems spare => uptoBulkAll elems + uptoBulkAll spare + 1
  | .agg parts => uptoBulkAll parts + 1
  | .iface _ d => uptoBulk d + 1
  | .map entries => uptoBulkEntries entries + 1
  | .held _ => 1
def uptoBulkAll {H : Type} : List (DataW H) → Nat
  | [] => 0
  | d :: r => uptoBulk d + uptoBulkAll r
def uptoBulkEntries {H : Type} : List (Lit × DataW H) → Nat
  | [] => 0
  | x :: r => uptoBulkEntry x + uptoBulkEntries r
def uptoBulkEntry {H : Type} : Lit × DataW H → Nat
  | (.string bytes, d) => bytes.length + uptoBulk d + 1
  | (_, d) => uptoBulk d + 1
 end
def uptoSmall : (H : Type) → List (DataW H) → Bool := fun _ ds => decide (uptoBulkAll ds ≤ 1048576)
def OpenSpec.upto (s : _root_.Go.ChangeSpec) : _root_.Go.OpenSpec := { _root_.Go.OpenSpec.ofChange s with cond := some uptoSmall }

/-- 'airchecklaw38.JudgeMatchesReference', WHERE WHAT IT READS IS OF BULK AT MOST 1048576: true; the input reads as it did. -/
def judgeMatchesReferenceUptoRow : OpenClaim := { program := "ytmdbpbncdkdipaadoor", sum := "9945a7604830e9e6ce841680321607ae60ec281b496c00077d49041ef5e11838", func := "aircheck/airchecklaw38.JudgeMatchesReference", spec := "judgeMatchesReference", unfollowed := true, recurses := true, named := ["aircheck/judge.rules"], apart := false, laid := [("aircheck/judge.rules", laid_aircheck_judge_rules)], narrowed := true }
def JudgeMatchesReferenceUptoSaid : Prop := judgeMatchesReferenceUptoRow.holds Tryd.pinned (OpenSpec.upto judgeMatchesReferenceSpec)

/-- 'airchecklaw38.JudgeDoubts', WHERE WHAT IT READS IS OF BULK AT MOST 1048576: true; the input reads as it did. -/
def judgeDoubtsUptoRow : OpenClaim := { program := "ytmdbpbncdkdipaadoor", sum := "9945a7604830e9e6ce841680321607ae60ec281b496c00077d49041ef5e11838", func := "aircheck/airchecklaw38.JudgeDoubts", spec := "judgeDoubts", unfollowed := true, recurses := true, named := ["aircheck/judge.rules"], apart := false, laid := [("aircheck/judge.rules", laid_aircheck_judge_rules)], narrowed := true }
def JudgeDoubtsUptoSaid : Prop := judgeDoubtsUptoRow.holds Tryd.pinned (OpenSpec.upto judgeDoubtsSpec)

/-- 'airchecklaw38.JudgeLogs', WHERE WHAT IT READS IS OF BULK AT MOST 1048576: true; the input reads as it did. -/
def judgeLogsUptoRow : OpenClaim := { program := "ytmdbpbncdkdipaadoor", sum := "9945a7604830e9e6ce841680321607ae60ec281b496c00077d49041ef5e11838", func := "aircheck/airchecklaw38.JudgeLogs", spec := "judgeLogs", unfollowed := true, recurses := true, named := ["aircheck/judge.rules"], apart := false, laid := [("aircheck/judge.rules", laid_aircheck_judge_rules)], narrowed := true }
def JudgeLogsUptoSaid : Prop := judgeLogsUptoRow.holds Tryd.pinned (OpenSpec.upto judgeLogsSpec)

/-- 'airchecklaw38.JudgeReasons', WHERE WHAT IT READS IS OF BULK AT MOST 1048576: true; the input reads as it did. -/
def judgeReasonsUptoRow : OpenClaim := { program := "ytmdbpbncdkdipaadoor", sum := "9945a7604830e9e6ce841680321607ae60ec281b496c00077d49041ef5e11838", func := "aircheck/airchecklaw38.JudgeReasons", spec := "judgeReasons", unfollowed := true, recurses := true, named := ["aircheck/judge.rules"], apart := false, laid := [("aircheck/judge.rules", laid_aircheck_judge_rules)], narrowed := true }
def JudgeReasonsUptoSaid : Prop := judgeReasonsUptoRow.holds Tryd.pinned (OpenSpec.upto judgeReasonsSpec)

/-- 'airchecklaw38.JudgeDiffers', WHERE WHAT IT READS IS OF BULK AT MOST 1048576: true; the input reads as it did. -/
def judgeDiffersUptoRow : OpenClaim := { program := "ytmdbpbncdkdipaadoor", sum := "9945a7604830e9e6ce841680321607ae60ec281b496c00077d49041ef5e11838", func := "aircheck/airchecklaw38.JudgeDiffers", spec := "judgeDiffers", unfollowed := true, recurses := true, named := ["aircheck/judge.rules"], apart := false, laid := [("aircheck/judge.rules", laid_aircheck_judge_rules)], narrowed := true }
def JudgeDiffersUptoSaid : Prop := judgeDiffersUptoRow.holds Tryd.pinned (OpenSpec.upto judgeDiffersSpec)

/-- 'airchecklaw38.JudgeProves', WHERE WHAT IT READS IS OF BULK AT MOST 1048576: true; the input reads as it did. -/
def judgeProvesUptoRow : OpenClaim := { program := "ytmdbpbncdkdipaadoor", sum := "9945a7604830e9e6ce841680321607ae60ec281b496c00077d49041ef5e11838", func := "aircheck/airchecklaw38.JudgeProves", spec := "judgeProves", unfollowed := true, recurses := true, named := ["aircheck/judge.rules"], apart := false, laid := [("aircheck/judge.rules", laid_aircheck_judge_rules)], narrowed := true }
def JudgeProvesUptoSaid : Prop := judgeProvesUptoRow.holds Tryd.pinned (OpenSpec.upto judgeProvesSpec)

end Rows
end Go.Proofs.YtmdbpbncdkdipaaDoor
