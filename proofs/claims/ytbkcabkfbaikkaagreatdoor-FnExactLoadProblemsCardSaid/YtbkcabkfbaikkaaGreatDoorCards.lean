/-
  DERIVED. GIVEN WITH THE SEED: THE CARDS: each row of YtbkcabkfbaikkaaGreatDoorRows.lean that lists a variable, with what it lists TIED to the program's text (the seventh form; the later family's looks); each row that meets fmt, with fmt's text TOLD by the authors' own Lean function (tested against real Go, not proved from fmt's source: count such statements apart). THE CARD IS WHAT COUNTS. Prove the row's statement (the work); the ties are given (YtbkcabkfbaikkaaGreatDoorTie.lean); close each card by the builder's one call (the guide's Derived/Test/ToyasCard.lean, 'card_holds'). Laid BY PROGRAM, IN A SANDBOX (cutbox-door.mjs). By AI agents, Wed Nov 11 2026. No macro, syntax, notation, axiom, sorry.
-/
import Derived.Test.YtbkcabkfbaikkaaGreatDoorRows
import GoSem.ClaimSeven
namespace Go.Proofs.YtbkcabkfbaikkaaGreatDoor
namespace Rows

/-- THE TIED CARD OF 'laws.FnExactLoadProblems'. -/
def fnExactLoadProblemsCard : Claim7 := { stood := { row := fnExactLoadProblemsRow, standIns := [], harness := (true, "bd1d5d6ccb90273193fd1934d67bb5e209bcfe6683882ed17fa5e6c87d770f1d"), looks := false }, kinds := [], alts := [], laidByText := true, laidKinds := [.data, .data, .data], laidTests := true, laidLooks := .later }
def FnExactLoadProblemsCardSaid : Prop := Claim7.holds Tryz.pinned (.plain (OpenSpec.ofChange fnExactLoadProblemsSpec)) fnExactLoadProblemsCard

/-- THE TIED CARD OF 'laws.FnExactCrewProblems'. -/
def fnExactCrewProblemsCard : Claim7 := { stood := { row := fnExactCrewProblemsRow, standIns := [], harness := (true, "bd1d5d6ccb90273193fd1934d67bb5e209bcfe6683882ed17fa5e6c87d770f1d"), looks := false }, kinds := [], alts := [], laidByText := true, laidKinds := [.data, .data, .data], laidTests := true, laidLooks := .later }
def FnExactCrewProblemsCardSaid : Prop := Claim7.holds Tryz.pinned (.plain (OpenSpec.ofChange fnExactCrewProblemsSpec)) fnExactCrewProblemsCard

/-- THE TIED CARD OF 'laws.FnExactFlowProblems'. -/
def fnExactFlowProblemsCard : Claim7 := { stood := { row := fnExactFlowProblemsRow, standIns := [], harness := (true, "bd1d5d6ccb90273193fd1934d67bb5e209bcfe6683882ed17fa5e6c87d770f1d"), looks := false }, kinds := [], alts := [], laidByText := true, laidKinds := [.data, .data, .data], laidTests := true, laidLooks := .later }
def FnExactFlowProblemsCardSaid : Prop := Claim7.holds Tryz.pinned (.plain (OpenSpec.ofChange fnExactFlowProblemsSpec)) fnExactFlowProblemsCard

/-- THE TIED CARD OF 'laws.FnExactPassesAudit'. -/
def fnExactPassesAuditCard : Claim7 := { stood := { row := fnExactPassesAuditRow, standIns := [], harness := (true, "bd1d5d6ccb90273193fd1934d67bb5e209bcfe6683882ed17fa5e6c87d770f1d"), looks := false }, kinds := [], alts := [], laidByText := true, laidKinds := [.data, .data, .data], laidTests := true, laidLooks := .later }
def FnExactPassesAuditCardSaid : Prop := Claim7.holds Tryz.pinned (.plain (OpenSpec.ofChange fnExactPassesAuditSpec)) fnExactPassesAuditCard

/-- THE TIED CARD OF 'laws.FnExactAuditPlan'. -/
def fnExactAuditPlanCard : Claim7 := { stood := { row := fnExactAuditPlanRow, standIns := [], harness := (true, "bd1d5d6ccb90273193fd1934d67bb5e209bcfe6683882ed17fa5e6c87d770f1d"), looks := false }, kinds := [], alts := [], laidByText := true, laidKinds := [.data, .data, .data], laidTests := true, laidLooks := .later }
def FnExactAuditPlanCardSaid : Prop := Claim7.holds Tryz.pinned (.plain (OpenSpec.ofChange fnExactAuditPlanSpec)) fnExactAuditPlanCard

/-- THE SECOND FORM's CARD OF 'laws.FnExactLoadProblems'. -/
def fnExactLoadProblemsUptoCard : Claim7 := { stood := { row := fnExactLoadProblemsUptoRow, standIns := [], harness := (true, "bd1d5d6ccb90273193fd1934d67bb5e209bcfe6683882ed17fa5e6c87d770f1d"), looks := false }, kinds := [], alts := [], laidByText := true, laidKinds := [.data, .data, .data], laidTests := true, laidLooks := .later }
def FnExactLoadProblemsUptoCardSaid : Prop := Claim7.holds Tryz.pinned (.plain (OpenSpec.upto fnExactLoadProblemsSpec)) fnExactLoadProblemsUptoCard

/-- THE SECOND FORM's CARD OF 'laws.FnExactCrewProblems'. -/
def fnExactCrewProblemsUptoCard : Claim7 := { stood := { row := fnExactCrewProblemsUptoRow, standIns := [], harness := (true, "bd1d5d6ccb90273193fd1934d67bb5e209bcfe6683882ed17fa5e6c87d770f1d"), looks := false }, kinds := [], alts := [], laidByText := true, laidKinds := [.data, .data, .data], laidTests := true, laidLooks := .later }
def FnExactCrewProblemsUptoCardSaid : Prop := Claim7.holds Tryz.pinned (.plain (OpenSpec.upto fnExactCrewProblemsSpec)) fnExactCrewProblemsUptoCard

/-- THE SECOND FORM's CARD OF 'laws.FnExactFlowProblems'. -/
def fnExactFlowProblemsUptoCard : Claim7 := { stood := { row := fnExactFlowProblemsUptoRow, standIns := [], harness := (true, "bd1d5d6ccb90273193fd1934d67bb5e209bcfe6683882ed17fa5e6c87d770f1d"), looks := false }, kinds := [], alts := [], laidByText := true, laidKinds := [.data, .data, .data], laidTests := true, laidLooks := .later }
def FnExactFlowProblemsUptoCardSaid : Prop := Claim7.holds Tryz.pinned (.plain (OpenSpec.upto fnExactFlowProblemsSpec)) fnExactFlowProblemsUptoCard

/-- THE SECOND FORM's CARD OF 'laws.FnExactPassesAudit'. -/
def fnExactPassesAuditUptoCard : Claim7 := { stood := { row := fnExactPassesAuditUptoRow, standIns := [], harness := (true, "bd1d5d6ccb90273193fd1934d67bb5e209bcfe6683882ed17fa5e6c87d770f1d"), looks := false }, kinds := [], alts := [], laidByText := true, laidKinds := [.data, .data, .data], laidTests := true, laidLooks := .later }
def FnExactPassesAuditUptoCardSaid : Prop := Claim7.holds Tryz.pinned (.plain (OpenSpec.upto fnExactPassesAuditSpec)) fnExactPassesAuditUptoCard

/-- THE SECOND FORM's CARD OF 'laws.FnExactAuditPlan'. -/
def fnExactAuditPlanUptoCard : Claim7 := { stood := { row := fnExactAuditPlanUptoRow, standIns := [], harness := (true, "bd1d5d6ccb90273193fd1934d67bb5e209bcfe6683882ed17fa5e6c87d770f1d"), looks := false }, kinds := [], alts := [], laidByText := true, laidKinds := [.data, .data, .data], laidTests := true, laidLooks := .later }
def FnExactAuditPlanUptoCardSaid : Prop := Claim7.holds Tryz.pinned (.plain (OpenSpec.upto fnExactAuditPlanSpec)) fnExactAuditPlanUptoCard
end Rows
end Go.Proofs.YtbkcabkfbaikkaaGreatDoor
