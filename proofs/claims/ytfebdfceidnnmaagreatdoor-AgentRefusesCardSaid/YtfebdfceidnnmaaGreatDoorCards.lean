/-
  DERIVED. GIVEN WITH THE SEED: THE CARDS: each row of YtfebdfceidnnmaaGreatDoorRows.lean that lists a variable, with what it lists TIED to the program's text (the seventh form; the later family's looks); each row that meets fmt, with fmt's text TOLD by the authors' own Lean function (tested against real Go, not proved from fmt's source: count such statements apart). THE CARD IS WHAT COUNTS. Prove the row's statement (the work); the ties are given (YtfebdfceidnnmaaGreatDoorTie.lean); close each card by the builder's one call (the guide's Derived/Test/ToyasCard.lean, 'card_holds'). Laid BY PROGRAM, IN A SANDBOX (cutbox-door.mjs). By AI agents, Wed Nov 11 2026. No macro, syntax, notation, axiom, sorry.
-/
import Derived.Test.YtfebdfceidnnmaaGreatDoorRows
import GoSem.ClaimSeven
namespace Go.Proofs.YtfebdfceidnnmaaGreatDoor
namespace Rows

/-- THE TIED CARD OF 'hostlerlaw19.AgentWaits'. -/
def agentWaitsCard : Claim7 := { stood := { row := agentWaitsRow, standIns := [], harness := (true, "0b36fe67fb6a9005b6b52284bcf9cdfa2b4110b71617fa7b4a530cbad24cc2fa"), looks := false }, kinds := [], alts := [], laidByText := true, laidKinds := [.data, .data, .data, .data, .pinned], laidTests := true, laidLooks := .later }
def AgentWaitsCardSaid : Prop := Claim7.holds Tryz.pinned (.plain (OpenSpec.ofChange agentWaitsSpec)) agentWaitsCard

/-- THE TIED CARD OF 'hostlerlaw19.AgentRefuses'. -/
def agentRefusesCard : Claim7 := { stood := { row := agentRefusesRow, standIns := [], harness := (true, "0b36fe67fb6a9005b6b52284bcf9cdfa2b4110b71617fa7b4a530cbad24cc2fa"), looks := false }, kinds := [], alts := [], laidByText := true, laidKinds := [.data, .data, .data, .data, .pinned], laidTests := true, laidLooks := .later }
def AgentRefusesCardSaid : Prop := Claim7.holds Tryz.pinned (.plain (OpenSpec.ofChange agentRefusesSpec)) agentRefusesCard

/-- THE TIED CARD OF 'hostlerlaw19.AgentKills'. -/
def agentKillsCard : Claim7 := { stood := { row := agentKillsRow, standIns := [], harness := (true, "0b36fe67fb6a9005b6b52284bcf9cdfa2b4110b71617fa7b4a530cbad24cc2fa"), looks := false }, kinds := [], alts := [], laidByText := true, laidKinds := [.data, .data, .data, .data, .pinned], laidTests := true, laidLooks := .later }
def AgentKillsCardSaid : Prop := Claim7.holds Tryz.pinned (.plain (OpenSpec.ofChange agentKillsSpec)) agentKillsCard

/-- THE TIED CARD OF 'hostlerlaw19.AgentOwn'. -/
def agentOwnCard : Claim7 := { stood := { row := agentOwnRow, standIns := [], harness := (true, "0b36fe67fb6a9005b6b52284bcf9cdfa2b4110b71617fa7b4a530cbad24cc2fa"), looks := false }, kinds := [], alts := [], laidByText := true, laidKinds := [.data, .data, .data, .data, .pinned], laidTests := true, laidLooks := .later }
def AgentOwnCardSaid : Prop := Claim7.holds Tryz.pinned (.plain (OpenSpec.ofChange agentOwnSpec)) agentOwnCard

/-- THE TIED CARD OF 'hostlerlaw19.AgentGroups'. -/
def agentGroupsCard : Claim7 := { stood := { row := agentGroupsRow, standIns := [], harness := (true, "0b36fe67fb6a9005b6b52284bcf9cdfa2b4110b71617fa7b4a530cbad24cc2fa"), looks := false }, kinds := [], alts := [], laidByText := true, laidKinds := [.data, .data, .data, .data, .pinned], laidTests := true, laidLooks := .later }
def AgentGroupsCardSaid : Prop := Claim7.holds Tryz.pinned (.plain (OpenSpec.ofChange agentGroupsSpec)) agentGroupsCard

/-- THE TIED CARD OF 'hostlerlaw19.AgentErrors'. -/
def agentErrorsCard : Claim7 := { stood := { row := agentErrorsRow, standIns := [], harness := (true, "0b36fe67fb6a9005b6b52284bcf9cdfa2b4110b71617fa7b4a530cbad24cc2fa"), looks := false }, kinds := [], alts := [], laidByText := true, laidKinds := [.data, .data, .data, .data, .pinned], laidTests := true, laidLooks := .later }
def AgentErrorsCardSaid : Prop := Claim7.holds Tryz.pinned (.plain (OpenSpec.ofChange agentErrorsSpec)) agentErrorsCard

/-- THE TIED CARD OF 'hostlerlaw19.AgentRuns'. -/
def agentRunsCard : Claim7 := { stood := { row := agentRunsRow, standIns := [], harness := (true, "0b36fe67fb6a9005b6b52284bcf9cdfa2b4110b71617fa7b4a530cbad24cc2fa"), looks := false }, kinds := [], alts := [], laidByText := true, laidKinds := [.data, .data, .data, .data, .pinned], laidTests := true, laidLooks := .later }
def AgentRunsCardSaid : Prop := Claim7.holds Tryz.pinned (.plain (OpenSpec.ofChange agentRunsSpec)) agentRunsCard

/-- THE TIED CARD OF 'hostlerlaw19.AgentFull'. -/
def agentFullCard : Claim7 := { stood := { row := agentFullRow, standIns := [], harness := (true, "0b36fe67fb6a9005b6b52284bcf9cdfa2b4110b71617fa7b4a530cbad24cc2fa"), looks := false }, kinds := [], alts := [], laidByText := true, laidKinds := [.data, .data, .data, .data, .pinned], laidTests := true, laidLooks := .later }
def AgentFullCardSaid : Prop := Claim7.holds Tryz.pinned (.plain (OpenSpec.ofChange agentFullSpec)) agentFullCard

/-- THE TIED CARD OF 'hostlerlaw19.AgentLate'. -/
def agentLateCard : Claim7 := { stood := { row := agentLateRow, standIns := [], harness := (true, "0b36fe67fb6a9005b6b52284bcf9cdfa2b4110b71617fa7b4a530cbad24cc2fa"), looks := false }, kinds := [], alts := [], laidByText := true, laidKinds := [.data, .data, .data, .data, .pinned], laidTests := true, laidLooks := .later }
def AgentLateCardSaid : Prop := Claim7.holds Tryz.pinned (.plain (OpenSpec.ofChange agentLateSpec)) agentLateCard

/-- THE TIED CARD OF 'hostlerlaw19.AgentAsks'. -/
def agentAsksCard : Claim7 := { stood := { row := agentAsksRow, standIns := [], harness := (true, "0b36fe67fb6a9005b6b52284bcf9cdfa2b4110b71617fa7b4a530cbad24cc2fa"), looks := false }, kinds := [], alts := [], laidByText := true, laidKinds := [.data, .data, .data, .data, .pinned], laidTests := true, laidLooks := .later }
def AgentAsksCardSaid : Prop := Claim7.holds Tryz.pinned (.plain (OpenSpec.ofChange agentAsksSpec)) agentAsksCard

/-- THE TIED CARD OF 'hostlerlaw19.AgentTicks'. -/
def agentTicksCard : Claim7 := { stood := { row := agentTicksRow, standIns := [], harness := (true, "0b36fe67fb6a9005b6b52284bcf9cdfa2b4110b71617fa7b4a530cbad24cc2fa"), looks := false }, kinds := [], alts := [], laidByText := true, laidKinds := [.data, .data, .data, .data, .pinned], laidTests := true, laidLooks := .later }
def AgentTicksCardSaid : Prop := Claim7.holds Tryz.pinned (.plain (OpenSpec.ofChange agentTicksSpec)) agentTicksCard

/-- THE TIED CARD OF 'hostlerlaw19.AgentBoxes'. -/
def agentBoxesCard : Claim7 := { stood := { row := agentBoxesRow, standIns := [], harness := (true, "0b36fe67fb6a9005b6b52284bcf9cdfa2b4110b71617fa7b4a530cbad24cc2fa"), looks := false }, kinds := [], alts := [], laidByText := true, laidKinds := [.data, .data, .data, .data, .pinned], laidTests := true, laidLooks := .later }
def AgentBoxesCardSaid : Prop := Claim7.holds Tryz.pinned (.plain (OpenSpec.ofChange agentBoxesSpec)) agentBoxesCard

/-- THE SECOND FORM's CARD OF 'hostlerlaw19.AgentWaits'. -/
def agentWaitsUptoCard : Claim7 := { stood := { row := agentWaitsUptoRow, standIns := [], harness := (true, "0b36fe67fb6a9005b6b52284bcf9cdfa2b4110b71617fa7b4a530cbad24cc2fa"), looks := false }, kinds := [], alts := [], laidByText := true, laidKinds := [.data, .data, .data, .data, .pinned], laidTests := true, laidLooks := .later }
def AgentWaitsUptoCardSaid : Prop := Claim7.holds Tryz.pinned (.plain (OpenSpec.upto agentWaitsSpec)) agentWaitsUptoCard

/-- THE SECOND FORM's CARD OF 'hostlerlaw19.AgentRefuses'. -/
def agentRefusesUptoCard : Claim7 := { stood := { row := agentRefusesUptoRow, standIns := [], harness := (true, "0b36fe67fb6a9005b6b52284bcf9cdfa2b4110b71617fa7b4a530cbad24cc2fa"), looks := false }, kinds := [], alts := [], laidByText := true, laidKinds := [.data, .data, .data, .data, .pinned], laidTests := true, laidLooks := .later }
def AgentRefusesUptoCardSaid : Prop := Claim7.holds Tryz.pinned (.plain (OpenSpec.upto agentRefusesSpec)) agentRefusesUptoCard

/-- THE SECOND FORM's CARD OF 'hostlerlaw19.AgentKills'. -/
def agentKillsUptoCard : Claim7 := { stood := { row := agentKillsUptoRow, standIns := [], harness := (true, "0b36fe67fb6a9005b6b52284bcf9cdfa2b4110b71617fa7b4a530cbad24cc2fa"), looks := false }, kinds := [], alts := [], laidByText := true, laidKinds := [.data, .data, .data, .data, .pinned], laidTests := true, laidLooks := .later }
def AgentKillsUptoCardSaid : Prop := Claim7.holds Tryz.pinned (.plain (OpenSpec.upto agentKillsSpec)) agentKillsUptoCard

/-- THE SECOND FORM's CARD OF 'hostlerlaw19.AgentOwn'. -/
def agentOwnUptoCard : Claim7 := { stood := { row := agentOwnUptoRow, standIns := [], harness := (true, "0b36fe67fb6a9005b6b52284bcf9cdfa2b4110b71617fa7b4a530cbad24cc2fa"), looks := false }, kinds := [], alts := [], laidByText := true, laidKinds := [.data, .data, .data, .data, .pinned], laidTests := true, laidLooks := .later }
def AgentOwnUptoCardSaid : Prop := Claim7.holds Tryz.pinned (.plain (OpenSpec.upto agentOwnSpec)) agentOwnUptoCard

/-- THE SECOND FORM's CARD OF 'hostlerlaw19.AgentGroups'. -/
def agentGroupsUptoCard : Claim7 := { stood := { row := agentGroupsUptoRow, standIns := [], harness := (true, "0b36fe67fb6a9005b6b52284bcf9cdfa2b4110b71617fa7b4a530cbad24cc2fa"), looks := false }, kinds := [], alts := [], laidByText := true, laidKinds := [.data, .data, .data, .data, .pinned], laidTests := true, laidLooks := .later }
def AgentGroupsUptoCardSaid : Prop := Claim7.holds Tryz.pinned (.plain (OpenSpec.upto agentGroupsSpec)) agentGroupsUptoCard

/-- THE SECOND FORM's CARD OF 'hostlerlaw19.AgentErrors'. -/
def agentErrorsUptoCard : Claim7 := { stood := { row := agentErrorsUptoRow, standIns := [], harness := (true, "0b36fe67fb6a9005b6b52284bcf9cdfa2b4110b71617fa7b4a530cbad24cc2fa"), looks := false }, kinds := [], alts := [], laidByText := true, laidKinds := [.data, .data, .data, .data, .pinned], laidTests := true, laidLooks := .later }
def AgentErrorsUptoCardSaid : Prop := Claim7.holds Tryz.pinned (.plain (OpenSpec.upto agentErrorsSpec)) agentErrorsUptoCard

/-- THE SECOND FORM's CARD OF 'hostlerlaw19.AgentRuns'. -/
def agentRunsUptoCard : Claim7 := { stood := { row := agentRunsUptoRow, standIns := [], harness := (true, "0b36fe67fb6a9005b6b52284bcf9cdfa2b4110b71617fa7b4a530cbad24cc2fa"), looks := false }, kinds := [], alts := [], laidByText := true, laidKinds := [.data, .data, .data, .data, .pinned], laidTests := true, laidLooks := .later }
def AgentRunsUptoCardSaid : Prop := Claim7.holds Tryz.pinned (.plain (OpenSpec.upto agentRunsSpec)) agentRunsUptoCard

/-- THE SECOND FORM's CARD OF 'hostlerlaw19.AgentFull'. -/
def agentFullUptoCard : Claim7 := { stood := { row := agentFullUptoRow, standIns := [], harness := (true, "0b36fe67fb6a9005b6b52284bcf9cdfa2b4110b71617fa7b4a530cbad24cc2fa"), looks := false }, kinds := [], alts := [], laidByText := true, laidKinds := [.data, .data, .data, .data, .pinned], laidTests := true, laidLooks := .later }
def AgentFullUptoCardSaid : Prop := Claim7.holds Tryz.pinned (.plain (OpenSpec.upto agentFullSpec)) agentFullUptoCard

/-- THE SECOND FORM's CARD OF 'hostlerlaw19.AgentLate'. -/
def agentLateUptoCard : Claim7 := { stood := { row := agentLateUptoRow, standIns := [], harness := (true, "0b36fe67fb6a9005b6b52284bcf9cdfa2b4110b71617fa7b4a530cbad24cc2fa"), looks := false }, kinds := [], alts := [], laidByText := true, laidKinds := [.data, .data, .data, .data, .pinned], laidTests := true, laidLooks := .later }
def AgentLateUptoCardSaid : Prop := Claim7.holds Tryz.pinned (.plain (OpenSpec.upto agentLateSpec)) agentLateUptoCard

/-- THE SECOND FORM's CARD OF 'hostlerlaw19.AgentAsks'. -/
def agentAsksUptoCard : Claim7 := { stood := { row := agentAsksUptoRow, standIns := [], harness := (true, "0b36fe67fb6a9005b6b52284bcf9cdfa2b4110b71617fa7b4a530cbad24cc2fa"), looks := false }, kinds := [], alts := [], laidByText := true, laidKinds := [.data, .data, .data, .data, .pinned], laidTests := true, laidLooks := .later }
def AgentAsksUptoCardSaid : Prop := Claim7.holds Tryz.pinned (.plain (OpenSpec.upto agentAsksSpec)) agentAsksUptoCard

/-- THE SECOND FORM's CARD OF 'hostlerlaw19.AgentTicks'. -/
def agentTicksUptoCard : Claim7 := { stood := { row := agentTicksUptoRow, standIns := [], harness := (true, "0b36fe67fb6a9005b6b52284bcf9cdfa2b4110b71617fa7b4a530cbad24cc2fa"), looks := false }, kinds := [], alts := [], laidByText := true, laidKinds := [.data, .data, .data, .data, .pinned], laidTests := true, laidLooks := .later }
def AgentTicksUptoCardSaid : Prop := Claim7.holds Tryz.pinned (.plain (OpenSpec.upto agentTicksSpec)) agentTicksUptoCard

/-- THE SECOND FORM's CARD OF 'hostlerlaw19.AgentBoxes'. -/
def agentBoxesUptoCard : Claim7 := { stood := { row := agentBoxesUptoRow, standIns := [], harness := (true, "0b36fe67fb6a9005b6b52284bcf9cdfa2b4110b71617fa7b4a530cbad24cc2fa"), looks := false }, kinds := [], alts := [], laidByText := true, laidKinds := [.data, .data, .data, .data, .pinned], laidTests := true, laidLooks := .later }
def AgentBoxesUptoCardSaid : Prop := Claim7.holds Tryz.pinned (.plain (OpenSpec.upto agentBoxesSpec)) agentBoxesUptoCard
end Rows
end Go.Proofs.YtfebdfceidnnmaaGreatDoor
