/-
  DERIVED. GIVEN WITH THE SEED: THE CARDS: each row of YtdgejkiackeieaaDoorRows.lean that lists a variable, with what it lists TIED to the program's text (the seventh form; the later family's looks); each row that meets fmt, with fmt's text TOLD by the authors' own Lean function (tested against real Go, not proved from fmt's source: count such statements apart). THE CARD IS WHAT COUNTS. Prove the row's statement (the work); the ties are given (YtdgejkiackeieaaDoorTie.lean); close each card by the builder's one call (the guide's Derived/Test/ToyasCard.lean, 'card_holds'). Laid BY PROGRAM, IN A SANDBOX (cutbox-door.mjs). By AI agents, Wed Nov 11 2026. No macro, syntax, notation, axiom, sorry.
-/
import Derived.Test.YtdgejkiackeieaaDoorRows
import GoSem.ClaimSeven
namespace Go.Proofs.YtdgejkiackeieaaDoor
namespace Rows

/-- THE TIED CARD OF 'bournelaw03.DigestHexes'. -/
def digestHexesCard : Claim7 := { stood := { row := digestHexesRow, standIns := [], harness := (true, "deabea112e40b4d73330d7c5bfa97124504dfc90892305b8c145421c8cac0f81"), looks := false }, kinds := [], alts := [], laidByText := true, laidKinds := [.widerDeep, .data], laidTests := true, laidLooks := .later }
def DigestHexesCardSaid : Prop := Claim7.holds Tryd.pinned (.plain (OpenSpec.ofChange digestHexesSpec)) digestHexesCard

/-- THE TIED CARD OF 'bournelaw03.DigestDetects'. -/
def digestDetectsCard : Claim7 := { stood := { row := digestDetectsRow, standIns := [], harness := (true, "deabea112e40b4d73330d7c5bfa97124504dfc90892305b8c145421c8cac0f81"), looks := false }, kinds := [], alts := [], laidByText := true, laidKinds := [.widerDeep, .data], laidTests := true, laidLooks := .later }
def DigestDetectsCardSaid : Prop := Claim7.holds Tryd.pinned (.plain (OpenSpec.ofChange digestDetectsSpec)) digestDetectsCard

/-- THE TIED CARD OF 'bournelaw03.DigestResidue'. -/
def digestResidueCard : Claim7 := { stood := { row := digestResidueRow, standIns := [], harness := (true, "deabea112e40b4d73330d7c5bfa97124504dfc90892305b8c145421c8cac0f81"), looks := false }, kinds := [], alts := [], laidByText := true, laidKinds := [.widerDeep, .data], laidTests := true, laidLooks := .later }
def DigestResidueCardSaid : Prop := Claim7.holds Tryd.pinned (.plain (OpenSpec.ofChange digestResidueSpec)) digestResidueCard

/-- THE TIED CARD OF 'bournelaw03.DigestXors'. -/
def digestXorsCard : Claim7 := { stood := { row := digestXorsRow, standIns := [], harness := (true, "deabea112e40b4d73330d7c5bfa97124504dfc90892305b8c145421c8cac0f81"), looks := false }, kinds := [], alts := [], laidByText := true, laidKinds := [.widerDeep, .data], laidTests := true, laidLooks := .later }
def DigestXorsCardSaid : Prop := Claim7.holds Tryd.pinned (.plain (OpenSpec.ofChange digestXorsSpec)) digestXorsCard

/-- THE TIED CARD OF 'bournelaw03.DigestTells'. -/
def digestTellsCard : Claim7 := { stood := { row := digestTellsRow, standIns := [], harness := (true, "deabea112e40b4d73330d7c5bfa97124504dfc90892305b8c145421c8cac0f81"), looks := false }, kinds := [], alts := [], laidByText := true, laidKinds := [.widerDeep, .data], laidTests := true, laidLooks := .later }
def DigestTellsCardSaid : Prop := Claim7.holds Tryd.pinned (.plain (OpenSpec.ofChange digestTellsSpec)) digestTellsCard

/-- THE TIED CARD OF 'bournelaw24.GramSeals'. -/
def gramSealsCard : Claim7 := { stood := { row := gramSealsRow, standIns := [], harness := (true, "deabea112e40b4d73330d7c5bfa97124504dfc90892305b8c145421c8cac0f81"), looks := false }, kinds := [], alts := [], laidByText := true, laidKinds := [.data, .widerDeep, .data, .data, .data, .pinned], laidTests := true, laidLooks := .later }
def GramSealsCardSaid : Prop := Claim7.holds Tryd.pinned (.plain (OpenSpec.ofChange gramSealsSpec)) gramSealsCard

/-- THE TIED CARD OF 'bournelaw03.DigestShorts'. -/
def digestShortsCard : Claim7 := { stood := { row := digestShortsRow, standIns := [], harness := (true, "deabea112e40b4d73330d7c5bfa97124504dfc90892305b8c145421c8cac0f81"), looks := false }, kinds := [], alts := [], laidByText := true, laidKinds := [.widerDeep, .data], laidTests := true, laidLooks := .later }
def DigestShortsCardSaid : Prop := Claim7.holds Tryd.pinned (.plain (OpenSpec.ofChange digestShortsSpec)) digestShortsCard

/-- THE TIED CARD OF 'bournelaw24.GramFrames'. -/
def gramFramesCard : Claim7 := { stood := { row := gramFramesRow, standIns := [], harness := (true, "deabea112e40b4d73330d7c5bfa97124504dfc90892305b8c145421c8cac0f81"), looks := false }, kinds := [], alts := [], laidByText := true, laidKinds := [.data, .widerDeep, .data, .data, .data, .pinned], laidTests := true, laidLooks := .later }
def GramFramesCardSaid : Prop := Claim7.holds Tryd.pinned (.plain (OpenSpec.ofChange gramFramesSpec)) gramFramesCard

/-- THE TIED CARD OF 'bournelaw02.WireWrites'. -/
def wireWritesCard : Claim7 := { stood := { row := wireWritesRow, standIns := [], harness := (true, "deabea112e40b4d73330d7c5bfa97124504dfc90892305b8c145421c8cac0f81"), looks := false }, kinds := [], alts := [], laidByText := true, laidKinds := [.data, .pinned], laidTests := true, laidLooks := .later }
def WireWritesCardSaid : Prop := Claim7.holds Tryd.pinned (.plain (OpenSpec.ofChange wireWritesSpec)) wireWritesCard

/-- THE TIED CARD OF 'bournelaw02.WireOrder'. -/
def wireOrderCard : Claim7 := { stood := { row := wireOrderRow, standIns := [], harness := (true, "deabea112e40b4d73330d7c5bfa97124504dfc90892305b8c145421c8cac0f81"), looks := false }, kinds := [], alts := [], laidByText := true, laidKinds := [.data, .pinned], laidTests := true, laidLooks := .later }
def WireOrderCardSaid : Prop := Claim7.holds Tryd.pinned (.plain (OpenSpec.ofChange wireOrderSpec)) wireOrderCard

/-- THE TIED CARD OF 'bournelaw23.FrameTells'. -/
def frameTellsCard : Claim7 := { stood := { row := frameTellsRow, standIns := [], harness := (true, "deabea112e40b4d73330d7c5bfa97124504dfc90892305b8c145421c8cac0f81"), looks := false }, kinds := [], alts := [], laidByText := true, laidKinds := [.data, .pinned], laidTests := true, laidLooks := .later }
def FrameTellsCardSaid : Prop := Claim7.holds Tryd.pinned (.plain (OpenSpec.ofChange frameTellsSpec)) frameTellsCard

/-- THE TIED CARD OF 'bournelaw23.FrameBack'. -/
def frameBackCard : Claim7 := { stood := { row := frameBackRow, standIns := [], harness := (true, "deabea112e40b4d73330d7c5bfa97124504dfc90892305b8c145421c8cac0f81"), looks := false }, kinds := [], alts := [], laidByText := true, laidKinds := [.data, .pinned], laidTests := true, laidLooks := .later }
def FrameBackCardSaid : Prop := Claim7.holds Tryd.pinned (.plain (OpenSpec.ofChange frameBackSpec)) frameBackCard

/-- THE TIED CARD OF 'bournelaw23.FrameCuts'. -/
def frameCutsCard : Claim7 := { stood := { row := frameCutsRow, standIns := [], harness := (true, "deabea112e40b4d73330d7c5bfa97124504dfc90892305b8c145421c8cac0f81"), looks := false }, kinds := [], alts := [], laidByText := true, laidKinds := [.data, .pinned], laidTests := true, laidLooks := .later }
def FrameCutsCardSaid : Prop := Claim7.holds Tryd.pinned (.plain (OpenSpec.ofChange frameCutsSpec)) frameCutsCard

/-- THE TIED CARD OF 'bournelaw23.FrameOnly'. -/
def frameOnlyCard : Claim7 := { stood := { row := frameOnlyRow, standIns := [], harness := (true, "deabea112e40b4d73330d7c5bfa97124504dfc90892305b8c145421c8cac0f81"), looks := false }, kinds := [], alts := [], laidByText := true, laidKinds := [.data, .pinned], laidTests := true, laidLooks := .later }
def FrameOnlyCardSaid : Prop := Claim7.holds Tryd.pinned (.plain (OpenSpec.ofChange frameOnlySpec)) frameOnlyCard

/-- THE TIED CARD OF 'bournelaw23.FrameBursts'. -/
def frameBurstsCard : Claim7 := { stood := { row := frameBurstsRow, standIns := [], harness := (true, "deabea112e40b4d73330d7c5bfa97124504dfc90892305b8c145421c8cac0f81"), looks := false }, kinds := [], alts := [], laidByText := true, laidKinds := [.data, .pinned], laidTests := true, laidLooks := .later }
def FrameBurstsCardSaid : Prop := Claim7.holds Tryd.pinned (.plain (OpenSpec.ofChange frameBurstsSpec)) frameBurstsCard

/-- THE TIED CARD OF 'bournelaw23.FrameFlags'. -/
def frameFlagsCard : Claim7 := { stood := { row := frameFlagsRow, standIns := [], harness := (true, "deabea112e40b4d73330d7c5bfa97124504dfc90892305b8c145421c8cac0f81"), looks := false }, kinds := [], alts := [], laidByText := true, laidKinds := [.data, .pinned], laidTests := true, laidLooks := .later }
def FrameFlagsCardSaid : Prop := Claim7.holds Tryd.pinned (.plain (OpenSpec.ofChange frameFlagsSpec)) frameFlagsCard

/-- THE TIED CARD OF 'bournelaw02.WireReads'. -/
def wireReadsCard : Claim7 := { stood := { row := wireReadsRow, standIns := [], harness := (true, "deabea112e40b4d73330d7c5bfa97124504dfc90892305b8c145421c8cac0f81"), looks := false }, kinds := [], alts := [], laidByText := true, laidKinds := [.data, .pinned], laidTests := true, laidLooks := .later }
def WireReadsCardSaid : Prop := Claim7.holds Tryd.pinned (.plain (OpenSpec.ofChange wireReadsSpec)) wireReadsCard

/-- THE TIED CARD OF 'bournelaw02.WireBack'. -/
def wireBackCard : Claim7 := { stood := { row := wireBackRow, standIns := [], harness := (true, "deabea112e40b4d73330d7c5bfa97124504dfc90892305b8c145421c8cac0f81"), looks := false }, kinds := [], alts := [], laidByText := true, laidKinds := [.data, .pinned], laidTests := true, laidLooks := .later }
def WireBackCardSaid : Prop := Claim7.holds Tryd.pinned (.plain (OpenSpec.ofChange wireBackSpec)) wireBackCard

/-- THE TIED CARD OF 'bournelaw02.WireOnly'. -/
def wireOnlyCard : Claim7 := { stood := { row := wireOnlyRow, standIns := [], harness := (true, "deabea112e40b4d73330d7c5bfa97124504dfc90892305b8c145421c8cac0f81"), looks := false }, kinds := [], alts := [], laidByText := true, laidKinds := [.data, .pinned], laidTests := true, laidLooks := .later }
def WireOnlyCardSaid : Prop := Claim7.holds Tryd.pinned (.plain (OpenSpec.ofChange wireOnlySpec)) wireOnlyCard

/-- THE TIED CARD OF 'bournelaw24.GramTells'. -/
def gramTellsCard : Claim7 := { stood := { row := gramTellsRow, standIns := [], harness := (true, "deabea112e40b4d73330d7c5bfa97124504dfc90892305b8c145421c8cac0f81"), looks := false }, kinds := [], alts := [], laidByText := true, laidKinds := [.data, .widerDeep, .data, .data, .data, .pinned], laidTests := true, laidLooks := .later }
def GramTellsCardSaid : Prop := Claim7.holds Tryd.pinned (.plain (OpenSpec.ofChange gramTellsSpec)) gramTellsCard

/-- THE TIED CARD OF 'bournelaw24.GramReads'. -/
def gramReadsCard : Claim7 := { stood := { row := gramReadsRow, standIns := [], harness := (true, "deabea112e40b4d73330d7c5bfa97124504dfc90892305b8c145421c8cac0f81"), looks := false }, kinds := [], alts := [], laidByText := true, laidKinds := [.data, .widerDeep, .data, .data, .data, .pinned], laidTests := true, laidLooks := .later }
def GramReadsCardSaid : Prop := Claim7.holds Tryd.pinned (.plain (OpenSpec.ofChange gramReadsSpec)) gramReadsCard

/-- THE TIED CARD OF 'bournelaw24.GramOrders'. -/
def gramOrdersCard : Claim7 := { stood := { row := gramOrdersRow, standIns := [], harness := (true, "deabea112e40b4d73330d7c5bfa97124504dfc90892305b8c145421c8cac0f81"), looks := false }, kinds := [], alts := [], laidByText := true, laidKinds := [.data, .widerDeep, .data, .data, .data, .pinned], laidTests := true, laidLooks := .later }
def GramOrdersCardSaid : Prop := Claim7.holds Tryd.pinned (.plain (OpenSpec.ofChange gramOrdersSpec)) gramOrdersCard

/-- THE SECOND FORM's CARD OF 'bournelaw03.DigestHexes'. -/
def digestHexesUptoCard : Claim7 := { stood := { row := digestHexesUptoRow, standIns := [], harness := (true, "deabea112e40b4d73330d7c5bfa97124504dfc90892305b8c145421c8cac0f81"), looks := false }, kinds := [], alts := [], laidByText := true, laidKinds := [.widerDeep, .data], laidTests := true, laidLooks := .later }
def DigestHexesUptoCardSaid : Prop := Claim7.holds Tryd.pinned (.plain (OpenSpec.upto digestHexesSpec)) digestHexesUptoCard

/-- THE SECOND FORM's CARD OF 'bournelaw03.DigestDetects'. -/
def digestDetectsUptoCard : Claim7 := { stood := { row := digestDetectsUptoRow, standIns := [], harness := (true, "deabea112e40b4d73330d7c5bfa97124504dfc90892305b8c145421c8cac0f81"), looks := false }, kinds := [], alts := [], laidByText := true, laidKinds := [.widerDeep, .data], laidTests := true, laidLooks := .later }
def DigestDetectsUptoCardSaid : Prop := Claim7.holds Tryd.pinned (.plain (OpenSpec.upto digestDetectsSpec)) digestDetectsUptoCard

/-- THE SECOND FORM's CARD OF 'bournelaw03.DigestResidue'. -/
def digestResidueUptoCard : Claim7 := { stood := { row := digestResidueUptoRow, standIns := [], harness := (true, "deabea112e40b4d73330d7c5bfa97124504dfc90892305b8c145421c8cac0f81"), looks := false }, kinds := [], alts := [], laidByText := true, laidKinds := [.widerDeep, .data], laidTests := true, laidLooks := .later }
def DigestResidueUptoCardSaid : Prop := Claim7.holds Tryd.pinned (.plain (OpenSpec.upto digestResidueSpec)) digestResidueUptoCard

/-- THE SECOND FORM's CARD OF 'bournelaw03.DigestXors'. -/
def digestXorsUptoCard : Claim7 := { stood := { row := digestXorsUptoRow, standIns := [], harness := (true, "deabea112e40b4d73330d7c5bfa97124504dfc90892305b8c145421c8cac0f81"), looks := false }, kinds := [], alts := [], laidByText := true, laidKinds := [.widerDeep, .data], laidTests := true, laidLooks := .later }
def DigestXorsUptoCardSaid : Prop := Claim7.holds Tryd.pinned (.plain (OpenSpec.upto digestXorsSpec)) digestXorsUptoCard

/-- THE SECOND FORM's CARD OF 'bournelaw03.DigestTells'. -/
def digestTellsUptoCard : Claim7 := { stood := { row := digestTellsUptoRow, standIns := [], harness := (true, "deabea112e40b4d73330d7c5bfa97124504dfc90892305b8c145421c8cac0f81"), looks := false }, kinds := [], alts := [], laidByText := true, laidKinds := [.widerDeep, .data], laidTests := true, laidLooks := .later }
def DigestTellsUptoCardSaid : Prop := Claim7.holds Tryd.pinned (.plain (OpenSpec.upto digestTellsSpec)) digestTellsUptoCard

/-- THE SECOND FORM's CARD OF 'bournelaw24.GramSeals'. -/
def gramSealsUptoCard : Claim7 := { stood := { row := gramSealsUptoRow, standIns := [], harness := (true, "deabea112e40b4d73330d7c5bfa97124504dfc90892305b8c145421c8cac0f81"), looks := false }, kinds := [], alts := [], laidByText := true, laidKinds := [.data, .widerDeep, .data, .data, .data, .pinned], laidTests := true, laidLooks := .later }
def GramSealsUptoCardSaid : Prop := Claim7.holds Tryd.pinned (.plain (OpenSpec.upto gramSealsSpec)) gramSealsUptoCard

/-- THE SECOND FORM's CARD OF 'bournelaw03.DigestShorts'. -/
def digestShortsUptoCard : Claim7 := { stood := { row := digestShortsUptoRow, standIns := [], harness := (true, "deabea112e40b4d73330d7c5bfa97124504dfc90892305b8c145421c8cac0f81"), looks := false }, kinds := [], alts := [], laidByText := true, laidKinds := [.widerDeep, .data], laidTests := true, laidLooks := .later }
def DigestShortsUptoCardSaid : Prop := Claim7.holds Tryd.pinned (.plain (OpenSpec.upto digestShortsSpec)) digestShortsUptoCard

/-- THE SECOND FORM's CARD OF 'bournelaw24.GramFrames'. -/
def gramFramesUptoCard : Claim7 := { stood := { row := gramFramesUptoRow, standIns := [], harness := (true, "deabea112e40b4d73330d7c5bfa97124504dfc90892305b8c145421c8cac0f81"), looks := false }, kinds := [], alts := [], laidByText := true, laidKinds := [.data, .widerDeep, .data, .data, .data, .pinned], laidTests := true, laidLooks := .later }
def GramFramesUptoCardSaid : Prop := Claim7.holds Tryd.pinned (.plain (OpenSpec.upto gramFramesSpec)) gramFramesUptoCard

/-- THE SECOND FORM's CARD OF 'bournelaw02.WireWrites'. -/
def wireWritesUptoCard : Claim7 := { stood := { row := wireWritesUptoRow, standIns := [], harness := (true, "deabea112e40b4d73330d7c5bfa97124504dfc90892305b8c145421c8cac0f81"), looks := false }, kinds := [], alts := [], laidByText := true, laidKinds := [.data, .pinned], laidTests := true, laidLooks := .later }
def WireWritesUptoCardSaid : Prop := Claim7.holds Tryd.pinned (.plain (OpenSpec.upto wireWritesSpec)) wireWritesUptoCard

/-- THE SECOND FORM's CARD OF 'bournelaw02.WireOrder'. -/
def wireOrderUptoCard : Claim7 := { stood := { row := wireOrderUptoRow, standIns := [], harness := (true, "deabea112e40b4d73330d7c5bfa97124504dfc90892305b8c145421c8cac0f81"), looks := false }, kinds := [], alts := [], laidByText := true, laidKinds := [.data, .pinned], laidTests := true, laidLooks := .later }
def WireOrderUptoCardSaid : Prop := Claim7.holds Tryd.pinned (.plain (OpenSpec.upto wireOrderSpec)) wireOrderUptoCard

/-- THE SECOND FORM's CARD OF 'bournelaw23.FrameTells'. -/
def frameTellsUptoCard : Claim7 := { stood := { row := frameTellsUptoRow, standIns := [], harness := (true, "deabea112e40b4d73330d7c5bfa97124504dfc90892305b8c145421c8cac0f81"), looks := false }, kinds := [], alts := [], laidByText := true, laidKinds := [.data, .pinned], laidTests := true, laidLooks := .later }
def FrameTellsUptoCardSaid : Prop := Claim7.holds Tryd.pinned (.plain (OpenSpec.upto frameTellsSpec)) frameTellsUptoCard

/-- THE SECOND FORM's CARD OF 'bournelaw23.FrameBack'. -/
def frameBackUptoCard : Claim7 := { stood := { row := frameBackUptoRow, standIns := [], harness := (true, "deabea112e40b4d73330d7c5bfa97124504dfc90892305b8c145421c8cac0f81"), looks := false }, kinds := [], alts := [], laidByText := true, laidKinds := [.data, .pinned], laidTests := true, laidLooks := .later }
def FrameBackUptoCardSaid : Prop := Claim7.holds Tryd.pinned (.plain (OpenSpec.upto frameBackSpec)) frameBackUptoCard

/-- THE SECOND FORM's CARD OF 'bournelaw23.FrameCuts'. -/
def frameCutsUptoCard : Claim7 := { stood := { row := frameCutsUptoRow, standIns := [], harness := (true, "deabea112e40b4d73330d7c5bfa97124504dfc90892305b8c145421c8cac0f81"), looks := false }, kinds := [], alts := [], laidByText := true, laidKinds := [.data, .pinned], laidTests := true, laidLooks := .later }
def FrameCutsUptoCardSaid : Prop := Claim7.holds Tryd.pinned (.plain (OpenSpec.upto frameCutsSpec)) frameCutsUptoCard

/-- THE SECOND FORM's CARD OF 'bournelaw23.FrameOnly'. -/
def frameOnlyUptoCard : Claim7 := { stood := { row := frameOnlyUptoRow, standIns := [], harness := (true, "deabea112e40b4d73330d7c5bfa97124504dfc90892305b8c145421c8cac0f81"), looks := false }, kinds := [], alts := [], laidByText := true, laidKinds := [.data, .pinned], laidTests := true, laidLooks := .later }
def FrameOnlyUptoCardSaid : Prop := Claim7.holds Tryd.pinned (.plain (OpenSpec.upto frameOnlySpec)) frameOnlyUptoCard

/-- THE SECOND FORM's CARD OF 'bournelaw23.FrameBursts'. -/
def frameBurstsUptoCard : Claim7 := { stood := { row := frameBurstsUptoRow, standIns := [], harness := (true, "deabea112e40b4d73330d7c5bfa97124504dfc90892305b8c145421c8cac0f81"), looks := false }, kinds := [], alts := [], laidByText := true, laidKinds := [.data, .pinned], laidTests := true, laidLooks := .later }
def FrameBurstsUptoCardSaid : Prop := Claim7.holds Tryd.pinned (.plain (OpenSpec.upto frameBurstsSpec)) frameBurstsUptoCard

/-- THE SECOND FORM's CARD OF 'bournelaw23.FrameFlags'. -/
def frameFlagsUptoCard : Claim7 := { stood := { row := frameFlagsUptoRow, standIns := [], harness := (true, "deabea112e40b4d73330d7c5bfa97124504dfc90892305b8c145421c8cac0f81"), looks := false }, kinds := [], alts := [], laidByText := true, laidKinds := [.data, .pinned], laidTests := true, laidLooks := .later }
def FrameFlagsUptoCardSaid : Prop := Claim7.holds Tryd.pinned (.plain (OpenSpec.upto frameFlagsSpec)) frameFlagsUptoCard

/-- THE SECOND FORM's CARD OF 'bournelaw02.WireReads'. -/
def wireReadsUptoCard : Claim7 := { stood := { row := wireReadsUptoRow, standIns := [], harness := (true, "deabea112e40b4d73330d7c5bfa97124504dfc90892305b8c145421c8cac0f81"), looks := false }, kinds := [], alts := [], laidByText := true, laidKinds := [.data, .pinned], laidTests := true, laidLooks := .later }
def WireReadsUptoCardSaid : Prop := Claim7.holds Tryd.pinned (.plain (OpenSpec.upto wireReadsSpec)) wireReadsUptoCard

/-- THE SECOND FORM's CARD OF 'bournelaw02.WireBack'. -/
def wireBackUptoCard : Claim7 := { stood := { row := wireBackUptoRow, standIns := [], harness := (true, "deabea112e40b4d73330d7c5bfa97124504dfc90892305b8c145421c8cac0f81"), looks := false }, kinds := [], alts := [], laidByText := true, laidKinds := [.data, .pinned], laidTests := true, laidLooks := .later }
def WireBackUptoCardSaid : Prop := Claim7.holds Tryd.pinned (.plain (OpenSpec.upto wireBackSpec)) wireBackUptoCard

/-- THE SECOND FORM's CARD OF 'bournelaw02.WireOnly'. -/
def wireOnlyUptoCard : Claim7 := { stood := { row := wireOnlyUptoRow, standIns := [], harness := (true, "deabea112e40b4d73330d7c5bfa97124504dfc90892305b8c145421c8cac0f81"), looks := false }, kinds := [], alts := [], laidByText := true, laidKinds := [.data, .pinned], laidTests := true, laidLooks := .later }
def WireOnlyUptoCardSaid : Prop := Claim7.holds Tryd.pinned (.plain (OpenSpec.upto wireOnlySpec)) wireOnlyUptoCard

/-- THE SECOND FORM's CARD OF 'bournelaw24.GramTells'. -/
def gramTellsUptoCard : Claim7 := { stood := { row := gramTellsUptoRow, standIns := [], harness := (true, "deabea112e40b4d73330d7c5bfa97124504dfc90892305b8c145421c8cac0f81"), looks := false }, kinds := [], alts := [], laidByText := true, laidKinds := [.data, .widerDeep, .data, .data, .data, .pinned], laidTests := true, laidLooks := .later }
def GramTellsUptoCardSaid : Prop := Claim7.holds Tryd.pinned (.plain (OpenSpec.upto gramTellsSpec)) gramTellsUptoCard

/-- THE SECOND FORM's CARD OF 'bournelaw24.GramReads'. -/
def gramReadsUptoCard : Claim7 := { stood := { row := gramReadsUptoRow, standIns := [], harness := (true, "deabea112e40b4d73330d7c5bfa97124504dfc90892305b8c145421c8cac0f81"), looks := false }, kinds := [], alts := [], laidByText := true, laidKinds := [.data, .widerDeep, .data, .data, .data, .pinned], laidTests := true, laidLooks := .later }
def GramReadsUptoCardSaid : Prop := Claim7.holds Tryd.pinned (.plain (OpenSpec.upto gramReadsSpec)) gramReadsUptoCard

/-- THE SECOND FORM's CARD OF 'bournelaw24.GramOrders'. -/
def gramOrdersUptoCard : Claim7 := { stood := { row := gramOrdersUptoRow, standIns := [], harness := (true, "deabea112e40b4d73330d7c5bfa97124504dfc90892305b8c145421c8cac0f81"), looks := false }, kinds := [], alts := [], laidByText := true, laidKinds := [.data, .widerDeep, .data, .data, .data, .pinned], laidTests := true, laidLooks := .later }
def GramOrdersUptoCardSaid : Prop := Claim7.holds Tryd.pinned (.plain (OpenSpec.upto gramOrdersSpec)) gramOrdersUptoCard
end Rows
end Go.Proofs.YtdgejkiackeieaaDoor
