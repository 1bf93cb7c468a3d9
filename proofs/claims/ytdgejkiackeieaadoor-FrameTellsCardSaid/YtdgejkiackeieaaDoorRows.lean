/-
  NARROWER THAN 'FOR EVERY INPUT', by the rows' own cells (each row's printed sentence says how): DigestHexes: laid · DigestDetects: laid · DigestResidue: laid · DigestXors: laid · DigestTells: laid · GramSeals: laid · DigestShorts: laid · GramFrames: laid · WireWrites: laid · WireOrder: laid · FrameTells: laid · FrameBack: laid · FrameCuts: laid · FrameOnly: laid · FrameBursts: laid · FrameFlags: laid · WireReads: laid · WireBack: laid · WireOnly: laid · GramTells: laid · GramReads: laid · GramOrders: laid.
  DERIVED. THE GIVEN ROWS OF THIS SEAT. 22 by the template 'for every input the law returns true; each argument reads behind the call as it read before'; 0 by the template 'total and deterministic' (their statements: YtdgejkiackeieaaDoorTotals.lean).
  GIVEN WITH THE SEED: the statements are not yours to turn. If you find one false, say at which input.
  Laid BY PROGRAM, IN A SANDBOX (cutbox-rows.mjs): the forced cells as the released guide's own fill.sh prints them over the translation bdf2a87f7a814bdd… (all of the seat's roots in one cut). By AI agents, Wed Nov 11 2026. No macro, syntax, notation, axiom, sorry.
-/
import Derived.Test.YtdgejkiackeieaaDoorChecked
import GoSem.PinnedTables
import GoSem.Claim
import GoSem.ClaimJoined
import GoSem.ClaimMapViews
import Derived.JoinedTies
import Derived.KernelRfl
namespace Go.Proofs.YtdgejkiackeieaaDoor
/- THE CELL 'sum', in the pinned program and in every row, IS THE sha256 OF THE DUMP (.gsa) THAT YtdgejkiackeieaaDoorProg.lean LOADS. Nothing in Lean hashes anything: it is a label: what it is worth is what the hold of that sum in a sandbox is worth. -/
noncomputable def Tryd.pinned : Pinned := { name := "ytdgejkiackeieaadoor", sum := "bdf2a87f7a814bdd96360c077638015022d5f27f455b545988a5e403d58690c5", checked := Tryd.checked }
namespace Rows
def none {H : Type} : Left H := { results := [], args := [] }

/- WHAT THE LISTED PACKAGE-LEVEL VARIABLES READ AS WHEN THE CALL BEGINS. Each datum BY PROGRAM (the guide's laid-datum.mjs) off the statement by which the dump's own 'gosem.cut.vars' lays the variable. In a bare row this is a premise. The card (YtdgejkiackeieaaDoorCards.lean) ties it to the program's text. -/
def laid_bourne_digest_first {H : Type} : DataW H := .agg [.lit (.int .u32 1779033703), .lit (.int .u32 3144134277), .lit (.int .u32 1013904242), .lit (.int .u32 2773480762), .lit (.int .u32 1359893119), .lit (.int .u32 2600822924), .lit (.int .u32 528734635), .lit (.int .u32 1541459225)]
def laid_bourne_digest_orders {H : Type} : DataW H := .agg [.agg [.lit (.int .u8 0), .lit (.int .u8 1), .lit (.int .u8 2), .lit (.int .u8 3), .lit (.int .u8 4), .lit (.int .u8 5), .lit (.int .u8 6), .lit (.int .u8 7), .lit (.int .u8 8), .lit (.int .u8 9), .lit (.int .u8 10), .lit (.int .u8 11), .lit (.int .u8 12), .lit (.int .u8 13), .lit (.int .u8 14), .lit (.int .u8 15)], .agg [.lit (.int .u8 14), .lit (.int .u8 10), .lit (.int .u8 4), .lit (.int .u8 8), .lit (.int .u8 9), .lit (.int .u8 15), .lit (.int .u8 13), .lit (.int .u8 6), .lit (.int .u8 1), .lit (.int .u8 12), .lit (.int .u8 0), .lit (.int .u8 2), .lit (.int .u8 11), .lit (.int .u8 7), .lit (.int .u8 5), .lit (.int .u8 3)], .agg [.lit (.int .u8 11), .lit (.int .u8 8), .lit (.int .u8 12), .lit (.int .u8 0), .lit (.int .u8 5), .lit (.int .u8 2), .lit (.int .u8 15), .lit (.int .u8 13), .lit (.int .u8 10), .lit (.int .u8 14), .lit (.int .u8 3), .lit (.int .u8 6), .lit (.int .u8 7), .lit (.int .u8 1), .lit (.int .u8 9), .lit (.int .u8 4)], .agg [.lit (.int .u8 7), .lit (.int .u8 9), .lit (.int .u8 3), .lit (.int .u8 1), .lit (.int .u8 13), .lit (.int .u8 12), .lit (.int .u8 11), .lit (.int .u8 14), .lit (.int .u8 2), .lit (.int .u8 6), .lit (.int .u8 5), .lit (.int .u8 10), .lit (.int .u8 4), .lit (.int .u8 0), .lit (.int .u8 15), .lit (.int .u8 8)], .agg [.lit (.int .u8 9), .lit (.int .u8 0), .lit (.int .u8 5), .lit (.int .u8 7), .lit (.int .u8 2), .lit (.int .u8 4), .lit (.int .u8 10), .lit (.int .u8 15), .lit (.int .u8 14), .lit (.int .u8 1), .lit (.int .u8 11), .lit (.int .u8 12), .lit (.int .u8 6), .lit (.int .u8 8), .lit (.int .u8 3), .lit (.int .u8 13)], .agg [.lit (.int .u8 2), .lit (.int .u8 12), .lit (.int .u8 6), .lit (.int .u8 10), .lit (.int .u8 0), .lit (.int .u8 11), .lit (.int .u8 8), .lit (.int .u8 3), .lit (.int .u8 4), .lit (.int .u8 13), .lit (.int .u8 7), .lit (.int .u8 5), .lit (.int .u8 15), .lit (.int .u8 14), .lit (.int .u8 1), .lit (.int .u8 9)], .agg [.lit (.int .u8 12), .lit (.int .u8 5), .lit (.int .u8 1), .lit (.int .u8 15), .lit (.int .u8 14), .lit (.int .u8 13), .lit (.int .u8 4), .lit (.int .u8 10), .lit (.int .u8 0), .lit (.int .u8 7), .lit (.int .u8 6), .lit (.int .u8 3), .lit (.int .u8 9), .lit (.int .u8 2), .lit (.int .u8 8), .lit (.int .u8 11)], .agg [.lit (.int .u8 13), .lit (.int .u8 11), .lit (.int .u8 7), .lit (.int .u8 14), .lit (.int .u8 12), .lit (.int .u8 1), .lit (.int .u8 3), .lit (.int .u8 9), .lit (.int .u8 5), .lit (.int .u8 0), .lit (.int .u8 15), .lit (.int .u8 4), .lit (.int .u8 8), .lit (.int .u8 6), .lit (.int .u8 2), .lit (.int .u8 10)], .agg [.lit (.int .u8 6), .lit (.int .u8 15), .lit (.int .u8 14), .lit (.int .u8 9), .lit (.int .u8 11), .lit (.int .u8 3), .lit (.int .u8 0), .lit (.int .u8 8), .lit (.int .u8 12), .lit (.int .u8 2), .lit (.int .u8 13), .lit (.int .u8 7), .lit (.int .u8 1), .lit (.int .u8 4), .lit (.int .u8 10), .lit (.int .u8 5)], .agg [.lit (.int .u8 10), .lit (.int .u8 2), .lit (.int .u8 8), .lit (.int .u8 4), .lit (.int .u8 7), .lit (.int .u8 6), .lit (.int .u8 1), .lit (.int .u8 5), .lit (.int .u8 15), .lit (.int .u8 11), .lit (.int .u8 9), .lit (.int .u8 14), .lit (.int .u8 3), .lit (.int .u8 12), .lit (.int .u8 13), .lit (.int .u8 0)]]
def laid_unicode_utf8_acceptRanges {H : Type} : DataW H := .agg [.agg [.lit (.int .u8 128), .lit (.int .u8 191)], .agg [.lit (.int .u8 160), .lit (.int .u8 191)], .agg [.lit (.int .u8 128), .lit (.int .u8 159)], .agg [.lit (.int .u8 144), .lit (.int .u8 191)], .agg [.lit (.int .u8 128), .lit (.int .u8 143)], .agg [.lit (.int .u8 0), .lit (.int .u8 0)], .agg [.lit (.int .u8 0), .lit (.int .u8 0)], .agg [.lit (.int .u8 0), .lit (.int .u8 0)], .agg [.lit (.int .u8 0), .lit (.int .u8 0)], .agg [.lit (.int .u8 0), .lit (.int .u8 0)], .agg [.lit (.int .u8 0), .lit (.int .u8 0)], .agg [.lit (.int .u8 0), .lit (.int .u8 0)], .agg [.lit (.int .u8 0), .lit (.int .u8 0)], .agg [.lit (.int .u8 0), .lit (.int .u8 0)], .agg [.lit (.int .u8 0), .lit (.int .u8 0)], .agg [.lit (.int .u8 0), .lit (.int .u8 0)]]
def laid_bourne_gram_lows {H : Type} : DataW H := .agg [.lit (.int .i64 0), .lit (.int .i64 0), .lit (.int .i64 0), .lit (.int .i64 (-1099511627776))]
def laid_bourne_gram_highs {H : Type} : DataW H := .agg [.lit (.int .i64 127), .lit (.int .i64 1099511627776), .lit (.int .i64 1006633019), .lit (.int .i64 1099511627776)]
/-- One of Go's own tables, pinned by name: the form's constant. -/
def laid_unicode_utf8_first : DataW Unit := Go.Pinned.utf8First

/-- 'bournelaw03.DigestHexes': WHATEVER THE INPUT: true; the input reads as it did. -/
def digestHexesSpec : ChangeSpec := { name := "digestHexes", fn := fun _ => fun
  | [d1, d2] => { results := [.lit (.bool true)], args := [d1, d2] }
  | _ => none }
def digestHexesRow : OpenClaim := { program := "ytdgejkiackeieaadoor", sum := "bdf2a87f7a814bdd96360c077638015022d5f27f455b545988a5e403d58690c5", func := "bourne/bournelaw03.DigestHexes", spec := "digestHexes", inPlace := ["internal/bytealg.IndexByteString", "internal/abi.NoEscape"], named := ["bourne/digest.first", "bourne/digest.orders"], apart := false, laid := [("bourne/digest.first", laid_bourne_digest_first), ("bourne/digest.orders", laid_bourne_digest_orders)] }
def DigestHexesSaid : Prop := digestHexesRow.holds Tryd.pinned (OpenSpec.ofChange digestHexesSpec)

/-- ITS FALSE NEIGHBOUR: 'it returns false'. Refute it at one input. -/
def digestHexesWrong : ChangeSpec := { name := "digestHexes", fn := fun _ => fun
  | [d1, d2] => { results := [.lit (.bool false)], args := [d1, d2] }
  | _ => none }
def DigestHexesWrongFalsely : Prop := digestHexesRow.holds Tryd.pinned (OpenSpec.ofChange digestHexesWrong)

/-- 'bournelaw03.DigestDetects': WHATEVER THE INPUT: true; the input reads as it did. -/
def digestDetectsSpec : ChangeSpec := { name := "digestDetects", fn := fun _ => fun
  | [d1, d2, d3] => { results := [.lit (.bool true)], args := [d1, d2, d3] }
  | _ => none }
def digestDetectsRow : OpenClaim := { program := "ytdgejkiackeieaadoor", sum := "bdf2a87f7a814bdd96360c077638015022d5f27f455b545988a5e403d58690c5", func := "bourne/bournelaw03.DigestDetects", spec := "digestDetects", inPlace := ["internal/bytealg.IndexByteString", "internal/abi.NoEscape"], named := ["bourne/digest.first", "bourne/digest.orders"], apart := false, laid := [("bourne/digest.first", laid_bourne_digest_first), ("bourne/digest.orders", laid_bourne_digest_orders)] }
def DigestDetectsSaid : Prop := digestDetectsRow.holds Tryd.pinned (OpenSpec.ofChange digestDetectsSpec)

/-- ITS FALSE NEIGHBOUR: 'it returns false'. Refute it at one input. -/
def digestDetectsWrong : ChangeSpec := { name := "digestDetects", fn := fun _ => fun
  | [d1, d2, d3] => { results := [.lit (.bool false)], args := [d1, d2, d3] }
  | _ => none }
def DigestDetectsWrongFalsely : Prop := digestDetectsRow.holds Tryd.pinned (OpenSpec.ofChange digestDetectsWrong)

/-- 'bournelaw03.DigestResidue': WHATEVER THE INPUT: true; the input reads as it did. -/
def digestResidueSpec : ChangeSpec := { name := "digestResidue", fn := fun _ => fun
  | [d] => { results := [.lit (.bool true)], args := [d] }
  | _ => none }
def digestResidueRow : OpenClaim := { program := "ytdgejkiackeieaadoor", sum := "bdf2a87f7a814bdd96360c077638015022d5f27f455b545988a5e403d58690c5", func := "bourne/bournelaw03.DigestResidue", spec := "digestResidue", inPlace := ["internal/bytealg.IndexByteString", "internal/abi.NoEscape"], named := ["bourne/digest.first", "bourne/digest.orders"], apart := false, laid := [("bourne/digest.first", laid_bourne_digest_first), ("bourne/digest.orders", laid_bourne_digest_orders)] }
def DigestResidueSaid : Prop := digestResidueRow.holds Tryd.pinned (OpenSpec.ofChange digestResidueSpec)

/-- ITS FALSE NEIGHBOUR: 'it returns false'. Refute it at one input. -/
def digestResidueWrong : ChangeSpec := { name := "digestResidue", fn := fun _ => fun
  | [d] => { results := [.lit (.bool false)], args := [d] }
  | _ => none }
def DigestResidueWrongFalsely : Prop := digestResidueRow.holds Tryd.pinned (OpenSpec.ofChange digestResidueWrong)

/-- 'bournelaw03.DigestXors': WHATEVER THE INPUT: true; the input reads as it did. -/
def digestXorsSpec : ChangeSpec := { name := "digestXors", fn := fun _ => fun
  | [d1, d2, d3] => { results := [.lit (.bool true)], args := [d1, d2, d3] }
  | _ => none }
def digestXorsRow : OpenClaim := { program := "ytdgejkiackeieaadoor", sum := "bdf2a87f7a814bdd96360c077638015022d5f27f455b545988a5e403d58690c5", func := "bourne/bournelaw03.DigestXors", spec := "digestXors", inPlace := ["internal/bytealg.IndexByteString", "internal/abi.NoEscape"], named := ["bourne/digest.first", "bourne/digest.orders"], apart := false, laid := [("bourne/digest.first", laid_bourne_digest_first), ("bourne/digest.orders", laid_bourne_digest_orders)] }
def DigestXorsSaid : Prop := digestXorsRow.holds Tryd.pinned (OpenSpec.ofChange digestXorsSpec)

/-- ITS FALSE NEIGHBOUR: 'it returns false'. Refute it at one input. -/
def digestXorsWrong : ChangeSpec := { name := "digestXors", fn := fun _ => fun
  | [d1, d2, d3] => { results := [.lit (.bool false)], args := [d1, d2, d3] }
  | _ => none }
def DigestXorsWrongFalsely : Prop := digestXorsRow.holds Tryd.pinned (OpenSpec.ofChange digestXorsWrong)

/-- 'bournelaw03.DigestTells': WHATEVER THE INPUT: true; the input reads as it did. -/
def digestTellsSpec : ChangeSpec := { name := "digestTells", fn := fun _ => fun
  | [d1, d2] => { results := [.lit (.bool true)], args := [d1, d2] }
  | _ => none }
def digestTellsRow : OpenClaim := { program := "ytdgejkiackeieaadoor", sum := "bdf2a87f7a814bdd96360c077638015022d5f27f455b545988a5e403d58690c5", func := "bourne/bournelaw03.DigestTells", spec := "digestTells", inPlace := ["internal/bytealg.IndexByteString", "internal/abi.NoEscape"], named := ["bourne/digest.first", "bourne/digest.orders"], apart := false, laid := [("bourne/digest.first", laid_bourne_digest_first), ("bourne/digest.orders", laid_bourne_digest_orders)] }
def DigestTellsSaid : Prop := digestTellsRow.holds Tryd.pinned (OpenSpec.ofChange digestTellsSpec)

/-- ITS FALSE NEIGHBOUR: 'it returns false'. Refute it at one input. -/
def digestTellsWrong : ChangeSpec := { name := "digestTells", fn := fun _ => fun
  | [d1, d2] => { results := [.lit (.bool false)], args := [d1, d2] }
  | _ => none }
def DigestTellsWrongFalsely : Prop := digestTellsRow.holds Tryd.pinned (OpenSpec.ofChange digestTellsWrong)

/-- 'bournelaw24.GramSeals': WHATEVER THE INPUT: true; the input reads as it did. -/
def gramSealsSpec : ChangeSpec := { name := "gramSeals", fn := fun _ => fun
  | [d1, d2] => { results := [.lit (.bool true)], args := [d1, d2] }
  | _ => none }
def gramSealsRow : OpenClaim := { program := "ytdgejkiackeieaadoor", sum := "bdf2a87f7a814bdd96360c077638015022d5f27f455b545988a5e403d58690c5", func := "bourne/bournelaw24.GramSeals", spec := "gramSeals", inPlace := ["internal/bytealg.CountString", "internal/bytealg.IndexByteString", "internal/bytealg.IndexString", "internal/abi.NoEscape", "internal/bytealg.MakeNoZero"], named := ["internal/bytealg.MaxLen", "unicode/utf8.first", "unicode/utf8.acceptRanges", "bourne/digest.first", "bourne/digest.orders", "bourne/gram.highs", "bourne/gram.lows"], apart := false, laid := [("unicode/utf8.acceptRanges", laid_unicode_utf8_acceptRanges), ("bourne/digest.first", laid_bourne_digest_first), ("bourne/digest.orders", laid_bourne_digest_orders), ("bourne/gram.lows", laid_bourne_gram_lows), ("bourne/gram.highs", laid_bourne_gram_highs), ("unicode/utf8.first", laid_unicode_utf8_first)] }
def GramSealsSaid : Prop := gramSealsRow.holds Tryd.pinned (OpenSpec.ofChange gramSealsSpec)

/-- ITS FALSE NEIGHBOUR: 'it returns false'. Refute it at one input. -/
def gramSealsWrong : ChangeSpec := { name := "gramSeals", fn := fun _ => fun
  | [d1, d2] => { results := [.lit (.bool false)], args := [d1, d2] }
  | _ => none }
def GramSealsWrongFalsely : Prop := gramSealsRow.holds Tryd.pinned (OpenSpec.ofChange gramSealsWrong)

/-- 'bournelaw03.DigestShorts': WHATEVER THE INPUT: true; the input reads as it did. -/
def digestShortsSpec : ChangeSpec := { name := "digestShorts", fn := fun _ => fun
  | [d] => { results := [.lit (.bool true)], args := [d] }
  | _ => none }
def digestShortsRow : OpenClaim := { program := "ytdgejkiackeieaadoor", sum := "bdf2a87f7a814bdd96360c077638015022d5f27f455b545988a5e403d58690c5", func := "bourne/bournelaw03.DigestShorts", spec := "digestShorts", inPlace := ["internal/bytealg.IndexByteString", "internal/abi.NoEscape"], named := ["bourne/digest.first", "bourne/digest.orders"], apart := false, laid := [("bourne/digest.first", laid_bourne_digest_first), ("bourne/digest.orders", laid_bourne_digest_orders)] }
def DigestShortsSaid : Prop := digestShortsRow.holds Tryd.pinned (OpenSpec.ofChange digestShortsSpec)

/-- ITS FALSE NEIGHBOUR: 'it returns false'. Refute it at one input. -/
def digestShortsWrong : ChangeSpec := { name := "digestShorts", fn := fun _ => fun
  | [d] => { results := [.lit (.bool false)], args := [d] }
  | _ => none }
def DigestShortsWrongFalsely : Prop := digestShortsRow.holds Tryd.pinned (OpenSpec.ofChange digestShortsWrong)

/-- 'bournelaw24.GramFrames': WHATEVER THE INPUT: true; the input reads as it did. -/
def gramFramesSpec : ChangeSpec := { name := "gramFrames", fn := fun _ => fun
  | [d1, d2, d3] => { results := [.lit (.bool true)], args := [d1, d2, d3] }
  | _ => none }
def gramFramesRow : OpenClaim := { program := "ytdgejkiackeieaadoor", sum := "bdf2a87f7a814bdd96360c077638015022d5f27f455b545988a5e403d58690c5", func := "bourne/bournelaw24.GramFrames", spec := "gramFrames", inPlace := ["internal/bytealg.CountString", "internal/bytealg.IndexByteString", "internal/bytealg.IndexString", "internal/abi.NoEscape", "internal/bytealg.MakeNoZero"], unfollowed := true, recurses := true, named := ["internal/bytealg.MaxLen", "unicode/utf8.first", "unicode/utf8.acceptRanges", "bourne/digest.first", "bourne/digest.orders", "bourne/gram.highs", "bourne/gram.lows"], apart := false, laid := [("unicode/utf8.acceptRanges", laid_unicode_utf8_acceptRanges), ("bourne/digest.first", laid_bourne_digest_first), ("bourne/digest.orders", laid_bourne_digest_orders), ("bourne/gram.lows", laid_bourne_gram_lows), ("bourne/gram.highs", laid_bourne_gram_highs), ("unicode/utf8.first", laid_unicode_utf8_first)] }
def GramFramesSaid : Prop := gramFramesRow.holds Tryd.pinned (OpenSpec.ofChange gramFramesSpec)

/-- ITS FALSE NEIGHBOUR: 'it returns false'. Refute it at one input. -/
def gramFramesWrong : ChangeSpec := { name := "gramFrames", fn := fun _ => fun
  | [d1, d2, d3] => { results := [.lit (.bool false)], args := [d1, d2, d3] }
  | _ => none }
def GramFramesWrongFalsely : Prop := gramFramesRow.holds Tryd.pinned (OpenSpec.ofChange gramFramesWrong)

/-- 'bournelaw02.WireWrites': WHATEVER THE INPUT: true; the input reads as it did. -/
def wireWritesSpec : ChangeSpec := { name := "wireWrites", fn := fun _ => fun
  | [d1, d2] => { results := [.lit (.bool true)], args := [d1, d2] }
  | _ => none }
def wireWritesRow : OpenClaim := { program := "ytdgejkiackeieaadoor", sum := "bdf2a87f7a814bdd96360c077638015022d5f27f455b545988a5e403d58690c5", func := "bourne/bournelaw02.WireWrites", spec := "wireWrites", inPlace := ["internal/bytealg.CountString", "internal/bytealg.IndexByteString", "internal/bytealg.IndexString", "internal/abi.NoEscape", "internal/bytealg.MakeNoZero"], unfollowed := true, recurses := true, named := ["internal/bytealg.MaxLen", "unicode/utf8.first", "unicode/utf8.acceptRanges"], apart := false, laid := [("unicode/utf8.acceptRanges", laid_unicode_utf8_acceptRanges), ("unicode/utf8.first", laid_unicode_utf8_first)] }
def WireWritesSaid : Prop := wireWritesRow.holds Tryd.pinned (OpenSpec.ofChange wireWritesSpec)

/-- ITS FALSE NEIGHBOUR: 'it returns false'. Refute it at one input. -/
def wireWritesWrong : ChangeSpec := { name := "wireWrites", fn := fun _ => fun
  | [d1, d2] => { results := [.lit (.bool false)], args := [d1, d2] }
  | _ => none }
def WireWritesWrongFalsely : Prop := wireWritesRow.holds Tryd.pinned (OpenSpec.ofChange wireWritesWrong)

/-- 'bournelaw02.WireOrder': WHATEVER THE INPUT: true; the input reads as it did. -/
def wireOrderSpec : ChangeSpec := { name := "wireOrder", fn := fun _ => fun
  | [d1, d2] => { results := [.lit (.bool true)], args := [d1, d2] }
  | _ => none }
def wireOrderRow : OpenClaim := { program := "ytdgejkiackeieaadoor", sum := "bdf2a87f7a814bdd96360c077638015022d5f27f455b545988a5e403d58690c5", func := "bourne/bournelaw02.WireOrder", spec := "wireOrder", inPlace := ["internal/bytealg.CountString", "internal/bytealg.IndexByteString", "internal/bytealg.IndexString", "internal/abi.NoEscape", "internal/bytealg.MakeNoZero"], unfollowed := true, recurses := true, named := ["internal/bytealg.MaxLen", "unicode/utf8.first", "unicode/utf8.acceptRanges"], apart := false, laid := [("unicode/utf8.acceptRanges", laid_unicode_utf8_acceptRanges), ("unicode/utf8.first", laid_unicode_utf8_first)] }
def WireOrderSaid : Prop := wireOrderRow.holds Tryd.pinned (OpenSpec.ofChange wireOrderSpec)

/-- ITS FALSE NEIGHBOUR: 'it returns false'. Refute it at one input. -/
def wireOrderWrong : ChangeSpec := { name := "wireOrder", fn := fun _ => fun
  | [d1, d2] => { results := [.lit (.bool false)], args := [d1, d2] }
  | _ => none }
def WireOrderWrongFalsely : Prop := wireOrderRow.holds Tryd.pinned (OpenSpec.ofChange wireOrderWrong)

/-- 'bournelaw23.FrameTells': WHATEVER THE INPUT: true; the input reads as it did. -/
def frameTellsSpec : ChangeSpec := { name := "frameTells", fn := fun _ => fun
  | [d1, d2] => { results := [.lit (.bool true)], args := [d1, d2] }
  | _ => none }
def frameTellsRow : OpenClaim := { program := "ytdgejkiackeieaadoor", sum := "bdf2a87f7a814bdd96360c077638015022d5f27f455b545988a5e403d58690c5", func := "bourne/bournelaw23.FrameTells", spec := "frameTells", inPlace := ["internal/bytealg.IndexByteString", "internal/bytealg.IndexString", "internal/bytealg.CountString", "internal/abi.NoEscape", "internal/bytealg.MakeNoZero"], unfollowed := true, recurses := true, named := ["internal/bytealg.MaxLen", "unicode/utf8.first", "unicode/utf8.acceptRanges"], apart := false, laid := [("unicode/utf8.acceptRanges", laid_unicode_utf8_acceptRanges), ("unicode/utf8.first", laid_unicode_utf8_first)] }
def FrameTellsSaid : Prop := frameTellsRow.holds Tryd.pinned (OpenSpec.ofChange frameTellsSpec)

/-- ITS FALSE NEIGHBOUR: 'it returns false'. Refute it at one input. -/
def frameTellsWrong : ChangeSpec := { name := "frameTells", fn := fun _ => fun
  | [d1, d2] => { results := [.lit (.bool false)], args := [d1, d2] }
  | _ => none }
def FrameTellsWrongFalsely : Prop := frameTellsRow.holds Tryd.pinned (OpenSpec.ofChange frameTellsWrong)

/-- 'bournelaw23.FrameBack': WHATEVER THE INPUT: true; the input reads as it did. -/
def frameBackSpec : ChangeSpec := { name := "frameBack", fn := fun _ => fun
  | [d1, d2] => { results := [.lit (.bool true)], args := [d1, d2] }
  | _ => none }
def frameBackRow : OpenClaim := { program := "ytdgejkiackeieaadoor", sum := "bdf2a87f7a814bdd96360c077638015022d5f27f455b545988a5e403d58690c5", func := "bourne/bournelaw23.FrameBack", spec := "frameBack", inPlace := ["internal/bytealg.IndexByteString", "internal/bytealg.IndexString", "internal/bytealg.CountString", "internal/abi.NoEscape", "internal/bytealg.MakeNoZero"], unfollowed := true, recurses := true, named := ["internal/bytealg.MaxLen", "unicode/utf8.first", "unicode/utf8.acceptRanges"], apart := false, laid := [("unicode/utf8.acceptRanges", laid_unicode_utf8_acceptRanges), ("unicode/utf8.first", laid_unicode_utf8_first)] }
def FrameBackSaid : Prop := frameBackRow.holds Tryd.pinned (OpenSpec.ofChange frameBackSpec)

/-- ITS FALSE NEIGHBOUR: 'it returns false'. Refute it at one input. -/
def frameBackWrong : ChangeSpec := { name := "frameBack", fn := fun _ => fun
  | [d1, d2] => { results := [.lit (.bool false)], args := [d1, d2] }
  | _ => none }
def FrameBackWrongFalsely : Prop := frameBackRow.holds Tryd.pinned (OpenSpec.ofChange frameBackWrong)

/-- 'bournelaw23.FrameCuts': WHATEVER THE INPUT: true; the input reads as it did. -/
def frameCutsSpec : ChangeSpec := { name := "frameCuts", fn := fun _ => fun
  | [d1, d2] => { results := [.lit (.bool true)], args := [d1, d2] }
  | _ => none }
def frameCutsRow : OpenClaim := { program := "ytdgejkiackeieaadoor", sum := "bdf2a87f7a814bdd96360c077638015022d5f27f455b545988a5e403d58690c5", func := "bourne/bournelaw23.FrameCuts", spec := "frameCuts", inPlace := ["internal/bytealg.IndexByteString", "internal/bytealg.IndexString", "internal/bytealg.CountString", "internal/abi.NoEscape", "internal/bytealg.MakeNoZero"], unfollowed := true, recurses := true, named := ["internal/bytealg.MaxLen", "unicode/utf8.first", "unicode/utf8.acceptRanges"], apart := false, laid := [("unicode/utf8.acceptRanges", laid_unicode_utf8_acceptRanges), ("unicode/utf8.first", laid_unicode_utf8_first)] }
def FrameCutsSaid : Prop := frameCutsRow.holds Tryd.pinned (OpenSpec.ofChange frameCutsSpec)

/-- ITS FALSE NEIGHBOUR: 'it returns false'. Refute it at one input. -/
def frameCutsWrong : ChangeSpec := { name := "frameCuts", fn := fun _ => fun
  | [d1, d2] => { results := [.lit (.bool false)], args := [d1, d2] }
  | _ => none }
def FrameCutsWrongFalsely : Prop := frameCutsRow.holds Tryd.pinned (OpenSpec.ofChange frameCutsWrong)

/-- 'bournelaw23.FrameOnly': WHATEVER THE INPUT: true; the input reads as it did. -/
def frameOnlySpec : ChangeSpec := { name := "frameOnly", fn := fun _ => fun
  | [d] => { results := [.lit (.bool true)], args := [d] }
  | _ => none }
def frameOnlyRow : OpenClaim := { program := "ytdgejkiackeieaadoor", sum := "bdf2a87f7a814bdd96360c077638015022d5f27f455b545988a5e403d58690c5", func := "bourne/bournelaw23.FrameOnly", spec := "frameOnly", inPlace := ["internal/bytealg.IndexByteString", "internal/bytealg.IndexString", "internal/bytealg.CountString", "internal/abi.NoEscape", "internal/bytealg.MakeNoZero"], unfollowed := true, recurses := true, named := ["internal/bytealg.MaxLen", "unicode/utf8.first", "unicode/utf8.acceptRanges"], apart := false, laid := [("unicode/utf8.acceptRanges", laid_unicode_utf8_acceptRanges), ("unicode/utf8.first", laid_unicode_utf8_first)] }
def FrameOnlySaid : Prop := frameOnlyRow.holds Tryd.pinned (OpenSpec.ofChange frameOnlySpec)

/-- ITS FALSE NEIGHBOUR: 'it returns false'. Refute it at one input. -/
def frameOnlyWrong : ChangeSpec := { name := "frameOnly", fn := fun _ => fun
  | [d] => { results := [.lit (.bool false)], args := [d] }
  | _ => none }
def FrameOnlyWrongFalsely : Prop := frameOnlyRow.holds Tryd.pinned (OpenSpec.ofChange frameOnlyWrong)

/-- 'bournelaw23.FrameBursts': WHATEVER THE INPUT: true; the input reads as it did. -/
def frameBurstsSpec : ChangeSpec := { name := "frameBursts", fn := fun _ => fun
  | [d1, d2, d3] => { results := [.lit (.bool true)], args := [d1, d2, d3] }
  | _ => none }
def frameBurstsRow : OpenClaim := { program := "ytdgejkiackeieaadoor", sum := "bdf2a87f7a814bdd96360c077638015022d5f27f455b545988a5e403d58690c5", func := "bourne/bournelaw23.FrameBursts", spec := "frameBursts", inPlace := ["internal/bytealg.IndexByteString", "internal/bytealg.IndexString", "internal/bytealg.CountString", "internal/abi.NoEscape", "internal/bytealg.MakeNoZero"], unfollowed := true, recurses := true, named := ["internal/bytealg.MaxLen", "unicode/utf8.first", "unicode/utf8.acceptRanges"], apart := false, laid := [("unicode/utf8.acceptRanges", laid_unicode_utf8_acceptRanges), ("unicode/utf8.first", laid_unicode_utf8_first)] }
def FrameBurstsSaid : Prop := frameBurstsRow.holds Tryd.pinned (OpenSpec.ofChange frameBurstsSpec)

/-- ITS FALSE NEIGHBOUR: 'it returns false'. Refute it at one input. -/
def frameBurstsWrong : ChangeSpec := { name := "frameBursts", fn := fun _ => fun
  | [d1, d2, d3] => { results := [.lit (.bool false)], args := [d1, d2, d3] }
  | _ => none }
def FrameBurstsWrongFalsely : Prop := frameBurstsRow.holds Tryd.pinned (OpenSpec.ofChange frameBurstsWrong)

/-- 'bournelaw23.FrameFlags': WHATEVER THE INPUT: true; the input reads as it did. -/
def frameFlagsSpec : ChangeSpec := { name := "frameFlags", fn := fun _ => fun
  | [d1, d2] => { results := [.lit (.bool true)], args := [d1, d2] }
  | _ => none }
def frameFlagsRow : OpenClaim := { program := "ytdgejkiackeieaadoor", sum := "bdf2a87f7a814bdd96360c077638015022d5f27f455b545988a5e403d58690c5", func := "bourne/bournelaw23.FrameFlags", spec := "frameFlags", inPlace := ["internal/bytealg.IndexByteString", "internal/bytealg.IndexString", "internal/bytealg.CountString", "internal/abi.NoEscape", "internal/bytealg.MakeNoZero"], unfollowed := true, recurses := true, named := ["internal/bytealg.MaxLen", "unicode/utf8.first", "unicode/utf8.acceptRanges"], apart := false, laid := [("unicode/utf8.acceptRanges", laid_unicode_utf8_acceptRanges), ("unicode/utf8.first", laid_unicode_utf8_first)] }
def FrameFlagsSaid : Prop := frameFlagsRow.holds Tryd.pinned (OpenSpec.ofChange frameFlagsSpec)

/-- ITS FALSE NEIGHBOUR: 'it returns false'. Refute it at one input. -/
def frameFlagsWrong : ChangeSpec := { name := "frameFlags", fn := fun _ => fun
  | [d1, d2] => { results := [.lit (.bool false)], args := [d1, d2] }
  | _ => none }
def FrameFlagsWrongFalsely : Prop := frameFlagsRow.holds Tryd.pinned (OpenSpec.ofChange frameFlagsWrong)

/-- 'bournelaw02.WireReads': WHATEVER THE INPUT: true; the input reads as it did. -/
def wireReadsSpec : ChangeSpec := { name := "wireReads", fn := fun _ => fun
  | [d1, d2] => { results := [.lit (.bool true)], args := [d1, d2] }
  | _ => none }
def wireReadsRow : OpenClaim := { program := "ytdgejkiackeieaadoor", sum := "bdf2a87f7a814bdd96360c077638015022d5f27f455b545988a5e403d58690c5", func := "bourne/bournelaw02.WireReads", spec := "wireReads", inPlace := ["internal/bytealg.CountString", "internal/bytealg.IndexByteString", "internal/bytealg.IndexString", "internal/abi.NoEscape", "internal/bytealg.MakeNoZero"], unfollowed := true, recurses := true, named := ["internal/bytealg.MaxLen", "unicode/utf8.first", "unicode/utf8.acceptRanges"], apart := false, laid := [("unicode/utf8.acceptRanges", laid_unicode_utf8_acceptRanges), ("unicode/utf8.first", laid_unicode_utf8_first)] }
def WireReadsSaid : Prop := wireReadsRow.holds Tryd.pinned (OpenSpec.ofChange wireReadsSpec)

/-- ITS FALSE NEIGHBOUR: 'it returns false'. Refute it at one input. -/
def wireReadsWrong : ChangeSpec := { name := "wireReads", fn := fun _ => fun
  | [d1, d2] => { results := [.lit (.bool false)], args := [d1, d2] }
  | _ => none }
def WireReadsWrongFalsely : Prop := wireReadsRow.holds Tryd.pinned (OpenSpec.ofChange wireReadsWrong)

/-- 'bournelaw02.WireBack': WHATEVER THE INPUT: true; the input reads as it did. -/
def wireBackSpec : ChangeSpec := { name := "wireBack", fn := fun _ => fun
  | [d1, d2] => { results := [.lit (.bool true)], args := [d1, d2] }
  | _ => none }
def wireBackRow : OpenClaim := { program := "ytdgejkiackeieaadoor", sum := "bdf2a87f7a814bdd96360c077638015022d5f27f455b545988a5e403d58690c5", func := "bourne/bournelaw02.WireBack", spec := "wireBack", inPlace := ["internal/bytealg.CountString", "internal/bytealg.IndexByteString", "internal/bytealg.IndexString", "internal/abi.NoEscape", "internal/bytealg.MakeNoZero"], unfollowed := true, recurses := true, named := ["internal/bytealg.MaxLen", "unicode/utf8.first", "unicode/utf8.acceptRanges"], apart := false, laid := [("unicode/utf8.acceptRanges", laid_unicode_utf8_acceptRanges), ("unicode/utf8.first", laid_unicode_utf8_first)] }
def WireBackSaid : Prop := wireBackRow.holds Tryd.pinned (OpenSpec.ofChange wireBackSpec)

/-- ITS FALSE NEIGHBOUR: 'it returns false'. Refute it at one input. -/
def wireBackWrong : ChangeSpec := { name := "wireBack", fn := fun _ => fun
  | [d1, d2] => { results := [.lit (.bool false)], args := [d1, d2] }
  | _ => none }
def WireBackWrongFalsely : Prop := wireBackRow.holds Tryd.pinned (OpenSpec.ofChange wireBackWrong)

/-- 'bournelaw02.WireOnly': WHATEVER THE INPUT: true; the input reads as it did. -/
def wireOnlySpec : ChangeSpec := { name := "wireOnly", fn := fun _ => fun
  | [d1, d2] => { results := [.lit (.bool true)], args := [d1, d2] }
  | _ => none }
def wireOnlyRow : OpenClaim := { program := "ytdgejkiackeieaadoor", sum := "bdf2a87f7a814bdd96360c077638015022d5f27f455b545988a5e403d58690c5", func := "bourne/bournelaw02.WireOnly", spec := "wireOnly", inPlace := ["internal/bytealg.CountString", "internal/bytealg.IndexByteString", "internal/bytealg.IndexString", "internal/abi.NoEscape", "internal/bytealg.MakeNoZero"], unfollowed := true, recurses := true, named := ["internal/bytealg.MaxLen", "unicode/utf8.first", "unicode/utf8.acceptRanges"], apart := false, laid := [("unicode/utf8.acceptRanges", laid_unicode_utf8_acceptRanges), ("unicode/utf8.first", laid_unicode_utf8_first)] }
def WireOnlySaid : Prop := wireOnlyRow.holds Tryd.pinned (OpenSpec.ofChange wireOnlySpec)

/-- ITS FALSE NEIGHBOUR: 'it returns false'. Refute it at one input. -/
def wireOnlyWrong : ChangeSpec := { name := "wireOnly", fn := fun _ => fun
  | [d1, d2] => { results := [.lit (.bool false)], args := [d1, d2] }
  | _ => none }
def WireOnlyWrongFalsely : Prop := wireOnlyRow.holds Tryd.pinned (OpenSpec.ofChange wireOnlyWrong)

/-- 'bournelaw24.GramTells': WHATEVER THE INPUT: true; the input reads as it did. -/
def gramTellsSpec : ChangeSpec := { name := "gramTells", fn := fun _ => fun
  | [d1, d2, d3, d4] => { results := [.lit (.bool true)], args := [d1, d2, d3, d4] }
  | _ => none }
def gramTellsRow : OpenClaim := { program := "ytdgejkiackeieaadoor", sum := "bdf2a87f7a814bdd96360c077638015022d5f27f455b545988a5e403d58690c5", func := "bourne/bournelaw24.GramTells", spec := "gramTells", inPlace := ["internal/bytealg.CountString", "internal/bytealg.IndexByteString", "internal/bytealg.IndexString", "internal/abi.NoEscape", "internal/bytealg.MakeNoZero"], named := ["internal/bytealg.MaxLen", "unicode/utf8.first", "unicode/utf8.acceptRanges", "bourne/digest.first", "bourne/digest.orders", "bourne/gram.highs", "bourne/gram.lows"], apart := false, laid := [("unicode/utf8.acceptRanges", laid_unicode_utf8_acceptRanges), ("bourne/digest.first", laid_bourne_digest_first), ("bourne/digest.orders", laid_bourne_digest_orders), ("bourne/gram.lows", laid_bourne_gram_lows), ("bourne/gram.highs", laid_bourne_gram_highs), ("unicode/utf8.first", laid_unicode_utf8_first)] }
def GramTellsSaid : Prop := gramTellsRow.holds Tryd.pinned (OpenSpec.ofChange gramTellsSpec)

/-- ITS FALSE NEIGHBOUR: 'it returns false'. Refute it at one input. -/
def gramTellsWrong : ChangeSpec := { name := "gramTells", fn := fun _ => fun
  | [d1, d2, d3, d4] => { results := [.lit (.bool false)], args := [d1, d2, d3, d4] }
  | _ => none }
def GramTellsWrongFalsely : Prop := gramTellsRow.holds Tryd.pinned (OpenSpec.ofChange gramTellsWrong)

/-- 'bournelaw24.GramReads': WHATEVER THE INPUT: true; the input reads as it did. -/
def gramReadsSpec : ChangeSpec := { name := "gramReads", fn := fun _ => fun
  | [d1, d2] => { results := [.lit (.bool true)], args := [d1, d2] }
  | _ => none }
def gramReadsRow : OpenClaim := { program := "ytdgejkiackeieaadoor", sum := "bdf2a87f7a814bdd96360c077638015022d5f27f455b545988a5e403d58690c5", func := "bourne/bournelaw24.GramReads", spec := "gramReads", inPlace := ["internal/bytealg.CountString", "internal/bytealg.IndexByteString", "internal/bytealg.IndexString", "internal/abi.NoEscape", "internal/bytealg.MakeNoZero"], named := ["internal/bytealg.MaxLen", "unicode/utf8.first", "unicode/utf8.acceptRanges", "bourne/digest.first", "bourne/digest.orders", "bourne/gram.highs", "bourne/gram.lows"], apart := false, laid := [("unicode/utf8.acceptRanges", laid_unicode_utf8_acceptRanges), ("bourne/digest.first", laid_bourne_digest_first), ("bourne/digest.orders", laid_bourne_digest_orders), ("bourne/gram.lows", laid_bourne_gram_lows), ("bourne/gram.highs", laid_bourne_gram_highs), ("unicode/utf8.first", laid_unicode_utf8_first)] }
def GramReadsSaid : Prop := gramReadsRow.holds Tryd.pinned (OpenSpec.ofChange gramReadsSpec)

/-- ITS FALSE NEIGHBOUR: 'it returns false'. Refute it at one input. -/
def gramReadsWrong : ChangeSpec := { name := "gramReads", fn := fun _ => fun
  | [d1, d2] => { results := [.lit (.bool false)], args := [d1, d2] }
  | _ => none }
def GramReadsWrongFalsely : Prop := gramReadsRow.holds Tryd.pinned (OpenSpec.ofChange gramReadsWrong)

/-- 'bournelaw24.GramOrders': WHATEVER THE INPUT: true; the input reads as it did. -/
def gramOrdersSpec : ChangeSpec := { name := "gramOrders", fn := fun _ => fun
  | [d1, d2] => { results := [.lit (.bool true)], args := [d1, d2] }
  | _ => none }
def gramOrdersRow : OpenClaim := { program := "ytdgejkiackeieaadoor", sum := "bdf2a87f7a814bdd96360c077638015022d5f27f455b545988a5e403d58690c5", func := "bourne/bournelaw24.GramOrders", spec := "gramOrders", inPlace := ["internal/bytealg.CountString", "internal/bytealg.IndexByteString", "internal/bytealg.IndexString", "internal/abi.NoEscape", "internal/bytealg.MakeNoZero"], named := ["internal/bytealg.MaxLen", "unicode/utf8.first", "unicode/utf8.acceptRanges", "bourne/digest.first", "bourne/digest.orders", "bourne/gram.highs", "bourne/gram.lows"], apart := false, laid := [("unicode/utf8.acceptRanges", laid_unicode_utf8_acceptRanges), ("bourne/digest.first", laid_bourne_digest_first), ("bourne/digest.orders", laid_bourne_digest_orders), ("bourne/gram.lows", laid_bourne_gram_lows), ("bourne/gram.highs", laid_bourne_gram_highs), ("unicode/utf8.first", laid_unicode_utf8_first)] }
def GramOrdersSaid : Prop := gramOrdersRow.holds Tryd.pinned (OpenSpec.ofChange gramOrdersSpec)

/-- ITS FALSE NEIGHBOUR: 'it returns false'. Refute it at one input. -/
def gramOrdersWrong : ChangeSpec := { name := "gramOrders", fn := fun _ => fun
  | [d1, d2] => { results := [.lit (.bool false)], args := [d1, d2] }
  | _ => none }
def GramOrdersWrongFalsely : Prop := gramOrdersRow.holds Tryd.pinned (OpenSpec.ofChange gramOrdersWrong)

/- THE SECOND FORM. 'bulk': how many values and letters a reading holds, each counted each time it is reached (what is shared counts as often as it is met; a slice's spare places count too). A statement '..UptoSaid' is the law's where the arguments, and the package variables that the reading takes, are together of bulk at most 1048576: NARROWER than '..Said'. Prove '..Said' where nothing that the law and all that it calls make is longer than what came in: it says more and counts as full. Else prove '..UptoSaid'. A law counts once. -/
mutual
def uptoBulk {H : Type} : DataW H → Nat
  | .lit (.string bytes) => bytes.length + 1
  | .lit _ => 1
  | .nil => 1
  | .ptr d => uptoBulk d + 1
  | .slice elems spare => uptoBulkAll elems + uptoBulkAll spare + 1
  | .agg parts => uptoBulkAll parts + 1
  | .iface _ d => uptoBulk d + 1
  | .map entries => uptoBulkEntries entries + 1
  | .held _ => 1
def uptoBulkAll {H : Type} : List (DataW H) → Nat
  | [] => 0
  | d :: r => uptoBulk d + uptoBulkAll r
def uptoBulkEntries {H : Type} : List (Lit × DataW H) → Nat
  | [] => 0
  | x :: r => uptoBulkEntry x + uptoBulkEntries r
def uptoBulkEntry {H : Type} : Lit × DataW H → Nat
  | (.string bytes, d) => bytes.length + uptoBulk d + 1
  | (_, d) => uptoBulk d + 1
 end
def uptoSmall : (H : Type) → List (DataW H) → Bool := fun _ ds => decide (uptoBulkAll ds ≤ 1048576)
def OpenSpec.upto (s : _root_.Go.ChangeSpec) : _root_.Go.OpenSpec := { _root_.Go.OpenSpec.ofChange s with cond := some uptoSmall }

/-- 'bournelaw03.DigestHexes', WHERE WHAT IT READS IS OF BULK AT MOST 1048576: true; the input reads as it did. -/
def digestHexesUptoRow : OpenClaim := { program := "ytdgejkiackeieaadoor", sum := "bdf2a87f7a814bdd96360c077638015022d5f27f455b545988a5e403d58690c5", func := "bourne/bournelaw03.DigestHexes", spec := "digestHexes", inPlace := ["internal/bytealg.IndexByteString", "internal/abi.NoEscape"], named := ["bourne/digest.first", "bourne/digest.orders"], apart := false, laid := [("bourne/digest.first", laid_bourne_digest_first), ("bourne/digest.orders", laid_bourne_digest_orders)], narrowed := true }
def DigestHexesUptoSaid : Prop := digestHexesUptoRow.holds Tryd.pinned (OpenSpec.upto digestHexesSpec)

/-- 'bournelaw03.DigestDetects', WHERE WHAT IT READS IS OF BULK AT MOST 1048576: true; the input reads as it did. -/
def digestDetectsUptoRow : OpenClaim := { program := "ytdgejkiackeieaadoor", sum := "bdf2a87f7a814bdd96360c077638015022d5f27f455b545988a5e403d58690c5", func := "bourne/bournelaw03.DigestDetects", spec := "digestDetects", inPlace := ["internal/bytealg.IndexByteString", "internal/abi.NoEscape"], named := ["bourne/digest.first", "bourne/digest.orders"], apart := false, laid := [("bourne/digest.first", laid_bourne_digest_first), ("bourne/digest.orders", laid_bourne_digest_orders)], narrowed := true }
def DigestDetectsUptoSaid : Prop := digestDetectsUptoRow.holds Tryd.pinned (OpenSpec.upto digestDetectsSpec)

/-- 'bournelaw03.DigestResidue', WHERE WHAT IT READS IS OF BULK AT MOST 1048576: true; the input reads as it did. -/
def digestResidueUptoRow : OpenClaim := { program := "ytdgejkiackeieaadoor", sum := "bdf2a87f7a814bdd96360c077638015022d5f27f455b545988a5e403d58690c5", func := "bourne/bournelaw03.DigestResidue", spec := "digestResidue", inPlace := ["internal/bytealg.IndexByteString", "internal/abi.NoEscape"], named := ["bourne/digest.first", "bourne/digest.orders"], apart := false, laid := [("bourne/digest.first", laid_bourne_digest_first), ("bourne/digest.orders", laid_bourne_digest_orders)], narrowed := true }
def DigestResidueUptoSaid : Prop := digestResidueUptoRow.holds Tryd.pinned (OpenSpec.upto digestResidueSpec)

/-- 'bournelaw03.DigestXors', WHERE WHAT IT READS IS OF BULK AT MOST 1048576: true; the input reads as it did. -/
def digestXorsUptoRow : OpenClaim := { program := "ytdgejkiackeieaadoor", sum := "bdf2a87f7a814bdd96360c077638015022d5f27f455b545988a5e403d58690c5", func := "bourne/bournelaw03.DigestXors", spec := "digestXors", inPlace := ["internal/bytealg.IndexByteString", "internal/abi.NoEscape"], named := ["bourne/digest.first", "bourne/digest.orders"], apart := false, laid := [("bourne/digest.first", laid_bourne_digest_first), ("bourne/digest.orders", laid_bourne_digest_orders)], narrowed := true }
def DigestXorsUptoSaid : Prop := digestXorsUptoRow.holds Tryd.pinned (OpenSpec.upto digestXorsSpec)

/-- 'bournelaw03.DigestTells', WHERE WHAT IT READS IS OF BULK AT MOST 1048576: true; the input reads as it did. -/
def digestTellsUptoRow : OpenClaim := { program := "ytdgejkiackeieaadoor", sum := "bdf2a87f7a814bdd96360c077638015022d5f27f455b545988a5e403d58690c5", func := "bourne/bournelaw03.DigestTells", spec := "digestTells", inPlace := ["internal/bytealg.IndexByteString", "internal/abi.NoEscape"], named := ["bourne/digest.first", "bourne/digest.orders"], apart := false, laid := [("bourne/digest.first", laid_bourne_digest_first), ("bourne/digest.orders", laid_bourne_digest_orders)], narrowed := true }
def DigestTellsUptoSaid : Prop := digestTellsUptoRow.holds Tryd.pinned (OpenSpec.upto digestTellsSpec)

/-- 'bournelaw24.GramSeals', WHERE WHAT IT READS IS OF BULK AT MOST 1048576: true; the input reads as it did. -/
def gramSealsUptoRow : OpenClaim := { program := "ytdgejkiackeieaadoor", sum := "bdf2a87f7a814bdd96360c077638015022d5f27f455b545988a5e403d58690c5", func := "bourne/bournelaw24.GramSeals", spec := "gramSeals", inPlace := ["internal/bytealg.CountString", "internal/bytealg.IndexByteString", "internal/bytealg.IndexString", "internal/abi.NoEscape", "internal/bytealg.MakeNoZero"], named := ["internal/bytealg.MaxLen", "unicode/utf8.first", "unicode/utf8.acceptRanges", "bourne/digest.first", "bourne/digest.orders", "bourne/gram.highs", "bourne/gram.lows"], apart := false, laid := [("unicode/utf8.acceptRanges", laid_unicode_utf8_acceptRanges), ("bourne/digest.first", laid_bourne_digest_first), ("bourne/digest.orders", laid_bourne_digest_orders), ("bourne/gram.lows", laid_bourne_gram_lows), ("bourne/gram.highs", laid_bourne_gram_highs), ("unicode/utf8.first", laid_unicode_utf8_first)], narrowed := true }
def GramSealsUptoSaid : Prop := gramSealsUptoRow.holds Tryd.pinned (OpenSpec.upto gramSealsSpec)

/-- 'bournelaw03.DigestShorts', WHERE WHAT IT READS IS OF BULK AT MOST 1048576: true; the input reads as it did. -/
def digestShortsUptoRow : OpenClaim := { program := "ytdgejkiackeieaadoor", sum := "bdf2a87f7a814bdd96360c077638015022d5f27f455b545988a5e403d58690c5", func := "bourne/bournelaw03.DigestShorts", spec := "digestShorts", inPlace := ["internal/bytealg.IndexByteString", "internal/abi.NoEscape"], named := ["bourne/digest.first", "bourne/digest.orders"], apart := false, laid := [("bourne/digest.first", laid_bourne_digest_first), ("bourne/digest.orders", laid_bourne_digest_orders)], narrowed := true }
def DigestShortsUptoSaid : Prop := digestShortsUptoRow.holds Tryd.pinned (OpenSpec.upto digestShortsSpec)

/-- 'bournelaw24.GramFrames', WHERE WHAT IT READS IS OF BULK AT MOST 1048576: true; the input reads as it did. -/
def gramFramesUptoRow : OpenClaim := { program := "ytdgejkiackeieaadoor", sum := "bdf2a87f7a814bdd96360c077638015022d5f27f455b545988a5e403d58690c5", func := "bourne/bournelaw24.GramFrames", spec := "gramFrames", inPlace := ["internal/bytealg.CountString", "internal/bytealg.IndexByteString", "internal/bytealg.IndexString", "internal/abi.NoEscape", "internal/bytealg.MakeNoZero"], unfollowed := true, recurses := true, named := ["internal/bytealg.MaxLen", "unicode/utf8.first", "unicode/utf8.acceptRanges", "bourne/digest.first", "bourne/digest.orders", "bourne/gram.highs", "bourne/gram.lows"], apart := false, laid := [("unicode/utf8.acceptRanges", laid_unicode_utf8_acceptRanges), ("bourne/digest.first", laid_bourne_digest_first), ("bourne/digest.orders", laid_bourne_digest_orders), ("bourne/gram.lows", laid_bourne_gram_lows), ("bourne/gram.highs", laid_bourne_gram_highs), ("unicode/utf8.first", laid_unicode_utf8_first)], narrowed := true }
def GramFramesUptoSaid : Prop := gramFramesUptoRow.holds Tryd.pinned (OpenSpec.upto gramFramesSpec)

/-- 'bournelaw02.WireWrites', WHERE WHAT IT READS IS OF BULK AT MOST 1048576: true; the input reads as it did. -/
def wireWritesUptoRow : OpenClaim := { program := "ytdgejkiackeieaadoor", sum := "bdf2a87f7a814bdd96360c077638015022d5f27f455b545988a5e403d58690c5", func := "bourne/bournelaw02.WireWrites", spec := "wireWrites", inPlace := ["internal/bytealg.CountString", "internal/bytealg.IndexByteString", "internal/bytealg.IndexString", "internal/abi.NoEscape", "internal/bytealg.MakeNoZero"], unfollowed := true, recurses := true, named := ["internal/bytealg.MaxLen", "unicode/utf8.first", "unicode/utf8.acceptRanges"], apart := false, laid := [("unicode/utf8.acceptRanges", laid_unicode_utf8_acceptRanges), ("unicode/utf8.first", laid_unicode_utf8_first)], narrowed := true }
def WireWritesUptoSaid : Prop := wireWritesUptoRow.holds Tryd.pinned (OpenSpec.upto wireWritesSpec)

/-- 'bournelaw02.WireOrder', WHERE WHAT IT READS IS OF BULK AT MOST 1048576: true; the input reads as it did. -/
def wireOrderUptoRow : OpenClaim := { program := "ytdgejkiackeieaadoor", sum := "bdf2a87f7a814bdd96360c077638015022d5f27f455b545988a5e403d58690c5", func := "bourne/bournelaw02.WireOrder", spec := "wireOrder", inPlace := ["internal/bytealg.CountString", "internal/bytealg.IndexByteString", "internal/bytealg.IndexString", "internal/abi.NoEscape", "internal/bytealg.MakeNoZero"], unfollowed := true, recurses := true, named := ["internal/bytealg.MaxLen", "unicode/utf8.first", "unicode/utf8.acceptRanges"], apart := false, laid := [("unicode/utf8.acceptRanges", laid_unicode_utf8_acceptRanges), ("unicode/utf8.first", laid_unicode_utf8_first)], narrowed := true }
def WireOrderUptoSaid : Prop := wireOrderUptoRow.holds Tryd.pinned (OpenSpec.upto wireOrderSpec)

/-- 'bournelaw23.FrameTells', WHERE WHAT IT READS IS OF BULK AT MOST 1048576: true; the input reads as it did. -/
def frameTellsUptoRow : OpenClaim := { program := "ytdgejkiackeieaadoor", sum := "bdf2a87f7a814bdd96360c077638015022d5f27f455b545988a5e403d58690c5", func := "bourne/bournelaw23.FrameTells", spec := "frameTells", inPlace := ["internal/bytealg.IndexByteString", "internal/bytealg.IndexString", "internal/bytealg.CountString", "internal/abi.NoEscape", "internal/bytealg.MakeNoZero"], unfollowed := true, recurses := true, named := ["internal/bytealg.MaxLen", "unicode/utf8.first", "unicode/utf8.acceptRanges"], apart := false, laid := [("unicode/utf8.acceptRanges", laid_unicode_utf8_acceptRanges), ("unicode/utf8.first", laid_unicode_utf8_first)], narrowed := true }
def FrameTellsUptoSaid : Prop := frameTellsUptoRow.holds Tryd.pinned (OpenSpec.upto frameTellsSpec)

/-- 'bournelaw23.FrameBack', WHERE WHAT IT READS IS OF BULK AT MOST 1048576: true; the input reads as it did. -/
def frameBackUptoRow : OpenClaim := { program := "ytdgejkiackeieaadoor", sum := "bdf2a87f7a814bdd96360c077638015022d5f27f455b545988a5e403d58690c5", func := "bourne/bournelaw23.FrameBack", spec := "frameBack", inPlace := ["internal/bytealg.IndexByteString", "internal/bytealg.IndexString", "internal/bytealg.CountString", "internal/abi.NoEscape", "internal/bytealg.MakeNoZero"], unfollowed := true, recurses := true, named := ["internal/bytealg.MaxLen", "unicode/utf8.first", "unicode/utf8.acceptRanges"], apart := false, laid := [("unicode/utf8.acceptRanges", laid_unicode_utf8_acceptRanges), ("unicode/utf8.first", laid_unicode_utf8_first)], narrowed := true }
def FrameBackUptoSaid : Prop := frameBackUptoRow.holds Tryd.pinned (OpenSpec.upto frameBackSpec)

/-- 'bournelaw23.FrameCuts', WHERE WHAT IT READS IS OF BULK AT MOST 1048576: true; the input reads as it did. -/
def frameCutsUptoRow : OpenClaim := { program := "ytdgejkiackeieaadoor", sum := "bdf2a87f7a814bdd96360c077638015022d5f27f455b545988a5e403d58690c5", func := "bourne/bournelaw23.FrameCuts", spec := "frameCuts", inPlace := ["internal/bytealg.IndexByteString", "internal/bytealg.IndexString", "internal/bytealg.CountString", "internal/abi.NoEscape", "internal/bytealg.MakeNoZero"], unfollowed := true, recurses := true, named := ["internal/bytealg.MaxLen", "unicode/utf8.first", "unicode/utf8.acceptRanges"], apart := false, laid := [("unicode/utf8.acceptRanges", laid_unicode_utf8_acceptRanges), ("unicode/utf8.first", laid_unicode_utf8_first)], narrowed := true }
def FrameCutsUptoSaid : Prop := frameCutsUptoRow.holds Tryd.pinned (OpenSpec.upto frameCutsSpec)

/-- 'bournelaw23.FrameOnly', WHERE WHAT IT READS IS OF BULK AT MOST 1048576: true; the input reads as it did. -/
def frameOnlyUptoRow : OpenClaim := { program := "ytdgejkiackeieaadoor", sum := "bdf2a87f7a814bdd96360c077638015022d5f27f455b545988a5e403d58690c5", func := "bourne/bournelaw23.FrameOnly", spec := "frameOnly", inPlace := ["internal/bytealg.IndexByteString", "internal/bytealg.IndexString", "internal/bytealg.CountString", "internal/abi.NoEscape", "internal/bytealg.MakeNoZero"], unfollowed := true, recurses := true, named := ["internal/bytealg.MaxLen", "unicode/utf8.first", "unicode/utf8.acceptRanges"], apart := false, laid := [("unicode/utf8.acceptRanges", laid_unicode_utf8_acceptRanges), ("unicode/utf8.first", laid_unicode_utf8_first)], narrowed := true }
def FrameOnlyUptoSaid : Prop := frameOnlyUptoRow.holds Tryd.pinned (OpenSpec.upto frameOnlySpec)

/-- 'bournelaw23.FrameBursts', WHERE WHAT IT READS IS OF BULK AT MOST 1048576: true; the input reads as it did. -/
def frameBurstsUptoRow : OpenClaim := { program := "ytdgejkiackeieaadoor", sum := "bdf2a87f7a814bdd96360c077638015022d5f27f455b545988a5e403d58690c5", func := "bourne/bournelaw23.FrameBursts", spec := "frameBursts", inPlace := ["internal/bytealg.IndexByteString", "internal/bytealg.IndexString", "internal/bytealg.CountString", "internal/abi.NoEscape", "internal/bytealg.MakeNoZero"], unfollowed := true, recurses := true, named := ["internal/bytealg.MaxLen", "unicode/utf8.first", "unicode/utf8.acceptRanges"], apart := false, laid := [("unicode/utf8.acceptRanges", laid_unicode_utf8_acceptRanges), ("unicode/utf8.first", laid_unicode_utf8_first)], narrowed := true }
def FrameBurstsUptoSaid : Prop := frameBurstsUptoRow.holds Tryd.pinned (OpenSpec.upto frameBurstsSpec)

/-- 'bournelaw23.FrameFlags', WHERE WHAT IT READS IS OF BULK AT MOST 1048576: true; the input reads as it did. -/
def frameFlagsUptoRow : OpenClaim := { program := "ytdgejkiackeieaadoor", sum := "bdf2a87f7a814bdd96360c077638015022d5f27f455b545988a5e403d58690c5", func := "bourne/bournelaw23.FrameFlags", spec := "frameFlags", inPlace := ["internal/bytealg.IndexByteString", "internal/bytealg.IndexString", "internal/bytealg.CountString", "internal/abi.NoEscape", "internal/bytealg.MakeNoZero"], unfollowed := true, recurses := true, named := ["internal/bytealg.MaxLen", "unicode/utf8.first", "unicode/utf8.acceptRanges"], apart := false, laid := [("unicode/utf8.acceptRanges", laid_unicode_utf8_acceptRanges), ("unicode/utf8.first", laid_unicode_utf8_first)], narrowed := true }
def FrameFlagsUptoSaid : Prop := frameFlagsUptoRow.holds Tryd.pinned (OpenSpec.upto frameFlagsSpec)

/-- 'bournelaw02.WireReads', WHERE WHAT IT READS IS OF BULK AT MOST 1048576: true; the input reads as it did. -/
def wireReadsUptoRow : OpenClaim := { program := "ytdgejkiackeieaadoor", sum := "bdf2a87f7a814bdd96360c077638015022d5f27f455b545988a5e403d58690c5", func := "bourne/bournelaw02.WireReads", spec := "wireReads", inPlace := ["internal/bytealg.CountString", "internal/bytealg.IndexByteString", "internal/bytealg.IndexString", "internal/abi.NoEscape", "internal/bytealg.MakeNoZero"], unfollowed := true, recurses := true, named := ["internal/bytealg.MaxLen", "unicode/utf8.first", "unicode/utf8.acceptRanges"], apart := false, laid := [("unicode/utf8.acceptRanges", laid_unicode_utf8_acceptRanges), ("unicode/utf8.first", laid_unicode_utf8_first)], narrowed := true }
def WireReadsUptoSaid : Prop := wireReadsUptoRow.holds Tryd.pinned (OpenSpec.upto wireReadsSpec)

/-- 'bournelaw02.WireBack', WHERE WHAT IT READS IS OF BULK AT MOST 1048576: true; the input reads as it did. -/
def wireBackUptoRow : OpenClaim := { program := "ytdgejkiackeieaadoor", sum := "bdf2a87f7a814bdd96360c077638015022d5f27f455b545988a5e403d58690c5", func := "bourne/bournelaw02.WireBack", spec := "wireBack", inPlace := ["internal/bytealg.CountString", "internal/bytealg.IndexByteString", "internal/bytealg.IndexString", "internal/abi.NoEscape", "internal/bytealg.MakeNoZero"], unfollowed := true, recurses := true, named := ["internal/bytealg.MaxLen", "unicode/utf8.first", "unicode/utf8.acceptRanges"], apart := false, laid := [("unicode/utf8.acceptRanges", laid_unicode_utf8_acceptRanges), ("unicode/utf8.first", laid_unicode_utf8_first)], narrowed := true }
def WireBackUptoSaid : Prop := wireBackUptoRow.holds Tryd.pinned (OpenSpec.upto wireBackSpec)

/-- 'bournelaw02.WireOnly', WHERE WHAT IT READS IS OF BULK AT MOST 1048576: true; the input reads as it did. -/
def wireOnlyUptoRow : OpenClaim := { program := "ytdgejkiackeieaadoor", sum := "bdf2a87f7a814bdd96360c077638015022d5f27f455b545988a5e403d58690c5", func := "bourne/bournelaw02.WireOnly", spec := "wireOnly", inPlace := ["internal/bytealg.CountString", "internal/bytealg.IndexByteString", "internal/bytealg.IndexString", "internal/abi.NoEscape", "internal/bytealg.MakeNoZero"], unfollowed := true, recurses := true, named := ["internal/bytealg.MaxLen", "unicode/utf8.first", "unicode/utf8.acceptRanges"], apart := false, laid := [("unicode/utf8.acceptRanges", laid_unicode_utf8_acceptRanges), ("unicode/utf8.first", laid_unicode_utf8_first)], narrowed := true }
def WireOnlyUptoSaid : Prop := wireOnlyUptoRow.holds Tryd.pinned (OpenSpec.upto wireOnlySpec)

/-- 'bournelaw24.GramTells', WHERE WHAT IT READS IS OF BULK AT MOST 1048576: true; the input reads as it did. -/
def gramTellsUptoRow : OpenClaim := { program := "ytdgejkiackeieaadoor", sum := "bdf2a87f7a814bdd96360c077638015022d5f27f455b545988a5e403d58690c5", func := "bourne/bournelaw24.GramTells", spec := "gramTells", inPlace := ["internal/bytealg.CountString", "internal/bytealg.IndexByteString", "internal/bytealg.IndexString", "internal/abi.NoEscape", "internal/bytealg.MakeNoZero"], named := ["internal/bytealg.MaxLen", "unicode/utf8.first", "unicode/utf8.acceptRanges", "bourne/digest.first", "bourne/digest.orders", "bourne/gram.highs", "bourne/gram.lows"], apart := false, laid := [("unicode/utf8.acceptRanges", laid_unicode_utf8_acceptRanges), ("bourne/digest.first", laid_bourne_digest_first), ("bourne/digest.orders", laid_bourne_digest_orders), ("bourne/gram.lows", laid_bourne_gram_lows), ("bourne/gram.highs", laid_bourne_gram_highs), ("unicode/utf8.first", laid_unicode_utf8_first)], narrowed := true }
def GramTellsUptoSaid : Prop := gramTellsUptoRow.holds Tryd.pinned (OpenSpec.upto gramTellsSpec)

/-- 'bournelaw24.GramReads', WHERE WHAT IT READS IS OF BULK AT MOST 1048576: true; the input reads as it did. -/
def gramReadsUptoRow : OpenClaim := { program := "ytdgejkiackeieaadoor", sum := "bdf2a87f7a814bdd96360c077638015022d5f27f455b545988a5e403d58690c5", func := "bourne/bournelaw24.GramReads", spec := "gramReads", inPlace := ["internal/bytealg.CountString", "internal/bytealg.IndexByteString", "internal/bytealg.IndexString", "internal/abi.NoEscape", "internal/bytealg.MakeNoZero"], named := ["internal/bytealg.MaxLen", "unicode/utf8.first", "unicode/utf8.acceptRanges", "bourne/digest.first", "bourne/digest.orders", "bourne/gram.highs", "bourne/gram.lows"], apart := false, laid := [("unicode/utf8.acceptRanges", laid_unicode_utf8_acceptRanges), ("bourne/digest.first", laid_bourne_digest_first), ("bourne/digest.orders", laid_bourne_digest_orders), ("bourne/gram.lows", laid_bourne_gram_lows), ("bourne/gram.highs", laid_bourne_gram_highs), ("unicode/utf8.first", laid_unicode_utf8_first)], narrowed := true }
def GramReadsUptoSaid : Prop := gramReadsUptoRow.holds Tryd.pinned (OpenSpec.upto gramReadsSpec)

/-- 'bournelaw24.GramOrders', WHERE WHAT IT READS IS OF BULK AT MOST 1048576: true; the input reads as it did. -/
def gramOrdersUptoRow : OpenClaim := { program := "ytdgejkiackeieaadoor", sum := "bdf2a87f7a814bdd96360c077638015022d5f27f455b545988a5e403d58690c5", func := "bourne/bournelaw24.GramOrders", spec := "gramOrders", inPlace := ["internal/bytealg.CountString", "internal/bytealg.IndexByteString", "internal/bytealg.IndexString", "internal/abi.NoEscape", "internal/bytealg.MakeNoZero"], named := ["internal/bytealg.MaxLen", "unicode/utf8.first", "unicode/utf8.acceptRanges", "bourne/digest.first", "bourne/digest.orders", "bourne/gram.highs", "bourne/gram.lows"], apart := false, laid := [("unicode/utf8.acceptRanges", laid_unicode_utf8_acceptRanges), ("bourne/digest.first", laid_bourne_digest_first), ("bourne/digest.orders", laid_bourne_digest_orders), ("bourne/gram.lows", laid_bourne_gram_lows), ("bourne/gram.highs", laid_bourne_gram_highs), ("unicode/utf8.first", laid_unicode_utf8_first)], narrowed := true }
def GramOrdersUptoSaid : Prop := gramOrdersUptoRow.holds Tryd.pinned (OpenSpec.upto gramOrdersSpec)

end Rows
end Go.Proofs.YtdgejkiackeieaaDoor
