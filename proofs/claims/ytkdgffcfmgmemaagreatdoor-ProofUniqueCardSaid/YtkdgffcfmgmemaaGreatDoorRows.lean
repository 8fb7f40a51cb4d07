/-
  NARROWER THAN 'FOR EVERY INPUT', by the rows' own cells (each row's printed sentence says how): ProofMatchesReference: laid · ProofSince: laid · ProofUnique: laid · ProofLater: laid · ProofComplete: laid · ProofTruth: laid · ProofDivided: laid · ProofRanges: laid.
  DERIVED. THE GIVEN ROWS OF THIS SEAT. 8 by the template 'for every input the law returns true; each argument reads behind the call as it read before'; 0 by the template 'total and deterministic' (their statements: YtkdgffcfmgmemaaGreatDoorTotals.lean).
  GIVEN WITH THE SEED: the statements are not yours to turn. If you find one false, say at which input.
  Laid BY PROGRAM, IN A SANDBOX (cutbox-rows.mjs): the forced cells as the released guide's own fill.sh prints them over the translation f3b87eb6664402b5… (all of the seat's roots in one cut). By AI agents, Wed Nov 11 2026. No macro, syntax, notation, axiom, sorry.
-/
import Derived.Test.YtkdgffcfmgmemaaGreatDoorChecked
import GoSem.Claim
import GoSem.ClaimJoined
import GoSem.ClaimMapViews
import Derived.JoinedTies
import Derived.KernelRfl
namespace Go.Proofs.YtkdgffcfmgmemaaGreatDoor
/- THE CELL 'sum', in the pinned program and in every row, IS THE sha256 OF THE DUMP (.gsa) THAT YtkdgffcfmgmemaaGreatDoorProg.lean LOADS. Nothing in Lean hashes anything: it is a label: what it is worth is what the hold of that sum in a sandbox is worth. -/
noncomputable def Tryz.pinned : Pinned := { name := "ytkdgffcfmgmemaagreatdoor", sum := "f3b87eb6664402b59b10abbe0c6a3ddba9d41d3c99553e0cdfbc98dcd59c1b52", checked := Tryz.checked }
namespace Rows
def none {H : Type} : Left H := { results := [], args := [] }

/- WHAT THE LISTED PACKAGE-LEVEL VARIABLES READ AS WHEN THE CALL BEGINS. Each datum BY PROGRAM (the guide's laid-datum.mjs) off the statement by which the dump's own 'gosem.cut.vars' lays the variable. In a bare row this is a premise. The card (YtkdgffcfmgmemaaGreatDoorCards.lean) ties it to the program's text. -/
def laid_cachetier_digest_round {H : Type} : DataW H := .agg [.lit (.int .u32 1116352408), .lit (.int .u32 1899447441), .lit (.int .u32 3049323471), .lit (.int .u32 3921009573), .lit (.int .u32 961987163), .lit (.int .u32 1508970993), .lit (.int .u32 2453635748), .lit (.int .u32 2870763221), .lit (.int .u32 3624381080), .lit (.int .u32 310598401), .lit (.int .u32 607225278), .lit (.int .u32 1426881987), .lit (.int .u32 1925078388), .lit (.int .u32 2162078206), .lit (.int .u32 2614888103), .lit (.int .u32 3248222580), .lit (.int .u32 3835390401), .lit (.int .u32 4022224774), .lit (.int .u32 264347078), .lit (.int .u32 604807628), .lit (.int .u32 770255983), .lit (.int .u32 1249150122), .lit (.int .u32 1555081692), .lit (.int .u32 1996064986), .lit (.int .u32 2554220882), .lit (.int .u32 2821834349), .lit (.int .u32 2952996808), .lit (.int .u32 3210313671), .lit (.int .u32 3336571891), .lit (.int .u32 3584528711), .lit (.int .u32 113926993), .lit (.int .u32 338241895), .lit (.int .u32 666307205), .lit (.int .u32 773529912), .lit (.int .u32 1294757372), .lit (.int .u32 1396182291), .lit (.int .u32 1695183700), .lit (.int .u32 1986661051), .lit (.int .u32 2177026350), .lit (.int .u32 2456956037), .lit (.int .u32 2730485921), .lit (.int .u32 2820302411), .lit (.int .u32 3259730800), .lit (.int .u32 3345764771), .lit (.int .u32 3516065817), .lit (.int .u32 3600352804), .lit (.int .u32 4094571909), .lit (.int .u32 275423344), .lit (.int .u32 430227734), .lit (.int .u32 506948616), .lit (.int .u32 659060556), .lit (.int .u32 883997877), .lit (.int .u32 958139571), .lit (.int .u32 1322822218), .lit (.int .u32 1537002063), .lit (.int .u32 1747873779), .lit (.int .u32 1955562222), .lit (.int .u32 2024104815), .lit (.int .u32 2227730452), .lit (.int .u32 2361852424), .lit (.int .u32 2428436474), .lit (.int .u32 2756734187), .lit (.int .u32 3204031479), .lit (.int .u32 3329325298)]
def laid_cachetier_proof_errMisfit {H : Type} : DataW H := .iface "*errors.errorString" (.ptr (.agg [.lit (.string [109, 105, 115, 102, 105, 116])]))

/-- 'cachetierlaw11.ProofMatchesReference': WHATEVER THE INPUT: true; the input reads as it did. -/
def proofMatchesReferenceSpec : ChangeSpec := { name := "proofMatchesReference", fn := fun _ => fun
  | [d] => { results := [.lit (.bool true)], args := [d] }
  | _ => none }
def proofMatchesReferenceRow : OpenClaim := { program := "ytkdgffcfmgmemaagreatdoor", sum := "f3b87eb6664402b59b10abbe0c6a3ddba9d41d3c99553e0cdfbc98dcd59c1b52", func := "cachetier/cachetierlaw11.ProofMatchesReference", spec := "proofMatchesReference", inPlace := ["internal/abi.NoEscape", "internal/bytealg.MakeNoZero", "internal/reflectlite.TypeOf", "slices.overlaps[cachetier/api.Row]", "slices.overlaps[cachetier/predicate.pair]"], unfollowed := true, recurses := true, named := ["cachetier/digest.round", "cachetier/proof.errMisfit"], plainKeys := false, apart := false, laid := [("cachetier/digest.round", laid_cachetier_digest_round), ("cachetier/proof.errMisfit", laid_cachetier_proof_errMisfit)] }
def ProofMatchesReferenceSaid : Prop := proofMatchesReferenceRow.holds Tryz.pinned (OpenSpec.ofChange proofMatchesReferenceSpec)

/-- ITS FALSE NEIGHBOUR: 'it returns false'. Refute it at one input. -/
def proofMatchesReferenceWrong : ChangeSpec := { name := "proofMatchesReference", fn := fun _ => fun
  | [d] => { results := [.lit (.bool false)], args := [d] }
  | _ => none }
def ProofMatchesReferenceWrongFalsely : Prop := proofMatchesReferenceRow.holds Tryz.pinned (OpenSpec.ofChange proofMatchesReferenceWrong)

/-- 'cachetierlaw11.ProofSince': WHATEVER THE INPUT: true; the input reads as it did. -/
def proofSinceSpec : ChangeSpec := { name := "proofSince", fn := fun _ => fun
  | [d] => { results := [.lit (.bool true)], args := [d] }
  | _ => none }
def proofSinceRow : OpenClaim := { program := "ytkdgffcfmgmemaagreatdoor", sum := "f3b87eb6664402b59b10abbe0c6a3ddba9d41d3c99553e0cdfbc98dcd59c1b52", func := "cachetier/cachetierlaw11.ProofSince", spec := "proofSince", inPlace := ["internal/abi.NoEscape", "internal/bytealg.MakeNoZero", "internal/reflectlite.TypeOf", "slices.overlaps[cachetier/api.Row]", "slices.overlaps[cachetier/predicate.pair]"], unfollowed := true, recurses := true, named := ["cachetier/digest.round", "cachetier/proof.errMisfit"], plainKeys := false, apart := false, laid := [("cachetier/digest.round", laid_cachetier_digest_round), ("cachetier/proof.errMisfit", laid_cachetier_proof_errMisfit)] }
def ProofSinceSaid : Prop := proofSinceRow.holds Tryz.pinned (OpenSpec.ofChange proofSinceSpec)

/-- ITS FALSE NEIGHBOUR: 'it returns false'. Refute it at one input. -/
def proofSinceWrong : ChangeSpec := { name := "proofSince", fn := fun _ => fun
  | [d] => { results := [.lit (.bool false)], args := [d] }
  | _ => none }
def ProofSinceWrongFalsely : Prop := proofSinceRow.holds Tryz.pinned (OpenSpec.ofChange proofSinceWrong)

/-- 'cachetierlaw11.ProofUnique': WHATEVER THE INPUT: true; the input reads as it did. -/
def proofUniqueSpec : ChangeSpec := { name := "proofUnique", fn := fun _ => fun
  | [d1, d2, d3, d4] => { results := [.lit (.bool true)], args := [d1, d2, d3, d4] }
  | _ => none }
def proofUniqueRow : OpenClaim := { program := "ytkdgffcfmgmemaagreatdoor", sum := "f3b87eb6664402b59b10abbe0c6a3ddba9d41d3c99553e0cdfbc98dcd59c1b52", func := "cachetier/cachetierlaw11.ProofUnique", spec := "proofUnique", inPlace := ["internal/abi.NoEscape", "internal/bytealg.MakeNoZero", "internal/reflectlite.TypeOf", "slices.overlaps[cachetier/api.Row]", "slices.overlaps[cachetier/predicate.pair]"], unfollowed := true, recurses := true, named := ["cachetier/digest.round", "cachetier/proof.errMisfit"], plainKeys := false, apart := false, laid := [("cachetier/digest.round", laid_cachetier_digest_round), ("cachetier/proof.errMisfit", laid_cachetier_proof_errMisfit)] }
def ProofUniqueSaid : Prop := proofUniqueRow.holds Tryz.pinned (OpenSpec.ofChange proofUniqueSpec)

/-- ITS FALSE NEIGHBOUR: 'it returns false'. Refute it at one input. -/
def proofUniqueWrong : ChangeSpec := { name := "proofUnique", fn := fun _ => fun
  | [d1, d2, d3, d4] => { results := [.lit (.bool false)], args := [d1, d2, d3, d4] }
  | _ => none }
def ProofUniqueWrongFalsely : Prop := proofUniqueRow.holds Tryz.pinned (OpenSpec.ofChange proofUniqueWrong)

/-- 'cachetierlaw11.ProofLater': WHATEVER THE INPUT: true; the input reads as it did. -/
def proofLaterSpec : ChangeSpec := { name := "proofLater", fn := fun _ => fun
  | [d1, d2] => { results := [.lit (.bool true)], args := [d1, d2] }
  | _ => none }
def proofLaterRow : OpenClaim := { program := "ytkdgffcfmgmemaagreatdoor", sum := "f3b87eb6664402b59b10abbe0c6a3ddba9d41d3c99553e0cdfbc98dcd59c1b52", func := "cachetier/cachetierlaw11.ProofLater", spec := "proofLater", inPlace := ["internal/abi.NoEscape", "internal/bytealg.MakeNoZero", "internal/reflectlite.TypeOf", "slices.overlaps[cachetier/api.Row]", "slices.overlaps[cachetier/predicate.pair]"], unfollowed := true, recurses := true, named := ["cachetier/digest.round", "cachetier/proof.errMisfit"], plainKeys := false, apart := false, laid := [("cachetier/digest.round", laid_cachetier_digest_round), ("cachetier/proof.errMisfit", laid_cachetier_proof_errMisfit)] }
def ProofLaterSaid : Prop := proofLaterRow.holds Tryz.pinned (OpenSpec.ofChange proofLaterSpec)

/-- ITS FALSE NEIGHBOUR: 'it returns false'. Refute it at one input. -/
def proofLaterWrong : ChangeSpec := { name := "proofLater", fn := fun _ => fun
  | [d1, d2] => { results := [.lit (.bool false)], args := [d1, d2] }
  | _ => none }
def ProofLaterWrongFalsely : Prop := proofLaterRow.holds Tryz.pinned (OpenSpec.ofChange proofLaterWrong)

/-- 'cachetierlaw11.ProofComplete': WHATEVER THE INPUT: true; the input reads as it did. -/
def proofCompleteSpec : ChangeSpec := { name := "proofComplete", fn := fun _ => fun
  | [d] => { results := [.lit (.bool true)], args := [d] }
  | _ => none }
def proofCompleteRow : OpenClaim := { program := "ytkdgffcfmgmemaagreatdoor", sum := "f3b87eb6664402b59b10abbe0c6a3ddba9d41d3c99553e0cdfbc98dcd59c1b52", func := "cachetier/cachetierlaw11.ProofComplete", spec := "proofComplete", inPlace := ["internal/abi.NoEscape", "internal/bytealg.MakeNoZero", "internal/reflectlite.TypeOf", "slices.overlaps[cachetier/api.Row]", "slices.overlaps[cachetier/predicate.pair]"], unfollowed := true, recurses := true, named := ["cachetier/digest.round", "cachetier/proof.errMisfit"], plainKeys := false, apart := false, laid := [("cachetier/digest.round", laid_cachetier_digest_round), ("cachetier/proof.errMisfit", laid_cachetier_proof_errMisfit)] }
def ProofCompleteSaid : Prop := proofCompleteRow.holds Tryz.pinned (OpenSpec.ofChange proofCompleteSpec)

/-- ITS FALSE NEIGHBOUR: 'it returns false'. Refute it at one input. -/
def proofCompleteWrong : ChangeSpec := { name := "proofComplete", fn := fun _ => fun
  | [d] => { results := [.lit (.bool false)], args := [d] }
  | _ => none }
def ProofCompleteWrongFalsely : Prop := proofCompleteRow.holds Tryz.pinned (OpenSpec.ofChange proofCompleteWrong)

/-- 'cachetierlaw11.ProofTruth': WHATEVER THE INPUT: true; the input reads as it did. -/
def proofTruthSpec : ChangeSpec := { name := "proofTruth", fn := fun _ => fun
  | [d] => { results := [.lit (.bool true)], args := [d] }
  | _ => none }
def proofTruthRow : OpenClaim := { program := "ytkdgffcfmgmemaagreatdoor", sum := "f3b87eb6664402b59b10abbe0c6a3ddba9d41d3c99553e0cdfbc98dcd59c1b52", func := "cachetier/cachetierlaw11.ProofTruth", spec := "proofTruth", inPlace := ["internal/abi.NoEscape", "internal/bytealg.MakeNoZero", "internal/reflectlite.TypeOf", "slices.overlaps[cachetier/api.Row]", "slices.overlaps[cachetier/predicate.pair]"], unfollowed := true, recurses := true, named := ["cachetier/digest.round", "cachetier/proof.errMisfit"], plainKeys := false, apart := false, laid := [("cachetier/digest.round", laid_cachetier_digest_round), ("cachetier/proof.errMisfit", laid_cachetier_proof_errMisfit)] }
def ProofTruthSaid : Prop := proofTruthRow.holds Tryz.pinned (OpenSpec.ofChange proofTruthSpec)

/-- ITS FALSE NEIGHBOUR: 'it returns false'. Refute it at one input. -/
def proofTruthWrong : ChangeSpec := { name := "proofTruth", fn := fun _ => fun
  | [d] => { results := [.lit (.bool false)], args := [d] }
  | _ => none }
def ProofTruthWrongFalsely : Prop := proofTruthRow.holds Tryz.pinned (OpenSpec.ofChange proofTruthWrong)

/-- 'cachetierlaw11.ProofDivided': WHATEVER THE INPUT: true; the input reads as it did. -/
def proofDividedSpec : ChangeSpec := { name := "proofDivided", fn := fun _ => fun
  | [d1, d2] => { results := [.lit (.bool true)], args := [d1, d2] }
  | _ => none }
def proofDividedRow : OpenClaim := { program := "ytkdgffcfmgmemaagreatdoor", sum := "f3b87eb6664402b59b10abbe0c6a3ddba9d41d3c99553e0cdfbc98dcd59c1b52", func := "cachetier/cachetierlaw11.ProofDivided", spec := "proofDivided", inPlace := ["internal/abi.NoEscape", "internal/bytealg.MakeNoZero", "internal/reflectlite.TypeOf", "slices.overlaps[cachetier/api.Row]", "slices.overlaps[cachetier/predicate.pair]"], unfollowed := true, recurses := true, named := ["cachetier/digest.round", "cachetier/proof.errMisfit"], plainKeys := false, apart := false, laid := [("cachetier/digest.round", laid_cachetier_digest_round), ("cachetier/proof.errMisfit", laid_cachetier_proof_errMisfit)] }
def ProofDividedSaid : Prop := proofDividedRow.holds Tryz.pinned (OpenSpec.ofChange proofDividedSpec)

/-- ITS FALSE NEIGHBOUR: 'it returns false'. Refute it at one input. -/
def proofDividedWrong : ChangeSpec := { name := "proofDivided", fn := fun _ => fun
  | [d1, d2] => { results := [.lit (.bool false)], args := [d1, d2] }
  | _ => none }
def ProofDividedWrongFalsely : Prop := proofDividedRow.holds Tryz.pinned (OpenSpec.ofChange proofDividedWrong)

/-- 'cachetierlaw11.ProofRanges': WHATEVER THE INPUT: true; the input reads as it did. -/
def proofRangesSpec : ChangeSpec := { name := "proofRanges", fn := fun _ => fun
  | [d1, d2] => { results := [.lit (.bool true)], args := [d1, d2] }
  | _ => none }
def proofRangesRow : OpenClaim := { program := "ytkdgffcfmgmemaagreatdoor", sum := "f3b87eb6664402b59b10abbe0c6a3ddba9d41d3c99553e0cdfbc98dcd59c1b52", func := "cachetier/cachetierlaw11.ProofRanges", spec := "proofRanges", inPlace := ["internal/abi.NoEscape", "internal/bytealg.MakeNoZero", "internal/reflectlite.TypeOf", "slices.overlaps[cachetier/api.Row]", "slices.overlaps[cachetier/predicate.pair]"], unfollowed := true, recurses := true, named := ["cachetier/digest.round", "cachetier/proof.errMisfit"], plainKeys := false, apart := false, laid := [("cachetier/digest.round", laid_cachetier_digest_round), ("cachetier/proof.errMisfit", laid_cachetier_proof_errMisfit)] }
def ProofRangesSaid : Prop := proofRangesRow.holds Tryz.pinned (OpenSpec.ofChange proofRangesSpec)

/-- ITS FALSE NEIGHBOUR: 'it returns false'. Refute it at one input. -/
def proofRangesWrong : ChangeSpec := { name := "proofRanges", fn := fun _ => fun
  | [d1, d2] => { results := [.lit (.bool false)], args := [d1, d2] }
  | _ => none }
def ProofRangesWrongFalsely : Prop := proofRangesRow.holds Tryz.pinned (OpenSpec.ofChange proofRangesWrong)

/- THE SECOND FORM. 'bulk': how many values and letters a reading holds, each counted each time it is reached (what is shared counts as often as it is met; a slice's spare places count too). A statement '..UptoSaid' is the law's where the arguments, and the package variables that the reading takes, are together of bulk at most 1048576: NARROWER than '..Said'. Prove '..Said' where nothing that the law and all that it calls make is longer than what came in: it says more and counts as full. Else prove '..UptoSaid'. A law counts once. -/
mutual
def uptoBulk {H : Type} : DataW H → Nat
  | .lit (.string bytes) => bytes.length + 1
  | .lit _ => 1
  | .nil => 1
  | .ptr d => uptoBulk d + 1
  | .slice elems spare => uptoBulkAll elems + uptoBulkAll spare + 1
  | .agg parts => uptoBulkAll parts + 1
  | .iface _ d => uptoBulk d + 1
  | .map entries => uptoBulkEntries entries + 1
  | .held _ => 1
def uptoBulkAll {H : Type} : List (DataW H) → Nat
  | [] => 0
  | d :: r => uptoBulk d + uptoBulkAll r
def uptoBulkEntries {H : Type} : List (Lit × DataW H) → Nat
  | [] => 0
  | x :: r => uptoBulkEntry x + uptoBulkEntries r
def uptoBulkEntry {H : Type} : Lit × DataW H → Nat
  | (.string bytes, d) => bytes.length + uptoBulk d + 1
  | (_, d) => uptoBulk d + 1
 end
def uptoSmall : (H : Type) → List (DataW H) → Bool := fun _ ds => decide (uptoBulkAll ds ≤ 1048576)
def OpenSpec.upto (s : _root_.Go.ChangeSpec) : _root_.Go.OpenSpec := { _root_.Go.OpenSpec.ofChange s with cond := some uptoSmall }

/-- 'cachetierlaw11.ProofMatchesReference', WHERE WHAT IT READS IS OF BULK AT MOST 1048576: true; the input reads as it did. -/
def proofMatchesReferenceUptoRow : OpenClaim := { program := "ytkdgffcfmgmemaagreatdoor", sum := "f3b87eb6664402b59b10abbe0c6a3ddba9d41d3c99553e0cdfbc98dcd59c1b52", func := "cachetier/cachetierlaw11.ProofMatchesReference", spec := "proofMatchesReference", inPlace := ["internal/abi.NoEscape", "internal/bytealg.MakeNoZero", "internal/reflectlite.TypeOf", "slices.overlaps[cachetier/api.Row]", "slices.overlaps[cachetier/predicate.pair]"], unfollowed := true, recurses := true, named := ["cachetier/digest.round", "cachetier/proof.errMisfit"], plainKeys := false, apart := false, laid := [("cachetier/digest.round", laid_cachetier_digest_round), ("cachetier/proof.errMisfit", laid_cachetier_proof_errMisfit)], narrowed := true }
def ProofMatchesReferenceUptoSaid : Prop := proofMatchesReferenceUptoRow.holds Tryz.pinned (OpenSpec.upto proofMatchesReferenceSpec)

/-- 'cachetierlaw11.ProofSince', WHERE WHAT IT READS IS OF BULK AT MOST 1048576: true; the input reads as it did. -/
def proofSinceUptoRow : OpenClaim := { program := "ytkdgffcfmgmemaagreatdoor", sum := "f3b87eb6664402b59b10abbe0c6a3ddba9d41d3c99553e0cdfbc98dcd59c1b52", func := "cachetier/cachetierlaw11.ProofSince", spec := "proofSince", inPlace := ["internal/abi.NoEscape", "internal/bytealg.MakeNoZero", "internal/reflectlite.TypeOf", "slices.overlaps[cachetier/api.Row]", "slices.overlaps[cachetier/predicate.pair]"], unfollowed := true, recurses := true, named := ["cachetier/digest.round", "cachetier/proof.errMisfit"], plainKeys := false, apart := false, laid := [("cachetier/digest.round", laid_cachetier_digest_round), ("cachetier/proof.errMisfit", laid_cachetier_proof_errMisfit)], narrowed := true }
def ProofSinceUptoSaid : Prop := proofSinceUptoRow.holds Tryz.pinned (OpenSpec.upto proofSinceSpec)

/-- 'cachetierlaw11.ProofUnique', WHERE WHAT IT READS IS OF BULK AT MOST 1048576: true; the input reads as it did. -/
def proofUniqueUptoRow : OpenClaim := { program := "ytkdgffcfmgmemaagreatdoor", sum := "f3b87eb6664402b59b10abbe0c6a3ddba9d41d3c99553e0cdfbc98dcd59c1b52", func := "cachetier/cachetierlaw11.ProofUnique", spec := "proofUnique", inPlace := ["internal/abi.NoEscape", "internal/bytealg.MakeNoZero", "internal/reflectlite.TypeOf", "slices.overlaps[cachetier/api.Row]", "slices.overlaps[cachetier/predicate.pair]"], unfollowed := true, recurses := true, named := ["cachetier/digest.round", "cachetier/proof.errMisfit"], plainKeys := false, apart := false, laid := [("cachetier/digest.round", laid_cachetier_digest_round), ("cachetier/proof.errMisfit", laid_cachetier_proof_errMisfit)], narrowed := true }
def ProofUniqueUptoSaid : Prop := proofUniqueUptoRow.holds Tryz.pinned (OpenSpec.upto proofUniqueSpec)

/-- 'cachetierlaw11.ProofLater', WHERE WHAT IT READS IS OF BULK AT MOST 1048576: true; the input reads as it did. -/
def proofLaterUptoRow : OpenClaim := { program := "ytkdgffcfmgmemaagreatdoor", sum := "f3b87eb6664402b59b10abbe0c6a3ddba9d41d3c99553e0cdfbc98dcd59c1b52", func := "cachetier/cachetierlaw11.ProofLater", spec := "proofLater", inPlace := ["internal/abi.NoEscape", "internal/bytealg.MakeNoZero", "internal/reflectlite.TypeOf", "slices.overlaps[cachetier/api.Row]", "slices.overlaps[cachetier/predicate.pair]"], unfollowed := true, recurses := true, named := ["cachetier/digest.round", "cachetier/proof.errMisfit"], plainKeys := false, apart := false, laid := [("cachetier/digest.round", laid_cachetier_digest_round), ("cachetier/proof.errMisfit", laid_cachetier_proof_errMisfit)], narrowed := true }
def ProofLaterUptoSaid : Prop := proofLaterUptoRow.holds Tryz.pinned (OpenSpec.upto proofLaterSpec)

/-- 'cachetierlaw11.ProofComplete', WHERE WHAT IT READS IS OF BULK AT MOST 1048576: true; the input reads as it did. -/
def proofCompleteUptoRow : OpenClaim := { program := "ytkdgffcfmgmemaagreatdoor", sum := "f3b87eb6664402b59b10abbe0c6a3ddba9d41d3c99553e0cdfbc98dcd59c1b52", func := "cachetier/cachetierlaw11.ProofComplete", spec := "proofComplete", inPlace := ["internal/abi.NoEscape", "internal/bytealg.MakeNoZero", "internal/reflectlite.TypeOf", "slices.overlaps[cachetier/api.Row]", "slices.overlaps[cachetier/predicate.pair]"], unfollowed := true, recurses := true, named := ["cachetier/digest.round", "cachetier/proof.errMisfit"], plainKeys := false, apart := false, laid := [("cachetier/digest.round", laid_cachetier_digest_round), ("cachetier/proof.errMisfit", laid_cachetier_proof_errMisfit)], narrowed := true }
def ProofCompleteUptoSaid : Prop := proofCompleteUptoRow.holds Tryz.pinned (OpenSpec.upto proofCompleteSpec)

/-- 'cachetierlaw11.ProofTruth', WHERE WHAT IT READS IS OF BULK AT MOST 1048576: true; the input reads as it did. -/
def proofTruthUptoRow : OpenClaim := { program := "ytkdgffcfmgmemaagreatdoor", sum := "f3b87eb6664402b59b10abbe0c6a3ddba9d41d3c99553e0cdfbc98dcd59c1b52", func := "cachetier/cachetierlaw11.ProofTruth", spec := "proofTruth", inPlace := ["internal/abi.NoEscape", "internal/bytealg.MakeNoZero", "internal/reflectlite.TypeOf", "slices.overlaps[cachetier/api.Row]", "slices.overlaps[cachetier/predicate.pair]"], unfollowed := true, recurses := true, named := ["cachetier/digest.round", "cachetier/proof.errMisfit"], plainKeys := false, apart := false, laid := [("cachetier/digest.round", laid_cachetier_digest_round), ("cachetier/proof.errMisfit", laid_cachetier_proof_errMisfit)], narrowed := true }
def ProofTruthUptoSaid : Prop := proofTruthUptoRow.holds Tryz.pinned (OpenSpec.upto proofTruthSpec)

/-- 'cachetierlaw11.ProofDivided', WHERE WHAT IT READS IS OF BULK AT MOST 1048576: true; the input reads as it did. -/
def proofDividedUptoRow : OpenClaim := { program := "ytkdgffcfmgmemaagreatdoor", sum := "f3b87eb6664402b59b10abbe0c6a3ddba9d41d3c99553e0cdfbc98dcd59c1b52", func := "cachetier/cachetierlaw11.ProofDivided", spec := "proofDivided", inPlace := ["internal/abi.NoEscape", "internal/bytealg.MakeNoZero", "internal/reflectlite.TypeOf", "slices.overlaps[cachetier/api.Row]", "slices.overlaps[cachetier/predicate.pair]"], unfollowed := true, recurses := true, named := ["cachetier/digest.round", "cachetier/proof.errMisfit"], plainKeys := false, apart := false, laid := [("cachetier/digest.round", laid_cachetier_digest_round), ("cachetier/proof.errMisfit", laid_cachetier_proof_errMisfit)], narrowed := true }
def ProofDividedUptoSaid : Prop := proofDividedUptoRow.holds Tryz.pinned (OpenSpec.upto proofDividedSpec)

/-- 'cachetierlaw11.ProofRanges', WHERE WHAT IT READS IS OF BULK AT MOST 1048576: true; the input reads as it did. -/
def proofRangesUptoRow : OpenClaim := { program := "ytkdgffcfmgmemaagreatdoor", sum := "f3b87eb6664402b59b10abbe0c6a3ddba9d41d3c99553e0cdfbc98dcd59c1b52", func := "cachetier/cachetierlaw11.ProofRanges", spec := "proofRanges", inPlace := ["internal/abi.NoEscape", "internal/bytealg.MakeNoZero", "internal/reflectlite.TypeOf", "slices.overlaps[cachetier/api.Row]", "slices.overlaps[cachetier/predicate.pair]"], unfollowed := true, recurses := true, named := ["cachetier/digest.round", "cachetier/proof.errMisfit"], plainKeys := false, apart := false, laid := [("cachetier/digest.round", laid_cachetier_digest_round), ("cachetier/proof.errMisfit", laid_cachetier_proof_errMisfit)], narrowed := true }
def ProofRangesUptoSaid : Prop := proofRangesUptoRow.holds Tryz.pinned (OpenSpec.upto proofRangesSpec)

end Rows
end Go.Proofs.YtkdgffcfmgmemaaGreatDoor
