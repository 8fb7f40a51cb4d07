/-
  No cell of these rows narrows 'for every input' (looked for: loops, veiled, ifaces, maps, wideKeys, modest, calm, conditions, laid).
  DERIVED. THE GIVEN ROWS OF THIS SEAT. 5 by the template 'for every input the law returns true; each argument reads behind the call as it read before'; 0 by the template 'total and deterministic' (their statements: YtgflkhifphpgpaaTotals.lean).
  GIVEN WITH THE SEED: the statements are not yours to turn. If you find one false, say at which input.
  Laid BY PROGRAM, IN A SANDBOX (cutbox-rows.mjs): the forced cells as the released guide's own fill.sh prints them over the translation 923b77f14e8de0a0… (all of the seat's roots in one cut). By AI agents, Wed Nov 11 2026. No macro, syntax, notation, axiom, sorry.
-/
import Derived.Test.YtgflkhifphpgpaaChecked
import GoSem.Claim
import GoSem.ClaimJoined
import GoSem.ClaimMapViews
import Derived.JoinedTies
import Derived.KernelRfl
namespace Go.Proofs.Ytgflkhifphpgpaa
/- THE CELL 'sum', in the pinned program and in every row, IS THE sha256 OF THE DUMP (.gsa) THAT YtgflkhifphpgpaaProg.lean LOADS. Nothing in Lean hashes anything: it is a label: what it is worth is what the hold of that sum in a sandbox is worth. -/
noncomputable def Try.pinned : Pinned := { name := "ytgflkhifphpgpaa", sum := "923b77f14e8de0a048c1784c9e36288ae0a4485a6a4ed287c654d3ed7db2f74c", checked := Try.checked }
namespace Rows
def none {H : Type} : Left H := { results := [], args := [] }

/-- 'cachetierlaw16.LeaseMatchesReference': WHATEVER THE INPUT: true; the input reads as it did. -/
def leaseMatchesReferenceSpec : ChangeSpec := { name := "leaseMatchesReference", fn := fun _ => fun
  | [d1, d2, d3] => { results := [.lit (.bool true)], args := [d1, d2, d3] }
  | _ => none }
def leaseMatchesReferenceRow : OpenClaim := { program := "ytgflkhifphpgpaa", sum := "923b77f14e8de0a048c1784c9e36288ae0a4485a6a4ed287c654d3ed7db2f74c", func := "cachetier/cachetierlaw16.LeaseMatchesReference", spec := "leaseMatchesReference", unfollowed := true, recurses := true, apart := false }
def LeaseMatchesReferenceSaid : Prop := leaseMatchesReferenceRow.holds Try.pinned (OpenSpec.ofChange leaseMatchesReferenceSpec)

/-- ITS FALSE NEIGHBOUR: 'it returns false'. Refute it at one input. -/
def leaseMatchesReferenceWrong : ChangeSpec := { name := "leaseMatchesReference", fn := fun _ => fun
  | [d1, d2, d3] => { results := [.lit (.bool false)], args := [d1, d2, d3] }
  | _ => none }
def LeaseMatchesReferenceWrongFalsely : Prop := leaseMatchesReferenceRow.holds Try.pinned (OpenSpec.ofChange leaseMatchesReferenceWrong)

/-- 'cachetierlaw16.LeaseOne': WHATEVER THE INPUT: true; the input reads as it did. -/
def leaseOneSpec : ChangeSpec := { name := "leaseOne", fn := fun _ => fun
  | [d] => { results := [.lit (.bool true)], args := [d] }
  | _ => none }
def leaseOneRow : OpenClaim := { program := "ytgflkhifphpgpaa", sum := "923b77f14e8de0a048c1784c9e36288ae0a4485a6a4ed287c654d3ed7db2f74c", func := "cachetier/cachetierlaw16.LeaseOne", spec := "leaseOne", unfollowed := true, recurses := true, apart := false }
def LeaseOneSaid : Prop := leaseOneRow.holds Try.pinned (OpenSpec.ofChange leaseOneSpec)

/-- ITS FALSE NEIGHBOUR: 'it returns false'. Refute it at one input. -/
def leaseOneWrong : ChangeSpec := { name := "leaseOne", fn := fun _ => fun
  | [d] => { results := [.lit (.bool false)], args := [d] }
  | _ => none }
def LeaseOneWrongFalsely : Prop := leaseOneRow.holds Try.pinned (OpenSpec.ofChange leaseOneWrong)

/-- 'cachetierlaw16.LeaseFills': WHATEVER THE INPUT: true; the input reads as it did. -/
def leaseFillsSpec : ChangeSpec := { name := "leaseFills", fn := fun _ => fun
  | [d] => { results := [.lit (.bool true)], args := [d] }
  | _ => none }
def leaseFillsRow : OpenClaim := { program := "ytgflkhifphpgpaa", sum := "923b77f14e8de0a048c1784c9e36288ae0a4485a6a4ed287c654d3ed7db2f74c", func := "cachetier/cachetierlaw16.LeaseFills", spec := "leaseFills", unfollowed := true, recurses := true, apart := false }
def LeaseFillsSaid : Prop := leaseFillsRow.holds Try.pinned (OpenSpec.ofChange leaseFillsSpec)

/-- ITS FALSE NEIGHBOUR: 'it returns false'. Refute it at one input. -/
def leaseFillsWrong : ChangeSpec := { name := "leaseFills", fn := fun _ => fun
  | [d] => { results := [.lit (.bool false)], args := [d] }
  | _ => none }
def LeaseFillsWrongFalsely : Prop := leaseFillsRow.holds Try.pinned (OpenSpec.ofChange leaseFillsWrong)

/-- 'cachetierlaw16.LeaseApart': WHATEVER THE INPUT: true; the input reads as it did. -/
def leaseApartSpec : ChangeSpec := { name := "leaseApart", fn := fun _ => fun
  | [d1, d2] => { results := [.lit (.bool true)], args := [d1, d2] }
  | _ => none }
def leaseApartRow : OpenClaim := { program := "ytgflkhifphpgpaa", sum := "923b77f14e8de0a048c1784c9e36288ae0a4485a6a4ed287c654d3ed7db2f74c", func := "cachetier/cachetierlaw16.LeaseApart", spec := "leaseApart", unfollowed := true, recurses := true, apart := false }
def LeaseApartSaid : Prop := leaseApartRow.holds Try.pinned (OpenSpec.ofChange leaseApartSpec)

/-- ITS FALSE NEIGHBOUR: 'it returns false'. Refute it at one input. -/
def leaseApartWrong : ChangeSpec := { name := "leaseApart", fn := fun _ => fun
  | [d1, d2] => { results := [.lit (.bool false)], args := [d1, d2] }
  | _ => none }
def LeaseApartWrongFalsely : Prop := leaseApartRow.holds Try.pinned (OpenSpec.ofChange leaseApartWrong)

/-- 'cachetierlaw16.LeaseExpires': WHATEVER THE INPUT: true; the input reads as it did. -/
def leaseExpiresSpec : ChangeSpec := { name := "leaseExpires", fn := fun _ => fun
  | [d1, d2] => { results := [.lit (.bool true)], args := [d1, d2] }
  | _ => none }
def leaseExpiresRow : OpenClaim := { program := "ytgflkhifphpgpaa", sum := "923b77f14e8de0a048c1784c9e36288ae0a4485a6a4ed287c654d3ed7db2f74c", func := "cachetier/cachetierlaw16.LeaseExpires", spec := "leaseExpires", unfollowed := true, recurses := true, apart := false }
def LeaseExpiresSaid : Prop := leaseExpiresRow.holds Try.pinned (OpenSpec.ofChange leaseExpiresSpec)

/-- ITS FALSE NEIGHBOUR: 'it returns false'. Refute it at one input. -/
def leaseExpiresWrong : ChangeSpec := { name := "leaseExpires", fn := fun _ => fun
  | [d1, d2] => { results := [.lit (.bool false)], args := [d1, d2] }
  | _ => none }
def LeaseExpiresWrongFalsely : Prop := leaseExpiresRow.holds Try.pinned (OpenSpec.ofChange leaseExpiresWrong)

/- THE SECOND FORM. 'bulk': how many values and letters a reading holds, each counted each time it is reached (what is shared counts as often as it is met; a slice's spare places count too). A statement '..UptoSaid' is the law's where the arguments, and the package variables that the reading takes, are together of bulk at most 1048576: NARROWER than '..Said'. Prove '..Said' where nothing that the law and all that it calls make is longer than what came in: it says more and counts as full. Else prove '..UptoSaid'. A law counts once. -/
mutual
def uptoBulk {H : Type} : DataW H → Nat
  | .lit (.string bytes) => bytes.length + 1
  | .lit _ => 1
  | .nil => 1
  | .ptr d => uptoBulk d + 1
  | .slice elems spare => uptoBulkAll elems + uptoBulkAll spare + 1
  | .agg parts => uptoBulkAll parts + 1
  | .iface _ d => uptoBulk d + 1
  | .map entries => uptoBulkEntries entries + 1
  | .held _ => 1
def uptoBulkAll {H : Type} : List (DataW H) → Nat
  | [] => 0
  | d :: r => uptoBulk d + uptoBulkAll r
def uptoBulkEntries {H : Type} : List (Lit × DataW H) → Nat
  | [] => 0
  | x :: r => uptoBulkEntry x + uptoBulkEntries r
def uptoBulkEntry {H : Type} : Lit × DataW H → Nat
  | (.string bytes, d) => bytes.length + uptoBulk d + 1
  | (_, d) => uptoBulk d + 1
 end
def uptoSmall : (H : Type) → List (DataW H) → Bool := fun _ ds => decide (uptoBulkAll ds ≤ 1048576)
def OpenSpec.upto (s : _root_.Go.ChangeSpec) : _root_.Go.OpenSpec := { _root_.Go.OpenSpec.ofChange s with cond := some uptoSmall }

/-- 'cachetierlaw16.LeaseMatchesReference', WHERE WHAT IT READS IS OF BULK AT MOST 1048576: true; the input reads as it did. -/
def leaseMatchesReferenceUptoRow : OpenClaim := { program := "ytgflkhifphpgpaa", sum := "923b77f14e8de0a048c1784c9e36288ae0a4485a6a4ed287c654d3ed7db2f74c", func := "cachetier/cachetierlaw16.LeaseMatchesReference", spec := "leaseMatchesReference", unfollowed := true, recurses := true, apart := false, narrowed := true }
def LeaseMatchesReferenceUptoSaid : Prop := leaseMatchesReferenceUptoRow.holds Try.pinned (OpenSpec.upto leaseMatchesReferenceSpec)

/-- 'cachetierlaw16.LeaseOne', WHERE WHAT IT READS IS OF BULK AT MOST 1048576: true; the input reads as it did. -/
def leaseOneUptoRow : OpenClaim := { program := "ytgflkhifphpgpaa", sum := "923b77f14e8de0a048c1784c9e36288ae0a4485a6a4ed287c654d3ed7db2f74c", func := "cachetier/cachetierlaw16.LeaseOne", spec := "leaseOne", unfollowed := true, recurses := true, apart := false, narrowed := true }
def LeaseOneUptoSaid : Prop := leaseOneUptoRow.holds Try.pinned (OpenSpec.upto leaseOneSpec)

/-- 'cachetierlaw16.LeaseFills', WHERE WHAT IT READS IS OF BULK AT MOST 1048576: true; the input reads as it did. -/
def leaseFillsUptoRow : OpenClaim := { program := "ytgflkhifphpgpaa", sum := "923b77f14e8de0a048c1784c9e36288ae0a4485a6a4ed287c654d3ed7db2f74c", func := "cachetier/cachetierlaw16.LeaseFills", spec := "leaseFills", unfollowed := true, recurses := true, apart := false, narrowed := true }
def LeaseFillsUptoSaid : Prop := leaseFillsUptoRow.holds Try.pinned (OpenSpec.upto leaseFillsSpec)

/-- 'cachetierlaw16.LeaseApart', WHERE WHAT IT READS IS OF BULK AT MOST 1048576: true; the input reads as it did. -/
def leaseApartUptoRow : OpenClaim := { program := "ytgflkhifphpgpaa", sum := "923b77f14e8de0a048c1784c9e36288ae0a4485a6a4ed287c654d3ed7db2f74c", func := "cachetier/cachetierlaw16.LeaseApart", spec := "leaseApart", unfollowed := true, recurses := true, apart := false, narrowed := true }
def LeaseApartUptoSaid : Prop := leaseApartUptoRow.holds Try.pinned (OpenSpec.upto leaseApartSpec)

/-- 'cachetierlaw16.LeaseExpires', WHERE WHAT IT READS IS OF BULK AT MOST 1048576: true; the input reads as it did. -/
def leaseExpiresUptoRow : OpenClaim := { program := "ytgflkhifphpgpaa", sum := "923b77f14e8de0a048c1784c9e36288ae0a4485a6a4ed287c654d3ed7db2f74c", func := "cachetier/cachetierlaw16.LeaseExpires", spec := "leaseExpires", unfollowed := true, recurses := true, apart := false, narrowed := true }
def LeaseExpiresUptoSaid : Prop := leaseExpiresUptoRow.holds Try.pinned (OpenSpec.upto leaseExpiresSpec)

end Rows
end Go.Proofs.Ytgflkhifphpgpaa
