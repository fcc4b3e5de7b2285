/-
  No cell of these rows narrows 'for every input' (looked for: loops, veiled, ifaces, maps, wideKeys, modest, calm, conditions, laid).
  DERIVED. THE GIVEN ROWS OF THIS SEAT. 2 by the template 'for every input the law returns true; each argument reads behind the call as it read before'; 0 by the template 'total and deterministic' (their statements: YtpnmmjhhnfacfaaTotals.lean).
  GIVEN WITH THE SEED: the statements are not yours to turn. If you find one false, say at which input.
  Laid BY PROGRAM, IN A SANDBOX (cutbox-rows.mjs): the forced cells as the released guide's own fill.sh prints them over the translation c5904e0c9c912855… (all of the seat's roots in one cut). By AI agents, Wed Nov 11 2026. No macro, syntax, notation, axiom, sorry.
-/
import Derived.Test.YtpnmmjhhnfacfaaChecked
import GoSem.Claim
import GoSem.ClaimJoined
import GoSem.ClaimMapViews
import Derived.JoinedTies
import Derived.KernelRfl
namespace Go.Proofs.Ytpnmmjhhnfacfaa
/- THE CELL 'sum', in the pinned program and in every row, IS THE sha256 OF THE DUMP (.gsa) THAT YtpnmmjhhnfacfaaProg.lean LOADS. Nothing in Lean hashes anything: it is a label: what it is worth is what the hold of that sum in a sandbox is worth. -/
noncomputable def Try.pinned : Pinned := { name := "ytpnmmjhhnfacfaa", sum := "c5904e0c9c9128551d8bdd3d4ae83ec0ab0c5a0aeb592b546cc00e5f6e88881f", checked := Try.checked }
namespace Rows
def none {H : Type} : Left H := { results := [], args := [] }

/-- 'laws.FnExactDropPace': WHATEVER THE INPUT: true; the input reads as it did. -/
def fnExactDropPaceSpec : ChangeSpec := { name := "fnExactDropPace", fn := fun _ => fun
  | [d1, d2] => { results := [.lit (.bool true)], args := [d1, d2] }
  | _ => none }
def fnExactDropPaceRow : OpenClaim := { program := "ytpnmmjhhnfacfaa", sum := "c5904e0c9c9128551d8bdd3d4ae83ec0ab0c5a0aeb592b546cc00e5f6e88881f", func := "loop.example/g01332/laws.FnExactDropPace", spec := "fnExactDropPace", unfollowed := true, recurses := true, apart := false }
def FnExactDropPaceSaid : Prop := fnExactDropPaceRow.holds Try.pinned (OpenSpec.ofChange fnExactDropPaceSpec)

/-- ITS FALSE NEIGHBOUR: 'it returns false'. Refute it at one input. -/
def fnExactDropPaceWrong : ChangeSpec := { name := "fnExactDropPace", fn := fun _ => fun
  | [d1, d2] => { results := [.lit (.bool false)], args := [d1, d2] }
  | _ => none }
def FnExactDropPaceWrongFalsely : Prop := fnExactDropPaceRow.holds Try.pinned (OpenSpec.ofChange fnExactDropPaceWrong)

/-- 'laws.FnExactLongestSilence': WHATEVER THE INPUT: true; the input reads as it did. -/
def fnExactLongestSilenceSpec : ChangeSpec := { name := "fnExactLongestSilence", fn := fun _ => fun
  | [d] => { results := [.lit (.bool true)], args := [d] }
  | _ => none }
def fnExactLongestSilenceRow : OpenClaim := { program := "ytpnmmjhhnfacfaa", sum := "c5904e0c9c9128551d8bdd3d4ae83ec0ab0c5a0aeb592b546cc00e5f6e88881f", func := "loop.example/g01332/laws.FnExactLongestSilence", spec := "fnExactLongestSilence", unfollowed := true, recurses := true, apart := false }
def FnExactLongestSilenceSaid : Prop := fnExactLongestSilenceRow.holds Try.pinned (OpenSpec.ofChange fnExactLongestSilenceSpec)

/-- ITS FALSE NEIGHBOUR: 'it returns false'. Refute it at one input. -/
def fnExactLongestSilenceWrong : ChangeSpec := { name := "fnExactLongestSilence", fn := fun _ => fun
  | [d] => { results := [.lit (.bool false)], args := [d] }
  | _ => none }
def FnExactLongestSilenceWrongFalsely : Prop := fnExactLongestSilenceRow.holds Try.pinned (OpenSpec.ofChange fnExactLongestSilenceWrong)

/- THE SECOND FORM. 'bulk': how many values and letters a reading holds, each counted each time it is reached (what is shared counts as often as it is met; a slice's spare places count too). A statement '..UptoSaid' is the law's where the arguments, and the package variables that the reading takes, are together of bulk at most 1048576: NARROWER than '..Said'. Prove '..Said' where nothing that the law and all that it calls make is longer than what came in: it says more and counts as full. Else prove '..UptoSaid'. A law counts once. -/
mutual
def uptoBulk {H : Type} : DataW H → Nat
  | .lit (.string bytes) => bytes.length + 1
  | .lit _ => 1
  | .nil => 1
  | .ptr d => uptoBulk d + 1
  | .slice elems spare => uptoBulkAll elems + uptoBulkAll spare + 1
  | .agg parts => uptoBulkAll parts + 1
  | .iface _ d => uptoBulk d + 1
  | .map entries => uptoBulkEntries entries + 1
  | .held _ => 1
def uptoBulkAll {H : Type} : List (DataW H) → Nat
  | [] => 0
  | d :: r => uptoBulk d + uptoBulkAll r
def uptoBulkEntries {H : Type} : List (Lit × DataW H) → Nat
  | [] => 0
  | x :: r => uptoBulkEntry x + uptoBulkEntries r
def uptoBulkEntry {H : Type} : Lit × DataW H → Nat
  | (.string bytes, d) => bytes.length + uptoBulk d + 1
  | (_, d) => uptoBulk d + 1
 end
def uptoSmall : (H : Type) → List (DataW H) → Bool := fun _ ds => decide (uptoBulkAll ds ≤ 1048576)
def OpenSpec.upto (s : _root_.Go.ChangeSpec) : _root_.Go.OpenSpec := { _root_.Go.OpenSpec.ofChange s with cond := some uptoSmall }

/-- 'laws.FnExactDropPace', WHERE WHAT IT READS IS OF BULK AT MOST 1048576: true; the input reads as it did. -/
def fnExactDropPaceUptoRow : OpenClaim := { program := "ytpnmmjhhnfacfaa", sum := "c5904e0c9c9128551d8bdd3d4ae83ec0ab0c5a0aeb592b546cc00e5f6e88881f", func := "loop.example/g01332/laws.FnExactDropPace", spec := "fnExactDropPace", unfollowed := true, recurses := true, apart := false, narrowed := true }
def FnExactDropPaceUptoSaid : Prop := fnExactDropPaceUptoRow.holds Try.pinned (OpenSpec.upto fnExactDropPaceSpec)

/-- 'laws.FnExactLongestSilence', WHERE WHAT IT READS IS OF BULK AT MOST 1048576: true; the input reads as it did. -/
def fnExactLongestSilenceUptoRow : OpenClaim := { program := "ytpnmmjhhnfacfaa", sum := "c5904e0c9c9128551d8bdd3d4ae83ec0ab0c5a0aeb592b546cc00e5f6e88881f", func := "loop.example/g01332/laws.FnExactLongestSilence", spec := "fnExactLongestSilence", unfollowed := true, recurses := true, apart := false, narrowed := true }
def FnExactLongestSilenceUptoSaid : Prop := fnExactLongestSilenceUptoRow.holds Try.pinned (OpenSpec.upto fnExactLongestSilenceSpec)

end Rows
end Go.Proofs.Ytpnmmjhhnfacfaa
