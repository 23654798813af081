/-
  NARROWER THAN 'FOR EVERY INPUT', by the rows' own cells (each row's printed sentence says how): ExprTells: loops.
  DERIVED. THE GIVEN ROWS OF THIS SEAT. 2 by the template 'for every input the law returns true; each argument reads behind the call as it read before'; 0 by the template 'total and deterministic' (their statements: YtlapahjdkikodaaTotals.lean).
  GIVEN WITH THE SEED: the statements are not yours to turn. If you find one false, say at which input.
  Laid BY PROGRAM, IN A SANDBOX (cutbox-rows.mjs): the forced cells as the released guide's own fill.sh prints them over the translation ded1a97eb9917a1d… (all of the seat's roots in one cut). By AI agents, Wed Nov 11 2026. No macro, syntax, notation, axiom, sorry.
-/
import Derived.Test.YtlapahjdkikodaaChecked
import GoSem.Claim
import GoSem.ClaimJoined
import GoSem.ClaimMapViews
import Derived.JoinedTies
import Derived.KernelRfl
namespace Go.Proofs.Ytlapahjdkikodaa
/- THE CELL 'sum', in the pinned program and in every row, IS THE sha256 OF THE DUMP (.gsa) THAT YtlapahjdkikodaaProg.lean LOADS. Nothing in Lean hashes anything: it is a label: what it is worth is what the hold of that sum in a sandbox is worth. -/
noncomputable def Try.pinned : Pinned := { name := "ytlapahjdkikodaa", sum := "ded1a97eb9917a1d2fcdf06ed7c3d7b92280c5d5c30a40e851b681973226d4dd", checked := Try.checked }
namespace Rows
def none {H : Type} : Left H := { results := [], args := [] }

/-- 'colonnadelaw15.ExprTells': WHATEVER THE INPUT: true; the input reads as it did. -/
def exprTellsSpec : ChangeSpec := { name := "exprTells", fn := fun _ => fun
  | [d1, d2, d3, d4, d5] => { results := [.lit (.bool true)], args := [d1, d2, d3, d4, d5] }
  | _ => none }
def exprTellsRow : OpenClaim := { program := "ytlapahjdkikodaa", sum := "ded1a97eb9917a1d2fcdf06ed7c3d7b92280c5d5c30a40e851b681973226d4dd", func := "colonnade/colonnadelaw15.ExprTells", spec := "exprTells", unfollowed := true, recurses := true, loops := true, apart := false }
def ExprTellsSaid : Prop := exprTellsRow.holds Try.pinned (OpenSpec.ofChange exprTellsSpec)

/-- ITS FALSE NEIGHBOUR: 'it returns false'. Refute it at one input. -/
def exprTellsWrong : ChangeSpec := { name := "exprTells", fn := fun _ => fun
  | [d1, d2, d3, d4, d5] => { results := [.lit (.bool false)], args := [d1, d2, d3, d4, d5] }
  | _ => none }
def ExprTellsWrongFalsely : Prop := exprTellsRow.holds Try.pinned (OpenSpec.ofChange exprTellsWrong)

/-- 'colonnadelaw7.PredOwn': WHATEVER THE INPUT: true; the input reads as it did. -/
def predOwnSpec : ChangeSpec := { name := "predOwn", fn := fun _ => fun
  | [d1, d2, d3] => { results := [.lit (.bool true)], args := [d1, d2, d3] }
  | _ => none }
def predOwnRow : OpenClaim := { program := "ytlapahjdkikodaa", sum := "ded1a97eb9917a1d2fcdf06ed7c3d7b92280c5d5c30a40e851b681973226d4dd", func := "colonnade/colonnadelaw7.PredOwn", spec := "predOwn", inPlace := ["internal/bytealg.Compare"], unfollowed := true, recurses := true, apart := false }
def PredOwnSaid : Prop := predOwnRow.holds Try.pinned (OpenSpec.ofChange predOwnSpec)

/-- ITS FALSE NEIGHBOUR: 'it returns false'. Refute it at one input. -/
def predOwnWrong : ChangeSpec := { name := "predOwn", fn := fun _ => fun
  | [d1, d2, d3] => { results := [.lit (.bool false)], args := [d1, d2, d3] }
  | _ => none }
def PredOwnWrongFalsely : Prop := predOwnRow.holds Try.pinned (OpenSpec.ofChange predOwnWrong)

/- THE SECOND FORM. 'bulk': how many values and letters a reading holds, each counted each time it is reached (what is shared counts as often as it is met; a slice's spare places count too). A statement '..UptoSaid' is the law's where the arguments, and the package variables that the reading takes, are together of bulk at most 1048576: NARROWER than '..Said'. Prove '..Said' where nothing that the law and all that it calls make is longer than what came in: it says more and counts as full. Else prove '..UptoSaid'. A law counts once. -/
mutual
def uptoBulk {H : Type} : DataW H → Nat
  | .lit (.string bytes) => bytes.length + 1
  | .lit _ => 1
  | .nil => 1
  | .ptr d => uptoBulk d + 1
  | .slice elems spare => uptoBulkAll elems + uptoBulkAll spare + 1
  | .agg parts => uptoBulkAll parts + 1
  | .iface _ d => uptoBulk d + 1
  | .map entries => uptoBulkEntries entries + 1
  | .held _ => 1
def uptoBulkAll {H : Type} : List (DataW H) → Nat
  | [] => 0
  | d :: r => uptoBulk d + uptoBulkAll r
def uptoBulkEntries {H : Type} : List (Lit × DataW H) → Nat
  | [] => 0
  | x :: r => uptoBulkEntry x + uptoBulkEntries r
def uptoBulkEntry {H : Type} : Lit × DataW H → Nat
  | (.string bytes, d) => bytes.length + uptoBulk d + 1
  | (_, d) => uptoBulk d + 1
 end
def uptoSmall : (H : Type) → List (DataW H) → Bool := fun _ ds => decide (uptoBulkAll ds ≤ 1048576)
def OpenSpec.upto (s : _root_.Go.ChangeSpec) : _root_.Go.OpenSpec := { _root_.Go.OpenSpec.ofChange s with cond := some uptoSmall }

/-- 'colonnadelaw15.ExprTells', WHERE WHAT IT READS IS OF BULK AT MOST 1048576: true; the input reads as it did. -/
def exprTellsUptoRow : OpenClaim := { program := "ytlapahjdkikodaa", sum := "ded1a97eb9917a1d2fcdf06ed7c3d7b92280c5d5c30a40e851b681973226d4dd", func := "colonnade/colonnadelaw15.ExprTells", spec := "exprTells", unfollowed := true, recurses := true, loops := true, apart := false, narrowed := true }
def ExprTellsUptoSaid : Prop := exprTellsUptoRow.holds Try.pinned (OpenSpec.upto exprTellsSpec)

/-- 'colonnadelaw7.PredOwn', WHERE WHAT IT READS IS OF BULK AT MOST 1048576: true; the input reads as it did. -/
def predOwnUptoRow : OpenClaim := { program := "ytlapahjdkikodaa", sum := "ded1a97eb9917a1d2fcdf06ed7c3d7b92280c5d5c30a40e851b681973226d4dd", func := "colonnade/colonnadelaw7.PredOwn", spec := "predOwn", inPlace := ["internal/bytealg.Compare"], unfollowed := true, recurses := true, apart := false, narrowed := true }
def PredOwnUptoSaid : Prop := predOwnUptoRow.holds Try.pinned (OpenSpec.upto predOwnSpec)

end Rows
end Go.Proofs.Ytlapahjdkikodaa
