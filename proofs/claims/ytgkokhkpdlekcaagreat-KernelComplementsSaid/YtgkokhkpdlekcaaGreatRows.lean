/-
  No cell of these rows narrows 'for every input' (looked for: loops, veiled, ifaces, maps, wideKeys, modest, calm, conditions, laid).
  DERIVED. THE GIVEN ROWS OF THIS SEAT. 4 by the template 'for every input the law returns true; each argument reads behind the call as it read before'; 0 by the template 'total and deterministic' (their statements: YtgkokhkpdlekcaaGreatTotals.lean).
  GIVEN WITH THE SEED: the statements are not yours to turn. If you find one false, say at which input.
  Laid BY PROGRAM, IN A SANDBOX (cutbox-rows.mjs): the forced cells as the released guide's own fill.sh prints them over the translation 125666267cdd1bc3… (all of the seat's roots in one cut). By AI agents, Wed Nov 11 2026. No macro, syntax, notation, axiom, sorry.
-/
import Derived.Test.YtgkokhkpdlekcaaGreatChecked
import GoSem.Claim
import GoSem.ClaimJoined
import GoSem.ClaimMapViews
import Derived.JoinedTies
import Derived.KernelRfl
namespace Go.Proofs.YtgkokhkpdlekcaaGreat
/- THE CELL 'sum', in the pinned program and in every row, IS THE sha256 OF THE DUMP (.gsa) THAT YtgkokhkpdlekcaaGreatProg.lean LOADS. Nothing in Lean hashes anything: it is a label: what it is worth is what the hold of that sum in a sandbox is worth. -/
noncomputable def Tryz.pinned : Pinned := { name := "ytgkokhkpdlekcaagreat", sum := "125666267cdd1bc3dc3bf2b984400bd6f8fa958952b6628b7fbade5fdb580e0c", checked := Tryz.checked }
namespace Rows
def none {H : Type} : Left H := { results := [], args := [] }

/-- 'torsionlaw15.KernelMatchesReference': WHATEVER THE INPUT: true; the input reads as it did. -/
def kernelMatchesReferenceSpec : ChangeSpec := { name := "kernelMatchesReference", fn := fun _ => fun
  | [d] => { results := [.lit (.bool true)], args := [d] }
  | _ => none }
def kernelMatchesReferenceRow : OpenClaim := { program := "ytgkokhkpdlekcaagreat", sum := "125666267cdd1bc3dc3bf2b984400bd6f8fa958952b6628b7fbade5fdb580e0c", func := "torsion/torsionlaw15.KernelMatchesReference", spec := "kernelMatchesReference", unfollowed := true, recurses := true, apart := false }
def KernelMatchesReferenceSaid : Prop := kernelMatchesReferenceRow.holds Tryz.pinned (OpenSpec.ofChange kernelMatchesReferenceSpec)

/-- ITS FALSE NEIGHBOUR: 'it returns false'. Refute it at one input. -/
def kernelMatchesReferenceWrong : ChangeSpec := { name := "kernelMatchesReference", fn := fun _ => fun
  | [d] => { results := [.lit (.bool false)], args := [d] }
  | _ => none }
def KernelMatchesReferenceWrongFalsely : Prop := kernelMatchesReferenceRow.holds Tryz.pinned (OpenSpec.ofChange kernelMatchesReferenceWrong)

/-- 'torsionlaw15.KernelComplete': WHATEVER THE INPUT: true; the input reads as it did. -/
def kernelCompleteSpec : ChangeSpec := { name := "kernelComplete", fn := fun _ => fun
  | [d1, d2] => { results := [.lit (.bool true)], args := [d1, d2] }
  | _ => none }
def kernelCompleteRow : OpenClaim := { program := "ytgkokhkpdlekcaagreat", sum := "125666267cdd1bc3dc3bf2b984400bd6f8fa958952b6628b7fbade5fdb580e0c", func := "torsion/torsionlaw15.KernelComplete", spec := "kernelComplete", unfollowed := true, recurses := true, apart := false }
def KernelCompleteSaid : Prop := kernelCompleteRow.holds Tryz.pinned (OpenSpec.ofChange kernelCompleteSpec)

/-- ITS FALSE NEIGHBOUR: 'it returns false'. Refute it at one input. -/
def kernelCompleteWrong : ChangeSpec := { name := "kernelComplete", fn := fun _ => fun
  | [d1, d2] => { results := [.lit (.bool false)], args := [d1, d2] }
  | _ => none }
def KernelCompleteWrongFalsely : Prop := kernelCompleteRow.holds Tryz.pinned (OpenSpec.ofChange kernelCompleteWrong)

/-- 'torsionlaw15.KernelSaturates': WHATEVER THE INPUT: true; the input reads as it did. -/
def kernelSaturatesSpec : ChangeSpec := { name := "kernelSaturates", fn := fun _ => fun
  | [d1, d2] => { results := [.lit (.bool true)], args := [d1, d2] }
  | _ => none }
def kernelSaturatesRow : OpenClaim := { program := "ytgkokhkpdlekcaagreat", sum := "125666267cdd1bc3dc3bf2b984400bd6f8fa958952b6628b7fbade5fdb580e0c", func := "torsion/torsionlaw15.KernelSaturates", spec := "kernelSaturates", unfollowed := true, recurses := true, apart := false }
def KernelSaturatesSaid : Prop := kernelSaturatesRow.holds Tryz.pinned (OpenSpec.ofChange kernelSaturatesSpec)

/-- ITS FALSE NEIGHBOUR: 'it returns false'. Refute it at one input. -/
def kernelSaturatesWrong : ChangeSpec := { name := "kernelSaturates", fn := fun _ => fun
  | [d1, d2] => { results := [.lit (.bool false)], args := [d1, d2] }
  | _ => none }
def KernelSaturatesWrongFalsely : Prop := kernelSaturatesRow.holds Tryz.pinned (OpenSpec.ofChange kernelSaturatesWrong)

/-- 'torsionlaw15.KernelComplements': WHATEVER THE INPUT: true; the input reads as it did. -/
def kernelComplementsSpec : ChangeSpec := { name := "kernelComplements", fn := fun _ => fun
  | [d1, d2, d3] => { results := [.lit (.bool true)], args := [d1, d2, d3] }
  | _ => none }
def kernelComplementsRow : OpenClaim := { program := "ytgkokhkpdlekcaagreat", sum := "125666267cdd1bc3dc3bf2b984400bd6f8fa958952b6628b7fbade5fdb580e0c", func := "torsion/torsionlaw15.KernelComplements", spec := "kernelComplements", unfollowed := true, recurses := true, apart := false }
def KernelComplementsSaid : Prop := kernelComplementsRow.holds Tryz.pinned (OpenSpec.ofChange kernelComplementsSpec)

/-- ITS FALSE NEIGHBOUR: 'it returns false'. Refute it at one input. -/
def kernelComplementsWrong : ChangeSpec := { name := "kernelComplements", fn := fun _ => fun
  | [d1, d2, d3] => { results := [.lit (.bool false)], args := [d1, d2, d3] }
  | _ => none }
def KernelComplementsWrongFalsely : Prop := kernelComplementsRow.holds Tryz.pinned (OpenSpec.ofChange kernelComplementsWrong)

/- THE SECOND FORM. 'bulk': how many values and letters a reading holds, each counted each time it is reached (what is shared counts as often as it is met; a slice's spare places count too). A statement '..UptoSaid' is the law's where the arguments, and the package variables that the reading takes, are together of bulk at most 1048576: NARROWER than '..Said'. Prove '..Said' where nothing that the law and all that it calls make is longer than what came in: it says more and counts as full. Else prove '..UptoSaid'. A law counts once. -/
mutual
def uptoBulk {H : Type} : DataW H → Nat
  | .lit (.string bytes) => bytes.length + 1
  | .lit _ => 1
  | .nil => 1
  | .ptr d => uptoBulk d + 1
  | .slice elems spare => uptoBulkAll elems + uptoBulkAll spare + 1
  | .agg parts => uptoBulkAll parts + 1
  | .iface _ d => uptoBulk d + 1
  | .map entries => uptoBulkEntries entries + 1
  | .held _ => 1
def uptoBulkAll {H : Type} : List (DataW H) → Nat
  | [] => 0
  | d :: r => uptoBulk d + uptoBulkAll r
def uptoBulkEntries {H : Type} : List (Lit × DataW H) → Nat
  | [] => 0
  | x :: r => uptoBulkEntry x + uptoBulkEntries r
def uptoBulkEntry {H : Type} : Lit × DataW H → Nat
  | (.string bytes, d) => bytes.length + uptoBulk d + 1
  | (_, d) => uptoBulk d + 1
 end
def uptoSmall : (H : Type) → List (DataW H) → Bool := fun _ ds => decide (uptoBulkAll ds ≤ 1048576)
def OpenSpec.upto (s : _root_.Go.ChangeSpec) : _root_.Go.OpenSpec := { _root_.Go.OpenSpec.ofChange s with cond := some uptoSmall }

/-- 'torsionlaw15.KernelMatchesReference', WHERE WHAT IT READS IS OF BULK AT MOST 1048576: true; the input reads as it did. -/
def kernelMatchesReferenceUptoRow : OpenClaim := { program := "ytgkokhkpdlekcaagreat", sum := "125666267cdd1bc3dc3bf2b984400bd6f8fa958952b6628b7fbade5fdb580e0c", func := "torsion/torsionlaw15.KernelMatchesReference", spec := "kernelMatchesReference", unfollowed := true, recurses := true, apart := false, narrowed := true }
def KernelMatchesReferenceUptoSaid : Prop := kernelMatchesReferenceUptoRow.holds Tryz.pinned (OpenSpec.upto kernelMatchesReferenceSpec)

/-- 'torsionlaw15.KernelComplete', WHERE WHAT IT READS IS OF BULK AT MOST 1048576: true; the input reads as it did. -/
def kernelCompleteUptoRow : OpenClaim := { program := "ytgkokhkpdlekcaagreat", sum := "125666267cdd1bc3dc3bf2b984400bd6f8fa958952b6628b7fbade5fdb580e0c", func := "torsion/torsionlaw15.KernelComplete", spec := "kernelComplete", unfollowed := true, recurses := true, apart := false, narrowed := true }
def KernelCompleteUptoSaid : Prop := kernelCompleteUptoRow.holds Tryz.pinned (OpenSpec.upto kernelCompleteSpec)

/-- 'torsionlaw15.KernelSaturates', WHERE WHAT IT READS IS OF BULK AT MOST 1048576: true; the input reads as it did. -/
def kernelSaturatesUptoRow : OpenClaim := { program := "ytgkokhkpdlekcaagreat", sum := "125666267cdd1bc3dc3bf2b984400bd6f8fa958952b6628b7fbade5fdb580e0c", func := "torsion/torsionlaw15.KernelSaturates", spec := "kernelSaturates", unfollowed := true, recurses := true, apart := false, narrowed := true }
def KernelSaturatesUptoSaid : Prop := kernelSaturatesUptoRow.holds Tryz.pinned (OpenSpec.upto kernelSaturatesSpec)

/-- 'torsionlaw15.KernelComplements', WHERE WHAT IT READS IS OF BULK AT MOST 1048576: true; the input reads as it did. -/
def kernelComplementsUptoRow : OpenClaim := { program := "ytgkokhkpdlekcaagreat", sum := "125666267cdd1bc3dc3bf2b984400bd6f8fa958952b6628b7fbade5fdb580e0c", func := "torsion/torsionlaw15.KernelComplements", spec := "kernelComplements", unfollowed := true, recurses := true, apart := false, narrowed := true }
def KernelComplementsUptoSaid : Prop := kernelComplementsUptoRow.holds Tryz.pinned (OpenSpec.upto kernelComplementsSpec)

end Rows
end Go.Proofs.YtgkokhkpdlekcaaGreat
