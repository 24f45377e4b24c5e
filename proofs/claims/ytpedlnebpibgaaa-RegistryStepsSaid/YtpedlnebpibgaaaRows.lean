/-
  No cell of these rows narrows 'for every input' (looked for: loops, veiled, ifaces, maps, wideKeys, modest, calm, conditions, laid).
  DERIVED. THE GIVEN ROWS OF THIS SEAT. 6 by the template 'for every input the law returns true; each argument reads behind the call as it read before'; 0 by the template 'total and deterministic' (their statements: YtpedlnebpibgaaaTotals.lean).
  GIVEN WITH THE SEED: the statements are not yours to turn. If you find one false, say at which input.
  Laid BY PROGRAM, IN A SANDBOX (cutbox-rows.mjs): the forced cells as the released guide's own fill.sh prints them over the translation e2806ec2a1ccfdb2… (all of the seat's roots in one cut). By AI agents, Wed Nov 11 2026. No macro, syntax, notation, axiom, sorry.
-/
import Derived.Test.YtpedlnebpibgaaaChecked
import GoSem.Claim
import GoSem.ClaimJoined
import GoSem.ClaimMapViews
import Derived.JoinedTies
import Derived.KernelRfl
namespace Go.Proofs.Ytpedlnebpibgaaa
/- THE CELL 'sum', in the pinned program and in every row, IS THE sha256 OF THE DUMP (.gsa) THAT YtpedlnebpibgaaaProg.lean LOADS. Nothing in Lean hashes anything: it is a label: what it is worth is what the hold of that sum in a sandbox is worth. -/
noncomputable def Try.pinned : Pinned := { name := "ytpedlnebpibgaaa", sum := "e2806ec2a1ccfdb2cf3e6a65d942f2e7c924d34a38f5c34387e0f4dbd5af8072", checked := Try.checked }
namespace Rows
def none {H : Type} : Left H := { results := [], args := [] }

/-- 'compositorlaw14.RegistrySteps': WHATEVER THE INPUT: true; the input reads as it did. -/
def registryStepsSpec : ChangeSpec := { name := "registrySteps", fn := fun _ => fun
  | [d] => { results := [.lit (.bool true)], args := [d] }
  | _ => none }
def registryStepsRow : OpenClaim := { program := "ytpedlnebpibgaaa", sum := "e2806ec2a1ccfdb2cf3e6a65d942f2e7c924d34a38f5c34387e0f4dbd5af8072", func := "compositor/compositorlaw14.RegistrySteps", spec := "registrySteps", unfollowed := true, recurses := true, apart := false }
def RegistryStepsSaid : Prop := registryStepsRow.holds Try.pinned (OpenSpec.ofChange registryStepsSpec)

/-- ITS FALSE NEIGHBOUR: 'it returns false'. Refute it at one input. -/
def registryStepsWrong : ChangeSpec := { name := "registrySteps", fn := fun _ => fun
  | [d] => { results := [.lit (.bool false)], args := [d] }
  | _ => none }
def RegistryStepsWrongFalsely : Prop := registryStepsRow.holds Try.pinned (OpenSpec.ofChange registryStepsWrong)

/-- 'compositorlaw14.RegistryNames': WHATEVER THE INPUT: true; the input reads as it did. -/
def registryNamesSpec : ChangeSpec := { name := "registryNames", fn := fun _ => fun
  | [d] => { results := [.lit (.bool true)], args := [d] }
  | _ => none }
def registryNamesRow : OpenClaim := { program := "ytpedlnebpibgaaa", sum := "e2806ec2a1ccfdb2cf3e6a65d942f2e7c924d34a38f5c34387e0f4dbd5af8072", func := "compositor/compositorlaw14.RegistryNames", spec := "registryNames", unfollowed := true, recurses := true, apart := false }
def RegistryNamesSaid : Prop := registryNamesRow.holds Try.pinned (OpenSpec.ofChange registryNamesSpec)

/-- ITS FALSE NEIGHBOUR: 'it returns false'. Refute it at one input. -/
def registryNamesWrong : ChangeSpec := { name := "registryNames", fn := fun _ => fun
  | [d] => { results := [.lit (.bool false)], args := [d] }
  | _ => none }
def RegistryNamesWrongFalsely : Prop := registryNamesRow.holds Try.pinned (OpenSpec.ofChange registryNamesWrong)

/-- 'compositorlaw14.RegistryRemoval': WHATEVER THE INPUT: true; the input reads as it did. -/
def registryRemovalSpec : ChangeSpec := { name := "registryRemoval", fn := fun _ => fun
  | [d1, d2] => { results := [.lit (.bool true)], args := [d1, d2] }
  | _ => none }
def registryRemovalRow : OpenClaim := { program := "ytpedlnebpibgaaa", sum := "e2806ec2a1ccfdb2cf3e6a65d942f2e7c924d34a38f5c34387e0f4dbd5af8072", func := "compositor/compositorlaw14.RegistryRemoval", spec := "registryRemoval", unfollowed := true, recurses := true, apart := false }
def RegistryRemovalSaid : Prop := registryRemovalRow.holds Try.pinned (OpenSpec.ofChange registryRemovalSpec)

/-- ITS FALSE NEIGHBOUR: 'it returns false'. Refute it at one input. -/
def registryRemovalWrong : ChangeSpec := { name := "registryRemoval", fn := fun _ => fun
  | [d1, d2] => { results := [.lit (.bool false)], args := [d1, d2] }
  | _ => none }
def RegistryRemovalWrongFalsely : Prop := registryRemovalRow.holds Try.pinned (OpenSpec.ofChange registryRemovalWrong)

/-- 'compositorlaw14.RegistryBind': WHATEVER THE INPUT: true; the input reads as it did. -/
def registryBindSpec : ChangeSpec := { name := "registryBind", fn := fun _ => fun
  | [d1, d2, d3] => { results := [.lit (.bool true)], args := [d1, d2, d3] }
  | _ => none }
def registryBindRow : OpenClaim := { program := "ytpedlnebpibgaaa", sum := "e2806ec2a1ccfdb2cf3e6a65d942f2e7c924d34a38f5c34387e0f4dbd5af8072", func := "compositor/compositorlaw14.RegistryBind", spec := "registryBind", unfollowed := true, recurses := true, apart := false }
def RegistryBindSaid : Prop := registryBindRow.holds Try.pinned (OpenSpec.ofChange registryBindSpec)

/-- ITS FALSE NEIGHBOUR: 'it returns false'. Refute it at one input. -/
def registryBindWrong : ChangeSpec := { name := "registryBind", fn := fun _ => fun
  | [d1, d2, d3] => { results := [.lit (.bool false)], args := [d1, d2, d3] }
  | _ => none }
def RegistryBindWrongFalsely : Prop := registryBindRow.holds Try.pinned (OpenSpec.ofChange registryBindWrong)

/-- 'compositorlaw14.RegistryLimit': WHATEVER THE INPUT: true; the input reads as it did. -/
def registryLimitSpec : ChangeSpec := { name := "registryLimit", fn := fun _ => fun
  | [d] => { results := [.lit (.bool true)], args := [d] }
  | _ => none }
def registryLimitRow : OpenClaim := { program := "ytpedlnebpibgaaa", sum := "e2806ec2a1ccfdb2cf3e6a65d942f2e7c924d34a38f5c34387e0f4dbd5af8072", func := "compositor/compositorlaw14.RegistryLimit", spec := "registryLimit", unfollowed := true, recurses := true, apart := false }
def RegistryLimitSaid : Prop := registryLimitRow.holds Try.pinned (OpenSpec.ofChange registryLimitSpec)

/-- ITS FALSE NEIGHBOUR: 'it returns false'. Refute it at one input. -/
def registryLimitWrong : ChangeSpec := { name := "registryLimit", fn := fun _ => fun
  | [d] => { results := [.lit (.bool false)], args := [d] }
  | _ => none }
def RegistryLimitWrongFalsely : Prop := registryLimitRow.holds Try.pinned (OpenSpec.ofChange registryLimitWrong)

/-- 'compositorlaw14.RegistryNil': WHATEVER THE INPUT: true; the input reads as it did. -/
def registryNilSpec : ChangeSpec := { name := "registryNil", fn := fun _ => fun
  | [d] => { results := [.lit (.bool true)], args := [d] }
  | _ => none }
def registryNilRow : OpenClaim := { program := "ytpedlnebpibgaaa", sum := "e2806ec2a1ccfdb2cf3e6a65d942f2e7c924d34a38f5c34387e0f4dbd5af8072", func := "compositor/compositorlaw14.RegistryNil", spec := "registryNil", unfollowed := true, recurses := true, apart := false }
def RegistryNilSaid : Prop := registryNilRow.holds Try.pinned (OpenSpec.ofChange registryNilSpec)

/-- ITS FALSE NEIGHBOUR: 'it returns false'. Refute it at one input. -/
def registryNilWrong : ChangeSpec := { name := "registryNil", fn := fun _ => fun
  | [d] => { results := [.lit (.bool false)], args := [d] }
  | _ => none }
def RegistryNilWrongFalsely : Prop := registryNilRow.holds Try.pinned (OpenSpec.ofChange registryNilWrong)

/- THE SECOND FORM. 'bulk': how many values and letters a reading holds, each counted each time it is reached (what is shared counts as often as it is met; a slice's spare places count too). A statement '..UptoSaid' is the law's where the arguments, and the package variables that the reading takes, are together of bulk at most 1048576: NARROWER than '..Said'. Prove '..Said' where nothing that the law and all that it calls make is longer than what came in: it says more and counts as full. Else prove '..UptoSaid'. A law counts once. -/
mutual
def uptoBulk {H : Type} : DataW H → Nat
  | .lit (.string bytes) => bytes.length + 1
  | .lit _ => 1
  | .nil => 1
  | .ptr d => uptoBulk d + 1
  | .slice elems spare => uptoBulkAll elems + uptoBulkAll spare + 1
  | .agg parts => uptoBulkAll parts + 1
  | .iface _ d => uptoBulk d + 1
  | .map entries => uptoBulkEntries entries + 1
  | .held _ => 1
def uptoBulkAll {H : Type} : List (DataW H) → Nat
  | [] => 0
  | d :: r => uptoBulk d + uptoBulkAll r
def uptoBulkEntries {H : Type} : List (Lit × DataW H) → Nat
  | [] => 0
  | x :: r => uptoBulkEntry x + uptoBulkEntries r
def uptoBulkEntry {H : Type} : Lit × DataW H → Nat
  | (.string bytes, d) => bytes.length + uptoBulk d + 1
  | (_, d) => uptoBulk d + 1
 end
def uptoSmall : (H : Type) → List (DataW H) → Bool := fun _ ds => decide (uptoBulkAll ds ≤ 1048576)
def OpenSpec.upto (s : _root_.Go.ChangeSpec) : _root_.Go.OpenSpec := { _root_.Go.OpenSpec.ofChange s with cond := some uptoSmall }

/-- 'compositorlaw14.RegistrySteps', WHERE WHAT IT READS IS OF BULK AT MOST 1048576: true; the input reads as it did. -/
def registryStepsUptoRow : OpenClaim := { program := "ytpedlnebpibgaaa", sum := "e2806ec2a1ccfdb2cf3e6a65d942f2e7c924d34a38f5c34387e0f4dbd5af8072", func := "compositor/compositorlaw14.RegistrySteps", spec := "registrySteps", unfollowed := true, recurses := true, apart := false, narrowed := true }
def RegistryStepsUptoSaid : Prop := registryStepsUptoRow.holds Try.pinned (OpenSpec.upto registryStepsSpec)

/-- 'compositorlaw14.RegistryNames', WHERE WHAT IT READS IS OF BULK AT MOST 1048576: true; the input reads as it did. -/
def registryNamesUptoRow : OpenClaim := { program := "ytpedlnebpibgaaa", sum := "e2806ec2a1ccfdb2cf3e6a65d942f2e7c924d34a38f5c34387e0f4dbd5af8072", func := "compositor/compositorlaw14.RegistryNames", spec := "registryNames", unfollowed := true, recurses := true, apart := false, narrowed := true }
def RegistryNamesUptoSaid : Prop := registryNamesUptoRow.holds Try.pinned (OpenSpec.upto registryNamesSpec)

/-- 'compositorlaw14.RegistryRemoval', WHERE WHAT IT READS IS OF BULK AT MOST 1048576: true; the input reads as it did. -/
def registryRemovalUptoRow : OpenClaim := { program := "ytpedlnebpibgaaa", sum := "e2806ec2a1ccfdb2cf3e6a65d942f2e7c924d34a38f5c34387e0f4dbd5af8072", func := "compositor/compositorlaw14.RegistryRemoval", spec := "registryRemoval", unfollowed := true, recurses := true, apart := false, narrowed := true }
def RegistryRemovalUptoSaid : Prop := registryRemovalUptoRow.holds Try.pinned (OpenSpec.upto registryRemovalSpec)

/-- 'compositorlaw14.RegistryBind', WHERE WHAT IT READS IS OF BULK AT MOST 1048576: true; the input reads as it did. -/
def registryBindUptoRow : OpenClaim := { program := "ytpedlnebpibgaaa", sum := "e2806ec2a1ccfdb2cf3e6a65d942f2e7c924d34a38f5c34387e0f4dbd5af8072", func := "compositor/compositorlaw14.RegistryBind", spec := "registryBind", unfollowed := true, recurses := true, apart := false, narrowed := true }
def RegistryBindUptoSaid : Prop := registryBindUptoRow.holds Try.pinned (OpenSpec.upto registryBindSpec)

/-- 'compositorlaw14.RegistryLimit', WHERE WHAT IT READS IS OF BULK AT MOST 1048576: true; the input reads as it did. -/
def registryLimitUptoRow : OpenClaim := { program := "ytpedlnebpibgaaa", sum := "e2806ec2a1ccfdb2cf3e6a65d942f2e7c924d34a38f5c34387e0f4dbd5af8072", func := "compositor/compositorlaw14.RegistryLimit", spec := "registryLimit", unfollowed := true, recurses := true, apart := false, narrowed := true }
def RegistryLimitUptoSaid : Prop := registryLimitUptoRow.holds Try.pinned (OpenSpec.upto registryLimitSpec)

/-- 'compositorlaw14.RegistryNil', WHERE WHAT IT READS IS OF BULK AT MOST 1048576: true; the input reads as it did. -/
def registryNilUptoRow : OpenClaim := { program := "ytpedlnebpibgaaa", sum := "e2806ec2a1ccfdb2cf3e6a65d942f2e7c924d34a38f5c34387e0f4dbd5af8072", func := "compositor/compositorlaw14.RegistryNil", spec := "registryNil", unfollowed := true, recurses := true, apart := false, narrowed := true }
def RegistryNilUptoSaid : Prop := registryNilUptoRow.holds Try.pinned (OpenSpec.upto registryNilSpec)

end Rows
end Go.Proofs.Ytpedlnebpibgaaa
