/-
  No cell of these rows narrows 'for every input' (looked for: loops, veiled, ifaces, maps, wideKeys, modest, calm, conditions, laid).
  DERIVED. THE GIVEN ROWS OF THIS SEAT. 7 by the template 'for every input the law returns true; each argument reads behind the call as it read before'; 0 by the template 'total and deterministic' (their statements: YtmkhphkkpdiliaaTotals.lean).
  GIVEN WITH THE SEED: the statements are not yours to turn. If you find one false, say at which input.
  Laid BY PROGRAM, IN A SANDBOX (cutbox-rows.mjs): the forced cells as the released guide's own fill.sh prints them over the translation 14be79d30a45b371… (all of the seat's roots in one cut). By AI agents, Wed Nov 11 2026. No macro, syntax, notation, axiom, sorry.
-/
import Derived.Test.YtmkhphkkpdiliaaChecked
import GoSem.Claim
import GoSem.ClaimJoined
import GoSem.ClaimMapViews
import Derived.JoinedTies
import Derived.KernelRfl
namespace Go.Proofs.Ytmkhphkkpdiliaa
/- THE CELL 'sum', in the pinned program and in every row, IS THE sha256 OF THE DUMP (.gsa) THAT YtmkhphkkpdiliaaProg.lean LOADS. Nothing in Lean hashes anything: it is a label: what it is worth is what the hold of that sum in a sandbox is worth. -/
noncomputable def Try.pinned : Pinned := { name := "ytmkhphkkpdiliaa", sum := "14be79d30a45b3714b3b4337dccb3ef0a53e9cc6f425aefd54c0b8d287511138", checked := Try.checked }
namespace Rows
def none {H : Type} : Left H := { results := [], args := [] }

/-- 'compositorlaw30.PresentNext': WHATEVER THE INPUT: true; the input reads as it did. -/
def presentNextSpec : ChangeSpec := { name := "presentNext", fn := fun _ => fun
  | [d1, d2] => { results := [.lit (.bool true)], args := [d1, d2] }
  | _ => none }
def presentNextRow : OpenClaim := { program := "ytmkhphkkpdiliaa", sum := "14be79d30a45b3714b3b4337dccb3ef0a53e9cc6f425aefd54c0b8d287511138", func := "compositor/compositorlaw30.PresentNext", spec := "presentNext", unfollowed := true, recurses := true, apart := false }
def PresentNextSaid : Prop := presentNextRow.holds Try.pinned (OpenSpec.ofChange presentNextSpec)

/-- ITS FALSE NEIGHBOUR: 'it returns false'. Refute it at one input. -/
def presentNextWrong : ChangeSpec := { name := "presentNext", fn := fun _ => fun
  | [d1, d2] => { results := [.lit (.bool false)], args := [d1, d2] }
  | _ => none }
def PresentNextWrongFalsely : Prop := presentNextRow.holds Try.pinned (OpenSpec.ofChange presentNextWrong)

/-- 'compositorlaw30.PresentFeedback': WHATEVER THE INPUT: true; the input reads as it did. -/
def presentFeedbackSpec : ChangeSpec := { name := "presentFeedback", fn := fun _ => fun
  | [d1, d2] => { results := [.lit (.bool true)], args := [d1, d2] }
  | _ => none }
def presentFeedbackRow : OpenClaim := { program := "ytmkhphkkpdiliaa", sum := "14be79d30a45b3714b3b4337dccb3ef0a53e9cc6f425aefd54c0b8d287511138", func := "compositor/compositorlaw30.PresentFeedback", spec := "presentFeedback", unfollowed := true, recurses := true, apart := false }
def PresentFeedbackSaid : Prop := presentFeedbackRow.holds Try.pinned (OpenSpec.ofChange presentFeedbackSpec)

/-- ITS FALSE NEIGHBOUR: 'it returns false'. Refute it at one input. -/
def presentFeedbackWrong : ChangeSpec := { name := "presentFeedback", fn := fun _ => fun
  | [d1, d2] => { results := [.lit (.bool false)], args := [d1, d2] }
  | _ => none }
def PresentFeedbackWrongFalsely : Prop := presentFeedbackRow.holds Try.pinned (OpenSpec.ofChange presentFeedbackWrong)

/-- 'compositorlaw30.PresentBackwards': WHATEVER THE INPUT: true; the input reads as it did. -/
def presentBackwardsSpec : ChangeSpec := { name := "presentBackwards", fn := fun _ => fun
  | [d1, d2] => { results := [.lit (.bool true)], args := [d1, d2] }
  | _ => none }
def presentBackwardsRow : OpenClaim := { program := "ytmkhphkkpdiliaa", sum := "14be79d30a45b3714b3b4337dccb3ef0a53e9cc6f425aefd54c0b8d287511138", func := "compositor/compositorlaw30.PresentBackwards", spec := "presentBackwards", unfollowed := true, recurses := true, apart := false }
def PresentBackwardsSaid : Prop := presentBackwardsRow.holds Try.pinned (OpenSpec.ofChange presentBackwardsSpec)

/-- ITS FALSE NEIGHBOUR: 'it returns false'. Refute it at one input. -/
def presentBackwardsWrong : ChangeSpec := { name := "presentBackwards", fn := fun _ => fun
  | [d1, d2] => { results := [.lit (.bool false)], args := [d1, d2] }
  | _ => none }
def PresentBackwardsWrongFalsely : Prop := presentBackwardsRow.holds Try.pinned (OpenSpec.ofChange presentBackwardsWrong)

/-- 'compositorlaw30.PresentLimits': WHATEVER THE INPUT: true; the input reads as it did. -/
def presentLimitsSpec : ChangeSpec := { name := "presentLimits", fn := fun _ => fun
  | [d] => { results := [.lit (.bool true)], args := [d] }
  | _ => none }
def presentLimitsRow : OpenClaim := { program := "ytmkhphkkpdiliaa", sum := "14be79d30a45b3714b3b4337dccb3ef0a53e9cc6f425aefd54c0b8d287511138", func := "compositor/compositorlaw30.PresentLimits", spec := "presentLimits", unfollowed := true, recurses := true, apart := false }
def PresentLimitsSaid : Prop := presentLimitsRow.holds Try.pinned (OpenSpec.ofChange presentLimitsSpec)

/-- ITS FALSE NEIGHBOUR: 'it returns false'. Refute it at one input. -/
def presentLimitsWrong : ChangeSpec := { name := "presentLimits", fn := fun _ => fun
  | [d] => { results := [.lit (.bool false)], args := [d] }
  | _ => none }
def PresentLimitsWrongFalsely : Prop := presentLimitsRow.holds Try.pinned (OpenSpec.ofChange presentLimitsWrong)

/-- 'compositorlaw30.PresentPlays': WHATEVER THE INPUT: true; the input reads as it did. -/
def presentPlaysSpec : ChangeSpec := { name := "presentPlays", fn := fun _ => fun
  | [d1, d2] => { results := [.lit (.bool true)], args := [d1, d2] }
  | _ => none }
def presentPlaysRow : OpenClaim := { program := "ytmkhphkkpdiliaa", sum := "14be79d30a45b3714b3b4337dccb3ef0a53e9cc6f425aefd54c0b8d287511138", func := "compositor/compositorlaw30.PresentPlays", spec := "presentPlays", unfollowed := true, recurses := true, apart := false }
def PresentPlaysSaid : Prop := presentPlaysRow.holds Try.pinned (OpenSpec.ofChange presentPlaysSpec)

/-- ITS FALSE NEIGHBOUR: 'it returns false'. Refute it at one input. -/
def presentPlaysWrong : ChangeSpec := { name := "presentPlays", fn := fun _ => fun
  | [d1, d2] => { results := [.lit (.bool false)], args := [d1, d2] }
  | _ => none }
def PresentPlaysWrongFalsely : Prop := presentPlaysRow.holds Try.pinned (OpenSpec.ofChange presentPlaysWrong)

/-- 'compositorlaw30.PresentDiscard': WHATEVER THE INPUT: true; the input reads as it did. -/
def presentDiscardSpec : ChangeSpec := { name := "presentDiscard", fn := fun _ => fun
  | [d1, d2] => { results := [.lit (.bool true)], args := [d1, d2] }
  | _ => none }
def presentDiscardRow : OpenClaim := { program := "ytmkhphkkpdiliaa", sum := "14be79d30a45b3714b3b4337dccb3ef0a53e9cc6f425aefd54c0b8d287511138", func := "compositor/compositorlaw30.PresentDiscard", spec := "presentDiscard", unfollowed := true, recurses := true, apart := false }
def PresentDiscardSaid : Prop := presentDiscardRow.holds Try.pinned (OpenSpec.ofChange presentDiscardSpec)

/-- ITS FALSE NEIGHBOUR: 'it returns false'. Refute it at one input. -/
def presentDiscardWrong : ChangeSpec := { name := "presentDiscard", fn := fun _ => fun
  | [d1, d2] => { results := [.lit (.bool false)], args := [d1, d2] }
  | _ => none }
def PresentDiscardWrongFalsely : Prop := presentDiscardRow.holds Try.pinned (OpenSpec.ofChange presentDiscardWrong)

/-- 'compositorlaw30.PresentNil': WHATEVER THE INPUT: true; the input reads as it did. -/
def presentNilSpec : ChangeSpec := { name := "presentNil", fn := fun _ => fun
  | [d1, d2] => { results := [.lit (.bool true)], args := [d1, d2] }
  | _ => none }
def presentNilRow : OpenClaim := { program := "ytmkhphkkpdiliaa", sum := "14be79d30a45b3714b3b4337dccb3ef0a53e9cc6f425aefd54c0b8d287511138", func := "compositor/compositorlaw30.PresentNil", spec := "presentNil", unfollowed := true, recurses := true, apart := false }
def PresentNilSaid : Prop := presentNilRow.holds Try.pinned (OpenSpec.ofChange presentNilSpec)

/-- ITS FALSE NEIGHBOUR: 'it returns false'. Refute it at one input. -/
def presentNilWrong : ChangeSpec := { name := "presentNil", fn := fun _ => fun
  | [d1, d2] => { results := [.lit (.bool false)], args := [d1, d2] }
  | _ => none }
def PresentNilWrongFalsely : Prop := presentNilRow.holds Try.pinned (OpenSpec.ofChange presentNilWrong)

/- THE SECOND FORM. 'bulk': how many values and letters a reading holds, each counted each time it is reached (what is shared counts as often as it is met; a slice's spare places count too). A statement '..UptoSaid' is the law's where the arguments, and the package variables that the reading takes, are together of bulk at most 1048576: NARROWER than '..Said'. Prove '..Said' where nothing that the law and all that it calls make is longer than what came in: it says more and counts as full. Else prove '..UptoSaid'. A law counts once. -/
mutual
def uptoBulk {H : Type} : DataW H → Nat
  | .lit (.string bytes) => bytes.length + 1
  | .lit _ => 1
  | .nil => 1
  | .ptr d => uptoBulk d + 1
  | .slice elems spare => uptoBulkAll elems + uptoBulkAll spare + 1
  | .agg parts => uptoBulkAll parts + 1
  | .iface _ d => uptoBulk d + 1
  | .map entries => uptoBulkEntries entries + 1
  | .held _ => 1
def uptoBulkAll {H : Type} : List (DataW H) → Nat
  | [] => 0
  | d :: r => uptoBulk d + uptoBulkAll r
def uptoBulkEntries {H : Type} : List (Lit × DataW H) → Nat
  | [] => 0
  | x :: r => uptoBulkEntry x + uptoBulkEntries r
def uptoBulkEntry {H : Type} : Lit × DataW H → Nat
  | (.string bytes, d) => bytes.length + uptoBulk d + 1
  | (_, d) => uptoBulk d + 1
 end
def uptoSmall : (H : Type) → List (DataW H) → Bool := fun _ ds => decide (uptoBulkAll ds ≤ 1048576)
def OpenSpec.upto (s : _root_.Go.ChangeSpec) : _root_.Go.OpenSpec := { _root_.Go.OpenSpec.ofChange s with cond := some uptoSmall }

/-- 'compositorlaw30.PresentNext', WHERE WHAT IT READS IS OF BULK AT MOST 1048576: true; the input reads as it did. -/
def presentNextUptoRow : OpenClaim := { program := "ytmkhphkkpdiliaa", sum := "14be79d30a45b3714b3b4337dccb3ef0a53e9cc6f425aefd54c0b8d287511138", func := "compositor/compositorlaw30.PresentNext", spec := "presentNext", unfollowed := true, recurses := true, apart := false, narrowed := true }
def PresentNextUptoSaid : Prop := presentNextUptoRow.holds Try.pinned (OpenSpec.upto presentNextSpec)

/-- 'compositorlaw30.PresentFeedback', WHERE WHAT IT READS IS OF BULK AT MOST 1048576: true; the input reads as it did. -/
def presentFeedbackUptoRow : OpenClaim := { program := "ytmkhphkkpdiliaa", sum := "14be79d30a45b3714b3b4337dccb3ef0a53e9cc6f425aefd54c0b8d287511138", func := "compositor/compositorlaw30.PresentFeedback", spec := "presentFeedback", unfollowed := true, recurses := true, apart := false, narrowed := true }
def PresentFeedbackUptoSaid : Prop := presentFeedbackUptoRow.holds Try.pinned (OpenSpec.upto presentFeedbackSpec)

/-- 'compositorlaw30.PresentBackwards', WHERE WHAT IT READS IS OF BULK AT MOST 1048576: true; the input reads as it did. -/
def presentBackwardsUptoRow : OpenClaim := { program := "ytmkhphkkpdiliaa", sum := "14be79d30a45b3714b3b4337dccb3ef0a53e9cc6f425aefd54c0b8d287511138", func := "compositor/compositorlaw30.PresentBackwards", spec := "presentBackwards", unfollowed := true, recurses := true, apart := false, narrowed := true }
def PresentBackwardsUptoSaid : Prop := presentBackwardsUptoRow.holds Try.pinned (OpenSpec.upto presentBackwardsSpec)

/-- 'compositorlaw30.PresentLimits', WHERE WHAT IT READS IS OF BULK AT MOST 1048576: true; the input reads as it did. -/
def presentLimitsUptoRow : OpenClaim := { program := "ytmkhphkkpdiliaa", sum := "14be79d30a45b3714b3b4337dccb3ef0a53e9cc6f425aefd54c0b8d287511138", func := "compositor/compositorlaw30.PresentLimits", spec := "presentLimits", unfollowed := true, recurses := true, apart := false, narrowed := true }
def PresentLimitsUptoSaid : Prop := presentLimitsUptoRow.holds Try.pinned (OpenSpec.upto presentLimitsSpec)

/-- 'compositorlaw30.PresentPlays', WHERE WHAT IT READS IS OF BULK AT MOST 1048576: true; the input reads as it did. -/
def presentPlaysUptoRow : OpenClaim := { program := "ytmkhphkkpdiliaa", sum := "14be79d30a45b3714b3b4337dccb3ef0a53e9cc6f425aefd54c0b8d287511138", func := "compositor/compositorlaw30.PresentPlays", spec := "presentPlays", unfollowed := true, recurses := true, apart := false, narrowed := true }
def PresentPlaysUptoSaid : Prop := presentPlaysUptoRow.holds Try.pinned (OpenSpec.upto presentPlaysSpec)

/-- 'compositorlaw30.PresentDiscard', WHERE WHAT IT READS IS OF BULK AT MOST 1048576: true; the input reads as it did. -/
def presentDiscardUptoRow : OpenClaim := { program := "ytmkhphkkpdiliaa", sum := "14be79d30a45b3714b3b4337dccb3ef0a53e9cc6f425aefd54c0b8d287511138", func := "compositor/compositorlaw30.PresentDiscard", spec := "presentDiscard", unfollowed := true, recurses := true, apart := false, narrowed := true }
def PresentDiscardUptoSaid : Prop := presentDiscardUptoRow.holds Try.pinned (OpenSpec.upto presentDiscardSpec)

/-- 'compositorlaw30.PresentNil', WHERE WHAT IT READS IS OF BULK AT MOST 1048576: true; the input reads as it did. -/
def presentNilUptoRow : OpenClaim := { program := "ytmkhphkkpdiliaa", sum := "14be79d30a45b3714b3b4337dccb3ef0a53e9cc6f425aefd54c0b8d287511138", func := "compositor/compositorlaw30.PresentNil", spec := "presentNil", unfollowed := true, recurses := true, apart := false, narrowed := true }
def PresentNilUptoSaid : Prop := presentNilUptoRow.holds Try.pinned (OpenSpec.upto presentNilSpec)

end Rows
end Go.Proofs.Ytmkhphkkpdiliaa
