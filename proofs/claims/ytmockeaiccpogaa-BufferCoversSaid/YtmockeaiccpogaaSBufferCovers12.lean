-- The texts behind this claim's law, put together by a program of this session (shake.py): what no text uses is left out. Its words are print.sh's.
import Derived.Test.YtmockeaiccpogaaSBufferCovers11
section
namespace Go.Proofs.YtmockeaiccpogaaW.PrintLast
def up (b : Nat → Bool) (i : Nat) : Nat → Bool := fun j => if j = i then true else b j
end Go.Proofs.YtmockeaiccpogaaW.PrintLast
end
