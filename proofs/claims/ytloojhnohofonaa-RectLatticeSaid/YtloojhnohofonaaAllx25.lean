-- Written by a program of this session, which runs the kit's print.py and puts in functions that this session typed. Not trusted: Lean checks it.
import Derived.Test.YtloojhnohofonaaSq
import Derived.Test.YtloojhnohofonaaAllx0
import Derived.Test.YtloojhnohofonaaAllx1
import Derived.Test.YtloojhnohofonaaAllx5
import Derived.Test.YtloojhnohofonaaAllx9
import Derived.Test.YtloojhnohofonaaAllx11
import Derived.Test.YtloojhnohofonaaAllx13
import Derived.Test.YtloojhnohofonaaAllx18
namespace Go.Proofs.Ytloojhnohofonaa.All
open Go.Proofs.YtloojhnohofonaaSq
open Go.RowKit Go.Proofs.YtloojhnohofonaaW.PrintWords Go.Proofs.YtloojhnohofonaaW.PrintLast Go.Proofs.YtloojhnohofonaaW.PrintMore
attribute [local go_sem] max2_int min2_int max_two min_two max_three min_three max_four min_four   -- for this text's walks alone
set_option linter.unusedVariables false
set_option linter.unusedSimpArgs false

attribute [local go_sem high] eqA23
/-! ### compositorlaw04_RectLattice: function 8 -/
abbrev zq8.q0 : Array Bool := #[false, false, false, false, false, false, false, false, false, false]
abbrev zq8.q1 : Array Bool := #[true, false, false, false, false, false, false, false, false, false]
abbrev zq8.q2 : Array Bool := #[true, true, false, false, false, false, false, false, false, false]
abbrev zq8.q3 : Array Bool := #[true, true, false, true, false, false, false, false, false, false]
abbrev zq8.q4 : Array Bool := #[true, true, false, true, true, false, false, false, false, false]
abbrev zq8.q5 : Array Bool := #[true, true, true, true, true, true, true, true, false, false]
abbrev zq8.q6 : Array Bool := #[true, true, true, true, true, true, true, false, false, false]
abbrev zq8.q7 : Array Bool := #[true, true, true, true, true, true, false, true, false, false]
abbrev zq8.q8 : Array Bool := #[true, true, true, true, true, false, true, true, false, false]
abbrev zq8.q9 : Array Bool := #[true, true, true, true, true, true, false, false, false, false]
abbrev zq8.q10 : Array Bool := #[true, true, true, true, true, false, true, false, false, false]
abbrev zq8.q11 : Array Bool := #[true, true, true, true, true, false, false, true, false, false]
abbrev zq8.q12 : Array Bool := #[true, true, false, true, true, false, true, true, false, false]
abbrev zq8.q13 : Array Bool := #[true, true, true, true, true, false, false, false, false, false]
abbrev zq8.q14 : Array Bool := #[true, true, false, true, true, false, true, false, false, false]
abbrev zq8.q15 : Array Bool := #[true, true, false, true, true, false, false, true, false, false]
abbrev zq8.q16 : Array Bool := #[true, true, true, true, true, true, true, true, true, false]
abbrev zq8.q17 : Array Bool := #[true, true, true, true, true, true, true, true, true, true]
abbrev zq8.q18 : Array Bool := #[false, false, false, false, false, false, false, false, false, false, false, false, false, false, false, false, false, false, false, false, false, false, false, false, false, false, false, false, false, false, false, false, false, false]
abbrev zq8.q19 : Array Bool := #[true, false, false, false, false, false, false, false, false, false, false, false, false, false, false, false, false, false, false, false, false, false, false, false, false, false, false, false, false, false, false, false, false, false]
abbrev zq8.q20 : Array Bool := #[true, true, false, false, false, false, false, false, false, false, false, false, false, false, false, false, false, false, false, false, false, false, false, false, false, false, false, false, false, false, false, false, false, false]
abbrev zq8.q21 : Array Bool := #[true, true, true, false, false, false, false, false, false, false, false, false, false, false, false, false, false, false, false, false, false, false, false, false, false, false, false, false, false, false, false, false, false, false]
abbrev zq8.q22 : Array Bool := #[true, true, true, true, false, false, false, false, false, false, false, false, false, false, false, false, false, false, false, false, false, false, false, false, false, false, false, false, false, false, false, false, false, false]
abbrev zq8.q23 : Array Bool := #[true, true, true, true, true, false, false, false, false, false, false, false, false, false, false, false, false, false, false, false, false, false, false, false, false, false, false, false, false, false, false, false, false, false]
abbrev zq8.q24 : Array Bool := #[true, true, true, true, true, true, false, false, false, false, false, false, false, false, false, false, false, false, false, false, false, false, false, false, false, false, false, false, false, false, false, false, false, false]
abbrev zq8.q25 : Array Bool := #[true, true, true, true, true, true, true, false, false, false, false, false, false, false, false, false, false, false, false, false, false, false, false, false, false, false, false, false, false, false, false, false, false, false]
abbrev zq8.q26 : Array Bool := #[true, true, true, true, true, true, true, true, false, false, false, false, false, false, false, false, false, false, false, false, false, false, false, false, false, false, false, false, false, false, false, false, false, false]
abbrev zq8.q27 : Array Bool := #[true, true, true, true, true, true, true, true, true, false, false, false, false, false, false, false, false, false, false, false, false, false, false, false, false, false, false, false, false, false, false, false, false, false]
abbrev zq8.q28 : Array Bool := #[true, true, true, true, true, true, true, true, true, true, false, false, false, false, false, false, false, false, false, false, false, false, false, false, false, false, false, false, false, false, false, false, false, false]
abbrev zq8.q29 : Array Bool := #[true, true, true, true, true, true, true, true, true, true, true, false, false, false, false, false, false, false, false, false, false, false, false, false, false, false, false, false, false, false, false, false, false, false]
abbrev zq8.q30 : Array Bool := #[true, true, true, true, true, true, true, true, true, true, true, true, false, false, false, false, false, false, false, false, false, false, false, false, false, false, false, false, false, false, false, false, false, false]
abbrev zq8.q31 : Array Bool := #[true, true, true, true, true, true, true, true, true, true, true, true, true, false, false, false, false, false, false, false, false, false, false, false, false, false, false, false, false, false, false, false, false, false]
abbrev zq8.q32 : Array Bool := #[true, true, true, true, true, true, true, true, true, true, true, true, true, true, false, false, false, false, false, false, false, false, false, false, false, false, false, false, false, false, false, false, false, false]
abbrev zq8.q33 : Array Bool := #[true, true, true, true, true, true, true, true, true, true, true, true, true, true, true, false, false, false, false, false, false, false, false, false, false, false, false, false, false, false, false, false, false, false]
abbrev zq8.q34 : Array Bool := #[true, true, true, true, true, true, true, true, true, true, true, true, true, true, true, true, false, false, false, false, false, false, false, false, false, false, false, false, false, false, false, false, false, false]
abbrev zq8.q35 : Array Bool := #[true, true, true, true, true, true, true, true, true, true, true, true, true, true, true, true, true, false, false, false, false, false, false, false, false, false, false, false, false, false, false, false, false, false]
abbrev zq8.q36 : Array Bool := #[true, true, true, true, true, true, true, true, true, true, true, true, true, true, true, true, true, true, false, false, false, false, false, false, false, false, false, false, false, false, false, false, false, false]
abbrev zq8.q37 : Array Bool := #[true, true, true, true, true, true, true, true, true, true, true, true, true, true, true, true, true, true, true, false, false, false, false, false, false, false, false, false, false, false, false, false, false, false]
abbrev zq8.q38 : Array Bool := #[true, true, true, true, true, true, true, true, true, true, true, true, true, true, true, true, true, true, true, true, false, false, false, false, false, false, false, false, false, false, false, false, false, false]
abbrev zq8.q39 : Array Bool := #[true, true, true, true, true, true, true, true, true, true, true, true, true, true, true, true, true, true, true, true, true, false, false, false, false, false, false, false, false, false, false, false, false, false]
abbrev zq8.q40 : Array Bool := #[true, true, true, true, true, true, true, true, true, true, true, true, true, true, true, true, true, true, true, true, true, true, false, false, false, false, false, false, false, false, false, false, false, false]
abbrev zq8.q41 : Array Bool := #[true, true, true, true, true, true, true, true, true, true, true, true, true, true, true, true, true, true, true, true, true, true, true, false, false, false, false, false, false, false, false, false, false, false]
abbrev zq8.q42 : Array Bool := #[true, true, true, true, true, true, true, true, true, true, true, true, true, true, true, true, true, true, true, true, true, true, true, true, false, false, false, false, false, false, false, false, false, false]
abbrev zq8.q43 : Array Bool := #[true, true, true, true, true, true, true, true, true, true, true, true, true, true, true, true, true, true, true, true, true, true, true, true, true, false, false, false, false, false, false, false, false, false]
abbrev zq8.q44 : Array Bool := #[true, true, true, true, true, true, true, true, true, true, true, true, true, true, true, true, true, true, true, true, true, true, true, true, true, true, false, false, false, false, false, false, false, false]
abbrev zq8.q45 : Array Bool := #[true, true, true, true, true, true, true, true, true, true, true, true, true, true, true, true, true, true, true, true, true, true, true, true, true, true, true, false, false, false, false, false, false, false]
abbrev zq8.q46 : Array Bool := #[true, true, true, true, true, true, true, true, true, true, true, true, true, true, true, true, true, true, true, true, true, true, true, true, true, true, true, true, false, false, false, false, false, false]
abbrev zq8.q47 : Array Bool := #[true, true, true, true, true, true, true, true, true, true, true, true, true, true, true, true, true, true, true, true, true, true, true, true, true, true, true, true, true, false, false, false, false, false]
abbrev zq8.q48 : Array Bool := #[true, true, true, true, true, true, true, true, true, true, true, true, true, true, true, true, true, true, true, true, true, true, true, true, true, true, true, true, true, true, false, false, false, false]
abbrev zq8.q49 : Array Bool := #[true, true, true, true, true, true, true, true, true, true, true, true, true, true, true, true, true, true, true, true, true, true, true, true, true, true, true, true, true, true, true, false, false, false]
abbrev zq8.q50 : Array Bool := #[true, true, true, true, true, true, true, true, true, true, true, true, true, true, true, true, true, true, true, true, true, true, true, true, true, true, true, true, true, true, true, true, false, false]
abbrev zq8.q51 : Array Bool := #[true, true, true, true, true, true, true, true, true, true, true, true, true, true, true, true, true, true, true, true, true, true, true, true, true, true, true, true, true, true, true, true, true, false]
abbrev zq8.q52 : Array Bool := #[true, true, true, true, true, true, true, true, true, true, true, true, true, true, true, true, true, true, true, true, true, true, true, true, true, true, true, true, true, true, true, true, true, true]
abbrev zq8.q53 : Array Bool := #[true, true, true, true, true, true, true, true, true, true, true, true, true, true, true, false, true, false, false, false, false, false, false, false, false, false, false, false, false, false, false, false, false, false]
abbrev zq8.q54 : Array Bool := #[true, true, true, true, true, true, true, true, true, true, true, true, true, true, true, false, true, true, false, false, false, false, false, false, false, false, false, false, false, false, false, false, false, false]
abbrev zq8.q55 : Array Bool := #[true, true, true, true, true, true, true, true, true, true, true, true, true, true, true, false, true, true, true, false, false, false, false, false, false, false, false, false, false, false, false, false, false, false]
abbrev zq8.q56 : Array Bool := #[true, true, true, true, true, true, true, true, true, true, true, true, true, true, true, true, true, true, true, true, true, true, true, true, true, true, false, true, false, false, false, false, false, false]
abbrev zq8.q57 : Array Bool := #[true, true, true, true, true, true, true, true, true, true, true, true, true, true, true, true, true, true, true, true, true, true, true, true, true, true, false, true, true, false, false, false, false, false]
abbrev zq8.q58 : Array Bool := #[true, true, true, true, true, true, true, true, true, true, true, true, true, true, true, true, true, true, true, true, true, true, true, true, true, true, false, true, true, true, false, false, false, false]
abbrev zq8.q59 : Array Bool := #[false, false, false, false, false, false, false, false, false, false, false, false, false, false, false, false, false, false]
abbrev zq8.q60 : Array Bool := #[true, false, false, false, false, false, false, false, false, false, false, false, false, false, false, false, false, false]
abbrev zq8.q61 : Array Bool := #[true, true, false, false, false, false, false, false, false, false, false, false, false, false, false, false, false, false]
abbrev zq8.q62 : Array Bool := #[true, true, false, true, false, false, false, false, false, false, false, false, false, false, false, false, false, false]
abbrev zq8.q63 : Array Bool := #[true, true, false, true, true, false, false, false, false, false, false, false, false, false, false, false, false, false]
abbrev zq8.q64 : Array Bool := #[true, true, true, true, true, false, false, false, false, false, false, false, false, false, false, false, false, false]
abbrev zq8.q65 : Array Bool := #[true, true, true, true, true, true, false, false, false, false, false, false, false, false, false, false, false, false]
abbrev zq8.q66 : Array Bool := #[true, true, true, true, true, true, true, false, false, false, false, false, false, false, false, false, false, false]
abbrev zq8.q67 : Array Bool := #[true, true, true, true, true, true, true, true, false, false, false, false, false, false, false, false, false, false]
abbrev zq8.q68 : Array Bool := #[true, true, true, true, true, true, true, true, true, false, false, false, false, false, false, false, false, false]
abbrev zq8.q69 : Array Bool := #[true, true, true, true, true, true, true, true, true, true, false, false, false, false, false, false, false, false]
abbrev zq8.q70 : Array Bool := #[true, true, true, true, true, true, true, true, true, true, true, false, false, false, false, false, false, false]
abbrev zq8.q71 : Array Bool := #[true, true, true, true, true, true, true, true, true, true, true, true, false, false, false, false, false, false]
abbrev zq8.q72 : Array Bool := #[true, true, true, true, true, true, true, true, true, true, true, true, true, false, false, false, false, false]
abbrev zq8.q73 : Array Bool := #[true, true, true, true, true, true, true, true, true, true, true, true, true, true, false, false, false, false]
abbrev zq8.q74 : Array Bool := #[true, true, true, true, true, true, true, true, true, true, true, true, true, true, true, false, false, false]
abbrev zq8.q75 : Array Bool := #[true, true, true, true, true, true, true, true, true, true, true, true, true, true, true, true, false, false]
abbrev zq8.q76 : Array Bool := #[true, true, true, true, true, true, true, true, true, true, true, true, true, true, true, true, true, false]
abbrev zq8.q77 : Array Bool := #[true, true, true, true, true, true, true, true, true, true, true, true, true, true, true, true, true, true]
abbrev zq8.q78 : Array Bool := #[true, true, true, true, true, true, true, true, true, true, true, false, true, false, false, false, false, false]
abbrev zq8.q79 : Array Bool := #[true, true, true, true, true, true, true, true, true, true, true, false, true, true, false, false, false, false]
abbrev zq8.q80 : Array Bool := #[false, false, false, false, false, false, false, false, false, false, false, false, false, false, false, false, false, false, false, false, false, false, false, false, false, false, false, false, false, false]
abbrev zq8.q81 : Array Bool := #[true, false, false, false, false, false, false, false, false, false, false, false, false, false, false, false, false, false, false, false, false, false, false, false, false, false, false, false, false, false]
abbrev zq8.q82 : Array Bool := #[true, true, false, false, false, false, false, false, false, false, false, false, false, false, false, false, false, false, false, false, false, false, false, false, false, false, false, false, false, false]
abbrev zq8.q83 : Array Bool := #[true, true, false, true, false, false, false, false, false, false, false, false, false, false, false, false, false, false, false, false, false, false, false, false, false, false, false, false, false, false]
abbrev zq8.q84 : Array Bool := #[true, true, false, true, true, false, false, false, false, false, false, false, false, false, false, false, false, false, false, false, false, false, false, false, false, false, false, false, false, false]
abbrev zq8.q85 : Array Bool := #[true, true, true, true, true, false, false, false, false, false, false, false, false, false, false, false, false, false, false, false, false, false, false, false, false, false, false, false, false, false]
abbrev zq8.q86 : Array Bool := #[true, true, true, true, true, true, false, false, false, false, false, false, false, false, false, false, false, false, false, false, false, false, false, false, false, false, false, false, false, false]
abbrev zq8.q87 : Array Bool := #[true, true, true, true, true, true, true, false, false, false, false, false, false, false, false, false, false, false, false, false, false, false, false, false, false, false, false, false, false, false]
abbrev zq8.q88 : Array Bool := #[true, true, true, true, true, true, true, true, false, false, false, false, false, false, false, false, false, false, false, false, false, false, false, false, false, false, false, false, false, false]
abbrev zq8.q89 : Array Bool := #[true, true, true, true, true, true, true, true, true, false, false, false, false, false, false, false, false, false, false, false, false, false, false, false, false, false, false, false, false, false]
abbrev zq8.q90 : Array Bool := #[true, true, true, true, true, true, true, true, true, true, false, false, false, false, false, false, false, false, false, false, false, false, false, false, false, false, false, false, false, false]
abbrev zq8.q91 : Array Bool := #[true, true, true, true, true, true, true, true, true, true, true, false, false, false, false, false, false, false, false, false, false, false, false, false, false, false, false, false, false, false]
abbrev zq8.q92 : Array Bool := #[true, true, true, true, true, true, true, true, true, true, true, true, false, false, false, false, false, false, false, false, false, false, false, false, false, false, false, false, false, false]
abbrev zq8.q93 : Array Bool := #[true, true, true, true, true, true, true, true, true, true, true, true, true, false, false, false, false, false, false, false, false, false, false, false, false, false, false, false, false, false]
abbrev zq8.q94 : Array Bool := #[true, true, true, true, true, true, true, true, true, true, true, true, true, true, false, false, false, false, false, false, false, false, false, false, false, false, false, false, false, false]
abbrev zq8.q95 : Array Bool := #[true, true, true, true, true, true, true, true, true, true, true, true, true, true, true, false, false, false, false, false, false, false, false, false, false, false, false, false, false, false]
abbrev zq8.q96 : Array Bool := #[true, true, true, true, true, true, true, true, true, true, true, true, true, true, true, false, true, false, false, false, false, false, false, false, false, false, false, false, false, false]
abbrev zq8.q97 : Array Bool := #[true, true, true, true, true, true, true, true, true, true, true, true, true, true, true, false, true, true, false, false, false, false, false, false, false, false, false, false, false, false]
abbrev zq8.q98 : Array Bool := #[true, true, true, true, true, true, true, true, true, true, true, true, true, true, true, true, true, true, false, false, false, false, false, false, false, false, false, false, false, false]
abbrev zq8.q99 : Array Bool := #[true, true, true, true, true, true, true, true, true, true, true, true, true, true, true, true, true, true, true, false, false, false, false, false, false, false, false, false, false, false]
abbrev zq8.q100 : Array Bool := #[true, true, true, true, true, true, true, true, true, true, true, true, true, true, true, true, true, true, true, true, false, false, false, false, false, false, false, false, false, false]
abbrev zq8.q101 : Array Bool := #[true, true, true, true, true, true, true, true, true, true, true, true, true, true, true, true, true, true, true, true, true, false, false, false, false, false, false, false, false, false]
abbrev zq8.q102 : Array Bool := #[true, true, true, true, true, true, true, true, true, true, true, true, true, true, true, true, true, true, true, true, true, true, false, false, false, false, false, false, false, false]
abbrev zq8.q103 : Array Bool := #[true, true, true, true, true, true, true, true, true, true, true, true, true, true, true, true, true, true, true, true, true, true, true, false, false, false, false, false, false, false]
abbrev zq8.q104 : Array Bool := #[true, true, true, true, true, true, true, true, true, true, true, true, true, true, true, true, true, true, true, true, true, true, true, true, false, false, false, false, false, false]
abbrev zq8.q105 : Array Bool := #[true, true, true, true, true, true, true, true, true, true, true, true, true, true, true, true, true, true, true, true, true, true, true, true, true, false, false, false, false, false]
abbrev zq8.q106 : Array Bool := #[true, true, true, true, true, true, true, true, true, true, true, true, true, true, true, true, true, true, true, true, true, true, true, true, true, true, false, false, false, false]
abbrev zq8.q107 : Array Bool := #[true, true, true, true, true, true, true, true, true, true, true, true, true, true, true, true, true, true, true, true, true, true, true, true, true, true, true, false, false, false]
abbrev zq8.q108 : Array Bool := #[true, true, true, true, true, true, true, true, true, true, true, true, true, true, true, true, true, true, true, true, true, true, true, true, true, true, true, true, false, false]
abbrev zq8.q109 : Array Bool := #[true, true, true, true, true, true, true, true, true, true, true, true, true, true, true, true, true, true, true, true, true, true, true, true, true, true, true, true, true, false]
abbrev zq8.q110 : Array Bool := #[true, true, true, true, true, true, true, true, true, true, true, true, true, true, true, true, true, true, true, true, true, true, true, true, true, true, true, true, true, true]
mutual
def compositorlaw04_RectLattice.j0 : Nat → Bool → Int → Int → Int → Int → Int → Int → Int → Int → Int → Int → Int → Int → Int → Int → Int → Int → Int → Int → Int → Int → Option (Bool)
 | 0, _, _, _, _, _, _, _, _, _, _, _, _, _, _, _, _, _, _, _, _, _ => none
 | k + 1, x48, x457000, x457001, x457002, x457003, x458000, x458001, x458002, x458003, x459000, x459001, x459002, x459003, x468000, x468001, x468002, x468003, x469000, x469001, x469002, x469003 => if x48 = true then (some false) else ((rect_Within.f x457000 x457001 x457002 x457003 x458000 x458001 x458002 x458003).bind fun t501 => ((rect_Canonical.f x457000 x457001 x457002 x457003).bind fun bt502 => (if (t501 != (x468000 == bt502.1 && (x468001 == bt502.2.1 && (x468002 == bt502.2.2.1 && (x468003 == bt502.2.2.2))))) = true then (compositorlaw04_RectLattice.j1 k true x457000 x457001 x457002 x457003 x458000 x458001 x458002 x458003 x459000 x459001 x459002 x459003 x468000 x468001 x468002 x468003 x469000 x469001 x469002 x469003) else ((rect_Within.f x457000 x457001 x457002 x457003 x458000 x458001 x458002 x458003).bind fun t506 => ((rect_Canonical.f x458000 x458001 x458002 x458003).bind fun bt507 => (compositorlaw04_RectLattice.j1 k (t506 != (x469000 == bt507.1 && (x469001 == bt507.2.1 && (x469002 == bt507.2.2.1 && (x469003 == bt507.2.2.2))))) x457000 x457001 x457002 x457003 x458000 x458001 x458002 x458003 x459000 x459001 x459002 x459003 x468000 x468001 x468002 x468003 x469000 x469001 x469002 x469003))))))
def compositorlaw04_RectLattice.j1 : Nat → Bool → Int → Int → Int → Int → Int → Int → Int → Int → Int → Int → Int → Int → Int → Int → Int → Int → Int → Int → Int → Int → Option (Bool)
 | 0, _, _, _, _, _, _, _, _, _, _, _, _, _, _, _, _, _, _, _, _, _ => none
 | k + 1, x66, x457000, x457001, x457002, x457003, x458000, x458001, x458002, x458003, x459000, x459001, x459002, x459003, x468000, x468001, x468002, x468003, x469000, x469001, x469002, x469003 => if x66 = true then (some false) else ((rect_Within.f x469000 x469001 x469002 x469003 x459000 x459001 x459002 x459003).bind fun t511 => ((rect_Within.f x457000 x457001 x457002 x457003 x459000 x459001 x459002 x459003).bind fun t512 => (if t512 = true then ((rect_Within.f x458000 x458001 x458002 x458003 x459000 x459001 x459002 x459003).bind fun t513 => (if (t511 == t513) = true then ((rect_Within.f x459000 x459001 x459002 x459003 x468000 x468001 x468002 x468003).bind fun t514 => ((rect_Within.f x459000 x459001 x459002 x459003 x457000 x457001 x457002 x457003).bind fun t515 => (if t515 = true then ((rect_Within.f x459000 x459001 x459002 x459003 x458000 x458001 x458002 x458003).bind fun t516 => (if (t514 == t516) = true then ((compositorlaw04_exampleHolds.f k).bind fun t517 => (some t517)) else (some false))) else (if (t514 == false) = true then ((compositorlaw04_exampleHolds.f k).bind fun t518 => (some t518)) else (some false))))) else (some false))) else (if (t511 == false) = true then ((rect_Within.f x459000 x459001 x459002 x459003 x468000 x468001 x468002 x468003).bind fun t519 => ((rect_Within.f x459000 x459001 x459002 x459003 x457000 x457001 x457002 x457003).bind fun t520 => (if t520 = true then ((rect_Within.f x459000 x459001 x459002 x459003 x458000 x458001 x458002 x458003).bind fun t521 => (if (t519 == t521) = true then ((compositorlaw04_exampleHolds.f k).bind fun t522 => (some t522)) else (some false))) else (if (t519 == false) = true then ((compositorlaw04_exampleHolds.f k).bind fun t523 => (some t523)) else (some false))))) else (some false)))))
end
def compositorlaw04_RectLattice.f (k : Nat) (a0_0 : Int) (a0_1 : Int) (a0_2 : Int) (a0_3 : Int) (a1_0 : Int) (a1_1 : Int) (a1_2 : Int) (a1_3 : Int) (a2_0 : Int) (a2_1 : Int) (a2_2 : Int) (a2_3 : Int) : Option (Bool) := (rect_Intersect.f a0_0 a0_1 a0_2 a0_3 a1_0 a1_1 a1_2 a1_3).bind fun bt459 => ((rect_Union.f a0_0 a0_1 a0_2 a0_3 a1_0 a1_1 a1_2 a1_3).bind fun bt463 => ((rect_Intersect.f a1_0 a1_1 a1_2 a1_3 a0_0 a0_1 a0_2 a0_3).bind fun bt469 => (if (!(bt459.1 == bt469.1) || (!(bt459.2.1 == bt469.2.1) || (!(bt459.2.2.1 == bt469.2.2.1) || (!(bt459.2.2.2 == bt469.2.2.2))))) = true then (compositorlaw04_RectLattice.j0 k true a0_0 a0_1 a0_2 a0_3 a1_0 a1_1 a1_2 a1_3 a2_0 a2_1 a2_2 a2_3 bt459.1 bt459.2.1 bt459.2.2.1 bt459.2.2.2 bt463.1 bt463.2.1 bt463.2.2.1 bt463.2.2.2) else ((rect_Union.f a1_0 a1_1 a1_2 a1_3 a0_0 a0_1 a0_2 a0_3).bind fun bt473 => (if (!(bt463.1 == bt473.1) || (!(bt463.2.1 == bt473.2.1) || (!(bt463.2.2.1 == bt473.2.2.1) || (!(bt463.2.2.2 == bt473.2.2.2))))) = true then (compositorlaw04_RectLattice.j0 k true a0_0 a0_1 a0_2 a0_3 a1_0 a1_1 a1_2 a1_3 a2_0 a2_1 a2_2 a2_3 bt459.1 bt459.2.1 bt459.2.2.1 bt459.2.2.2 bt463.1 bt463.2.1 bt463.2.2.1 bt463.2.2.2) else ((rect_Intersect.f bt459.1 bt459.2.1 bt459.2.2.1 bt459.2.2.2 a2_0 a2_1 a2_2 a2_3).bind fun bt477 => ((rect_Intersect.f a1_0 a1_1 a1_2 a1_3 a2_0 a2_1 a2_2 a2_3).bind fun bt481 => ((rect_Intersect.f a0_0 a0_1 a0_2 a0_3 bt481.1 bt481.2.1 bt481.2.2.1 bt481.2.2.2).bind fun bt485 => (if (!(bt477.1 == bt485.1) || (!(bt477.2.1 == bt485.2.1) || (!(bt477.2.2.1 == bt485.2.2.1) || (!(bt477.2.2.2 == bt485.2.2.2))))) = true then (compositorlaw04_RectLattice.j0 k true a0_0 a0_1 a0_2 a0_3 a1_0 a1_1 a1_2 a1_3 a2_0 a2_1 a2_2 a2_3 bt459.1 bt459.2.1 bt459.2.2.1 bt459.2.2.2 bt463.1 bt463.2.1 bt463.2.2.1 bt463.2.2.2) else ((rect_Union.f bt463.1 bt463.2.1 bt463.2.2.1 bt463.2.2.2 a2_0 a2_1 a2_2 a2_3).bind fun bt489 => ((rect_Union.f a1_0 a1_1 a1_2 a1_3 a2_0 a2_1 a2_2 a2_3).bind fun bt493 => ((rect_Union.f a0_0 a0_1 a0_2 a0_3 bt493.1 bt493.2.1 bt493.2.2.1 bt493.2.2.2).bind fun bt497 => (compositorlaw04_RectLattice.j0 k (!(bt489.1 == bt497.1) || (!(bt489.2.1 == bt497.2.1) || (!(bt489.2.2.1 == bt497.2.2.1) || (!(bt489.2.2.2 == bt497.2.2.2))))) a0_0 a0_1 a0_2 a0_3 a1_0 a1_1 a1_2 a1_3 a2_0 a2_1 a2_2 a2_3 bt459.1 bt459.2.1 bt459.2.2.1 bt459.2.2.2 bt463.1 bt463.2.1 bt463.2.2.1 bt463.2.2.2)))))))))))))
theorem compositorlaw04_RectLattice.mono_l : ∀ k, (∀ y0 y1 y2 y3 y4 y5 y6 y7 y8 y9 y10 y11 y12 y13 y14 y15 y16 y17 y18 y19 y20, LeO (compositorlaw04_RectLattice.j0 k y0 y1 y2 y3 y4 y5 y6 y7 y8 y9 y10 y11 y12 y13 y14 y15 y16 y17 y18 y19 y20) (compositorlaw04_RectLattice.j0 (k + 1) y0 y1 y2 y3 y4 y5 y6 y7 y8 y9 y10 y11 y12 y13 y14 y15 y16 y17 y18 y19 y20)) ∧ (∀ y0 y1 y2 y3 y4 y5 y6 y7 y8 y9 y10 y11 y12 y13 y14 y15 y16 y17 y18 y19 y20, LeO (compositorlaw04_RectLattice.j1 k y0 y1 y2 y3 y4 y5 y6 y7 y8 y9 y10 y11 y12 y13 y14 y15 y16 y17 y18 y19 y20) (compositorlaw04_RectLattice.j1 (k + 1) y0 y1 y2 y3 y4 y5 y6 y7 y8 y9 y10 y11 y12 y13 y14 y15 y16 y17 y18 y19 y20))
 | 0 => ⟨fun _ _ _ _ _ _ _ _ _ _ _ _ _ _ _ _ _ _ _ _ _ r h => by simp [compositorlaw04_RectLattice.j0] at h, fun _ _ _ _ _ _ _ _ _ _ _ _ _ _ _ _ _ _ _ _ _ r h => by simp [compositorlaw04_RectLattice.j1] at h⟩
 | k + 1 => by
  obtain ⟨ih0, ih1⟩ := compositorlaw04_RectLattice.mono_l k
  refine ⟨?_, ?_⟩
  ·
   intro y0 y1 y2 y3 y4 y5 y6 y7 y8 y9 y10 y11 y12 y13 y14 y15 y16 y17 y18 y19 y20
   unfold compositorlaw04_RectLattice.j0
   repeat' first
   | (with_reducible exact ih0 _ _ _ _ _ _ _ _ _ _ _ _ _ _ _ _ _ _ _ _ _)
   | (with_reducible exact ih1 _ _ _ _ _ _ _ _ _ _ _ _ _ _ _ _ _ _ _ _ _)
   | (with_reducible exact compositorlaw04_exampleHolds.mono _)
   | (with_reducible exact LeO.refl _)
   | (with_reducible exact LeO.none _)
   | (with_reducible refine LeO.ite ?_ ?_)
   | (with_reducible refine LeO.bind ?_ (fun _ => ?_))
   | exact ih0 _ _ _ _ _ _ _ _ _ _ _ _ _ _ _ _ _ _ _ _ _
   | exact ih1 _ _ _ _ _ _ _ _ _ _ _ _ _ _ _ _ _ _ _ _ _
   | exact compositorlaw04_exampleHolds.mono _
   | exact LeO.none _
   | refine LeO.ite ?_ ?_
   | refine LeO.bind ?_ (fun _ => ?_)
  ·
   intro y0 y1 y2 y3 y4 y5 y6 y7 y8 y9 y10 y11 y12 y13 y14 y15 y16 y17 y18 y19 y20
   unfold compositorlaw04_RectLattice.j1
   repeat' first
   | (with_reducible exact ih0 _ _ _ _ _ _ _ _ _ _ _ _ _ _ _ _ _ _ _ _ _)
   | (with_reducible exact ih1 _ _ _ _ _ _ _ _ _ _ _ _ _ _ _ _ _ _ _ _ _)
   | (with_reducible exact compositorlaw04_exampleHolds.mono _)
   | (with_reducible exact LeO.refl _)
   | (with_reducible exact LeO.none _)
   | (with_reducible refine LeO.ite ?_ ?_)
   | (with_reducible refine LeO.bind ?_ (fun _ => ?_))
   | exact ih0 _ _ _ _ _ _ _ _ _ _ _ _ _ _ _ _ _ _ _ _ _
   | exact ih1 _ _ _ _ _ _ _ _ _ _ _ _ _ _ _ _ _ _ _ _ _
   | exact compositorlaw04_exampleHolds.mono _
   | exact LeO.none _
   | refine LeO.ite ?_ ?_
   | refine LeO.bind ?_ (fun _ => ?_)
theorem compositorlaw04_RectLattice.mono : ∀ a0 a1 a2 a3 a4 a5 a6 a7 a8 a9 a10 a11 k, LeO (compositorlaw04_RectLattice.f k a0 a1 a2 a3 a4 a5 a6 a7 a8 a9 a10 a11) (compositorlaw04_RectLattice.f (k + 1) a0 a1 a2 a3 a4 a5 a6 a7 a8 a9 a10 a11) := by
 intro a0 a1 a2 a3 a4 a5 a6 a7 a8 a9 a10 a11 k
 obtain ⟨ih0, ih1⟩ := compositorlaw04_RectLattice.mono_l k
 unfold compositorlaw04_RectLattice.f
 repeat' first
   | (with_reducible exact ih0 _ _ _ _ _ _ _ _ _ _ _ _ _ _ _ _ _ _ _ _ _)
   | (with_reducible exact ih1 _ _ _ _ _ _ _ _ _ _ _ _ _ _ _ _ _ _ _ _ _)
   | (with_reducible exact compositorlaw04_exampleHolds.mono _)
   | (with_reducible exact LeO.refl _)
   | (with_reducible exact LeO.none _)
   | (with_reducible refine LeO.ite ?_ ?_)
   | (with_reducible refine LeO.bind ?_ (fun _ => ?_))
   | exact ih0 _ _ _ _ _ _ _ _ _ _ _ _ _ _ _ _ _ _ _ _ _
   | exact ih1 _ _ _ _ _ _ _ _ _ _ _ _ _ _ _ _ _ _ _ _ _
   | exact compositorlaw04_exampleHolds.mono _
   | exact LeO.none _
   | refine LeO.ite ?_ ?_
   | refine LeO.bind ?_ (fun _ => ?_)
def compositorlaw04_RectLattice.T1 : Bool × List (List Nat × List Nat) := (true, [([], []), ([], []), ([0, 1], [0, 1]), ([], []), ([], []), ([3, 4, 2], [3, 4]), ([], []), ([], []), ([6, 2, 5, 0, 1, 2, 6, 7], [2, 6]), ([7, 5, 8, 0, 1, 2, 3, 4, 5, 6, 7, 8], [5, 7])])
def compositorlaw04_RectLattice.B1 : List Nat := [0, 0, 3, 0, 0, 31, 0, 0, 255, 511]
theorem compositorlaw04_RectLattice.tab1 : rtab .any (opsOf Try.f8 1) = compositorlaw04_RectLattice.T1 := by kernel_rfl
theorem compositorlaw04_RectLattice.bits1 : waitsOk compositorlaw04_RectLattice.T1.2 compositorlaw04_RectLattice.B1 = true := by kernel_rfl
def compositorlaw04_RectLattice.T2 : Bool × List (List Nat × List Nat) := (true, [([], []), ([], []), ([], []), ([1, 2], [1, 2]), ([0, 3], [0, 3]), ([4, 3], [4]), ([5], [5]), ([5], [5]), ([5], [5]), ([7, 8, 5, 5], [5, 7, 8]), ([6, 9, 5], [5, 6, 9]), ([5, 10], [5, 10]), ([11, 9], [11]), ([12], [12]), ([12], [12]), ([13, 14, 12, 12], [12, 13, 14]), ([12], [12]), ([12], [12]), ([12], [12]), ([17, 18, 15, 12], [12, 17, 18]), ([16, 19, 19, 12], [12, 16, 19]), ([15, 20, 12], [12, 15, 20]), ([12, 21], [12, 21]), ([22, 20], [22]), ([23], [23]), ([23], [23]), ([24, 25, 23, 23], [23, 24, 25]), ([23], [23]), ([23], [23]), ([23], [23]), ([28, 29, 26, 23], [23, 28, 29]), ([27, 30, 30, 23], [23, 27, 30]), ([26, 31, 23], [23, 26, 31]), ([23, 32], [23, 32])])
def compositorlaw04_RectLattice.B2 : List Nat := [0, 0, 0, 6, 15, 31, 63, 63, 63, 447, 1023, 2047, 4095, 8191, 8191, 32767, 8191, 8191, 8191, 458751, 1048575, 2097151, 4194303, 8388607, 16777215, 16777215, 67108863, 16777215, 16777215, 16777215, 939524095, 2147483647, 4294967295, 8589934591]
theorem compositorlaw04_RectLattice.tab2 : rtab .any (opsOf Try.f8 2) = compositorlaw04_RectLattice.T2 := by kernel_rfl
theorem compositorlaw04_RectLattice.bits2 : waitsOk compositorlaw04_RectLattice.T2.2 compositorlaw04_RectLattice.B2 = true := by kernel_rfl
def compositorlaw04_RectLattice.T4 : Bool × List (List Nat × List Nat) := (true, [([], []), ([], []), ([0, 1], [0, 1]), ([], []), ([], []), ([4, 2], [4]), ([3, 5], [3, 5]), ([2, 6], [2, 6]), ([7, 5], [7]), ([8], [8]), ([8], [8]), ([9, 10, 8, 8], [8, 9, 10]), ([8], [8]), ([8], [8]), ([13, 11, 8], [8, 13]), ([12, 14, 8], [8, 12, 14]), ([11, 15, 8], [8, 11, 15]), ([8, 16], [8, 16])])
def compositorlaw04_RectLattice.B4 : List Nat := [0, 0, 3, 0, 0, 23, 63, 127, 255, 511, 511, 2047, 511, 511, 12287, 32767, 65535, 131071]
theorem compositorlaw04_RectLattice.tab4 : rtab .any (opsOf Try.f8 4) = compositorlaw04_RectLattice.T4 := by kernel_rfl
theorem compositorlaw04_RectLattice.bits4 : waitsOk compositorlaw04_RectLattice.T4.2 compositorlaw04_RectLattice.B4 = true := by kernel_rfl
def compositorlaw04_RectLattice.T6 : Bool × List (List Nat × List Nat) := (true, [([], []), ([], []), ([0, 1], [0, 1]), ([], []), ([], []), ([3, 4, 2], [3, 4]), ([5, 5], [5]), ([6], [6]), ([6], [6]), ([7, 8, 6, 6], [6, 7, 8]), ([6, 9], [6, 9]), ([2, 10], [2, 10]), ([11, 9], [11]), ([12], [12]), ([12], [12]), ([13, 14, 12, 12], [12, 13, 14]), ([12], [12]), ([12], [12]), ([16, 17, 15, 12], [12, 16, 17]), ([18, 18, 12], [12, 18]), ([19], [19]), ([19], [19]), ([20, 21, 19, 19], [19, 20, 21]), ([19, 22, 12], [12, 19, 22]), ([15, 23, 12], [12, 15, 23]), ([12, 24], [12, 24]), ([25, 22], [25]), ([26, 26], [26]), ([26, 27], [26, 27]), ([28, 27, 0, 1, 2, 3, 4, 5, 6, 7, 8, 9, 10, 11, 12, 13, 14, 15, 16, 17, 18, 19, 20, 21, 22, 23, 24, 25, 26, 27, 28], [28])])
def compositorlaw04_RectLattice.B6 : List Nat := [0, 0, 3, 0, 0, 31, 63, 127, 127, 511, 1023, 2047, 4095, 8191, 8191, 32767, 8191, 8191, 262143, 524287, 1048575, 1048575, 4194303, 8388607, 16777215, 33554431, 67108863, 134217727, 268435455, 536870911]
theorem compositorlaw04_RectLattice.tab6 : rtab .any (opsOf Try.f8 6) = compositorlaw04_RectLattice.T6 := by kernel_rfl
theorem compositorlaw04_RectLattice.bits6 : waitsOk compositorlaw04_RectLattice.T6.2 compositorlaw04_RectLattice.B6 = true := by kernel_rfl
set_option maxHeartbeats 8000000 in
set_option maxRecDepth 100000 in
theorem compositorlaw04_RectLattice.calls (k : Nat) (a0_0 : Int) (a0_1 : Int) (a0_2 : Int) (a0_3 : Int) (a1_0 : Int) (a1_1 : Int) (a1_2 : Int) (a1_3 : Int) (a2_0 : Int) (a2_1 : Int) (a2_2 : Int) (a2_3 : Int) (w : World) (h : compositorlaw04_RectLattice.f k a0_0 a0_1 a0_2 a0_3 a1_0 a1_1 a1_2 a1_3 a2_0 a2_1 a2_2 a2_3 = some true) :
  Calls Try.prog 8 #[.agg #[.int .i64 a0_0, .int .i64 a0_1, .int .i64 a0_2, .int .i64 a0_3], .agg #[.int .i64 a1_0, .int .i64 a1_1, .int .i64 a1_2, .int .i64 a1_3], .agg #[.int .i64 a2_0, .int .i64 a2_1, .int .i64 a2_2, .int .i64 a2_3]] w fun e w' => e = .returned (.bool true) ∧ Below w.heap.size w w' := by
 have hu23 := Try.underlying23
 have HB := Aside0.mk (Below.refl w.heap.size w)
 have H : ((rect_Intersect.f a0_0 a0_1 a0_2 a0_3 a1_0 a1_1 a1_2 a1_3).bind fun bt459 => ((rect_Union.f a0_0 a0_1 a0_2 a0_3 a1_0 a1_1 a1_2 a1_3).bind fun bt463 => ((rect_Intersect.f a1_0 a1_1 a1_2 a1_3 a0_0 a0_1 a0_2 a0_3).bind fun bt469 => (if (!(bt459.1 == bt469.1) || (!(bt459.2.1 == bt469.2.1) || (!(bt459.2.2.1 == bt469.2.2.1) || (!(bt459.2.2.2 == bt469.2.2.2))))) = true then (compositorlaw04_RectLattice.j0 k true a0_0 a0_1 a0_2 a0_3 a1_0 a1_1 a1_2 a1_3 a2_0 a2_1 a2_2 a2_3 bt459.1 bt459.2.1 bt459.2.2.1 bt459.2.2.2 bt463.1 bt463.2.1 bt463.2.2.1 bt463.2.2.2) else ((rect_Union.f a1_0 a1_1 a1_2 a1_3 a0_0 a0_1 a0_2 a0_3).bind fun bt473 => (if (!(bt463.1 == bt473.1) || (!(bt463.2.1 == bt473.2.1) || (!(bt463.2.2.1 == bt473.2.2.1) || (!(bt463.2.2.2 == bt473.2.2.2))))) = true then (compositorlaw04_RectLattice.j0 k true a0_0 a0_1 a0_2 a0_3 a1_0 a1_1 a1_2 a1_3 a2_0 a2_1 a2_2 a2_3 bt459.1 bt459.2.1 bt459.2.2.1 bt459.2.2.2 bt463.1 bt463.2.1 bt463.2.2.1 bt463.2.2.2) else ((rect_Intersect.f bt459.1 bt459.2.1 bt459.2.2.1 bt459.2.2.2 a2_0 a2_1 a2_2 a2_3).bind fun bt477 => ((rect_Intersect.f a1_0 a1_1 a1_2 a1_3 a2_0 a2_1 a2_2 a2_3).bind fun bt481 => ((rect_Intersect.f a0_0 a0_1 a0_2 a0_3 bt481.1 bt481.2.1 bt481.2.2.1 bt481.2.2.2).bind fun bt485 => (if (!(bt477.1 == bt485.1) || (!(bt477.2.1 == bt485.2.1) || (!(bt477.2.2.1 == bt485.2.2.1) || (!(bt477.2.2.2 == bt485.2.2.2))))) = true then (compositorlaw04_RectLattice.j0 k true a0_0 a0_1 a0_2 a0_3 a1_0 a1_1 a1_2 a1_3 a2_0 a2_1 a2_2 a2_3 bt459.1 bt459.2.1 bt459.2.2.1 bt459.2.2.2 bt463.1 bt463.2.1 bt463.2.2.1 bt463.2.2.2) else ((rect_Union.f bt463.1 bt463.2.1 bt463.2.2.1 bt463.2.2.2 a2_0 a2_1 a2_2 a2_3).bind fun bt489 => ((rect_Union.f a1_0 a1_1 a1_2 a1_3 a2_0 a2_1 a2_2 a2_3).bind fun bt493 => ((rect_Union.f a0_0 a0_1 a0_2 a0_3 bt493.1 bt493.2.1 bt493.2.2.1 bt493.2.2.2).bind fun bt497 => (compositorlaw04_RectLattice.j0 k (!(bt489.1 == bt497.1) || (!(bt489.2.1 == bt497.2.1) || (!(bt489.2.2.1 == bt497.2.2.1) || (!(bt489.2.2.2 == bt497.2.2.2))))) a0_0 a0_1 a0_2 a0_3 a1_0 a1_1 a1_2 a1_3 a2_0 a2_1 a2_2 a2_3 bt459.1 bt459.2.1 bt459.2.2.1 bt459.2.2.2 bt463.1 bt463.2.1 bt463.2.2.1 bt463.2.2.2)))))))))))))) = some true := h
 clear h
 replace H := Option.bind_eq_some_iff.mp H
 obtain ⟨⟨t459, t460, t461, t462⟩, A40, H⟩ := H
 try dsimp only at H
 have A4 := Aside0.mk A40
 clear A40
 replace H := Option.bind_eq_some_iff.mp H
 obtain ⟨⟨t463, t464, t465, t466⟩, A50, H⟩ := H
 try dsimp only at H
 have A5 := Aside0.mk A50
 clear A50
 have HC6 := Aside0.mk H
 clear H
 go_enter Try.func8, Try.ntmps8
 try go_wp2_with (first | ((with_reducible refine gate_dst (N := 3) rfl ?_); refine box_event ?hg (N := 3) ?hd (cs := #[.int .i64 a0_0, .int .i64 a0_1, .int .i64 a0_2, .int .i64 a0_3]) (t := 23) ?hr ?_; (case hd => rfl); (case hg => rfl); (case hr => first | (go_simp; done) | (go_simp; rfl)); intro gb456 hg w7 hbox hb; have n0_ := hb_ HB hb; have n1_ := Aside0.mk (hbox); have n2_ := Aside0.mk ((by rw [hg]; exact (below_size (hq_ HB)) : w.heap.size ≤ gb456)); have n3_ := Aside0.mk ((by rw [hg]; exact (below_size (hq_ HB)) : w.heap.size ≤ gb456)); clear HB; have HB := n0_; have BK456 := n1_; have GW456 := n2_; have GE456 := n3_; clear n0_ n1_ n2_ n3_; clear hb hbox hg) | ((with_reducible refine gate_dst (N := 4) rfl ?_); refine box_event ?hg (N := 4) ?hd (cs := #[.int .i64 a1_0, .int .i64 a1_1, .int .i64 a1_2, .int .i64 a1_3]) (t := 23) ?hr ?_; (case hd => rfl); (case hg => rfl); (case hr => first | (go_simp; done) | (go_simp; rfl)); intro gb457 hg w8 hbox hb; have n0_ := bb_ BK456 hb; have n1_ := hb_ HB hb; have n2_ := Aside0.mk (hbox); have n3_ := Aside0.mk ((by rw [hg]; exact (below_size (hq_ HB)) : w.heap.size ≤ gb457)); have n4_ := Aside0.mk ((by rw [hg]; exact (below_size (hq_ HB)) : w.heap.size ≤ gb457)); have n5_ := Aside0.mk ((by rw [hg]; exact Nat.ne_of_lt (blk_lt (g := gb456) (o := .cells #[.int .i64 a0_0, .int .i64 a0_1, .int .i64 a0_2, .int .i64 a0_3] 23 (0, 0)) (bq_ BK456)) : gb456 ≠ gb457)); have n6_ := Aside0.mk ((by rw [hg]; exact Nat.ne_of_gt (blk_lt (g := gb456) (o := .cells #[.int .i64 a0_0, .int .i64 a0_1, .int .i64 a0_2, .int .i64 a0_3] 23 (0, 0)) (bq_ BK456)) : gb457 ≠ gb456)); clear BK456; clear HB; have BK456 := n0_; have HB := n1_; have BK457 := n2_; have GW457 := n3_; have GE457 := n4_; have NB456_457 := n5_; have NB457_456 := n6_; clear n0_ n1_ n2_ n3_ n4_ n5_ n6_; clear hb hbox hg) | ((with_reducible refine gate_dst (N := 5) rfl ?_); refine box_event ?hg (N := 5) ?hd (cs := #[.int .i64 a2_0, .int .i64 a2_1, .int .i64 a2_2, .int .i64 a2_3]) (t := 23) ?hr ?_; (case hd => rfl); (case hg => rfl); (case hr => first | (go_simp; done) | (go_simp; rfl)); intro gb458 hg w9 hbox hb; have n0_ := bb_ BK456 hb; have n1_ := bb_ BK457 hb; have n2_ := hb_ HB hb; have n3_ := Aside0.mk (hbox); have n4_ := Aside0.mk ((by rw [hg]; exact (below_size (hq_ HB)) : w.heap.size ≤ gb458)); have n5_ := Aside0.mk ((by rw [hg]; exact (below_size (hq_ HB)) : w.heap.size ≤ gb458)); have n6_ := Aside0.mk ((by rw [hg]; exact Nat.ne_of_lt (blk_lt (g := gb456) (o := .cells #[.int .i64 a0_0, .int .i64 a0_1, .int .i64 a0_2, .int .i64 a0_3] 23 (0, 0)) (bq_ BK456)) : gb456 ≠ gb458)); have n7_ := Aside0.mk ((by rw [hg]; exact Nat.ne_of_gt (blk_lt (g := gb456) (o := .cells #[.int .i64 a0_0, .int .i64 a0_1, .int .i64 a0_2, .int .i64 a0_3] 23 (0, 0)) (bq_ BK456)) : gb458 ≠ gb456)); have n8_ := Aside0.mk ((by rw [hg]; exact Nat.ne_of_lt (blk_lt (g := gb457) (o := .cells #[.int .i64 a1_0, .int .i64 a1_1, .int .i64 a1_2, .int .i64 a1_3] 23 (0, 0)) (bq_ BK457)) : gb457 ≠ gb458)); have n9_ := Aside0.mk ((by rw [hg]; exact Nat.ne_of_gt (blk_lt (g := gb457) (o := .cells #[.int .i64 a1_0, .int .i64 a1_1, .int .i64 a1_2, .int .i64 a1_3] 23 (0, 0)) (bq_ BK457)) : gb458 ≠ gb457)); clear BK456; clear BK457; clear HB; have BK456 := n0_; have BK457 := n1_; have HB := n2_; have BK458 := n3_; have GW458 := n4_; have GE458 := n5_; have NB456_458 := n6_; have NB458_456 := n7_; have NB457_458 := n8_; have NB458_457 := n9_; clear n0_ n1_ n2_ n3_ n4_ n5_ n6_ n7_ n8_ n9_; clear hb hbox hg))
 replace BK456 := Aside0.mk (blk_drew BK456.out)
 replace BK457 := Aside0.mk (blk_drew BK457.out)
 replace BK458 := Aside0.mk (blk_drew BK458.out)
 replace HB := Aside0.mk (below_drew1 HB.out)
 refine start_ (n := 10) (S := fun w' => w'.cell? ⟨gb456, 0, none⟩ = some (.int .i64 a0_0) ∧ w'.cell? ⟨gb456, 1, none⟩ = some (.int .i64 a0_1) ∧ w'.cell? ⟨gb456, 2, none⟩ = some (.int .i64 a0_2) ∧ w'.cell? ⟨gb456, 3, none⟩ = some (.int .i64 a0_3) ∧ w'.cell? ⟨gb457, 0, none⟩ = some (.int .i64 a1_0) ∧ w'.cell? ⟨gb457, 1, none⟩ = some (.int .i64 a1_1) ∧ w'.cell? ⟨gb457, 2, none⟩ = some (.int .i64 a1_2) ∧ w'.cell? ⟨gb457, 3, none⟩ = some (.int .i64 a1_3)) (ds := []) zq8.q0 (by kernel_rfl) rfl rfl (a4_ BK456 (h4_ BK457)) (fun hHeld => ?_); refine with_tabW compositorlaw04_RectLattice.tab1 compositorlaw04_RectLattice.bits1 (fun HT_ HW_ => ?_)
 generalize w9.drew = w10 at BK456 BK457 BK458 HB hHeld ⊢
 refine tk8_ 0 9 zq8.q1 HT_ HW_ hHeld ?_
 refine tk8_ 1 10 zq8.q2 HT_ HW_ hHeld ?_
 refine tk8_ 3 12 zq8.q3 HT_ HW_ hHeld ?_
 refine tk8_ 4 13 zq8.q4 HT_ HW_ hHeld ?_
 refine join_ (σ := Nat × Nat) 2 zq8.q5 (fun s_ => [(11, .agg #[.int .i64 t459, .int .i64 t460, .int .i64 t461, .int .i64 t462]), (14, .agg #[.int .i64 t463, .int .i64 t464, .int .i64 t465, .int .i64 t466]), (7, .pointer (some ⟨s_.1, 0, none⟩)), (8, .pointer (some ⟨s_.2, 0, none⟩))]) (fun s_ w' => (w'.cell? ⟨gb456, 0, none⟩ = some (.int .i64 a0_0) ∧ w'.cell? ⟨gb456, 1, none⟩ = some (.int .i64 a0_1) ∧ w'.cell? ⟨gb456, 2, none⟩ = some (.int .i64 a0_2) ∧ w'.cell? ⟨gb456, 3, none⟩ = some (.int .i64 a0_3) ∧ w'.cell? ⟨gb457, 0, none⟩ = some (.int .i64 a1_0) ∧ w'.cell? ⟨gb457, 1, none⟩ = some (.int .i64 a1_1) ∧ w'.cell? ⟨gb457, 2, none⟩ = some (.int .i64 a1_2) ∧ w'.cell? ⟨gb457, 3, none⟩ = some (.int .i64 a1_3)) ∧ (w'.heap[gb456]? = some (.cells #[.int .i64 a0_0, .int .i64 a0_1, .int .i64 a0_2, .int .i64 a0_3] 23 (0, 0))) ∧ (w'.heap[gb457]? = some (.cells #[.int .i64 a1_0, .int .i64 a1_1, .int .i64 a1_2, .int .i64 a1_3] 23 (0, 0))) ∧ (w'.heap[gb458]? = some (.cells #[.int .i64 a2_0, .int .i64 a2_1, .int .i64 a2_2, .int .i64 a2_3] 23 (0, 0))) ∧ (w'.heap[s_.1]? = some (.cells #[.int .i64 0, .int .i64 0, .int .i64 0, .int .i64 0] 23 (0, 0))) ∧ (w'.heap[s_.2]? = some (.cells #[.int .i64 0, .int .i64 0, .int .i64 0, .int .i64 0] 23 (0, 0))) ∧ (w.heap.size ≤ s_.1) ∧ (w.heap.size ≤ s_.1) ∧ (gb456 ≠ s_.1) ∧ (s_.1 ≠ gb456) ∧ (gb457 ≠ s_.1) ∧ (s_.1 ≠ gb457) ∧ (gb458 ≠ s_.1) ∧ (s_.1 ≠ gb458) ∧ (s_.2 ≠ s_.1) ∧ (s_.1 ≠ s_.2) ∧ (w.heap.size ≤ s_.2) ∧ (w.heap.size ≤ s_.2) ∧ (gb456 ≠ s_.2) ∧ (s_.2 ≠ gb456) ∧ (gb457 ≠ s_.2) ∧ (s_.2 ≠ gb457) ∧ (gb458 ≠ s_.2) ∧ (s_.2 ≠ gb458) ∧ (Below w.heap.size w w')) ?_ ?_
 rotate_left
 ·
  intro hJ2_5_6_7
  refine join_ (σ := Nat) 3 zq8.q6 (fun s_ => [(11, .agg #[.int .i64 t459, .int .i64 t460, .int .i64 t461, .int .i64 t462]), (14, .agg #[.int .i64 t463, .int .i64 t464, .int .i64 t465, .int .i64 t466]), (7, .pointer (some ⟨s_, 0, none⟩))]) (fun s_ w' => (w'.cell? ⟨gb456, 0, none⟩ = some (.int .i64 a0_0) ∧ w'.cell? ⟨gb456, 1, none⟩ = some (.int .i64 a0_1) ∧ w'.cell? ⟨gb456, 2, none⟩ = some (.int .i64 a0_2) ∧ w'.cell? ⟨gb456, 3, none⟩ = some (.int .i64 a0_3) ∧ w'.cell? ⟨gb457, 0, none⟩ = some (.int .i64 a1_0) ∧ w'.cell? ⟨gb457, 1, none⟩ = some (.int .i64 a1_1) ∧ w'.cell? ⟨gb457, 2, none⟩ = some (.int .i64 a1_2) ∧ w'.cell? ⟨gb457, 3, none⟩ = some (.int .i64 a1_3)) ∧ (w'.heap[gb456]? = some (.cells #[.int .i64 a0_0, .int .i64 a0_1, .int .i64 a0_2, .int .i64 a0_3] 23 (0, 0))) ∧ (w'.heap[gb457]? = some (.cells #[.int .i64 a1_0, .int .i64 a1_1, .int .i64 a1_2, .int .i64 a1_3] 23 (0, 0))) ∧ (w'.heap[gb458]? = some (.cells #[.int .i64 a2_0, .int .i64 a2_1, .int .i64 a2_2, .int .i64 a2_3] 23 (0, 0))) ∧ (w'.heap[s_]? = some (.cells #[.int .i64 0, .int .i64 0, .int .i64 0, .int .i64 0] 23 (0, 0))) ∧ (w.heap.size ≤ s_) ∧ (w.heap.size ≤ s_) ∧ (gb456 ≠ s_) ∧ (s_ ≠ gb456) ∧ (gb457 ≠ s_) ∧ (s_ ≠ gb457) ∧ (gb458 ≠ s_) ∧ (s_ ≠ gb458) ∧ (Below w.heap.size w w')) ?_ ?_
  rotate_left
  ·
   intro hJ2_5_6
   refine join_ (σ := Nat) 3 zq8.q7 (fun s_ => [(11, .agg #[.int .i64 t459, .int .i64 t460, .int .i64 t461, .int .i64 t462]), (14, .agg #[.int .i64 t463, .int .i64 t464, .int .i64 t465, .int .i64 t466]), (8, .pointer (some ⟨s_, 0, none⟩))]) (fun s_ w' => (w'.cell? ⟨gb456, 0, none⟩ = some (.int .i64 a0_0) ∧ w'.cell? ⟨gb456, 1, none⟩ = some (.int .i64 a0_1) ∧ w'.cell? ⟨gb456, 2, none⟩ = some (.int .i64 a0_2) ∧ w'.cell? ⟨gb456, 3, none⟩ = some (.int .i64 a0_3) ∧ w'.cell? ⟨gb457, 0, none⟩ = some (.int .i64 a1_0) ∧ w'.cell? ⟨gb457, 1, none⟩ = some (.int .i64 a1_1) ∧ w'.cell? ⟨gb457, 2, none⟩ = some (.int .i64 a1_2) ∧ w'.cell? ⟨gb457, 3, none⟩ = some (.int .i64 a1_3)) ∧ (w'.heap[gb456]? = some (.cells #[.int .i64 a0_0, .int .i64 a0_1, .int .i64 a0_2, .int .i64 a0_3] 23 (0, 0))) ∧ (w'.heap[gb457]? = some (.cells #[.int .i64 a1_0, .int .i64 a1_1, .int .i64 a1_2, .int .i64 a1_3] 23 (0, 0))) ∧ (w'.heap[gb458]? = some (.cells #[.int .i64 a2_0, .int .i64 a2_1, .int .i64 a2_2, .int .i64 a2_3] 23 (0, 0))) ∧ (w'.heap[s_]? = some (.cells #[.int .i64 0, .int .i64 0, .int .i64 0, .int .i64 0] 23 (0, 0))) ∧ (w.heap.size ≤ s_) ∧ (w.heap.size ≤ s_) ∧ (gb456 ≠ s_) ∧ (s_ ≠ gb456) ∧ (gb457 ≠ s_) ∧ (s_ ≠ gb457) ∧ (gb458 ≠ s_) ∧ (s_ ≠ gb458) ∧ (Below w.heap.size w w')) ?_ ?_
   rotate_left
   ·
    intro hJ2_5_7
    refine join_ (σ := Nat × Nat) 3 zq8.q8 (fun s_ => [(11, .agg #[.int .i64 t459, .int .i64 t460, .int .i64 t461, .int .i64 t462]), (7, .pointer (some ⟨s_.1, 0, none⟩)), (8, .pointer (some ⟨s_.2, 0, none⟩))]) (fun s_ w' => (w'.cell? ⟨gb456, 0, none⟩ = some (.int .i64 a0_0) ∧ w'.cell? ⟨gb456, 1, none⟩ = some (.int .i64 a0_1) ∧ w'.cell? ⟨gb456, 2, none⟩ = some (.int .i64 a0_2) ∧ w'.cell? ⟨gb456, 3, none⟩ = some (.int .i64 a0_3) ∧ w'.cell? ⟨gb457, 0, none⟩ = some (.int .i64 a1_0) ∧ w'.cell? ⟨gb457, 1, none⟩ = some (.int .i64 a1_1) ∧ w'.cell? ⟨gb457, 2, none⟩ = some (.int .i64 a1_2) ∧ w'.cell? ⟨gb457, 3, none⟩ = some (.int .i64 a1_3)) ∧ (w'.heap[gb456]? = some (.cells #[.int .i64 a0_0, .int .i64 a0_1, .int .i64 a0_2, .int .i64 a0_3] 23 (0, 0))) ∧ (w'.heap[gb457]? = some (.cells #[.int .i64 a1_0, .int .i64 a1_1, .int .i64 a1_2, .int .i64 a1_3] 23 (0, 0))) ∧ (w'.heap[gb458]? = some (.cells #[.int .i64 a2_0, .int .i64 a2_1, .int .i64 a2_2, .int .i64 a2_3] 23 (0, 0))) ∧ (w'.heap[s_.1]? = some (.cells #[.int .i64 0, .int .i64 0, .int .i64 0, .int .i64 0] 23 (0, 0))) ∧ (w'.heap[s_.2]? = some (.cells #[.int .i64 0, .int .i64 0, .int .i64 0, .int .i64 0] 23 (0, 0))) ∧ (w.heap.size ≤ s_.1) ∧ (w.heap.size ≤ s_.1) ∧ (gb456 ≠ s_.1) ∧ (s_.1 ≠ gb456) ∧ (gb457 ≠ s_.1) ∧ (s_.1 ≠ gb457) ∧ (gb458 ≠ s_.1) ∧ (s_.1 ≠ gb458) ∧ (s_.2 ≠ s_.1) ∧ (s_.1 ≠ s_.2) ∧ (w.heap.size ≤ s_.2) ∧ (w.heap.size ≤ s_.2) ∧ (gb456 ≠ s_.2) ∧ (s_.2 ≠ gb456) ∧ (gb457 ≠ s_.2) ∧ (s_.2 ≠ gb457) ∧ (gb458 ≠ s_.2) ∧ (s_.2 ≠ gb458) ∧ (Below w.heap.size w w')) ?_ ?_
    rotate_left
    ·
     intro hJ2_6_7
     refine join_ (σ := Unit) 4 zq8.q9 (fun s_ => [(11, .agg #[.int .i64 t459, .int .i64 t460, .int .i64 t461, .int .i64 t462]), (14, .agg #[.int .i64 t463, .int .i64 t464, .int .i64 t465, .int .i64 t466])]) (fun s_ w' => (w'.cell? ⟨gb456, 0, none⟩ = some (.int .i64 a0_0) ∧ w'.cell? ⟨gb456, 1, none⟩ = some (.int .i64 a0_1) ∧ w'.cell? ⟨gb456, 2, none⟩ = some (.int .i64 a0_2) ∧ w'.cell? ⟨gb456, 3, none⟩ = some (.int .i64 a0_3) ∧ w'.cell? ⟨gb457, 0, none⟩ = some (.int .i64 a1_0) ∧ w'.cell? ⟨gb457, 1, none⟩ = some (.int .i64 a1_1) ∧ w'.cell? ⟨gb457, 2, none⟩ = some (.int .i64 a1_2) ∧ w'.cell? ⟨gb457, 3, none⟩ = some (.int .i64 a1_3)) ∧ (w'.heap[gb456]? = some (.cells #[.int .i64 a0_0, .int .i64 a0_1, .int .i64 a0_2, .int .i64 a0_3] 23 (0, 0))) ∧ (w'.heap[gb457]? = some (.cells #[.int .i64 a1_0, .int .i64 a1_1, .int .i64 a1_2, .int .i64 a1_3] 23 (0, 0))) ∧ (w'.heap[gb458]? = some (.cells #[.int .i64 a2_0, .int .i64 a2_1, .int .i64 a2_2, .int .i64 a2_3] 23 (0, 0))) ∧ (Below w.heap.size w w')) ?_ ?_
     rotate_left
     ·
      intro hJ2_5
      refine join_ (σ := Nat) 4 zq8.q10 (fun s_ => [(11, .agg #[.int .i64 t459, .int .i64 t460, .int .i64 t461, .int .i64 t462]), (7, .pointer (some ⟨s_, 0, none⟩))]) (fun s_ w' => (w'.cell? ⟨gb456, 0, none⟩ = some (.int .i64 a0_0) ∧ w'.cell? ⟨gb456, 1, none⟩ = some (.int .i64 a0_1) ∧ w'.cell? ⟨gb456, 2, none⟩ = some (.int .i64 a0_2) ∧ w'.cell? ⟨gb456, 3, none⟩ = some (.int .i64 a0_3) ∧ w'.cell? ⟨gb457, 0, none⟩ = some (.int .i64 a1_0) ∧ w'.cell? ⟨gb457, 1, none⟩ = some (.int .i64 a1_1) ∧ w'.cell? ⟨gb457, 2, none⟩ = some (.int .i64 a1_2) ∧ w'.cell? ⟨gb457, 3, none⟩ = some (.int .i64 a1_3)) ∧ (w'.heap[gb456]? = some (.cells #[.int .i64 a0_0, .int .i64 a0_1, .int .i64 a0_2, .int .i64 a0_3] 23 (0, 0))) ∧ (w'.heap[gb457]? = some (.cells #[.int .i64 a1_0, .int .i64 a1_1, .int .i64 a1_2, .int .i64 a1_3] 23 (0, 0))) ∧ (w'.heap[gb458]? = some (.cells #[.int .i64 a2_0, .int .i64 a2_1, .int .i64 a2_2, .int .i64 a2_3] 23 (0, 0))) ∧ (w'.heap[s_]? = some (.cells #[.int .i64 0, .int .i64 0, .int .i64 0, .int .i64 0] 23 (0, 0))) ∧ (w.heap.size ≤ s_) ∧ (w.heap.size ≤ s_) ∧ (gb456 ≠ s_) ∧ (s_ ≠ gb456) ∧ (gb457 ≠ s_) ∧ (s_ ≠ gb457) ∧ (gb458 ≠ s_) ∧ (s_ ≠ gb458) ∧ (Below w.heap.size w w')) ?_ ?_
      rotate_left
      ·
       intro hJ2_6
       refine join_ (σ := Nat) 4 zq8.q11 (fun s_ => [(11, .agg #[.int .i64 t459, .int .i64 t460, .int .i64 t461, .int .i64 t462]), (8, .pointer (some ⟨s_, 0, none⟩))]) (fun s_ w' => (w'.cell? ⟨gb456, 0, none⟩ = some (.int .i64 a0_0) ∧ w'.cell? ⟨gb456, 1, none⟩ = some (.int .i64 a0_1) ∧ w'.cell? ⟨gb456, 2, none⟩ = some (.int .i64 a0_2) ∧ w'.cell? ⟨gb456, 3, none⟩ = some (.int .i64 a0_3) ∧ w'.cell? ⟨gb457, 0, none⟩ = some (.int .i64 a1_0) ∧ w'.cell? ⟨gb457, 1, none⟩ = some (.int .i64 a1_1) ∧ w'.cell? ⟨gb457, 2, none⟩ = some (.int .i64 a1_2) ∧ w'.cell? ⟨gb457, 3, none⟩ = some (.int .i64 a1_3)) ∧ (w'.heap[gb456]? = some (.cells #[.int .i64 a0_0, .int .i64 a0_1, .int .i64 a0_2, .int .i64 a0_3] 23 (0, 0))) ∧ (w'.heap[gb457]? = some (.cells #[.int .i64 a1_0, .int .i64 a1_1, .int .i64 a1_2, .int .i64 a1_3] 23 (0, 0))) ∧ (w'.heap[gb458]? = some (.cells #[.int .i64 a2_0, .int .i64 a2_1, .int .i64 a2_2, .int .i64 a2_3] 23 (0, 0))) ∧ (w'.heap[s_]? = some (.cells #[.int .i64 0, .int .i64 0, .int .i64 0, .int .i64 0] 23 (0, 0))) ∧ (w.heap.size ≤ s_) ∧ (w.heap.size ≤ s_) ∧ (gb456 ≠ s_) ∧ (s_ ≠ gb456) ∧ (gb457 ≠ s_) ∧ (s_ ≠ gb457) ∧ (gb458 ≠ s_) ∧ (s_ ≠ gb458) ∧ (Below w.heap.size w w')) ?_ ?_
       rotate_left
       ·
        intro hJ2_7
        refine join_ (σ := Nat × Nat) 4 zq8.q12 (fun s_ => [(7, .pointer (some ⟨s_.1, 0, none⟩)), (8, .pointer (some ⟨s_.2, 0, none⟩))]) (fun s_ w' => (w'.cell? ⟨gb456, 0, none⟩ = some (.int .i64 a0_0) ∧ w'.cell? ⟨gb456, 1, none⟩ = some (.int .i64 a0_1) ∧ w'.cell? ⟨gb456, 2, none⟩ = some (.int .i64 a0_2) ∧ w'.cell? ⟨gb456, 3, none⟩ = some (.int .i64 a0_3) ∧ w'.cell? ⟨gb457, 0, none⟩ = some (.int .i64 a1_0) ∧ w'.cell? ⟨gb457, 1, none⟩ = some (.int .i64 a1_1) ∧ w'.cell? ⟨gb457, 2, none⟩ = some (.int .i64 a1_2) ∧ w'.cell? ⟨gb457, 3, none⟩ = some (.int .i64 a1_3)) ∧ (w'.heap[gb456]? = some (.cells #[.int .i64 a0_0, .int .i64 a0_1, .int .i64 a0_2, .int .i64 a0_3] 23 (0, 0))) ∧ (w'.heap[gb457]? = some (.cells #[.int .i64 a1_0, .int .i64 a1_1, .int .i64 a1_2, .int .i64 a1_3] 23 (0, 0))) ∧ (w'.heap[gb458]? = some (.cells #[.int .i64 a2_0, .int .i64 a2_1, .int .i64 a2_2, .int .i64 a2_3] 23 (0, 0))) ∧ (w'.heap[s_.1]? = some (.cells #[.int .i64 0, .int .i64 0, .int .i64 0, .int .i64 0] 23 (0, 0))) ∧ (w'.heap[s_.2]? = some (.cells #[.int .i64 0, .int .i64 0, .int .i64 0, .int .i64 0] 23 (0, 0))) ∧ (w.heap.size ≤ s_.1) ∧ (w.heap.size ≤ s_.1) ∧ (gb456 ≠ s_.1) ∧ (s_.1 ≠ gb456) ∧ (gb457 ≠ s_.1) ∧ (s_.1 ≠ gb457) ∧ (gb458 ≠ s_.1) ∧ (s_.1 ≠ gb458) ∧ (s_.2 ≠ s_.1) ∧ (s_.1 ≠ s_.2) ∧ (w.heap.size ≤ s_.2) ∧ (w.heap.size ≤ s_.2) ∧ (gb456 ≠ s_.2) ∧ (s_.2 ≠ gb456) ∧ (gb457 ≠ s_.2) ∧ (s_.2 ≠ gb457) ∧ (gb458 ≠ s_.2) ∧ (s_.2 ≠ gb458) ∧ (Below w.heap.size w w')) ?_ ?_
        rotate_left
        ·
         intro hJ6_7
         refine join_ (σ := Unit) 5 zq8.q13 (fun s_ => [(11, .agg #[.int .i64 t459, .int .i64 t460, .int .i64 t461, .int .i64 t462])]) (fun s_ w' => (w'.cell? ⟨gb456, 0, none⟩ = some (.int .i64 a0_0) ∧ w'.cell? ⟨gb456, 1, none⟩ = some (.int .i64 a0_1) ∧ w'.cell? ⟨gb456, 2, none⟩ = some (.int .i64 a0_2) ∧ w'.cell? ⟨gb456, 3, none⟩ = some (.int .i64 a0_3) ∧ w'.cell? ⟨gb457, 0, none⟩ = some (.int .i64 a1_0) ∧ w'.cell? ⟨gb457, 1, none⟩ = some (.int .i64 a1_1) ∧ w'.cell? ⟨gb457, 2, none⟩ = some (.int .i64 a1_2) ∧ w'.cell? ⟨gb457, 3, none⟩ = some (.int .i64 a1_3)) ∧ (w'.heap[gb456]? = some (.cells #[.int .i64 a0_0, .int .i64 a0_1, .int .i64 a0_2, .int .i64 a0_3] 23 (0, 0))) ∧ (w'.heap[gb457]? = some (.cells #[.int .i64 a1_0, .int .i64 a1_1, .int .i64 a1_2, .int .i64 a1_3] 23 (0, 0))) ∧ (w'.heap[gb458]? = some (.cells #[.int .i64 a2_0, .int .i64 a2_1, .int .i64 a2_2, .int .i64 a2_3] 23 (0, 0))) ∧ (Below w.heap.size w w')) ?_ ?_
         rotate_left
         ·
          intro hJ2
          refine join_ (σ := Nat) 5 zq8.q14 (fun s_ => [(7, .pointer (some ⟨s_, 0, none⟩))]) (fun s_ w' => (w'.cell? ⟨gb456, 0, none⟩ = some (.int .i64 a0_0) ∧ w'.cell? ⟨gb456, 1, none⟩ = some (.int .i64 a0_1) ∧ w'.cell? ⟨gb456, 2, none⟩ = some (.int .i64 a0_2) ∧ w'.cell? ⟨gb456, 3, none⟩ = some (.int .i64 a0_3) ∧ w'.cell? ⟨gb457, 0, none⟩ = some (.int .i64 a1_0) ∧ w'.cell? ⟨gb457, 1, none⟩ = some (.int .i64 a1_1) ∧ w'.cell? ⟨gb457, 2, none⟩ = some (.int .i64 a1_2) ∧ w'.cell? ⟨gb457, 3, none⟩ = some (.int .i64 a1_3)) ∧ (w'.heap[gb456]? = some (.cells #[.int .i64 a0_0, .int .i64 a0_1, .int .i64 a0_2, .int .i64 a0_3] 23 (0, 0))) ∧ (w'.heap[gb457]? = some (.cells #[.int .i64 a1_0, .int .i64 a1_1, .int .i64 a1_2, .int .i64 a1_3] 23 (0, 0))) ∧ (w'.heap[gb458]? = some (.cells #[.int .i64 a2_0, .int .i64 a2_1, .int .i64 a2_2, .int .i64 a2_3] 23 (0, 0))) ∧ (w'.heap[s_]? = some (.cells #[.int .i64 0, .int .i64 0, .int .i64 0, .int .i64 0] 23 (0, 0))) ∧ (w.heap.size ≤ s_) ∧ (w.heap.size ≤ s_) ∧ (gb456 ≠ s_) ∧ (s_ ≠ gb456) ∧ (gb457 ≠ s_) ∧ (s_ ≠ gb457) ∧ (gb458 ≠ s_) ∧ (s_ ≠ gb458) ∧ (Below w.heap.size w w')) ?_ ?_
          rotate_left
          ·
           intro hJ6
           refine join_ (σ := Nat) 5 zq8.q15 (fun s_ => [(8, .pointer (some ⟨s_, 0, none⟩))]) (fun s_ w' => (w'.cell? ⟨gb456, 0, none⟩ = some (.int .i64 a0_0) ∧ w'.cell? ⟨gb456, 1, none⟩ = some (.int .i64 a0_1) ∧ w'.cell? ⟨gb456, 2, none⟩ = some (.int .i64 a0_2) ∧ w'.cell? ⟨gb456, 3, none⟩ = some (.int .i64 a0_3) ∧ w'.cell? ⟨gb457, 0, none⟩ = some (.int .i64 a1_0) ∧ w'.cell? ⟨gb457, 1, none⟩ = some (.int .i64 a1_1) ∧ w'.cell? ⟨gb457, 2, none⟩ = some (.int .i64 a1_2) ∧ w'.cell? ⟨gb457, 3, none⟩ = some (.int .i64 a1_3)) ∧ (w'.heap[gb456]? = some (.cells #[.int .i64 a0_0, .int .i64 a0_1, .int .i64 a0_2, .int .i64 a0_3] 23 (0, 0))) ∧ (w'.heap[gb457]? = some (.cells #[.int .i64 a1_0, .int .i64 a1_1, .int .i64 a1_2, .int .i64 a1_3] 23 (0, 0))) ∧ (w'.heap[gb458]? = some (.cells #[.int .i64 a2_0, .int .i64 a2_1, .int .i64 a2_2, .int .i64 a2_3] 23 (0, 0))) ∧ (w'.heap[s_]? = some (.cells #[.int .i64 0, .int .i64 0, .int .i64 0, .int .i64 0] 23 (0, 0))) ∧ (w.heap.size ≤ s_) ∧ (w.heap.size ≤ s_) ∧ (gb456 ≠ s_) ∧ (s_ ≠ gb456) ∧ (gb457 ≠ s_) ∧ (s_ ≠ gb457) ∧ (gb458 ≠ s_) ∧ (s_ ≠ gb458) ∧ (Below w.heap.size w w')) ?_ ?_
           rotate_left
           ·
            intro hJ7
            refine three_ (i := 2) (j := 6) (k := 7) (Ni := some 11) (Nj := some 7) (Nk := some 8) zq8.q13 zq8.q14 zq8.q15 rfl rfl rfl rfl rfl rfl (three_of HT_.out (by kernel_rfl)) (by decide) (by decide) (by decide) (fun K hK => ?_) (fun K hK => ?_) (fun K hK => ?_)
            ·
             refine gs_ Try.func21 #[.agg #[.int .i64 a0_0, .int .i64 a0_1, .int .i64 a0_2, .int .i64 a0_3], .agg #[.int .i64 a1_0, .int .i64 a1_1, .int .i64 a1_2, .int .i64 a1_3]] ?_
             with_reducible refine (rect_Intersect.calls a0_0 a0_1 a0_2 a0_3 a1_0 a1_1 a1_2 a1_3 t459 t460 t461 t462 _ A4.out).mono ?_
             rintro e w11 ⟨rfl, hb⟩
             refine ⟨_, rfl, ?_⟩
             replace BK456 := bb_ BK456 hb
             replace BK457 := bb_ BK457 hb
             replace BK458 := bb_ BK458 hb
             replace HB := hb_ HB hb
             (try clear hb); (try clear hb2); (try clear hk); (try clear hi)
             refine hK.out _ _ (a4_ BK456 (h4_ BK457)) (fun hHeld => ?_)
             clear hK K
             refine norm_ (a' := ?_) ?_ ?_
             rotate_left
             ·
              show Act.put _ (some 11) _ = _
              simp only [Act.put, List.setIfInBounds_toArray, List.set_cons_zero, List.set_cons_succ, i64_w, i32_w]
              rfl
             exact norm_ (by simp only [putAll, Act.put, List.setIfInBounds_toArray, List.set_cons_zero, List.set_cons_succ] <;> rfl) (hJ2 () _ ⟨hHeld, (bq_ BK456), (bq_ BK457), (bq_ BK458), (hq_ HB)⟩)
            ·
             refine box_step ?hg (N := 7) ?hd (cs := #[.int .i64 0, .int .i64 0, .int .i64 0, .int .i64 0]) (t := 23) ?hr ?_; (case hd => rfl); (case hg => rfl); (case hr => first | (go_simp; done) | (go_simp; rfl))
             intro gb467 hg w11 hbox hb
             have BK467 := Aside0.mk (hbox)
             have GW467 := Aside0.mk ((by rw [hg]; exact (below_size (hq_ HB)) : w.heap.size ≤ gb467))
             have GE467 := Aside0.mk ((by rw [hg]; exact (below_size (hq_ HB)) : w.heap.size ≤ gb467))
             replace HB := hb_ HB hb
             have NB456_467 := Aside0.mk ((by rw [hg]; exact Nat.ne_of_lt (blk_lt (g := gb456) (o := .cells #[.int .i64 a0_0, .int .i64 a0_1, .int .i64 a0_2, .int .i64 a0_3] 23 (0, 0)) (bq_ BK456)) : gb456 ≠ gb467))
             have NB467_456 := Aside0.mk ((by rw [hg]; exact Nat.ne_of_gt (blk_lt (g := gb456) (o := .cells #[.int .i64 a0_0, .int .i64 a0_1, .int .i64 a0_2, .int .i64 a0_3] 23 (0, 0)) (bq_ BK456)) : gb467 ≠ gb456))
             replace BK456 := bb_ BK456 hb
             have NB457_467 := Aside0.mk ((by rw [hg]; exact Nat.ne_of_lt (blk_lt (g := gb457) (o := .cells #[.int .i64 a1_0, .int .i64 a1_1, .int .i64 a1_2, .int .i64 a1_3] 23 (0, 0)) (bq_ BK457)) : gb457 ≠ gb467))
             have NB467_457 := Aside0.mk ((by rw [hg]; exact Nat.ne_of_gt (blk_lt (g := gb457) (o := .cells #[.int .i64 a1_0, .int .i64 a1_1, .int .i64 a1_2, .int .i64 a1_3] 23 (0, 0)) (bq_ BK457)) : gb467 ≠ gb457))
             replace BK457 := bb_ BK457 hb
             have NB458_467 := Aside0.mk ((by rw [hg]; exact Nat.ne_of_lt (blk_lt (g := gb458) (o := .cells #[.int .i64 a2_0, .int .i64 a2_1, .int .i64 a2_2, .int .i64 a2_3] 23 (0, 0)) (bq_ BK458)) : gb458 ≠ gb467))
             have NB467_458 := Aside0.mk ((by rw [hg]; exact Nat.ne_of_gt (blk_lt (g := gb458) (o := .cells #[.int .i64 a2_0, .int .i64 a2_1, .int .i64 a2_2, .int .i64 a2_3] 23 (0, 0)) (bq_ BK458)) : gb467 ≠ gb458))
             replace BK458 := bb_ BK458 hb
             clear hb hbox hg
             refine hK.out _ _ (a4_ BK456 (h4_ BK457)) (fun hHeld => ?_)
             clear hK K
             refine norm_ (a' := ?_) ?_ ?_
             rotate_left
             ·
              show Act.put _ (some 7) _ = _
              simp only [Act.put, List.setIfInBounds_toArray, List.set_cons_zero, List.set_cons_succ, i64_w, i32_w]
              rfl
             exact norm_ (by simp only [putAll, Act.put, List.setIfInBounds_toArray, List.set_cons_zero, List.set_cons_succ] <;> rfl) (hJ6 (gb467) _ ⟨hHeld, (bq_ BK456), (bq_ BK457), (bq_ BK458), (bq_ BK467), GW467.out, GE467.out, NB456_467.out, NB467_456.out, NB457_467.out, NB467_457.out, NB458_467.out, NB467_458.out, (hq_ HB)⟩)
            ·
             refine box_step ?hg (N := 8) ?hd (cs := #[.int .i64 0, .int .i64 0, .int .i64 0, .int .i64 0]) (t := 23) ?hr ?_; (case hd => rfl); (case hg => rfl); (case hr => first | (go_simp; done) | (go_simp; rfl))
             intro gb468 hg w11 hbox hb
             have BK468 := Aside0.mk (hbox)
             have GW468 := Aside0.mk ((by rw [hg]; exact (below_size (hq_ HB)) : w.heap.size ≤ gb468))
             have GE468 := Aside0.mk ((by rw [hg]; exact (below_size (hq_ HB)) : w.heap.size ≤ gb468))
             replace HB := hb_ HB hb
             have NB456_468 := Aside0.mk ((by rw [hg]; exact Nat.ne_of_lt (blk_lt (g := gb456) (o := .cells #[.int .i64 a0_0, .int .i64 a0_1, .int .i64 a0_2, .int .i64 a0_3] 23 (0, 0)) (bq_ BK456)) : gb456 ≠ gb468))
             have NB468_456 := Aside0.mk ((by rw [hg]; exact Nat.ne_of_gt (blk_lt (g := gb456) (o := .cells #[.int .i64 a0_0, .int .i64 a0_1, .int .i64 a0_2, .int .i64 a0_3] 23 (0, 0)) (bq_ BK456)) : gb468 ≠ gb456))
             replace BK456 := bb_ BK456 hb
             have NB457_468 := Aside0.mk ((by rw [hg]; exact Nat.ne_of_lt (blk_lt (g := gb457) (o := .cells #[.int .i64 a1_0, .int .i64 a1_1, .int .i64 a1_2, .int .i64 a1_3] 23 (0, 0)) (bq_ BK457)) : gb457 ≠ gb468))
             have NB468_457 := Aside0.mk ((by rw [hg]; exact Nat.ne_of_gt (blk_lt (g := gb457) (o := .cells #[.int .i64 a1_0, .int .i64 a1_1, .int .i64 a1_2, .int .i64 a1_3] 23 (0, 0)) (bq_ BK457)) : gb468 ≠ gb457))
             replace BK457 := bb_ BK457 hb
             have NB458_468 := Aside0.mk ((by rw [hg]; exact Nat.ne_of_lt (blk_lt (g := gb458) (o := .cells #[.int .i64 a2_0, .int .i64 a2_1, .int .i64 a2_2, .int .i64 a2_3] 23 (0, 0)) (bq_ BK458)) : gb458 ≠ gb468))
             have NB468_458 := Aside0.mk ((by rw [hg]; exact Nat.ne_of_gt (blk_lt (g := gb458) (o := .cells #[.int .i64 a2_0, .int .i64 a2_1, .int .i64 a2_2, .int .i64 a2_3] 23 (0, 0)) (bq_ BK458)) : gb468 ≠ gb458))
             replace BK458 := bb_ BK458 hb
             clear hb hbox hg
             refine hK.out _ _ (a4_ BK456 (h4_ BK457)) (fun hHeld => ?_)
             clear hK K
             refine norm_ (a' := ?_) ?_ ?_
             rotate_left
             ·
              show Act.put _ (some 8) _ = _
              simp only [Act.put, List.setIfInBounds_toArray, List.set_cons_zero, List.set_cons_succ, i64_w, i32_w]
              rfl
             exact norm_ (by simp only [putAll, Act.put, List.setIfInBounds_toArray, List.set_cons_zero, List.set_cons_succ] <;> rfl) (hJ7 (gb468) _ ⟨hHeld, (bq_ BK456), (bq_ BK457), (bq_ BK458), (bq_ BK468), GW468.out, GE468.out, NB456_468.out, NB468_456.out, NB457_468.out, NB468_457.out, NB458_468.out, NB468_458.out, (hq_ HB)⟩)
           ·
            rintro gb468 w12 ⟨hS_, h0_, h1_, h2_, h3_, h4_, h5_, h6_, h7_, h8_, h9_, h10_, h11_, h12_⟩
            replace BK456 := Aside0.mk h0_
            replace BK457 := Aside0.mk h1_
            replace BK458 := Aside0.mk h2_
            have BK468 := Aside0.mk h3_
            have GW468 := Aside0.mk h4_
            have GE468 := Aside0.mk h5_
            have NB456_468 := Aside0.mk h6_
            have NB468_456 := Aside0.mk h7_
            have NB457_468 := Aside0.mk h8_
            have NB468_457 := Aside0.mk h9_
            have NB458_468 := Aside0.mk h10_
            have NB468_458 := Aside0.mk h11_
            replace HB := Aside0.mk h12_
            clear h0_ h1_ h2_ h3_ h4_ h5_ h6_ h7_ h8_ h9_ h10_ h11_ h12_
            have hHeld := hS_
            refine norm_ (a' := ?_) ?_ ?_
            rotate_left
            ·
             simp only [putAll, Act.put, List.setIfInBounds_toArray, List.set_cons_zero, List.set_cons_succ]
             rfl
            refine two_ (i := 2) (j := 6) (Ni := some 11) (Nj := some 7) zq8.q11 zq8.q12 rfl rfl rfl rfl (two_of HT_.out (by kernel_rfl)) (by decide) (by decide) (fun K hK => ?_) (fun K hK => ?_)
            ·
             refine gs_ Try.func21 #[.agg #[.int .i64 a0_0, .int .i64 a0_1, .int .i64 a0_2, .int .i64 a0_3], .agg #[.int .i64 a1_0, .int .i64 a1_1, .int .i64 a1_2, .int .i64 a1_3]] ?_
             with_reducible refine (rect_Intersect.calls a0_0 a0_1 a0_2 a0_3 a1_0 a1_1 a1_2 a1_3 t459 t460 t461 t462 _ A4.out).mono ?_
             rintro e w13 ⟨rfl, hb⟩
             refine ⟨_, rfl, ?_⟩
             replace BK456 := bb_ BK456 hb
             replace BK457 := bb_ BK457 hb
             replace BK458 := bb_ BK458 hb
             replace BK468 := bb_ BK468 hb
             replace HB := hb_ HB hb
             (try clear hb); (try clear hb2); (try clear hk); (try clear hi)
             refine hK.out _ _ (a4_ BK456 (h4_ BK457)) (fun hHeld => ?_)
             clear hK K
             refine norm_ (a' := ?_) ?_ ?_
             rotate_left
             ·
              show Act.put _ (some 11) _ = _
              simp only [Act.put, List.setIfInBounds_toArray, List.set_cons_zero, List.set_cons_succ, i64_w, i32_w]
              rfl
             exact norm_ (by simp only [putAll, Act.put, List.setIfInBounds_toArray, List.set_cons_zero, List.set_cons_succ] <;> rfl) (hJ2_7 (gb468) _ ⟨hHeld, (bq_ BK456), (bq_ BK457), (bq_ BK458), (bq_ BK468), GW468.out, GE468.out, NB456_468.out, NB468_456.out, NB457_468.out, NB468_457.out, NB458_468.out, NB468_458.out, (hq_ HB)⟩)
            ·
             refine box_step ?hg (N := 7) ?hd (cs := #[.int .i64 0, .int .i64 0, .int .i64 0, .int .i64 0]) (t := 23) ?hr ?_; (case hd => rfl); (case hg => rfl); (case hr => first | (go_simp; done) | (go_simp; rfl))
             intro gb467 hg w13 hbox hb
             have BK467 := Aside0.mk (hbox)
             have GW467 := Aside0.mk ((by rw [hg]; exact (below_size (hq_ HB)) : w.heap.size ≤ gb467))
             have GE467 := Aside0.mk ((by rw [hg]; exact (below_size (hq_ HB)) : w.heap.size ≤ gb467))
             replace HB := hb_ HB hb
             have NB456_467 := Aside0.mk ((by rw [hg]; exact Nat.ne_of_lt (blk_lt (g := gb456) (o := .cells #[.int .i64 a0_0, .int .i64 a0_1, .int .i64 a0_2, .int .i64 a0_3] 23 (0, 0)) (bq_ BK456)) : gb456 ≠ gb467))
             have NB467_456 := Aside0.mk ((by rw [hg]; exact Nat.ne_of_gt (blk_lt (g := gb456) (o := .cells #[.int .i64 a0_0, .int .i64 a0_1, .int .i64 a0_2, .int .i64 a0_3] 23 (0, 0)) (bq_ BK456)) : gb467 ≠ gb456))
             replace BK456 := bb_ BK456 hb
             have NB457_467 := Aside0.mk ((by rw [hg]; exact Nat.ne_of_lt (blk_lt (g := gb457) (o := .cells #[.int .i64 a1_0, .int .i64 a1_1, .int .i64 a1_2, .int .i64 a1_3] 23 (0, 0)) (bq_ BK457)) : gb457 ≠ gb467))
             have NB467_457 := Aside0.mk ((by rw [hg]; exact Nat.ne_of_gt (blk_lt (g := gb457) (o := .cells #[.int .i64 a1_0, .int .i64 a1_1, .int .i64 a1_2, .int .i64 a1_3] 23 (0, 0)) (bq_ BK457)) : gb467 ≠ gb457))
             replace BK457 := bb_ BK457 hb
             have NB458_467 := Aside0.mk ((by rw [hg]; exact Nat.ne_of_lt (blk_lt (g := gb458) (o := .cells #[.int .i64 a2_0, .int .i64 a2_1, .int .i64 a2_2, .int .i64 a2_3] 23 (0, 0)) (bq_ BK458)) : gb458 ≠ gb467))
             have NB467_458 := Aside0.mk ((by rw [hg]; exact Nat.ne_of_gt (blk_lt (g := gb458) (o := .cells #[.int .i64 a2_0, .int .i64 a2_1, .int .i64 a2_2, .int .i64 a2_3] 23 (0, 0)) (bq_ BK458)) : gb467 ≠ gb458))
             replace BK458 := bb_ BK458 hb
             have NB468_467 := Aside0.mk ((by rw [hg]; exact Nat.ne_of_lt (blk_lt (g := gb468) (o := .cells #[.int .i64 0, .int .i64 0, .int .i64 0, .int .i64 0] 23 (0, 0)) (bq_ BK468)) : gb468 ≠ gb467))
             have NB467_468 := Aside0.mk ((by rw [hg]; exact Nat.ne_of_gt (blk_lt (g := gb468) (o := .cells #[.int .i64 0, .int .i64 0, .int .i64 0, .int .i64 0] 23 (0, 0)) (bq_ BK468)) : gb467 ≠ gb468))
             replace BK468 := bb_ BK468 hb
             clear hb hbox hg
             refine hK.out _ _ (a4_ BK456 (h4_ BK457)) (fun hHeld => ?_)
             clear hK K
             refine norm_ (a' := ?_) ?_ ?_
             rotate_left
             ·
              show Act.put _ (some 7) _ = _
              simp only [Act.put, List.setIfInBounds_toArray, List.set_cons_zero, List.set_cons_succ, i64_w, i32_w]
              rfl
             exact norm_ (by simp only [putAll, Act.put, List.setIfInBounds_toArray, List.set_cons_zero, List.set_cons_succ] <;> rfl) (hJ6_7 (gb467, gb468) _ ⟨hHeld, (bq_ BK456), (bq_ BK457), (bq_ BK458), (bq_ BK467), (bq_ BK468), GW467.out, GE467.out, NB456_467.out, NB467_456.out, NB457_467.out, NB467_457.out, NB458_467.out, NB467_458.out, NB468_467.out, NB467_468.out, GW468.out, GE468.out, NB456_468.out, NB468_456.out, NB457_468.out, NB468_457.out, NB458_468.out, NB468_458.out, (hq_ HB)⟩)
          ·
           rintro gb467 w12 ⟨hS_, h0_, h1_, h2_, h3_, h4_, h5_, h6_, h7_, h8_, h9_, h10_, h11_, h12_⟩
           replace BK456 := Aside0.mk h0_
           replace BK457 := Aside0.mk h1_
           replace BK458 := Aside0.mk h2_
           have BK467 := Aside0.mk h3_
           have GW467 := Aside0.mk h4_
           have GE467 := Aside0.mk h5_
           have NB456_467 := Aside0.mk h6_
           have NB467_456 := Aside0.mk h7_
           have NB457_467 := Aside0.mk h8_
           have NB467_457 := Aside0.mk h9_
           have NB458_467 := Aside0.mk h10_
           have NB467_458 := Aside0.mk h11_
           replace HB := Aside0.mk h12_
           clear h0_ h1_ h2_ h3_ h4_ h5_ h6_ h7_ h8_ h9_ h10_ h11_ h12_
           have hHeld := hS_
           refine norm_ (a' := ?_) ?_ ?_
           rotate_left
           ·
            simp only [putAll, Act.put, List.setIfInBounds_toArray, List.set_cons_zero, List.set_cons_succ]
            rfl
           refine two_ (i := 2) (j := 7) (Ni := some 11) (Nj := some 8) zq8.q10 zq8.q12 rfl rfl rfl rfl (two_of HT_.out (by kernel_rfl)) (by decide) (by decide) (fun K hK => ?_) (fun K hK => ?_)
           ·
            refine gs_ Try.func21 #[.agg #[.int .i64 a0_0, .int .i64 a0_1, .int .i64 a0_2, .int .i64 a0_3], .agg #[.int .i64 a1_0, .int .i64 a1_1, .int .i64 a1_2, .int .i64 a1_3]] ?_
            with_reducible refine (rect_Intersect.calls a0_0 a0_1 a0_2 a0_3 a1_0 a1_1 a1_2 a1_3 t459 t460 t461 t462 _ A4.out).mono ?_
            rintro e w13 ⟨rfl, hb⟩
            refine ⟨_, rfl, ?_⟩
            replace BK456 := bb_ BK456 hb
            replace BK457 := bb_ BK457 hb
            replace BK458 := bb_ BK458 hb
            replace BK467 := bb_ BK467 hb
            replace HB := hb_ HB hb
            (try clear hb); (try clear hb2); (try clear hk); (try clear hi)
            refine hK.out _ _ (a4_ BK456 (h4_ BK457)) (fun hHeld => ?_)
            clear hK K
            refine norm_ (a' := ?_) ?_ ?_
            rotate_left
            ·
             show Act.put _ (some 11) _ = _
             simp only [Act.put, List.setIfInBounds_toArray, List.set_cons_zero, List.set_cons_succ, i64_w, i32_w]
             rfl
            exact norm_ (by simp only [putAll, Act.put, List.setIfInBounds_toArray, List.set_cons_zero, List.set_cons_succ] <;> rfl) (hJ2_6 (gb467) _ ⟨hHeld, (bq_ BK456), (bq_ BK457), (bq_ BK458), (bq_ BK467), GW467.out, GE467.out, NB456_467.out, NB467_456.out, NB457_467.out, NB467_457.out, NB458_467.out, NB467_458.out, (hq_ HB)⟩)
           ·
            refine box_step ?hg (N := 8) ?hd (cs := #[.int .i64 0, .int .i64 0, .int .i64 0, .int .i64 0]) (t := 23) ?hr ?_; (case hd => rfl); (case hg => rfl); (case hr => first | (go_simp; done) | (go_simp; rfl))
            intro gb468 hg w13 hbox hb
            have BK468 := Aside0.mk (hbox)
            have GW468 := Aside0.mk ((by rw [hg]; exact (below_size (hq_ HB)) : w.heap.size ≤ gb468))
            have GE468 := Aside0.mk ((by rw [hg]; exact (below_size (hq_ HB)) : w.heap.size ≤ gb468))
            replace HB := hb_ HB hb
            have NB456_468 := Aside0.mk ((by rw [hg]; exact Nat.ne_of_lt (blk_lt (g := gb456) (o := .cells #[.int .i64 a0_0, .int .i64 a0_1, .int .i64 a0_2, .int .i64 a0_3] 23 (0, 0)) (bq_ BK456)) : gb456 ≠ gb468))
            have NB468_456 := Aside0.mk ((by rw [hg]; exact Nat.ne_of_gt (blk_lt (g := gb456) (o := .cells #[.int .i64 a0_0, .int .i64 a0_1, .int .i64 a0_2, .int .i64 a0_3] 23 (0, 0)) (bq_ BK456)) : gb468 ≠ gb456))
            replace BK456 := bb_ BK456 hb
            have NB457_468 := Aside0.mk ((by rw [hg]; exact Nat.ne_of_lt (blk_lt (g := gb457) (o := .cells #[.int .i64 a1_0, .int .i64 a1_1, .int .i64 a1_2, .int .i64 a1_3] 23 (0, 0)) (bq_ BK457)) : gb457 ≠ gb468))
            have NB468_457 := Aside0.mk ((by rw [hg]; exact Nat.ne_of_gt (blk_lt (g := gb457) (o := .cells #[.int .i64 a1_0, .int .i64 a1_1, .int .i64 a1_2, .int .i64 a1_3] 23 (0, 0)) (bq_ BK457)) : gb468 ≠ gb457))
            replace BK457 := bb_ BK457 hb
            have NB458_468 := Aside0.mk ((by rw [hg]; exact Nat.ne_of_lt (blk_lt (g := gb458) (o := .cells #[.int .i64 a2_0, .int .i64 a2_1, .int .i64 a2_2, .int .i64 a2_3] 23 (0, 0)) (bq_ BK458)) : gb458 ≠ gb468))
            have NB468_458 := Aside0.mk ((by rw [hg]; exact Nat.ne_of_gt (blk_lt (g := gb458) (o := .cells #[.int .i64 a2_0, .int .i64 a2_1, .int .i64 a2_2, .int .i64 a2_3] 23 (0, 0)) (bq_ BK458)) : gb468 ≠ gb458))
            replace BK458 := bb_ BK458 hb
            have NB467_468 := Aside0.mk ((by rw [hg]; exact Nat.ne_of_lt (blk_lt (g := gb467) (o := .cells #[.int .i64 0, .int .i64 0, .int .i64 0, .int .i64 0] 23 (0, 0)) (bq_ BK467)) : gb467 ≠ gb468))
            have NB468_467 := Aside0.mk ((by rw [hg]; exact Nat.ne_of_gt (blk_lt (g := gb467) (o := .cells #[.int .i64 0, .int .i64 0, .int .i64 0, .int .i64 0] 23 (0, 0)) (bq_ BK467)) : gb468 ≠ gb467))
            replace BK467 := bb_ BK467 hb
            clear hb hbox hg
            refine hK.out _ _ (a4_ BK456 (h4_ BK457)) (fun hHeld => ?_)
            clear hK K
            refine norm_ (a' := ?_) ?_ ?_
            rotate_left
            ·
             show Act.put _ (some 8) _ = _
             simp only [Act.put, List.setIfInBounds_toArray, List.set_cons_zero, List.set_cons_succ, i64_w, i32_w]
             rfl
            exact norm_ (by simp only [putAll, Act.put, List.setIfInBounds_toArray, List.set_cons_zero, List.set_cons_succ] <;> rfl) (hJ6_7 (gb467, gb468) _ ⟨hHeld, (bq_ BK456), (bq_ BK457), (bq_ BK458), (bq_ BK467), (bq_ BK468), GW467.out, GE467.out, NB456_467.out, NB467_456.out, NB457_467.out, NB467_457.out, NB458_467.out, NB467_458.out, NB468_467.out, NB467_468.out, GW468.out, GE468.out, NB456_468.out, NB468_456.out, NB457_468.out, NB468_457.out, NB458_468.out, NB468_458.out, (hq_ HB)⟩)
         ·
          rintro _ w12 ⟨hS_, h0_, h1_, h2_, h3_⟩
          replace BK456 := Aside0.mk h0_
          replace BK457 := Aside0.mk h1_
          replace BK458 := Aside0.mk h2_
          replace HB := Aside0.mk h3_
          clear h0_ h1_ h2_ h3_
          have hHeld := hS_
          refine norm_ (a' := ?_) ?_ ?_
          rotate_left
          ·
           simp only [putAll, Act.put, List.setIfInBounds_toArray, List.set_cons_zero, List.set_cons_succ]
           rfl
          refine three_ (i := 5) (j := 6) (k := 7) (Ni := some 14) (Nj := some 7) (Nk := some 8) zq8.q9 zq8.q10 zq8.q11 rfl rfl rfl rfl rfl rfl (three_of HT_.out (by kernel_rfl)) (by decide) (by decide) (by decide) (fun K hK => ?_) (fun K hK => ?_) (fun K hK => ?_)
          ·
           refine gs_ Try.func17 #[.agg #[.int .i64 a0_0, .int .i64 a0_1, .int .i64 a0_2, .int .i64 a0_3], .agg #[.int .i64 a1_0, .int .i64 a1_1, .int .i64 a1_2, .int .i64 a1_3]] ?_
           with_reducible refine (rect_Union.calls a0_0 a0_1 a0_2 a0_3 a1_0 a1_1 a1_2 a1_3 t463 t464 t465 t466 _ A5.out).mono ?_
           rintro e w13 ⟨rfl, hb⟩
           refine ⟨_, rfl, ?_⟩
           replace BK456 := bb_ BK456 hb
           replace BK457 := bb_ BK457 hb
           replace BK458 := bb_ BK458 hb
           replace HB := hb_ HB hb
           (try clear hb); (try clear hb2); (try clear hk); (try clear hi)
           refine hK.out _ _ (a4_ BK456 (h4_ BK457)) (fun hHeld => ?_)
           clear hK K
           refine norm_ (a' := ?_) ?_ ?_
           rotate_left
           ·
            show Act.put _ (some 14) _ = _
            simp only [Act.put, List.setIfInBounds_toArray, List.set_cons_zero, List.set_cons_succ, i64_w, i32_w]
            rfl
           exact norm_ (by simp only [putAll, Act.put, List.setIfInBounds_toArray, List.set_cons_zero, List.set_cons_succ] <;> rfl) (hJ2_5 () _ ⟨hHeld, (bq_ BK456), (bq_ BK457), (bq_ BK458), (hq_ HB)⟩)
          ·
           refine box_step ?hg (N := 7) ?hd (cs := #[.int .i64 0, .int .i64 0, .int .i64 0, .int .i64 0]) (t := 23) ?hr ?_; (case hd => rfl); (case hg => rfl); (case hr => first | (go_simp; done) | (go_simp; rfl))
           intro gb467 hg w13 hbox hb
           have BK467 := Aside0.mk (hbox)
           have GW467 := Aside0.mk ((by rw [hg]; exact (below_size (hq_ HB)) : w.heap.size ≤ gb467))
           have GE467 := Aside0.mk ((by rw [hg]; exact (below_size (hq_ HB)) : w.heap.size ≤ gb467))
           replace HB := hb_ HB hb
           have NB456_467 := Aside0.mk ((by rw [hg]; exact Nat.ne_of_lt (blk_lt (g := gb456) (o := .cells #[.int .i64 a0_0, .int .i64 a0_1, .int .i64 a0_2, .int .i64 a0_3] 23 (0, 0)) (bq_ BK456)) : gb456 ≠ gb467))
           have NB467_456 := Aside0.mk ((by rw [hg]; exact Nat.ne_of_gt (blk_lt (g := gb456) (o := .cells #[.int .i64 a0_0, .int .i64 a0_1, .int .i64 a0_2, .int .i64 a0_3] 23 (0, 0)) (bq_ BK456)) : gb467 ≠ gb456))
           replace BK456 := bb_ BK456 hb
           have NB457_467 := Aside0.mk ((by rw [hg]; exact Nat.ne_of_lt (blk_lt (g := gb457) (o := .cells #[.int .i64 a1_0, .int .i64 a1_1, .int .i64 a1_2, .int .i64 a1_3] 23 (0, 0)) (bq_ BK457)) : gb457 ≠ gb467))
           have NB467_457 := Aside0.mk ((by rw [hg]; exact Nat.ne_of_gt (blk_lt (g := gb457) (o := .cells #[.int .i64 a1_0, .int .i64 a1_1, .int .i64 a1_2, .int .i64 a1_3] 23 (0, 0)) (bq_ BK457)) : gb467 ≠ gb457))
           replace BK457 := bb_ BK457 hb
           have NB458_467 := Aside0.mk ((by rw [hg]; exact Nat.ne_of_lt (blk_lt (g := gb458) (o := .cells #[.int .i64 a2_0, .int .i64 a2_1, .int .i64 a2_2, .int .i64 a2_3] 23 (0, 0)) (bq_ BK458)) : gb458 ≠ gb467))
           have NB467_458 := Aside0.mk ((by rw [hg]; exact Nat.ne_of_gt (blk_lt (g := gb458) (o := .cells #[.int .i64 a2_0, .int .i64 a2_1, .int .i64 a2_2, .int .i64 a2_3] 23 (0, 0)) (bq_ BK458)) : gb467 ≠ gb458))
           replace BK458 := bb_ BK458 hb
           clear hb hbox hg
           refine hK.out _ _ (a4_ BK456 (h4_ BK457)) (fun hHeld => ?_)
           clear hK K
           refine norm_ (a' := ?_) ?_ ?_
           rotate_left
           ·
            show Act.put _ (some 7) _ = _
            simp only [Act.put, List.setIfInBounds_toArray, List.set_cons_zero, List.set_cons_succ, i64_w, i32_w]
            rfl
           exact norm_ (by simp only [putAll, Act.put, List.setIfInBounds_toArray, List.set_cons_zero, List.set_cons_succ] <;> rfl) (hJ2_6 (gb467) _ ⟨hHeld, (bq_ BK456), (bq_ BK457), (bq_ BK458), (bq_ BK467), GW467.out, GE467.out, NB456_467.out, NB467_456.out, NB457_467.out, NB467_457.out, NB458_467.out, NB467_458.out, (hq_ HB)⟩)
          ·
           refine box_step ?hg (N := 8) ?hd (cs := #[.int .i64 0, .int .i64 0, .int .i64 0, .int .i64 0]) (t := 23) ?hr ?_; (case hd => rfl); (case hg => rfl); (case hr => first | (go_simp; done) | (go_simp; rfl))
           intro gb468 hg w13 hbox hb
           have BK468 := Aside0.mk (hbox)
           have GW468 := Aside0.mk ((by rw [hg]; exact (below_size (hq_ HB)) : w.heap.size ≤ gb468))
           have GE468 := Aside0.mk ((by rw [hg]; exact (below_size (hq_ HB)) : w.heap.size ≤ gb468))
           replace HB := hb_ HB hb
           have NB456_468 := Aside0.mk ((by rw [hg]; exact Nat.ne_of_lt (blk_lt (g := gb456) (o := .cells #[.int .i64 a0_0, .int .i64 a0_1, .int .i64 a0_2, .int .i64 a0_3] 23 (0, 0)) (bq_ BK456)) : gb456 ≠ gb468))
           have NB468_456 := Aside0.mk ((by rw [hg]; exact Nat.ne_of_gt (blk_lt (g := gb456) (o := .cells #[.int .i64 a0_0, .int .i64 a0_1, .int .i64 a0_2, .int .i64 a0_3] 23 (0, 0)) (bq_ BK456)) : gb468 ≠ gb456))
           replace BK456 := bb_ BK456 hb
           have NB457_468 := Aside0.mk ((by rw [hg]; exact Nat.ne_of_lt (blk_lt (g := gb457) (o := .cells #[.int .i64 a1_0, .int .i64 a1_1, .int .i64 a1_2, .int .i64 a1_3] 23 (0, 0)) (bq_ BK457)) : gb457 ≠ gb468))
           have NB468_457 := Aside0.mk ((by rw [hg]; exact Nat.ne_of_gt (blk_lt (g := gb457) (o := .cells #[.int .i64 a1_0, .int .i64 a1_1, .int .i64 a1_2, .int .i64 a1_3] 23 (0, 0)) (bq_ BK457)) : gb468 ≠ gb457))
           replace BK457 := bb_ BK457 hb
           have NB458_468 := Aside0.mk ((by rw [hg]; exact Nat.ne_of_lt (blk_lt (g := gb458) (o := .cells #[.int .i64 a2_0, .int .i64 a2_1, .int .i64 a2_2, .int .i64 a2_3] 23 (0, 0)) (bq_ BK458)) : gb458 ≠ gb468))
           have NB468_458 := Aside0.mk ((by rw [hg]; exact Nat.ne_of_gt (blk_lt (g := gb458) (o := .cells #[.int .i64 a2_0, .int .i64 a2_1, .int .i64 a2_2, .int .i64 a2_3] 23 (0, 0)) (bq_ BK458)) : gb468 ≠ gb458))
           replace BK458 := bb_ BK458 hb
           clear hb hbox hg
           refine hK.out _ _ (a4_ BK456 (h4_ BK457)) (fun hHeld => ?_)
           clear hK K
           refine norm_ (a' := ?_) ?_ ?_
           rotate_left
           ·
            show Act.put _ (some 8) _ = _
            simp only [Act.put, List.setIfInBounds_toArray, List.set_cons_zero, List.set_cons_succ, i64_w, i32_w]
            rfl
           exact norm_ (by simp only [putAll, Act.put, List.setIfInBounds_toArray, List.set_cons_zero, List.set_cons_succ] <;> rfl) (hJ2_7 (gb468) _ ⟨hHeld, (bq_ BK456), (bq_ BK457), (bq_ BK458), (bq_ BK468), GW468.out, GE468.out, NB456_468.out, NB468_456.out, NB457_468.out, NB468_457.out, NB458_468.out, NB468_458.out, (hq_ HB)⟩)
        ·
         rintro ⟨gb467, gb468⟩ w13 ⟨hS_, h0_, h1_, h2_, h3_, h4_, h5_, h6_, h7_, h8_, h9_, h10_, h11_, h12_, h13_, h14_, h15_, h16_, h17_, h18_, h19_, h20_, h21_, h22_, h23_⟩
         replace BK456 := Aside0.mk h0_
         replace BK457 := Aside0.mk h1_
         replace BK458 := Aside0.mk h2_
         have BK467 := Aside0.mk h3_
         have BK468 := Aside0.mk h4_
         have GW467 := Aside0.mk h5_
         have GE467 := Aside0.mk h6_
         have NB456_467 := Aside0.mk h7_
         have NB467_456 := Aside0.mk h8_
         have NB457_467 := Aside0.mk h9_
         have NB467_457 := Aside0.mk h10_
         have NB458_467 := Aside0.mk h11_
         have NB467_458 := Aside0.mk h12_
         have NB468_467 := Aside0.mk h13_
         have NB467_468 := Aside0.mk h14_
         have GW468 := Aside0.mk h15_
         have GE468 := Aside0.mk h16_
         have NB456_468 := Aside0.mk h17_
         have NB468_456 := Aside0.mk h18_
         have NB457_468 := Aside0.mk h19_
         have NB468_457 := Aside0.mk h20_
         have NB458_468 := Aside0.mk h21_
         have NB468_458 := Aside0.mk h22_
         replace HB := Aside0.mk h23_
         clear h0_ h1_ h2_ h3_ h4_ h5_ h6_ h7_ h8_ h9_ h10_ h11_ h12_ h13_ h14_ h15_ h16_ h17_ h18_ h19_ h20_ h21_ h22_ h23_
         have hHeld := hS_
         refine norm_ (a' := ?_) ?_ ?_
         rotate_left
         ·
          simp only [putAll, Act.put, List.setIfInBounds_toArray, List.set_cons_zero, List.set_cons_succ]
          rfl
         refine one_ (i := 2) (N := some 11) zq8.q8 rfl rfl (one_of HT_.out (by kernel_rfl)) (by decide) (fun K hK => ?_)
         refine gs_ Try.func21 #[.agg #[.int .i64 a0_0, .int .i64 a0_1, .int .i64 a0_2, .int .i64 a0_3], .agg #[.int .i64 a1_0, .int .i64 a1_1, .int .i64 a1_2, .int .i64 a1_3]] ?_
         with_reducible refine (rect_Intersect.calls a0_0 a0_1 a0_2 a0_3 a1_0 a1_1 a1_2 a1_3 t459 t460 t461 t462 _ A4.out).mono ?_
         rintro e w14 ⟨rfl, hb⟩
         refine ⟨_, rfl, ?_⟩
         replace BK456 := bb_ BK456 hb
         replace BK457 := bb_ BK457 hb
         replace BK458 := bb_ BK458 hb
         replace BK467 := bb_ BK467 hb
         replace BK468 := bb_ BK468 hb
         replace HB := hb_ HB hb
         (try clear hb); (try clear hb2); (try clear hk); (try clear hi)
         refine hK.out _ _ (a4_ BK456 (h4_ BK457)) (fun hHeld => ?_)
         clear hK K
         refine norm_ (a' := ?_) ?_ ?_
         rotate_left
         ·
          show Act.put _ (some 11) _ = _
          simp only [Act.put, List.setIfInBounds_toArray, List.set_cons_zero, List.set_cons_succ, i64_w, i32_w]
          rfl
         exact norm_ (by simp only [putAll, Act.put, List.setIfInBounds_toArray, List.set_cons_zero, List.set_cons_succ] <;> rfl) (hJ2_6_7 (gb467, gb468) _ ⟨hHeld, (bq_ BK456), (bq_ BK457), (bq_ BK458), (bq_ BK467), (bq_ BK468), GW467.out, GE467.out, NB456_467.out, NB467_456.out, NB457_467.out, NB467_457.out, NB458_467.out, NB467_458.out, NB468_467.out, NB467_468.out, GW468.out, GE468.out, NB456_468.out, NB468_456.out, NB457_468.out, NB468_457.out, NB458_468.out, NB468_458.out, (hq_ HB)⟩)
       ·
        rintro gb468 w13 ⟨hS_, h0_, h1_, h2_, h3_, h4_, h5_, h6_, h7_, h8_, h9_, h10_, h11_, h12_⟩
        replace BK456 := Aside0.mk h0_
        replace BK457 := Aside0.mk h1_
        replace BK458 := Aside0.mk h2_
        have BK468 := Aside0.mk h3_
        have GW468 := Aside0.mk h4_
        have GE468 := Aside0.mk h5_
        have NB456_468 := Aside0.mk h6_
        have NB468_456 := Aside0.mk h7_
        have NB457_468 := Aside0.mk h8_
        have NB468_457 := Aside0.mk h9_
        have NB458_468 := Aside0.mk h10_
        have NB468_458 := Aside0.mk h11_
        replace HB := Aside0.mk h12_
        clear h0_ h1_ h2_ h3_ h4_ h5_ h6_ h7_ h8_ h9_ h10_ h11_ h12_
        have hHeld := hS_
        refine norm_ (a' := ?_) ?_ ?_
        rotate_left
        ·
         simp only [putAll, Act.put, List.setIfInBounds_toArray, List.set_cons_zero, List.set_cons_succ]
         rfl
        refine two_ (i := 5) (j := 6) (Ni := some 14) (Nj := some 7) zq8.q7 zq8.q8 rfl rfl rfl rfl (two_of HT_.out (by kernel_rfl)) (by decide) (by decide) (fun K hK => ?_) (fun K hK => ?_)
        ·
         refine gs_ Try.func17 #[.agg #[.int .i64 a0_0, .int .i64 a0_1, .int .i64 a0_2, .int .i64 a0_3], .agg #[.int .i64 a1_0, .int .i64 a1_1, .int .i64 a1_2, .int .i64 a1_3]] ?_
         with_reducible refine (rect_Union.calls a0_0 a0_1 a0_2 a0_3 a1_0 a1_1 a1_2 a1_3 t463 t464 t465 t466 _ A5.out).mono ?_
         rintro e w14 ⟨rfl, hb⟩
         refine ⟨_, rfl, ?_⟩
         replace BK456 := bb_ BK456 hb
         replace BK457 := bb_ BK457 hb
         replace BK458 := bb_ BK458 hb
         replace BK468 := bb_ BK468 hb
         replace HB := hb_ HB hb
         (try clear hb); (try clear hb2); (try clear hk); (try clear hi)
         refine hK.out _ _ (a4_ BK456 (h4_ BK457)) (fun hHeld => ?_)
         clear hK K
         refine norm_ (a' := ?_) ?_ ?_
         rotate_left
         ·
          show Act.put _ (some 14) _ = _
          simp only [Act.put, List.setIfInBounds_toArray, List.set_cons_zero, List.set_cons_succ, i64_w, i32_w]
          rfl
         exact norm_ (by simp only [putAll, Act.put, List.setIfInBounds_toArray, List.set_cons_zero, List.set_cons_succ] <;> rfl) (hJ2_5_7 (gb468) _ ⟨hHeld, (bq_ BK456), (bq_ BK457), (bq_ BK458), (bq_ BK468), GW468.out, GE468.out, NB456_468.out, NB468_456.out, NB457_468.out, NB468_457.out, NB458_468.out, NB468_458.out, (hq_ HB)⟩)
        ·
         refine box_step ?hg (N := 7) ?hd (cs := #[.int .i64 0, .int .i64 0, .int .i64 0, .int .i64 0]) (t := 23) ?hr ?_; (case hd => rfl); (case hg => rfl); (case hr => first | (go_simp; done) | (go_simp; rfl))
         intro gb467 hg w14 hbox hb
         have BK467 := Aside0.mk (hbox)
         have GW467 := Aside0.mk ((by rw [hg]; exact (below_size (hq_ HB)) : w.heap.size ≤ gb467))
         have GE467 := Aside0.mk ((by rw [hg]; exact (below_size (hq_ HB)) : w.heap.size ≤ gb467))
         replace HB := hb_ HB hb
         have NB456_467 := Aside0.mk ((by rw [hg]; exact Nat.ne_of_lt (blk_lt (g := gb456) (o := .cells #[.int .i64 a0_0, .int .i64 a0_1, .int .i64 a0_2, .int .i64 a0_3] 23 (0, 0)) (bq_ BK456)) : gb456 ≠ gb467))
         have NB467_456 := Aside0.mk ((by rw [hg]; exact Nat.ne_of_gt (blk_lt (g := gb456) (o := .cells #[.int .i64 a0_0, .int .i64 a0_1, .int .i64 a0_2, .int .i64 a0_3] 23 (0, 0)) (bq_ BK456)) : gb467 ≠ gb456))
         replace BK456 := bb_ BK456 hb
         have NB457_467 := Aside0.mk ((by rw [hg]; exact Nat.ne_of_lt (blk_lt (g := gb457) (o := .cells #[.int .i64 a1_0, .int .i64 a1_1, .int .i64 a1_2, .int .i64 a1_3] 23 (0, 0)) (bq_ BK457)) : gb457 ≠ gb467))
         have NB467_457 := Aside0.mk ((by rw [hg]; exact Nat.ne_of_gt (blk_lt (g := gb457) (o := .cells #[.int .i64 a1_0, .int .i64 a1_1, .int .i64 a1_2, .int .i64 a1_3] 23 (0, 0)) (bq_ BK457)) : gb467 ≠ gb457))
         replace BK457 := bb_ BK457 hb
         have NB458_467 := Aside0.mk ((by rw [hg]; exact Nat.ne_of_lt (blk_lt (g := gb458) (o := .cells #[.int .i64 a2_0, .int .i64 a2_1, .int .i64 a2_2, .int .i64 a2_3] 23 (0, 0)) (bq_ BK458)) : gb458 ≠ gb467))
         have NB467_458 := Aside0.mk ((by rw [hg]; exact Nat.ne_of_gt (blk_lt (g := gb458) (o := .cells #[.int .i64 a2_0, .int .i64 a2_1, .int .i64 a2_2, .int .i64 a2_3] 23 (0, 0)) (bq_ BK458)) : gb467 ≠ gb458))
         replace BK458 := bb_ BK458 hb
         have NB468_467 := Aside0.mk ((by rw [hg]; exact Nat.ne_of_lt (blk_lt (g := gb468) (o := .cells #[.int .i64 0, .int .i64 0, .int .i64 0, .int .i64 0] 23 (0, 0)) (bq_ BK468)) : gb468 ≠ gb467))
         have NB467_468 := Aside0.mk ((by rw [hg]; exact Nat.ne_of_gt (blk_lt (g := gb468) (o := .cells #[.int .i64 0, .int .i64 0, .int .i64 0, .int .i64 0] 23 (0, 0)) (bq_ BK468)) : gb467 ≠ gb468))
         replace BK468 := bb_ BK468 hb
         clear hb hbox hg
         refine hK.out _ _ (a4_ BK456 (h4_ BK457)) (fun hHeld => ?_)
         clear hK K
         refine norm_ (a' := ?_) ?_ ?_
         rotate_left
         ·
          show Act.put _ (some 7) _ = _
          simp only [Act.put, List.setIfInBounds_toArray, List.set_cons_zero, List.set_cons_succ, i64_w, i32_w]
          rfl
         exact norm_ (by simp only [putAll, Act.put, List.setIfInBounds_toArray, List.set_cons_zero, List.set_cons_succ] <;> rfl) (hJ2_6_7 (gb467, gb468) _ ⟨hHeld, (bq_ BK456), (bq_ BK457), (bq_ BK458), (bq_ BK467), (bq_ BK468), GW467.out, GE467.out, NB456_467.out, NB467_456.out, NB457_467.out, NB467_457.out, NB458_467.out, NB467_458.out, NB468_467.out, NB467_468.out, GW468.out, GE468.out, NB456_468.out, NB468_456.out, NB457_468.out, NB468_457.out, NB458_468.out, NB468_458.out, (hq_ HB)⟩)
      ·
       rintro gb467 w13 ⟨hS_, h0_, h1_, h2_, h3_, h4_, h5_, h6_, h7_, h8_, h9_, h10_, h11_, h12_⟩
       replace BK456 := Aside0.mk h0_
       replace BK457 := Aside0.mk h1_
       replace BK458 := Aside0.mk h2_
       have BK467 := Aside0.mk h3_
       have GW467 := Aside0.mk h4_
       have GE467 := Aside0.mk h5_
       have NB456_467 := Aside0.mk h6_
       have NB467_456 := Aside0.mk h7_
       have NB457_467 := Aside0.mk h8_
       have NB467_457 := Aside0.mk h9_
       have NB458_467 := Aside0.mk h10_
       have NB467_458 := Aside0.mk h11_
       replace HB := Aside0.mk h12_
       clear h0_ h1_ h2_ h3_ h4_ h5_ h6_ h7_ h8_ h9_ h10_ h11_ h12_
       have hHeld := hS_
       refine norm_ (a' := ?_) ?_ ?_
       rotate_left
       ·
        simp only [putAll, Act.put, List.setIfInBounds_toArray, List.set_cons_zero, List.set_cons_succ]
        rfl
       refine two_ (i := 5) (j := 7) (Ni := some 14) (Nj := some 8) zq8.q6 zq8.q8 rfl rfl rfl rfl (two_of HT_.out (by kernel_rfl)) (by decide) (by decide) (fun K hK => ?_) (fun K hK => ?_)
       ·
        refine gs_ Try.func17 #[.agg #[.int .i64 a0_0, .int .i64 a0_1, .int .i64 a0_2, .int .i64 a0_3], .agg #[.int .i64 a1_0, .int .i64 a1_1, .int .i64 a1_2, .int .i64 a1_3]] ?_
        with_reducible refine (rect_Union.calls a0_0 a0_1 a0_2 a0_3 a1_0 a1_1 a1_2 a1_3 t463 t464 t465 t466 _ A5.out).mono ?_
        rintro e w14 ⟨rfl, hb⟩
        refine ⟨_, rfl, ?_⟩
        replace BK456 := bb_ BK456 hb
        replace BK457 := bb_ BK457 hb
        replace BK458 := bb_ BK458 hb
        replace BK467 := bb_ BK467 hb
        replace HB := hb_ HB hb
        (try clear hb); (try clear hb2); (try clear hk); (try clear hi)
        refine hK.out _ _ (a4_ BK456 (h4_ BK457)) (fun hHeld => ?_)
        clear hK K
        refine norm_ (a' := ?_) ?_ ?_
        rotate_left
        ·
         show Act.put _ (some 14) _ = _
         simp only [Act.put, List.setIfInBounds_toArray, List.set_cons_zero, List.set_cons_succ, i64_w, i32_w]
         rfl
        exact norm_ (by simp only [putAll, Act.put, List.setIfInBounds_toArray, List.set_cons_zero, List.set_cons_succ] <;> rfl) (hJ2_5_6 (gb467) _ ⟨hHeld, (bq_ BK456), (bq_ BK457), (bq_ BK458), (bq_ BK467), GW467.out, GE467.out, NB456_467.out, NB467_456.out, NB457_467.out, NB467_457.out, NB458_467.out, NB467_458.out, (hq_ HB)⟩)
       ·
        refine box_step ?hg (N := 8) ?hd (cs := #[.int .i64 0, .int .i64 0, .int .i64 0, .int .i64 0]) (t := 23) ?hr ?_; (case hd => rfl); (case hg => rfl); (case hr => first | (go_simp; done) | (go_simp; rfl))
        intro gb468 hg w14 hbox hb
        have BK468 := Aside0.mk (hbox)
        have GW468 := Aside0.mk ((by rw [hg]; exact (below_size (hq_ HB)) : w.heap.size ≤ gb468))
        have GE468 := Aside0.mk ((by rw [hg]; exact (below_size (hq_ HB)) : w.heap.size ≤ gb468))
        replace HB := hb_ HB hb
        have NB456_468 := Aside0.mk ((by rw [hg]; exact Nat.ne_of_lt (blk_lt (g := gb456) (o := .cells #[.int .i64 a0_0, .int .i64 a0_1, .int .i64 a0_2, .int .i64 a0_3] 23 (0, 0)) (bq_ BK456)) : gb456 ≠ gb468))
        have NB468_456 := Aside0.mk ((by rw [hg]; exact Nat.ne_of_gt (blk_lt (g := gb456) (o := .cells #[.int .i64 a0_0, .int .i64 a0_1, .int .i64 a0_2, .int .i64 a0_3] 23 (0, 0)) (bq_ BK456)) : gb468 ≠ gb456))
        replace BK456 := bb_ BK456 hb
        have NB457_468 := Aside0.mk ((by rw [hg]; exact Nat.ne_of_lt (blk_lt (g := gb457) (o := .cells #[.int .i64 a1_0, .int .i64 a1_1, .int .i64 a1_2, .int .i64 a1_3] 23 (0, 0)) (bq_ BK457)) : gb457 ≠ gb468))
        have NB468_457 := Aside0.mk ((by rw [hg]; exact Nat.ne_of_gt (blk_lt (g := gb457) (o := .cells #[.int .i64 a1_0, .int .i64 a1_1, .int .i64 a1_2, .int .i64 a1_3] 23 (0, 0)) (bq_ BK457)) : gb468 ≠ gb457))
        replace BK457 := bb_ BK457 hb
        have NB458_468 := Aside0.mk ((by rw [hg]; exact Nat.ne_of_lt (blk_lt (g := gb458) (o := .cells #[.int .i64 a2_0, .int .i64 a2_1, .int .i64 a2_2, .int .i64 a2_3] 23 (0, 0)) (bq_ BK458)) : gb458 ≠ gb468))
        have NB468_458 := Aside0.mk ((by rw [hg]; exact Nat.ne_of_gt (blk_lt (g := gb458) (o := .cells #[.int .i64 a2_0, .int .i64 a2_1, .int .i64 a2_2, .int .i64 a2_3] 23 (0, 0)) (bq_ BK458)) : gb468 ≠ gb458))
        replace BK458 := bb_ BK458 hb
        have NB467_468 := Aside0.mk ((by rw [hg]; exact Nat.ne_of_lt (blk_lt (g := gb467) (o := .cells #[.int .i64 0, .int .i64 0, .int .i64 0, .int .i64 0] 23 (0, 0)) (bq_ BK467)) : gb467 ≠ gb468))
        have NB468_467 := Aside0.mk ((by rw [hg]; exact Nat.ne_of_gt (blk_lt (g := gb467) (o := .cells #[.int .i64 0, .int .i64 0, .int .i64 0, .int .i64 0] 23 (0, 0)) (bq_ BK467)) : gb468 ≠ gb467))
        replace BK467 := bb_ BK467 hb
        clear hb hbox hg
        refine hK.out _ _ (a4_ BK456 (h4_ BK457)) (fun hHeld => ?_)
        clear hK K
        refine norm_ (a' := ?_) ?_ ?_
        rotate_left
        ·
         show Act.put _ (some 8) _ = _
         simp only [Act.put, List.setIfInBounds_toArray, List.set_cons_zero, List.set_cons_succ, i64_w, i32_w]
         rfl
        exact norm_ (by simp only [putAll, Act.put, List.setIfInBounds_toArray, List.set_cons_zero, List.set_cons_succ] <;> rfl) (hJ2_6_7 (gb467, gb468) _ ⟨hHeld, (bq_ BK456), (bq_ BK457), (bq_ BK458), (bq_ BK467), (bq_ BK468), GW467.out, GE467.out, NB456_467.out, NB467_456.out, NB457_467.out, NB467_457.out, NB458_467.out, NB467_458.out, NB468_467.out, NB467_468.out, GW468.out, GE468.out, NB456_468.out, NB468_456.out, NB457_468.out, NB468_457.out, NB458_468.out, NB468_458.out, (hq_ HB)⟩)
     ·
      rintro _ w13 ⟨hS_, h0_, h1_, h2_, h3_⟩
      replace BK456 := Aside0.mk h0_
      replace BK457 := Aside0.mk h1_
      replace BK458 := Aside0.mk h2_
      replace HB := Aside0.mk h3_
      clear h0_ h1_ h2_ h3_
      have hHeld := hS_
      refine norm_ (a' := ?_) ?_ ?_
      rotate_left
      ·
       simp only [putAll, Act.put, List.setIfInBounds_toArray, List.set_cons_zero, List.set_cons_succ]
       rfl
      refine two_ (i := 6) (j := 7) (Ni := some 7) (Nj := some 8) zq8.q6 zq8.q7 rfl rfl rfl rfl (two_of HT_.out (by kernel_rfl)) (by decide) (by decide) (fun K hK => ?_) (fun K hK => ?_)
      ·
       refine box_step ?hg (N := 7) ?hd (cs := #[.int .i64 0, .int .i64 0, .int .i64 0, .int .i64 0]) (t := 23) ?hr ?_; (case hd => rfl); (case hg => rfl); (case hr => first | (go_simp; done) | (go_simp; rfl))
       intro gb467 hg w14 hbox hb
       have BK467 := Aside0.mk (hbox)
       have GW467 := Aside0.mk ((by rw [hg]; exact (below_size (hq_ HB)) : w.heap.size ≤ gb467))
       have GE467 := Aside0.mk ((by rw [hg]; exact (below_size (hq_ HB)) : w.heap.size ≤ gb467))
       replace HB := hb_ HB hb
       have NB456_467 := Aside0.mk ((by rw [hg]; exact Nat.ne_of_lt (blk_lt (g := gb456) (o := .cells #[.int .i64 a0_0, .int .i64 a0_1, .int .i64 a0_2, .int .i64 a0_3] 23 (0, 0)) (bq_ BK456)) : gb456 ≠ gb467))
       have NB467_456 := Aside0.mk ((by rw [hg]; exact Nat.ne_of_gt (blk_lt (g := gb456) (o := .cells #[.int .i64 a0_0, .int .i64 a0_1, .int .i64 a0_2, .int .i64 a0_3] 23 (0, 0)) (bq_ BK456)) : gb467 ≠ gb456))
       replace BK456 := bb_ BK456 hb
       have NB457_467 := Aside0.mk ((by rw [hg]; exact Nat.ne_of_lt (blk_lt (g := gb457) (o := .cells #[.int .i64 a1_0, .int .i64 a1_1, .int .i64 a1_2, .int .i64 a1_3] 23 (0, 0)) (bq_ BK457)) : gb457 ≠ gb467))
       have NB467_457 := Aside0.mk ((by rw [hg]; exact Nat.ne_of_gt (blk_lt (g := gb457) (o := .cells #[.int .i64 a1_0, .int .i64 a1_1, .int .i64 a1_2, .int .i64 a1_3] 23 (0, 0)) (bq_ BK457)) : gb467 ≠ gb457))
       replace BK457 := bb_ BK457 hb
       have NB458_467 := Aside0.mk ((by rw [hg]; exact Nat.ne_of_lt (blk_lt (g := gb458) (o := .cells #[.int .i64 a2_0, .int .i64 a2_1, .int .i64 a2_2, .int .i64 a2_3] 23 (0, 0)) (bq_ BK458)) : gb458 ≠ gb467))
       have NB467_458 := Aside0.mk ((by rw [hg]; exact Nat.ne_of_gt (blk_lt (g := gb458) (o := .cells #[.int .i64 a2_0, .int .i64 a2_1, .int .i64 a2_2, .int .i64 a2_3] 23 (0, 0)) (bq_ BK458)) : gb467 ≠ gb458))
       replace BK458 := bb_ BK458 hb
       clear hb hbox hg
       refine hK.out _ _ (a4_ BK456 (h4_ BK457)) (fun hHeld => ?_)
       clear hK K
       refine norm_ (a' := ?_) ?_ ?_
       rotate_left
       ·
        show Act.put _ (some 7) _ = _
        simp only [Act.put, List.setIfInBounds_toArray, List.set_cons_zero, List.set_cons_succ, i64_w, i32_w]
        rfl
       exact norm_ (by simp only [putAll, Act.put, List.setIfInBounds_toArray, List.set_cons_zero, List.set_cons_succ] <;> rfl) (hJ2_5_6 (gb467) _ ⟨hHeld, (bq_ BK456), (bq_ BK457), (bq_ BK458), (bq_ BK467), GW467.out, GE467.out, NB456_467.out, NB467_456.out, NB457_467.out, NB467_457.out, NB458_467.out, NB467_458.out, (hq_ HB)⟩)
      ·
       refine box_step ?hg (N := 8) ?hd (cs := #[.int .i64 0, .int .i64 0, .int .i64 0, .int .i64 0]) (t := 23) ?hr ?_; (case hd => rfl); (case hg => rfl); (case hr => first | (go_simp; done) | (go_simp; rfl))
       intro gb468 hg w14 hbox hb
       have BK468 := Aside0.mk (hbox)
       have GW468 := Aside0.mk ((by rw [hg]; exact (below_size (hq_ HB)) : w.heap.size ≤ gb468))
       have GE468 := Aside0.mk ((by rw [hg]; exact (below_size (hq_ HB)) : w.heap.size ≤ gb468))
       replace HB := hb_ HB hb
       have NB456_468 := Aside0.mk ((by rw [hg]; exact Nat.ne_of_lt (blk_lt (g := gb456) (o := .cells #[.int .i64 a0_0, .int .i64 a0_1, .int .i64 a0_2, .int .i64 a0_3] 23 (0, 0)) (bq_ BK456)) : gb456 ≠ gb468))
       have NB468_456 := Aside0.mk ((by rw [hg]; exact Nat.ne_of_gt (blk_lt (g := gb456) (o := .cells #[.int .i64 a0_0, .int .i64 a0_1, .int .i64 a0_2, .int .i64 a0_3] 23 (0, 0)) (bq_ BK456)) : gb468 ≠ gb456))
       replace BK456 := bb_ BK456 hb
       have NB457_468 := Aside0.mk ((by rw [hg]; exact Nat.ne_of_lt (blk_lt (g := gb457) (o := .cells #[.int .i64 a1_0, .int .i64 a1_1, .int .i64 a1_2, .int .i64 a1_3] 23 (0, 0)) (bq_ BK457)) : gb457 ≠ gb468))
       have NB468_457 := Aside0.mk ((by rw [hg]; exact Nat.ne_of_gt (blk_lt (g := gb457) (o := .cells #[.int .i64 a1_0, .int .i64 a1_1, .int .i64 a1_2, .int .i64 a1_3] 23 (0, 0)) (bq_ BK457)) : gb468 ≠ gb457))
       replace BK457 := bb_ BK457 hb
       have NB458_468 := Aside0.mk ((by rw [hg]; exact Nat.ne_of_lt (blk_lt (g := gb458) (o := .cells #[.int .i64 a2_0, .int .i64 a2_1, .int .i64 a2_2, .int .i64 a2_3] 23 (0, 0)) (bq_ BK458)) : gb458 ≠ gb468))
       have NB468_458 := Aside0.mk ((by rw [hg]; exact Nat.ne_of_gt (blk_lt (g := gb458) (o := .cells #[.int .i64 a2_0, .int .i64 a2_1, .int .i64 a2_2, .int .i64 a2_3] 23 (0, 0)) (bq_ BK458)) : gb468 ≠ gb458))
       replace BK458 := bb_ BK458 hb
       clear hb hbox hg
       refine hK.out _ _ (a4_ BK456 (h4_ BK457)) (fun hHeld => ?_)
       clear hK K
       refine norm_ (a' := ?_) ?_ ?_
       rotate_left
       ·
        show Act.put _ (some 8) _ = _
        simp only [Act.put, List.setIfInBounds_toArray, List.set_cons_zero, List.set_cons_succ, i64_w, i32_w]
        rfl
       exact norm_ (by simp only [putAll, Act.put, List.setIfInBounds_toArray, List.set_cons_zero, List.set_cons_succ] <;> rfl) (hJ2_5_7 (gb468) _ ⟨hHeld, (bq_ BK456), (bq_ BK457), (bq_ BK458), (bq_ BK468), GW468.out, GE468.out, NB456_468.out, NB468_456.out, NB457_468.out, NB468_457.out, NB458_468.out, NB468_458.out, (hq_ HB)⟩)
    ·
     rintro ⟨gb467, gb468⟩ w14 ⟨hS_, h0_, h1_, h2_, h3_, h4_, h5_, h6_, h7_, h8_, h9_, h10_, h11_, h12_, h13_, h14_, h15_, h16_, h17_, h18_, h19_, h20_, h21_, h22_, h23_⟩
     replace BK456 := Aside0.mk h0_
     replace BK457 := Aside0.mk h1_
     replace BK458 := Aside0.mk h2_
     have BK467 := Aside0.mk h3_
     have BK468 := Aside0.mk h4_
     have GW467 := Aside0.mk h5_
     have GE467 := Aside0.mk h6_
     have NB456_467 := Aside0.mk h7_
     have NB467_456 := Aside0.mk h8_
     have NB457_467 := Aside0.mk h9_
     have NB467_457 := Aside0.mk h10_
     have NB458_467 := Aside0.mk h11_
     have NB467_458 := Aside0.mk h12_
     have NB468_467 := Aside0.mk h13_
     have NB467_468 := Aside0.mk h14_
     have GW468 := Aside0.mk h15_
     have GE468 := Aside0.mk h16_
     have NB456_468 := Aside0.mk h17_
     have NB468_456 := Aside0.mk h18_
     have NB457_468 := Aside0.mk h19_
     have NB468_457 := Aside0.mk h20_
     have NB458_468 := Aside0.mk h21_
     have NB468_458 := Aside0.mk h22_
     replace HB := Aside0.mk h23_
     clear h0_ h1_ h2_ h3_ h4_ h5_ h6_ h7_ h8_ h9_ h10_ h11_ h12_ h13_ h14_ h15_ h16_ h17_ h18_ h19_ h20_ h21_ h22_ h23_
     have hHeld := hS_
     refine norm_ (a' := ?_) ?_ ?_
     rotate_left
     ·
      simp only [putAll, Act.put, List.setIfInBounds_toArray, List.set_cons_zero, List.set_cons_succ]
      rfl
     refine one_ (i := 5) (N := some 14) zq8.q5 rfl rfl (one_of HT_.out (by kernel_rfl)) (by decide) (fun K hK => ?_)
     refine gs_ Try.func17 #[.agg #[.int .i64 a0_0, .int .i64 a0_1, .int .i64 a0_2, .int .i64 a0_3], .agg #[.int .i64 a1_0, .int .i64 a1_1, .int .i64 a1_2, .int .i64 a1_3]] ?_
     with_reducible refine (rect_Union.calls a0_0 a0_1 a0_2 a0_3 a1_0 a1_1 a1_2 a1_3 t463 t464 t465 t466 _ A5.out).mono ?_
     rintro e w15 ⟨rfl, hb⟩
     refine ⟨_, rfl, ?_⟩
     replace BK456 := bb_ BK456 hb
     replace BK457 := bb_ BK457 hb
     replace BK458 := bb_ BK458 hb
     replace BK467 := bb_ BK467 hb
     replace BK468 := bb_ BK468 hb
     replace HB := hb_ HB hb
     (try clear hb); (try clear hb2); (try clear hk); (try clear hi)
     refine hK.out _ _ (a4_ BK456 (h4_ BK457)) (fun hHeld => ?_)
     clear hK K
     refine norm_ (a' := ?_) ?_ ?_
     rotate_left
     ·
      show Act.put _ (some 14) _ = _
      simp only [Act.put, List.setIfInBounds_toArray, List.set_cons_zero, List.set_cons_succ, i64_w, i32_w]
      rfl
     exact norm_ (by simp only [putAll, Act.put, List.setIfInBounds_toArray, List.set_cons_zero, List.set_cons_succ] <;> rfl) (hJ2_5_6_7 (gb467, gb468) _ ⟨hHeld, (bq_ BK456), (bq_ BK457), (bq_ BK458), (bq_ BK467), (bq_ BK468), GW467.out, GE467.out, NB456_467.out, NB467_456.out, NB457_467.out, NB467_457.out, NB458_467.out, NB467_458.out, NB468_467.out, NB467_468.out, GW468.out, GE468.out, NB456_468.out, NB468_456.out, NB457_468.out, NB468_457.out, NB458_468.out, NB468_458.out, (hq_ HB)⟩)
   ·
    rintro gb468 w14 ⟨hS_, h0_, h1_, h2_, h3_, h4_, h5_, h6_, h7_, h8_, h9_, h10_, h11_, h12_⟩
    replace BK456 := Aside0.mk h0_
    replace BK457 := Aside0.mk h1_
    replace BK458 := Aside0.mk h2_
    have BK468 := Aside0.mk h3_
    have GW468 := Aside0.mk h4_
    have GE468 := Aside0.mk h5_
    have NB456_468 := Aside0.mk h6_
    have NB468_456 := Aside0.mk h7_
    have NB457_468 := Aside0.mk h8_
    have NB468_457 := Aside0.mk h9_
    have NB458_468 := Aside0.mk h10_
    have NB468_458 := Aside0.mk h11_
    replace HB := Aside0.mk h12_
    clear h0_ h1_ h2_ h3_ h4_ h5_ h6_ h7_ h8_ h9_ h10_ h11_ h12_
    have hHeld := hS_
    refine norm_ (a' := ?_) ?_ ?_
    rotate_left
    ·
     simp only [putAll, Act.put, List.setIfInBounds_toArray, List.set_cons_zero, List.set_cons_succ]
     rfl
    refine one_ (i := 6) (N := some 7) zq8.q5 rfl rfl (one_of HT_.out (by kernel_rfl)) (by decide) (fun K hK => ?_)
    refine box_step ?hg (N := 7) ?hd (cs := #[.int .i64 0, .int .i64 0, .int .i64 0, .int .i64 0]) (t := 23) ?hr ?_; (case hd => rfl); (case hg => rfl); (case hr => first | (go_simp; done) | (go_simp; rfl))
    intro gb467 hg w15 hbox hb
    have BK467 := Aside0.mk (hbox)
    have GW467 := Aside0.mk ((by rw [hg]; exact (below_size (hq_ HB)) : w.heap.size ≤ gb467))
    have GE467 := Aside0.mk ((by rw [hg]; exact (below_size (hq_ HB)) : w.heap.size ≤ gb467))
    replace HB := hb_ HB hb
    have NB456_467 := Aside0.mk ((by rw [hg]; exact Nat.ne_of_lt (blk_lt (g := gb456) (o := .cells #[.int .i64 a0_0, .int .i64 a0_1, .int .i64 a0_2, .int .i64 a0_3] 23 (0, 0)) (bq_ BK456)) : gb456 ≠ gb467))
    have NB467_456 := Aside0.mk ((by rw [hg]; exact Nat.ne_of_gt (blk_lt (g := gb456) (o := .cells #[.int .i64 a0_0, .int .i64 a0_1, .int .i64 a0_2, .int .i64 a0_3] 23 (0, 0)) (bq_ BK456)) : gb467 ≠ gb456))
    replace BK456 := bb_ BK456 hb
    have NB457_467 := Aside0.mk ((by rw [hg]; exact Nat.ne_of_lt (blk_lt (g := gb457) (o := .cells #[.int .i64 a1_0, .int .i64 a1_1, .int .i64 a1_2, .int .i64 a1_3] 23 (0, 0)) (bq_ BK457)) : gb457 ≠ gb467))
    have NB467_457 := Aside0.mk ((by rw [hg]; exact Nat.ne_of_gt (blk_lt (g := gb457) (o := .cells #[.int .i64 a1_0, .int .i64 a1_1, .int .i64 a1_2, .int .i64 a1_3] 23 (0, 0)) (bq_ BK457)) : gb467 ≠ gb457))
    replace BK457 := bb_ BK457 hb
    have NB458_467 := Aside0.mk ((by rw [hg]; exact Nat.ne_of_lt (blk_lt (g := gb458) (o := .cells #[.int .i64 a2_0, .int .i64 a2_1, .int .i64 a2_2, .int .i64 a2_3] 23 (0, 0)) (bq_ BK458)) : gb458 ≠ gb467))
    have NB467_458 := Aside0.mk ((by rw [hg]; exact Nat.ne_of_gt (blk_lt (g := gb458) (o := .cells #[.int .i64 a2_0, .int .i64 a2_1, .int .i64 a2_2, .int .i64 a2_3] 23 (0, 0)) (bq_ BK458)) : gb467 ≠ gb458))
    replace BK458 := bb_ BK458 hb
    have NB468_467 := Aside0.mk ((by rw [hg]; exact Nat.ne_of_lt (blk_lt (g := gb468) (o := .cells #[.int .i64 0, .int .i64 0, .int .i64 0, .int .i64 0] 23 (0, 0)) (bq_ BK468)) : gb468 ≠ gb467))
    have NB467_468 := Aside0.mk ((by rw [hg]; exact Nat.ne_of_gt (blk_lt (g := gb468) (o := .cells #[.int .i64 0, .int .i64 0, .int .i64 0, .int .i64 0] 23 (0, 0)) (bq_ BK468)) : gb467 ≠ gb468))
    replace BK468 := bb_ BK468 hb
    clear hb hbox hg
    refine hK.out _ _ (a4_ BK456 (h4_ BK457)) (fun hHeld => ?_)
    clear hK K
    refine norm_ (a' := ?_) ?_ ?_
    rotate_left
    ·
     show Act.put _ (some 7) _ = _
     simp only [Act.put, List.setIfInBounds_toArray, List.set_cons_zero, List.set_cons_succ, i64_w, i32_w]
     rfl
    exact norm_ (by simp only [putAll, Act.put, List.setIfInBounds_toArray, List.set_cons_zero, List.set_cons_succ] <;> rfl) (hJ2_5_6_7 (gb467, gb468) _ ⟨hHeld, (bq_ BK456), (bq_ BK457), (bq_ BK458), (bq_ BK467), (bq_ BK468), GW467.out, GE467.out, NB456_467.out, NB467_456.out, NB457_467.out, NB467_457.out, NB458_467.out, NB467_458.out, NB468_467.out, NB467_468.out, GW468.out, GE468.out, NB456_468.out, NB468_456.out, NB457_468.out, NB468_457.out, NB458_468.out, NB468_458.out, (hq_ HB)⟩)
  ·
   rintro gb467 w14 ⟨hS_, h0_, h1_, h2_, h3_, h4_, h5_, h6_, h7_, h8_, h9_, h10_, h11_, h12_⟩
   replace BK456 := Aside0.mk h0_
   replace BK457 := Aside0.mk h1_
   replace BK458 := Aside0.mk h2_
   have BK467 := Aside0.mk h3_
   have GW467 := Aside0.mk h4_
   have GE467 := Aside0.mk h5_
   have NB456_467 := Aside0.mk h6_
   have NB467_456 := Aside0.mk h7_
   have NB457_467 := Aside0.mk h8_
   have NB467_457 := Aside0.mk h9_
   have NB458_467 := Aside0.mk h10_
   have NB467_458 := Aside0.mk h11_
   replace HB := Aside0.mk h12_
   clear h0_ h1_ h2_ h3_ h4_ h5_ h6_ h7_ h8_ h9_ h10_ h11_ h12_
   have hHeld := hS_
   refine norm_ (a' := ?_) ?_ ?_
   rotate_left
   ·
    simp only [putAll, Act.put, List.setIfInBounds_toArray, List.set_cons_zero, List.set_cons_succ]
    rfl
   refine one_ (i := 7) (N := some 8) zq8.q5 rfl rfl (one_of HT_.out (by kernel_rfl)) (by decide) (fun K hK => ?_)
   refine box_step ?hg (N := 8) ?hd (cs := #[.int .i64 0, .int .i64 0, .int .i64 0, .int .i64 0]) (t := 23) ?hr ?_; (case hd => rfl); (case hg => rfl); (case hr => first | (go_simp; done) | (go_simp; rfl))
   intro gb468 hg w15 hbox hb
   have BK468 := Aside0.mk (hbox)
   have GW468 := Aside0.mk ((by rw [hg]; exact (below_size (hq_ HB)) : w.heap.size ≤ gb468))
   have GE468 := Aside0.mk ((by rw [hg]; exact (below_size (hq_ HB)) : w.heap.size ≤ gb468))
   replace HB := hb_ HB hb
   have NB456_468 := Aside0.mk ((by rw [hg]; exact Nat.ne_of_lt (blk_lt (g := gb456) (o := .cells #[.int .i64 a0_0, .int .i64 a0_1, .int .i64 a0_2, .int .i64 a0_3] 23 (0, 0)) (bq_ BK456)) : gb456 ≠ gb468))
   have NB468_456 := Aside0.mk ((by rw [hg]; exact Nat.ne_of_gt (blk_lt (g := gb456) (o := .cells #[.int .i64 a0_0, .int .i64 a0_1, .int .i64 a0_2, .int .i64 a0_3] 23 (0, 0)) (bq_ BK456)) : gb468 ≠ gb456))
   replace BK456 := bb_ BK456 hb
   have NB457_468 := Aside0.mk ((by rw [hg]; exact Nat.ne_of_lt (blk_lt (g := gb457) (o := .cells #[.int .i64 a1_0, .int .i64 a1_1, .int .i64 a1_2, .int .i64 a1_3] 23 (0, 0)) (bq_ BK457)) : gb457 ≠ gb468))
   have NB468_457 := Aside0.mk ((by rw [hg]; exact Nat.ne_of_gt (blk_lt (g := gb457) (o := .cells #[.int .i64 a1_0, .int .i64 a1_1, .int .i64 a1_2, .int .i64 a1_3] 23 (0, 0)) (bq_ BK457)) : gb468 ≠ gb457))
   replace BK457 := bb_ BK457 hb
   have NB458_468 := Aside0.mk ((by rw [hg]; exact Nat.ne_of_lt (blk_lt (g := gb458) (o := .cells #[.int .i64 a2_0, .int .i64 a2_1, .int .i64 a2_2, .int .i64 a2_3] 23 (0, 0)) (bq_ BK458)) : gb458 ≠ gb468))
   have NB468_458 := Aside0.mk ((by rw [hg]; exact Nat.ne_of_gt (blk_lt (g := gb458) (o := .cells #[.int .i64 a2_0, .int .i64 a2_1, .int .i64 a2_2, .int .i64 a2_3] 23 (0, 0)) (bq_ BK458)) : gb468 ≠ gb458))
   replace BK458 := bb_ BK458 hb
   have NB467_468 := Aside0.mk ((by rw [hg]; exact Nat.ne_of_lt (blk_lt (g := gb467) (o := .cells #[.int .i64 0, .int .i64 0, .int .i64 0, .int .i64 0] 23 (0, 0)) (bq_ BK467)) : gb467 ≠ gb468))
   have NB468_467 := Aside0.mk ((by rw [hg]; exact Nat.ne_of_gt (blk_lt (g := gb467) (o := .cells #[.int .i64 0, .int .i64 0, .int .i64 0, .int .i64 0] 23 (0, 0)) (bq_ BK467)) : gb468 ≠ gb467))
   replace BK467 := bb_ BK467 hb
   clear hb hbox hg
   refine hK.out _ _ (a4_ BK456 (h4_ BK457)) (fun hHeld => ?_)
   clear hK K
   refine norm_ (a' := ?_) ?_ ?_
   rotate_left
   ·
    show Act.put _ (some 8) _ = _
    simp only [Act.put, List.setIfInBounds_toArray, List.set_cons_zero, List.set_cons_succ, i64_w, i32_w]
    rfl
   exact norm_ (by simp only [putAll, Act.put, List.setIfInBounds_toArray, List.set_cons_zero, List.set_cons_succ] <;> rfl) (hJ2_5_6_7 (gb467, gb468) _ ⟨hHeld, (bq_ BK456), (bq_ BK457), (bq_ BK458), (bq_ BK467), (bq_ BK468), GW467.out, GE467.out, NB456_467.out, NB467_456.out, NB457_467.out, NB467_457.out, NB458_467.out, NB467_458.out, NB468_467.out, NB467_468.out, GW468.out, GE468.out, NB456_468.out, NB468_456.out, NB457_468.out, NB468_457.out, NB458_468.out, NB468_458.out, (hq_ HB)⟩)
 rintro ⟨gb467, gb468⟩ w15 ⟨hS_, h0_, h1_, h2_, h3_, h4_, h5_, h6_, h7_, h8_, h9_, h10_, h11_, h12_, h13_, h14_, h15_, h16_, h17_, h18_, h19_, h20_, h21_, h22_, h23_⟩
 replace BK456 := Aside0.mk h0_
 replace BK457 := Aside0.mk h1_
 replace BK458 := Aside0.mk h2_
 have BK467 := Aside0.mk h3_
 have BK468 := Aside0.mk h4_
 have GW467 := Aside0.mk h5_
 have GE467 := Aside0.mk h6_
 have NB456_467 := Aside0.mk h7_
 have NB467_456 := Aside0.mk h8_
 have NB457_467 := Aside0.mk h9_
 have NB467_457 := Aside0.mk h10_
 have NB458_467 := Aside0.mk h11_
 have NB467_458 := Aside0.mk h12_
 have NB468_467 := Aside0.mk h13_
 have NB467_468 := Aside0.mk h14_
 have GW468 := Aside0.mk h15_
 have GE468 := Aside0.mk h16_
 have NB456_468 := Aside0.mk h17_
 have NB468_456 := Aside0.mk h18_
 have NB457_468 := Aside0.mk h19_
 have NB468_457 := Aside0.mk h20_
 have NB458_468 := Aside0.mk h21_
 have NB468_458 := Aside0.mk h22_
 replace HB := Aside0.mk h23_
 clear h0_ h1_ h2_ h3_ h4_ h5_ h6_ h7_ h8_ h9_ h10_ h11_ h12_ h13_ h14_ h15_ h16_ h17_ h18_ h19_ h20_ h21_ h22_ h23_
 have hHeld := hS_
 refine norm_ (a' := ?_) ?_ ?_
 rotate_left
 ·
  simp only [putAll, Act.put, List.setIfInBounds_toArray, List.set_cons_zero, List.set_cons_succ]
  rfl
 refine one_ (i := 8) (N := none) zq8.q16 rfl rfl (one_of HT_.out (by kernel_rfl)) (by decide) (fun K hK => ?_)
 have hs16 : w15.cell? ⟨gb467, 0, none⟩ = some (.int .i64 0) := (blk_cell BK467.out 0).trans rfl
 have hfs16 := blk_frozen BK467.out 0
 have hns16_0 := NB456_467.out
 have hns16_1 := NB457_467.out
 have hns16_2 := NB458_467.out
 have hns16_4 := NB468_467.out
 have hms16_0 := NB467_456.out
 have hms16_1 := NB467_457.out
 have hms16_2 := NB467_458.out
 have hms16_4 := NB467_468.out
 have hs17 : w15.cell? ⟨gb467, 1, none⟩ = some (.int .i64 0) := (blk_cell BK467.out 1).trans rfl
 have hfs17 := blk_frozen BK467.out 1
 have hns17_0 := NB456_467.out
 have hns17_1 := NB457_467.out
 have hns17_2 := NB458_467.out
 have hns17_4 := NB468_467.out
 have hms17_0 := NB467_456.out
 have hms17_1 := NB467_457.out
 have hms17_2 := NB467_458.out
 have hms17_4 := NB467_468.out
 have hs18 : w15.cell? ⟨gb467, 2, none⟩ = some (.int .i64 0) := (blk_cell BK467.out 2).trans rfl
 have hfs18 := blk_frozen BK467.out 2
 have hns18_0 := NB456_467.out
 have hns18_1 := NB457_467.out
 have hns18_2 := NB458_467.out
 have hns18_4 := NB468_467.out
 have hms18_0 := NB467_456.out
 have hms18_1 := NB467_457.out
 have hms18_2 := NB467_458.out
 have hms18_4 := NB467_468.out
 have hs19 : w15.cell? ⟨gb467, 3, none⟩ = some (.int .i64 0) := (blk_cell BK467.out 3).trans rfl
 have hfs19 := blk_frozen BK467.out 3
 have hns19_0 := NB456_467.out
 have hns19_1 := NB457_467.out
 have hns19_2 := NB458_467.out
 have hns19_4 := NB468_467.out
 have hms19_0 := NB467_456.out
 have hms19_1 := NB467_457.out
 have hms19_2 := NB467_458.out
 have hms19_4 := NB467_468.out
 refine skip_ (w1 := ?_) (by rfl) rfl ?_ ?_
 rotate_left
 ·
  go_simp
  rfl
 refine hK.out _ _ ⟨((cell_far (p := ⟨gb467, _, none⟩) NB456_467.out _).trans (((cell_far (p := ⟨gb467, _, none⟩) NB456_467.out _).trans (((cell_far (p := ⟨gb467, _, none⟩) NB456_467.out _).trans (((cell_far (p := ⟨gb467, _, none⟩) NB456_467.out _).trans (hHeld.1)))))))), ((cell_far (p := ⟨gb467, _, none⟩) NB456_467.out _).trans (((cell_far (p := ⟨gb467, _, none⟩) NB456_467.out _).trans (((cell_far (p := ⟨gb467, _, none⟩) NB456_467.out _).trans (((cell_far (p := ⟨gb467, _, none⟩) NB456_467.out _).trans (hHeld.2.1)))))))), ((cell_far (p := ⟨gb467, _, none⟩) NB456_467.out _).trans (((cell_far (p := ⟨gb467, _, none⟩) NB456_467.out _).trans (((cell_far (p := ⟨gb467, _, none⟩) NB456_467.out _).trans (((cell_far (p := ⟨gb467, _, none⟩) NB456_467.out _).trans (hHeld.2.2.1)))))))), ((cell_far (p := ⟨gb467, _, none⟩) NB456_467.out _).trans (((cell_far (p := ⟨gb467, _, none⟩) NB456_467.out _).trans (((cell_far (p := ⟨gb467, _, none⟩) NB456_467.out _).trans (((cell_far (p := ⟨gb467, _, none⟩) NB456_467.out _).trans (hHeld.2.2.2.1)))))))), ((cell_far (p := ⟨gb467, _, none⟩) NB457_467.out _).trans (((cell_far (p := ⟨gb467, _, none⟩) NB457_467.out _).trans (((cell_far (p := ⟨gb467, _, none⟩) NB457_467.out _).trans (((cell_far (p := ⟨gb467, _, none⟩) NB457_467.out _).trans (hHeld.2.2.2.2.1)))))))), ((cell_far (p := ⟨gb467, _, none⟩) NB457_467.out _).trans (((cell_far (p := ⟨gb467, _, none⟩) NB457_467.out _).trans (((cell_far (p := ⟨gb467, _, none⟩) NB457_467.out _).trans (((cell_far (p := ⟨gb467, _, none⟩) NB457_467.out _).trans (hHeld.2.2.2.2.2.1)))))))), ((cell_far (p := ⟨gb467, _, none⟩) NB457_467.out _).trans (((cell_far (p := ⟨gb467, _, none⟩) NB457_467.out _).trans (((cell_far (p := ⟨gb467, _, none⟩) NB457_467.out _).trans (((cell_far (p := ⟨gb467, _, none⟩) NB457_467.out _).trans (hHeld.2.2.2.2.2.2.1)))))))), ((cell_far (p := ⟨gb467, _, none⟩) NB457_467.out _).trans (((cell_far (p := ⟨gb467, _, none⟩) NB457_467.out _).trans (((cell_far (p := ⟨gb467, _, none⟩) NB457_467.out _).trans (((cell_far (p := ⟨gb467, _, none⟩) NB457_467.out _).trans (hHeld.2.2.2.2.2.2.2))))))))⟩ (fun hHeld => ?_)
 clear hK K
 refine one_ (i := 9) (N := none) zq8.q17 rfl rfl (one_of HT_.out (by kernel_rfl)) (by decide) (fun K hK => ?_)
 have hs20 : w15.cell? ⟨gb468, 0, none⟩ = some (.int .i64 0) := (blk_cell BK468.out 0).trans rfl
 have hfs20 := blk_frozen BK468.out 0
 have hns20_0 := NB456_468.out
 have hns20_1 := NB457_468.out
 have hns20_2 := NB458_468.out
 have hns20_3 := NB467_468.out
 have hms20_0 := NB468_456.out
 have hms20_1 := NB468_457.out
 have hms20_2 := NB468_458.out
 have hms20_3 := NB468_467.out
 have hs21 : w15.cell? ⟨gb468, 1, none⟩ = some (.int .i64 0) := (blk_cell BK468.out 1).trans rfl
 have hfs21 := blk_frozen BK468.out 1
 have hns21_0 := NB456_468.out
 have hns21_1 := NB457_468.out
 have hns21_2 := NB458_468.out
 have hns21_3 := NB467_468.out
 have hms21_0 := NB468_456.out
 have hms21_1 := NB468_457.out
 have hms21_2 := NB468_458.out
 have hms21_3 := NB468_467.out
 have hs22 : w15.cell? ⟨gb468, 2, none⟩ = some (.int .i64 0) := (blk_cell BK468.out 2).trans rfl
 have hfs22 := blk_frozen BK468.out 2
 have hns22_0 := NB456_468.out
 have hns22_1 := NB457_468.out
 have hns22_2 := NB458_468.out
 have hns22_3 := NB467_468.out
 have hms22_0 := NB468_456.out
 have hms22_1 := NB468_457.out
 have hms22_2 := NB468_458.out
 have hms22_3 := NB468_467.out
 have hs23 : w15.cell? ⟨gb468, 3, none⟩ = some (.int .i64 0) := (blk_cell BK468.out 3).trans rfl
 have hfs23 := blk_frozen BK468.out 3
 have hns23_0 := NB456_468.out
 have hns23_1 := NB457_468.out
 have hns23_2 := NB458_468.out
 have hns23_3 := NB467_468.out
 have hms23_0 := NB468_456.out
 have hms23_1 := NB468_457.out
 have hms23_2 := NB468_458.out
 have hms23_3 := NB468_467.out
 refine skip_ (w1 := ?_) (by rfl) rfl ?_ ?_
 rotate_left
 ·
  go_simp
  rfl
 refine hK.out _ _ ⟨((cell_far (p := ⟨gb468, _, none⟩) NB456_468.out _).trans (((cell_far (p := ⟨gb468, _, none⟩) NB456_468.out _).trans (((cell_far (p := ⟨gb468, _, none⟩) NB456_468.out _).trans (((cell_far (p := ⟨gb468, _, none⟩) NB456_468.out _).trans (hHeld.1)))))))), ((cell_far (p := ⟨gb468, _, none⟩) NB456_468.out _).trans (((cell_far (p := ⟨gb468, _, none⟩) NB456_468.out _).trans (((cell_far (p := ⟨gb468, _, none⟩) NB456_468.out _).trans (((cell_far (p := ⟨gb468, _, none⟩) NB456_468.out _).trans (hHeld.2.1)))))))), ((cell_far (p := ⟨gb468, _, none⟩) NB456_468.out _).trans (((cell_far (p := ⟨gb468, _, none⟩) NB456_468.out _).trans (((cell_far (p := ⟨gb468, _, none⟩) NB456_468.out _).trans (((cell_far (p := ⟨gb468, _, none⟩) NB456_468.out _).trans (hHeld.2.2.1)))))))), ((cell_far (p := ⟨gb468, _, none⟩) NB456_468.out _).trans (((cell_far (p := ⟨gb468, _, none⟩) NB456_468.out _).trans (((cell_far (p := ⟨gb468, _, none⟩) NB456_468.out _).trans (((cell_far (p := ⟨gb468, _, none⟩) NB456_468.out _).trans (hHeld.2.2.2.1)))))))), ((cell_far (p := ⟨gb468, _, none⟩) NB457_468.out _).trans (((cell_far (p := ⟨gb468, _, none⟩) NB457_468.out _).trans (((cell_far (p := ⟨gb468, _, none⟩) NB457_468.out _).trans (((cell_far (p := ⟨gb468, _, none⟩) NB457_468.out _).trans (hHeld.2.2.2.2.1)))))))), ((cell_far (p := ⟨gb468, _, none⟩) NB457_468.out _).trans (((cell_far (p := ⟨gb468, _, none⟩) NB457_468.out _).trans (((cell_far (p := ⟨gb468, _, none⟩) NB457_468.out _).trans (((cell_far (p := ⟨gb468, _, none⟩) NB457_468.out _).trans (hHeld.2.2.2.2.2.1)))))))), ((cell_far (p := ⟨gb468, _, none⟩) NB457_468.out _).trans (((cell_far (p := ⟨gb468, _, none⟩) NB457_468.out _).trans (((cell_far (p := ⟨gb468, _, none⟩) NB457_468.out _).trans (((cell_far (p := ⟨gb468, _, none⟩) NB457_468.out _).trans (hHeld.2.2.2.2.2.2.1)))))))), ((cell_far (p := ⟨gb468, _, none⟩) NB457_468.out _).trans (((cell_far (p := ⟨gb468, _, none⟩) NB457_468.out _).trans (((cell_far (p := ⟨gb468, _, none⟩) NB457_468.out _).trans (((cell_far (p := ⟨gb468, _, none⟩) NB457_468.out _).trans (hHeld.2.2.2.2.2.2.2))))))))⟩ (fun hHeld => ?_)
 clear hK K
 refine done_ (done_of HT_.out (by kernel_rfl)) ?_
 go_upto_region 2 with (fail)
 go_cut [48] (fun v48 wc => ∃ (kq : Nat) (x48_5 : Bool), v48 = .bool x48_5 ∧ Aside0 (compositorlaw04_RectLattice.j0 kq x48_5 a0_0 a0_1 a0_2 a0_3 a1_0 a1_1 a1_2 a1_3 a2_0 a2_1 a2_2 a2_3 t459 t460 t461 t462 t463 t464 t465 t466 = some true) ∧ Aside0 (kq ≤ k) ∧ Aside0 (wc.heap[gb456]? = some (.cells #[.int .i64 a0_0, .int .i64 a0_1, .int .i64 a0_2, .int .i64 a0_3] 23 (0, 0))) ∧ Aside0 (wc.heap[gb457]? = some (.cells #[.int .i64 a1_0, .int .i64 a1_1, .int .i64 a1_2, .int .i64 a1_3] 23 (0, 0))) ∧ Aside0 (wc.heap[gb458]? = some (.cells #[.int .i64 a2_0, .int .i64 a2_1, .int .i64 a2_2, .int .i64 a2_3] 23 (0, 0))) ∧ Aside0 (wc.heap[gb467]? = some (.cells #[.int .i64 t459, .int .i64 t460, .int .i64 t461, .int .i64 t462] 23 (0, 0))) ∧ Aside0 (wc.heap[gb468]? = some (.cells #[.int .i64 t463, .int .i64 t464, .int .i64 t465, .int .i64 t466] 23 (0, 0))) ∧ Aside0 (Below w.heap.size w wc))
 case first =>
  have H := HC6.out
  clear HC6
  replace H := Option.bind_eq_some_iff.mp H
  obtain ⟨⟨t469, t470, t471, t472⟩, A240, H⟩ := H
  try dsimp only at H
  have A24 := Aside0.mk A240
  clear A240
  by_cases c25 : (!(t459 == t469) || (!(t460 == t470) || (!(t461 == t471) || (!(t462 == t472))))) = true
  ·
   rw [if_pos c25] at H
   have c25b0 : (!(t459 == t469) || (!(t460 == t470) || (!(t461 == t471) || (!(t462 == t472))))) = true := c25
   clear c25
   (first | rw [c25b0] | (simp only [i64_w, i32_w]; rw [c25b0]) | skip)
   have H' := Aside0.mk H
   clear H
   try go_wp2
   have n0_ : Aside0 (((((((((w15.setCell ⟨gb467, 0, none⟩ (.int .i64 t459)).setCell ⟨gb467, 1, none⟩ (.int .i64 t460)).setCell ⟨gb467, 2, none⟩ (.int .i64 t461)).setCell ⟨gb467, 3, none⟩ (.int .i64 t462)).setCell ⟨gb468, 0, none⟩ (.int .i64 t463)).setCell ⟨gb468, 1, none⟩ (.int .i64 t464)).setCell ⟨gb468, 2, none⟩ (.int .i64 t465)).setCell ⟨gb468, 3, none⟩ (.int .i64 t466)).heap[gb456]? = some (.cells #[.int .i64 a0_0, .int .i64 a0_1, .int .i64 a0_2, .int .i64 a0_3] 23 (0, 0))) := bf_ BK456
   have n1_ : Aside0 (((((((((w15.setCell ⟨gb467, 0, none⟩ (.int .i64 t459)).setCell ⟨gb467, 1, none⟩ (.int .i64 t460)).setCell ⟨gb467, 2, none⟩ (.int .i64 t461)).setCell ⟨gb467, 3, none⟩ (.int .i64 t462)).setCell ⟨gb468, 0, none⟩ (.int .i64 t463)).setCell ⟨gb468, 1, none⟩ (.int .i64 t464)).setCell ⟨gb468, 2, none⟩ (.int .i64 t465)).setCell ⟨gb468, 3, none⟩ (.int .i64 t466)).heap[gb457]? = some (.cells #[.int .i64 a1_0, .int .i64 a1_1, .int .i64 a1_2, .int .i64 a1_3] 23 (0, 0))) := bf_ BK457
   have n2_ : Aside0 (((((((((w15.setCell ⟨gb467, 0, none⟩ (.int .i64 t459)).setCell ⟨gb467, 1, none⟩ (.int .i64 t460)).setCell ⟨gb467, 2, none⟩ (.int .i64 t461)).setCell ⟨gb467, 3, none⟩ (.int .i64 t462)).setCell ⟨gb468, 0, none⟩ (.int .i64 t463)).setCell ⟨gb468, 1, none⟩ (.int .i64 t464)).setCell ⟨gb468, 2, none⟩ (.int .i64 t465)).setCell ⟨gb468, 3, none⟩ (.int .i64 t466)).heap[gb458]? = some (.cells #[.int .i64 a2_0, .int .i64 a2_1, .int .i64 a2_2, .int .i64 a2_3] 23 (0, 0))) := bf_ BK458
   have n3_ : Aside0 (((((((((w15.setCell ⟨gb467, 0, none⟩ (.int .i64 t459)).setCell ⟨gb467, 1, none⟩ (.int .i64 t460)).setCell ⟨gb467, 2, none⟩ (.int .i64 t461)).setCell ⟨gb467, 3, none⟩ (.int .i64 t462)).setCell ⟨gb468, 0, none⟩ (.int .i64 t463)).setCell ⟨gb468, 1, none⟩ (.int .i64 t464)).setCell ⟨gb468, 2, none⟩ (.int .i64 t465)).setCell ⟨gb468, 3, none⟩ (.int .i64 t466)).heap[gb467]? = some (.cells #[.int .i64 t459, .int .i64 t460, .int .i64 t461, .int .i64 t462] 23 (0, 0))) := ⟨by (with_reducible repeat (first | refine blk_drewN ?_ _ | refine blk_drew ?_ | refine blk_alloc ?_ _)); refine blk_far ?_ NB467_468.out _; (with_reducible repeat (first | refine blk_drewN ?_ _ | refine blk_drew ?_ | refine blk_alloc ?_ _)); refine blk_far ?_ NB467_468.out _; (with_reducible repeat (first | refine blk_drewN ?_ _ | refine blk_drew ?_ | refine blk_alloc ?_ _)); refine blk_far ?_ NB467_468.out _; (with_reducible repeat (first | refine blk_drewN ?_ _ | refine blk_drew ?_ | refine blk_alloc ?_ _)); refine blk_far ?_ NB467_468.out _; (with_reducible repeat (first | refine blk_drewN ?_ _ | refine blk_drew ?_ | refine blk_alloc ?_ _)); refine blk_put (cs := #[.int .i64 t459, .int .i64 t460, .int .i64 t461, .int .i64 0]) ?_ 3 _ rfl; (with_reducible repeat (first | refine blk_drewN ?_ _ | refine blk_drew ?_ | refine blk_alloc ?_ _)); refine blk_put (cs := #[.int .i64 t459, .int .i64 t460, .int .i64 0, .int .i64 0]) ?_ 2 _ rfl; (with_reducible repeat (first | refine blk_drewN ?_ _ | refine blk_drew ?_ | refine blk_alloc ?_ _)); refine blk_put (cs := #[.int .i64 t459, .int .i64 0, .int .i64 0, .int .i64 0]) ?_ 1 _ rfl; (with_reducible repeat (first | refine blk_drewN ?_ _ | refine blk_drew ?_ | refine blk_alloc ?_ _)); refine blk_put (cs := #[.int .i64 0, .int .i64 0, .int .i64 0, .int .i64 0]) ?_ 0 _ rfl; (with_reducible repeat (first | refine blk_drewN ?_ _ | refine blk_drew ?_ | refine blk_alloc ?_ _)); exact BK467.out⟩
   have n4_ : Aside0 (((((((((w15.setCell ⟨gb467, 0, none⟩ (.int .i64 t459)).setCell ⟨gb467, 1, none⟩ (.int .i64 t460)).setCell ⟨gb467, 2, none⟩ (.int .i64 t461)).setCell ⟨gb467, 3, none⟩ (.int .i64 t462)).setCell ⟨gb468, 0, none⟩ (.int .i64 t463)).setCell ⟨gb468, 1, none⟩ (.int .i64 t464)).setCell ⟨gb468, 2, none⟩ (.int .i64 t465)).setCell ⟨gb468, 3, none⟩ (.int .i64 t466)).heap[gb468]? = some (.cells #[.int .i64 t463, .int .i64 t464, .int .i64 t465, .int .i64 t466] 23 (0, 0))) := ⟨by (with_reducible repeat (first | refine blk_drewN ?_ _ | refine blk_drew ?_ | refine blk_alloc ?_ _)); refine blk_put (cs := #[.int .i64 t463, .int .i64 t464, .int .i64 t465, .int .i64 0]) ?_ 3 _ rfl; (with_reducible repeat (first | refine blk_drewN ?_ _ | refine blk_drew ?_ | refine blk_alloc ?_ _)); refine blk_put (cs := #[.int .i64 t463, .int .i64 t464, .int .i64 0, .int .i64 0]) ?_ 2 _ rfl; (with_reducible repeat (first | refine blk_drewN ?_ _ | refine blk_drew ?_ | refine blk_alloc ?_ _)); refine blk_put (cs := #[.int .i64 t463, .int .i64 0, .int .i64 0, .int .i64 0]) ?_ 1 _ rfl; (with_reducible repeat (first | refine blk_drewN ?_ _ | refine blk_drew ?_ | refine blk_alloc ?_ _)); refine blk_put (cs := #[.int .i64 0, .int .i64 0, .int .i64 0, .int .i64 0]) ?_ 0 _ rfl; (with_reducible repeat (first | refine blk_drewN ?_ _ | refine blk_drew ?_ | refine blk_alloc ?_ _)); refine blk_far ?_ NB468_467.out _; (with_reducible repeat (first | refine blk_drewN ?_ _ | refine blk_drew ?_ | refine blk_alloc ?_ _)); refine blk_far ?_ NB468_467.out _; (with_reducible repeat (first | refine blk_drewN ?_ _ | refine blk_drew ?_ | refine blk_alloc ?_ _)); refine blk_far ?_ NB468_467.out _; (with_reducible repeat (first | refine blk_drewN ?_ _ | refine blk_drew ?_ | refine blk_alloc ?_ _)); refine blk_far ?_ NB468_467.out _; (with_reducible repeat (first | refine blk_drewN ?_ _ | refine blk_drew ?_ | refine blk_alloc ?_ _)); exact BK468.out⟩
   have n5_ : Aside0 (Below w.heap.size w ((((((((w15.setCell ⟨gb467, 0, none⟩ (.int .i64 t459)).setCell ⟨gb467, 1, none⟩ (.int .i64 t460)).setCell ⟨gb467, 2, none⟩ (.int .i64 t461)).setCell ⟨gb467, 3, none⟩ (.int .i64 t462)).setCell ⟨gb468, 0, none⟩ (.int .i64 t463)).setCell ⟨gb468, 1, none⟩ (.int .i64 t464)).setCell ⟨gb468, 2, none⟩ (.int .i64 t465)).setCell ⟨gb468, 3, none⟩ (.int .i64 t466))) := ⟨by repeat (first | (with_reducible first | exact HB.out | apply below_alloc | apply pw_below_drewN | apply below_drew1 | refine below_set ?_ GE456.out | refine below_set ?_ GE457.out | refine below_set ?_ GE458.out | refine below_set ?_ GE467.out | refine below_set ?_ GE468.out) | exact HB.out)⟩
   (try clear BK456)
   (try clear BK457)
   (try clear BK458)
   (try clear BK467)
   (try clear BK468)
   (try clear HB)
   generalize ((((((((w15.setCell ⟨gb467, 0, none⟩ (.int .i64 t459)).setCell ⟨gb467, 1, none⟩ (.int .i64 t460)).setCell ⟨gb467, 2, none⟩ (.int .i64 t461)).setCell ⟨gb467, 3, none⟩ (.int .i64 t462)).setCell ⟨gb468, 0, none⟩ (.int .i64 t463)).setCell ⟨gb468, 1, none⟩ (.int .i64 t464)).setCell ⟨gb468, 2, none⟩ (.int .i64 t465)).setCell ⟨gb468, 3, none⟩ (.int .i64 t466)) = w26 at n0_ n1_ n2_ n3_ n4_ n5_ ⊢
   have BK456 := n0_
   have BK457 := n1_
   have BK458 := n2_
   have BK467 := n3_
   have BK468 := n4_
   have HB := n5_
   clear n0_ n1_ n2_ n3_ n4_ n5_
   replace BK456 := Aside0.mk (blk_drew BK456.out)
   replace BK457 := Aside0.mk (blk_drew BK457.out)
   replace BK458 := Aside0.mk (blk_drew BK458.out)
   replace BK467 := Aside0.mk (blk_drew BK467.out)
   replace BK468 := Aside0.mk (blk_drew BK468.out)
   replace HB := Aside0.mk (below_drew1 HB.out)
   refine start_ (n := 34) (S := fun w' => w'.cell? ⟨gb467, 0, none⟩ = some (.int .i64 t459) ∧ w'.cell? ⟨gb467, 1, none⟩ = some (.int .i64 t460) ∧ w'.cell? ⟨gb467, 2, none⟩ = some (.int .i64 t461) ∧ w'.cell? ⟨gb467, 3, none⟩ = some (.int .i64 t462) ∧ w'.cell? ⟨gb457, 0, none⟩ = some (.int .i64 a1_0) ∧ w'.cell? ⟨gb457, 1, none⟩ = some (.int .i64 a1_1) ∧ w'.cell? ⟨gb457, 2, none⟩ = some (.int .i64 a1_2) ∧ w'.cell? ⟨gb457, 3, none⟩ = some (.int .i64 a1_3) ∧ w'.cell? ⟨gb456, 0, none⟩ = some (.int .i64 a0_0) ∧ w'.cell? ⟨gb456, 1, none⟩ = some (.int .i64 a0_1) ∧ w'.cell? ⟨gb456, 2, none⟩ = some (.int .i64 a0_2) ∧ w'.cell? ⟨gb456, 3, none⟩ = some (.int .i64 a0_3)) (ds := []) zq8.q18 (by kernel_rfl) rfl rfl (a4_ BK467 (a4_ BK457 (h4_ BK456))) (fun hHeld => ?_); refine with_tabW compositorlaw04_RectLattice.tab2 compositorlaw04_RectLattice.bits2 (fun HT_ HW_ => ?_)
   generalize w26.drew = w27 at BK456 BK457 BK458 BK467 BK468 HB hHeld ⊢
   refine tk12_ 0 15 zq8.q19 HT_ HW_ hHeld ?_
   refine tk12_ 1 16 zq8.q20 HT_ HW_ hHeld ?_
   refine tk12_ 2 17 zq8.q21 HT_ HW_ hHeld ?_
   refine one_ (i := 3) (N := some 18) zq8.q22 rfl rfl (one_of HT_.out (by kernel_rfl)) (by decide) (fun K hK => ?_)
   refine gs_ Try.func21 #[.agg #[.int .i64 a1_0, .int .i64 a1_1, .int .i64 a1_2, .int .i64 a1_3], .agg #[.int .i64 a0_0, .int .i64 a0_1, .int .i64 a0_2, .int .i64 a0_3]] ?_
   with_reducible refine (rect_Intersect.calls a1_0 a1_1 a1_2 a1_3 a0_0 a0_1 a0_2 a0_3 t469 t470 t471 t472 _ A24.out).mono ?_
   rintro e w28 ⟨rfl, hb⟩
   refine ⟨_, rfl, ?_⟩
   replace BK456 := bb_ BK456 hb
   replace BK457 := bb_ BK457 hb
   replace BK458 := bb_ BK458 hb
   replace BK467 := bb_ BK467 hb
   replace BK468 := bb_ BK468 hb
   replace HB := hb_ HB hb
   (try clear hb); (try clear hb2); (try clear hk); (try clear hi)
   refine hK.out _ _ (a4_ BK467 (a4_ BK457 (h4_ BK456))) (fun hHeld => ?_)
   clear hK K
   refine norm_ (a' := ?_) ?_ ?_
   rotate_left
   ·
    show Act.put _ (some 18) _ = _
    simp only [Act.put, List.setIfInBounds_toArray, List.set_cons_zero, List.set_cons_succ, i64_w, i32_w]
    rfl
   refine pv_ 4 19 zq8.q23 HT_ ?_
   refine pv_ 5 20 zq8.q24 HT_ ?_
   refine pu_ 6 21 zq8.q25 HT_ ?_
   refine pu_ 7 22 zq8.q26 HT_ ?_
   refine pu_ 8 23 zq8.q27 HT_ ?_
   refine pu_ 9 24 zq8.q28 HT_ ?_
   refine pu_ 10 25 zq8.q29 HT_ ?_
   refine pv_ 11 26 zq8.q30 HT_ ?_
   refine pv_ 12 27 zq8.q31 HT_ ?_
   refine pu_ 13 28 zq8.q32 HT_ ?_
   refine pu_ 14 29 zq8.q33 HT_ ?_
   refine pu_ 15 30 zq8.q34 HT_ ?_
   refine pu_ 16 31 zq8.q35 HT_ ?_
   refine pu_ 17 32 zq8.q36 HT_ ?_
   refine pu_ 18 33 zq8.q37 HT_ ?_
   refine pu_ 19 34 zq8.q38 HT_ ?_
   refine pu_ 20 35 zq8.q39 HT_ ?_
   refine pu_ 21 36 zq8.q40 HT_ ?_
   refine pv_ 22 37 zq8.q41 HT_ ?_
   refine pv_ 23 38 zq8.q42 HT_ ?_
   refine pu_ 24 39 zq8.q43 HT_ ?_
   refine pu_ 25 40 zq8.q44 HT_ ?_
   refine pu_ 26 41 zq8.q45 HT_ ?_
   refine pu_ 27 42 zq8.q46 HT_ ?_
   refine pu_ 28 43 zq8.q47 HT_ ?_
   refine pu_ 29 44 zq8.q48 HT_ ?_
   refine pu_ 30 45 zq8.q49 HT_ ?_
   refine pu_ 31 46 zq8.q50 HT_ ?_
   refine pu_ 32 47 zq8.q51 HT_ ?_
   refine pv_ 33 48 zq8.q52 HT_ ?_
   refine done_ (done_of HT_.out (by kernel_rfl)) ?_
   try go_wp2
   go_meet
   case rel => exact ⟨_, (true), (by first | rfl | (simp; done) | (simp [*]; done)), H', ⟨by first | omega | exact Nat.le_refl _⟩, bf_ BK456, bf_ BK457, bf_ BK458, bf_ BK467, bf_ BK468, ⟨by repeat (first | (with_reducible first | exact HB.out | apply below_alloc | apply pw_below_drewN | apply below_drew1 | refine below_set ?_ GE456.out | refine below_set ?_ GE457.out | refine below_set ?_ GE458.out | refine below_set ?_ GE467.out | refine below_set ?_ GE468.out) | exact HB.out)⟩⟩
  ·
   rw [if_neg c25] at H
   have c25b0 : (!(t459 == t469) || (!(t460 == t470) || (!(t461 == t471) || (!(t462 == t472))))) = false := by simpa using c25
   clear c25
   (first | rw [c25b0] | (simp only [i64_w, i32_w]; rw [c25b0]) | skip)
   replace H := Option.bind_eq_some_iff.mp H
   obtain ⟨⟨t473, t474, t475, t476⟩, A290, H⟩ := H
   try dsimp only at H
   have A29 := Aside0.mk A290
   clear A290
   by_cases c30 : (!(t463 == t473) || (!(t464 == t474) || (!(t465 == t475) || (!(t466 == t476))))) = true
   ·
    rw [if_pos c30] at H
    have c30b0 : (!(t463 == t473) || (!(t464 == t474) || (!(t465 == t475) || (!(t466 == t476))))) = true := c30
    clear c30
    have H' := Aside0.mk H
    clear H
    try go_wp2
    have n0_ : Aside0 (((((((((w15.setCell ⟨gb467, 0, none⟩ (.int .i64 t459)).setCell ⟨gb467, 1, none⟩ (.int .i64 t460)).setCell ⟨gb467, 2, none⟩ (.int .i64 t461)).setCell ⟨gb467, 3, none⟩ (.int .i64 t462)).setCell ⟨gb468, 0, none⟩ (.int .i64 t463)).setCell ⟨gb468, 1, none⟩ (.int .i64 t464)).setCell ⟨gb468, 2, none⟩ (.int .i64 t465)).setCell ⟨gb468, 3, none⟩ (.int .i64 t466)).heap[gb456]? = some (.cells #[.int .i64 a0_0, .int .i64 a0_1, .int .i64 a0_2, .int .i64 a0_3] 23 (0, 0))) := bf_ BK456
    have n1_ : Aside0 (((((((((w15.setCell ⟨gb467, 0, none⟩ (.int .i64 t459)).setCell ⟨gb467, 1, none⟩ (.int .i64 t460)).setCell ⟨gb467, 2, none⟩ (.int .i64 t461)).setCell ⟨gb467, 3, none⟩ (.int .i64 t462)).setCell ⟨gb468, 0, none⟩ (.int .i64 t463)).setCell ⟨gb468, 1, none⟩ (.int .i64 t464)).setCell ⟨gb468, 2, none⟩ (.int .i64 t465)).setCell ⟨gb468, 3, none⟩ (.int .i64 t466)).heap[gb457]? = some (.cells #[.int .i64 a1_0, .int .i64 a1_1, .int .i64 a1_2, .int .i64 a1_3] 23 (0, 0))) := bf_ BK457
    have n2_ : Aside0 (((((((((w15.setCell ⟨gb467, 0, none⟩ (.int .i64 t459)).setCell ⟨gb467, 1, none⟩ (.int .i64 t460)).setCell ⟨gb467, 2, none⟩ (.int .i64 t461)).setCell ⟨gb467, 3, none⟩ (.int .i64 t462)).setCell ⟨gb468, 0, none⟩ (.int .i64 t463)).setCell ⟨gb468, 1, none⟩ (.int .i64 t464)).setCell ⟨gb468, 2, none⟩ (.int .i64 t465)).setCell ⟨gb468, 3, none⟩ (.int .i64 t466)).heap[gb458]? = some (.cells #[.int .i64 a2_0, .int .i64 a2_1, .int .i64 a2_2, .int .i64 a2_3] 23 (0, 0))) := bf_ BK458
    have n3_ : Aside0 (((((((((w15.setCell ⟨gb467, 0, none⟩ (.int .i64 t459)).setCell ⟨gb467, 1, none⟩ (.int .i64 t460)).setCell ⟨gb467, 2, none⟩ (.int .i64 t461)).setCell ⟨gb467, 3, none⟩ (.int .i64 t462)).setCell ⟨gb468, 0, none⟩ (.int .i64 t463)).setCell ⟨gb468, 1, none⟩ (.int .i64 t464)).setCell ⟨gb468, 2, none⟩ (.int .i64 t465)).setCell ⟨gb468, 3, none⟩ (.int .i64 t466)).heap[gb467]? = some (.cells #[.int .i64 t459, .int .i64 t460, .int .i64 t461, .int .i64 t462] 23 (0, 0))) := ⟨by (with_reducible repeat (first | refine blk_drewN ?_ _ | refine blk_drew ?_ | refine blk_alloc ?_ _)); refine blk_far ?_ NB467_468.out _; (with_reducible repeat (first | refine blk_drewN ?_ _ | refine blk_drew ?_ | refine blk_alloc ?_ _)); refine blk_far ?_ NB467_468.out _; (with_reducible repeat (first | refine blk_drewN ?_ _ | refine blk_drew ?_ | refine blk_alloc ?_ _)); refine blk_far ?_ NB467_468.out _; (with_reducible repeat (first | refine blk_drewN ?_ _ | refine blk_drew ?_ | refine blk_alloc ?_ _)); refine blk_far ?_ NB467_468.out _; (with_reducible repeat (first | refine blk_drewN ?_ _ | refine blk_drew ?_ | refine blk_alloc ?_ _)); refine blk_put (cs := #[.int .i64 t459, .int .i64 t460, .int .i64 t461, .int .i64 0]) ?_ 3 _ rfl; (with_reducible repeat (first | refine blk_drewN ?_ _ | refine blk_drew ?_ | refine blk_alloc ?_ _)); refine blk_put (cs := #[.int .i64 t459, .int .i64 t460, .int .i64 0, .int .i64 0]) ?_ 2 _ rfl; (with_reducible repeat (first | refine blk_drewN ?_ _ | refine blk_drew ?_ | refine blk_alloc ?_ _)); refine blk_put (cs := #[.int .i64 t459, .int .i64 0, .int .i64 0, .int .i64 0]) ?_ 1 _ rfl; (with_reducible repeat (first | refine blk_drewN ?_ _ | refine blk_drew ?_ | refine blk_alloc ?_ _)); refine blk_put (cs := #[.int .i64 0, .int .i64 0, .int .i64 0, .int .i64 0]) ?_ 0 _ rfl; (with_reducible repeat (first | refine blk_drewN ?_ _ | refine blk_drew ?_ | refine blk_alloc ?_ _)); exact BK467.out⟩
    have n4_ : Aside0 (((((((((w15.setCell ⟨gb467, 0, none⟩ (.int .i64 t459)).setCell ⟨gb467, 1, none⟩ (.int .i64 t460)).setCell ⟨gb467, 2, none⟩ (.int .i64 t461)).setCell ⟨gb467, 3, none⟩ (.int .i64 t462)).setCell ⟨gb468, 0, none⟩ (.int .i64 t463)).setCell ⟨gb468, 1, none⟩ (.int .i64 t464)).setCell ⟨gb468, 2, none⟩ (.int .i64 t465)).setCell ⟨gb468, 3, none⟩ (.int .i64 t466)).heap[gb468]? = some (.cells #[.int .i64 t463, .int .i64 t464, .int .i64 t465, .int .i64 t466] 23 (0, 0))) := ⟨by (with_reducible repeat (first | refine blk_drewN ?_ _ | refine blk_drew ?_ | refine blk_alloc ?_ _)); refine blk_put (cs := #[.int .i64 t463, .int .i64 t464, .int .i64 t465, .int .i64 0]) ?_ 3 _ rfl; (with_reducible repeat (first | refine blk_drewN ?_ _ | refine blk_drew ?_ | refine blk_alloc ?_ _)); refine blk_put (cs := #[.int .i64 t463, .int .i64 t464, .int .i64 0, .int .i64 0]) ?_ 2 _ rfl; (with_reducible repeat (first | refine blk_drewN ?_ _ | refine blk_drew ?_ | refine blk_alloc ?_ _)); refine blk_put (cs := #[.int .i64 t463, .int .i64 0, .int .i64 0, .int .i64 0]) ?_ 1 _ rfl; (with_reducible repeat (first | refine blk_drewN ?_ _ | refine blk_drew ?_ | refine blk_alloc ?_ _)); refine blk_put (cs := #[.int .i64 0, .int .i64 0, .int .i64 0, .int .i64 0]) ?_ 0 _ rfl; (with_reducible repeat (first | refine blk_drewN ?_ _ | refine blk_drew ?_ | refine blk_alloc ?_ _)); refine blk_far ?_ NB468_467.out _; (with_reducible repeat (first | refine blk_drewN ?_ _ | refine blk_drew ?_ | refine blk_alloc ?_ _)); refine blk_far ?_ NB468_467.out _; (with_reducible repeat (first | refine blk_drewN ?_ _ | refine blk_drew ?_ | refine blk_alloc ?_ _)); refine blk_far ?_ NB468_467.out _; (with_reducible repeat (first | refine blk_drewN ?_ _ | refine blk_drew ?_ | refine blk_alloc ?_ _)); refine blk_far ?_ NB468_467.out _; (with_reducible repeat (first | refine blk_drewN ?_ _ | refine blk_drew ?_ | refine blk_alloc ?_ _)); exact BK468.out⟩
    have n5_ : Aside0 (Below w.heap.size w ((((((((w15.setCell ⟨gb467, 0, none⟩ (.int .i64 t459)).setCell ⟨gb467, 1, none⟩ (.int .i64 t460)).setCell ⟨gb467, 2, none⟩ (.int .i64 t461)).setCell ⟨gb467, 3, none⟩ (.int .i64 t462)).setCell ⟨gb468, 0, none⟩ (.int .i64 t463)).setCell ⟨gb468, 1, none⟩ (.int .i64 t464)).setCell ⟨gb468, 2, none⟩ (.int .i64 t465)).setCell ⟨gb468, 3, none⟩ (.int .i64 t466))) := ⟨by repeat (first | (with_reducible first | exact HB.out | apply below_alloc | apply pw_below_drewN | apply below_drew1 | refine below_set ?_ GE456.out | refine below_set ?_ GE457.out | refine below_set ?_ GE458.out | refine below_set ?_ GE467.out | refine below_set ?_ GE468.out) | exact HB.out)⟩
    (try clear BK456)
    (try clear BK457)
    (try clear BK458)
    (try clear BK467)
    (try clear BK468)
    (try clear HB)
    generalize ((((((((w15.setCell ⟨gb467, 0, none⟩ (.int .i64 t459)).setCell ⟨gb467, 1, none⟩ (.int .i64 t460)).setCell ⟨gb467, 2, none⟩ (.int .i64 t461)).setCell ⟨gb467, 3, none⟩ (.int .i64 t462)).setCell ⟨gb468, 0, none⟩ (.int .i64 t463)).setCell ⟨gb468, 1, none⟩ (.int .i64 t464)).setCell ⟨gb468, 2, none⟩ (.int .i64 t465)).setCell ⟨gb468, 3, none⟩ (.int .i64 t466)) = w31 at n0_ n1_ n2_ n3_ n4_ n5_ ⊢
    have BK456 := n0_
    have BK457 := n1_
    have BK458 := n2_
    have BK467 := n3_
    have BK468 := n4_
    have HB := n5_
    clear n0_ n1_ n2_ n3_ n4_ n5_
    replace BK456 := Aside0.mk (blk_drew BK456.out)
    replace BK457 := Aside0.mk (blk_drew BK457.out)
    replace BK458 := Aside0.mk (blk_drew BK458.out)
    replace BK467 := Aside0.mk (blk_drew BK467.out)
    replace BK468 := Aside0.mk (blk_drew BK468.out)
    replace HB := Aside0.mk (below_drew1 HB.out)
    refine start_ (n := 34) (S := fun w' => w'.cell? ⟨gb467, 0, none⟩ = some (.int .i64 t459) ∧ w'.cell? ⟨gb467, 1, none⟩ = some (.int .i64 t460) ∧ w'.cell? ⟨gb467, 2, none⟩ = some (.int .i64 t461) ∧ w'.cell? ⟨gb467, 3, none⟩ = some (.int .i64 t462) ∧ w'.cell? ⟨gb457, 0, none⟩ = some (.int .i64 a1_0) ∧ w'.cell? ⟨gb457, 1, none⟩ = some (.int .i64 a1_1) ∧ w'.cell? ⟨gb457, 2, none⟩ = some (.int .i64 a1_2) ∧ w'.cell? ⟨gb457, 3, none⟩ = some (.int .i64 a1_3) ∧ w'.cell? ⟨gb456, 0, none⟩ = some (.int .i64 a0_0) ∧ w'.cell? ⟨gb456, 1, none⟩ = some (.int .i64 a0_1) ∧ w'.cell? ⟨gb456, 2, none⟩ = some (.int .i64 a0_2) ∧ w'.cell? ⟨gb456, 3, none⟩ = some (.int .i64 a0_3) ∧ w'.cell? ⟨gb468, 0, none⟩ = some (.int .i64 t463) ∧ w'.cell? ⟨gb468, 1, none⟩ = some (.int .i64 t464) ∧ w'.cell? ⟨gb468, 2, none⟩ = some (.int .i64 t465) ∧ w'.cell? ⟨gb468, 3, none⟩ = some (.int .i64 t466)) (ds := []) zq8.q18 (by kernel_rfl) rfl rfl (a4_ BK467 (a4_ BK457 (a4_ BK456 (h4_ BK468)))) (fun hHeld => ?_); refine with_tabW compositorlaw04_RectLattice.tab2 compositorlaw04_RectLattice.bits2 (fun HT_ HW_ => ?_)
    generalize w31.drew = w32 at BK456 BK457 BK458 BK467 BK468 HB hHeld ⊢
    refine tk16_ 0 15 zq8.q19 HT_ HW_ hHeld ?_
    refine tk16_ 1 16 zq8.q20 HT_ HW_ hHeld ?_
    refine tk16_ 2 17 zq8.q21 HT_ HW_ hHeld ?_
    refine one_ (i := 3) (N := some 18) zq8.q22 rfl rfl (one_of HT_.out (by kernel_rfl)) (by decide) (fun K hK => ?_)
    refine gs_ Try.func21 #[.agg #[.int .i64 a1_0, .int .i64 a1_1, .int .i64 a1_2, .int .i64 a1_3], .agg #[.int .i64 a0_0, .int .i64 a0_1, .int .i64 a0_2, .int .i64 a0_3]] ?_
    with_reducible refine (rect_Intersect.calls a1_0 a1_1 a1_2 a1_3 a0_0 a0_1 a0_2 a0_3 t469 t470 t471 t472 _ A24.out).mono ?_
    rintro e w33 ⟨rfl, hb⟩
    refine ⟨_, rfl, ?_⟩
    replace BK456 := bb_ BK456 hb
    replace BK457 := bb_ BK457 hb
    replace BK458 := bb_ BK458 hb
    replace BK467 := bb_ BK467 hb
    replace BK468 := bb_ BK468 hb
    replace HB := hb_ HB hb
    (try clear hb); (try clear hb2); (try clear hk); (try clear hi)
    refine hK.out _ _ (a4_ BK467 (a4_ BK457 (a4_ BK456 (h4_ BK468)))) (fun hHeld => ?_)
    clear hK K
    refine norm_ (a' := ?_) ?_ ?_
    rotate_left
    ·
     show Act.put _ (some 18) _ = _
     simp only [Act.put, List.setIfInBounds_toArray, List.set_cons_zero, List.set_cons_succ, i64_w, i32_w]
     rfl
    refine pv_ 4 19 zq8.q23 HT_ ?_
    refine pv_ 5 20 zq8.q24 HT_ ?_
    refine tk16_ 6 21 zq8.q25 HT_ HW_ hHeld ?_
    refine tk16_ 7 22 zq8.q26 HT_ HW_ hHeld ?_
    refine tk16_ 8 23 zq8.q27 HT_ HW_ hHeld ?_
    refine one_ (i := 9) (N := some 24) zq8.q28 rfl rfl (one_of HT_.out (by kernel_rfl)) (by decide) (fun K hK => ?_)
    refine gs_ Try.func17 #[.agg #[.int .i64 a1_0, .int .i64 a1_1, .int .i64 a1_2, .int .i64 a1_3], .agg #[.int .i64 a0_0, .int .i64 a0_1, .int .i64 a0_2, .int .i64 a0_3]] ?_
    with_reducible refine (rect_Union.calls a1_0 a1_1 a1_2 a1_3 a0_0 a0_1 a0_2 a0_3 t473 t474 t475 t476 _ A29.out).mono ?_
    rintro e w34 ⟨rfl, hb⟩
    refine ⟨_, rfl, ?_⟩
    replace BK456 := bb_ BK456 hb
    replace BK457 := bb_ BK457 hb
    replace BK458 := bb_ BK458 hb
    replace BK467 := bb_ BK467 hb
    replace BK468 := bb_ BK468 hb
    replace HB := hb_ HB hb
    (try clear hb); (try clear hb2); (try clear hk); (try clear hi)
    refine hK.out _ _ (a4_ BK467 (a4_ BK457 (a4_ BK456 (h4_ BK468)))) (fun hHeld => ?_)
    clear hK K
    refine norm_ (a' := ?_) ?_ ?_
    rotate_left
    ·
     show Act.put _ (some 24) _ = _
     simp only [Act.put, List.setIfInBounds_toArray, List.set_cons_zero, List.set_cons_succ, i64_w, i32_w]
     rfl
    refine pv_ 10 25 zq8.q29 HT_ ?_
    refine pv_ 11 26 zq8.q30 HT_ ?_
    refine pv_ 12 27 zq8.q31 HT_ ?_
    refine pu_ 13 28 zq8.q32 HT_ ?_
    refine pu_ 14 29 zq8.q33 HT_ ?_
    refine pu_ 15 30 zq8.q34 HT_ ?_
    refine pu_ 16 31 zq8.q35 HT_ ?_
    refine pu_ 17 32 zq8.q36 HT_ ?_
    refine pu_ 18 33 zq8.q37 HT_ ?_
    refine pu_ 19 34 zq8.q38 HT_ ?_
    refine pu_ 20 35 zq8.q39 HT_ ?_
    refine pu_ 21 36 zq8.q40 HT_ ?_
    refine pv_ 22 37 zq8.q41 HT_ ?_
    refine pv_ 23 38 zq8.q42 HT_ ?_
    refine pu_ 24 39 zq8.q43 HT_ ?_
    refine pu_ 25 40 zq8.q44 HT_ ?_
    refine pu_ 26 41 zq8.q45 HT_ ?_
    refine pu_ 27 42 zq8.q46 HT_ ?_
    refine pu_ 28 43 zq8.q47 HT_ ?_
    refine pu_ 29 44 zq8.q48 HT_ ?_
    refine pu_ 30 45 zq8.q49 HT_ ?_
    refine pu_ 31 46 zq8.q50 HT_ ?_
    refine pu_ 32 47 zq8.q51 HT_ ?_
    refine pv_ 33 48 zq8.q52 HT_ ?_
    refine done_ (done_of HT_.out (by kernel_rfl)) ?_
    try go_wp2
    go_meet
    case rel => exact ⟨_, (true), (by first | rfl | (simp; done) | (simp [*]; done)), H', ⟨by first | omega | exact Nat.le_refl _⟩, bf_ BK456, bf_ BK457, bf_ BK458, bf_ BK467, bf_ BK468, ⟨by repeat (first | (with_reducible first | exact HB.out | apply below_alloc | apply pw_below_drewN | apply below_drew1 | refine below_set ?_ GE456.out | refine below_set ?_ GE457.out | refine below_set ?_ GE458.out | refine below_set ?_ GE467.out | refine below_set ?_ GE468.out) | exact HB.out)⟩⟩
   ·
    rw [if_neg c30] at H
    have c30b0 : (!(t463 == t473) || (!(t464 == t474) || (!(t465 == t475) || (!(t466 == t476))))) = false := by simpa using c30
    clear c30
    replace H := Option.bind_eq_some_iff.mp H
    obtain ⟨⟨t477, t478, t479, t480⟩, A350, H⟩ := H
    try dsimp only at H
    have A35 := Aside0.mk A350
    clear A350
    replace H := Option.bind_eq_some_iff.mp H
    obtain ⟨⟨t481, t482, t483, t484⟩, A360, H⟩ := H
    try dsimp only at H
    have A36 := Aside0.mk A360
    clear A360
    replace H := Option.bind_eq_some_iff.mp H
    obtain ⟨⟨t485, t486, t487, t488⟩, A370, H⟩ := H
    try dsimp only at H
    have A37 := Aside0.mk A370
    clear A370
    by_cases c38 : (!(t477 == t485) || (!(t478 == t486) || (!(t479 == t487) || (!(t480 == t488))))) = true
    ·
     rw [if_pos c38] at H
     have c38b0 : (!(t477 == t485) || (!(t478 == t486) || (!(t479 == t487) || (!(t480 == t488))))) = true := c38
     clear c38
     have H' := Aside0.mk H
     clear H
     try go_wp2
     have n0_ : Aside0 (((((((((w15.setCell ⟨gb467, 0, none⟩ (.int .i64 t459)).setCell ⟨gb467, 1, none⟩ (.int .i64 t460)).setCell ⟨gb467, 2, none⟩ (.int .i64 t461)).setCell ⟨gb467, 3, none⟩ (.int .i64 t462)).setCell ⟨gb468, 0, none⟩ (.int .i64 t463)).setCell ⟨gb468, 1, none⟩ (.int .i64 t464)).setCell ⟨gb468, 2, none⟩ (.int .i64 t465)).setCell ⟨gb468, 3, none⟩ (.int .i64 t466)).heap[gb456]? = some (.cells #[.int .i64 a0_0, .int .i64 a0_1, .int .i64 a0_2, .int .i64 a0_3] 23 (0, 0))) := bf_ BK456
     have n1_ : Aside0 (((((((((w15.setCell ⟨gb467, 0, none⟩ (.int .i64 t459)).setCell ⟨gb467, 1, none⟩ (.int .i64 t460)).setCell ⟨gb467, 2, none⟩ (.int .i64 t461)).setCell ⟨gb467, 3, none⟩ (.int .i64 t462)).setCell ⟨gb468, 0, none⟩ (.int .i64 t463)).setCell ⟨gb468, 1, none⟩ (.int .i64 t464)).setCell ⟨gb468, 2, none⟩ (.int .i64 t465)).setCell ⟨gb468, 3, none⟩ (.int .i64 t466)).heap[gb457]? = some (.cells #[.int .i64 a1_0, .int .i64 a1_1, .int .i64 a1_2, .int .i64 a1_3] 23 (0, 0))) := bf_ BK457
     have n2_ : Aside0 (((((((((w15.setCell ⟨gb467, 0, none⟩ (.int .i64 t459)).setCell ⟨gb467, 1, none⟩ (.int .i64 t460)).setCell ⟨gb467, 2, none⟩ (.int .i64 t461)).setCell ⟨gb467, 3, none⟩ (.int .i64 t462)).setCell ⟨gb468, 0, none⟩ (.int .i64 t463)).setCell ⟨gb468, 1, none⟩ (.int .i64 t464)).setCell ⟨gb468, 2, none⟩ (.int .i64 t465)).setCell ⟨gb468, 3, none⟩ (.int .i64 t466)).heap[gb458]? = some (.cells #[.int .i64 a2_0, .int .i64 a2_1, .int .i64 a2_2, .int .i64 a2_3] 23 (0, 0))) := bf_ BK458
     have n3_ : Aside0 (((((((((w15.setCell ⟨gb467, 0, none⟩ (.int .i64 t459)).setCell ⟨gb467, 1, none⟩ (.int .i64 t460)).setCell ⟨gb467, 2, none⟩ (.int .i64 t461)).setCell ⟨gb467, 3, none⟩ (.int .i64 t462)).setCell ⟨gb468, 0, none⟩ (.int .i64 t463)).setCell ⟨gb468, 1, none⟩ (.int .i64 t464)).setCell ⟨gb468, 2, none⟩ (.int .i64 t465)).setCell ⟨gb468, 3, none⟩ (.int .i64 t466)).heap[gb467]? = some (.cells #[.int .i64 t459, .int .i64 t460, .int .i64 t461, .int .i64 t462] 23 (0, 0))) := ⟨by (with_reducible repeat (first | refine blk_drewN ?_ _ | refine blk_drew ?_ | refine blk_alloc ?_ _)); refine blk_far ?_ NB467_468.out _; (with_reducible repeat (first | refine blk_drewN ?_ _ | refine blk_drew ?_ | refine blk_alloc ?_ _)); refine blk_far ?_ NB467_468.out _; (with_reducible repeat (first | refine blk_drewN ?_ _ | refine blk_drew ?_ | refine blk_alloc ?_ _)); refine blk_far ?_ NB467_468.out _; (with_reducible repeat (first | refine blk_drewN ?_ _ | refine blk_drew ?_ | refine blk_alloc ?_ _)); refine blk_far ?_ NB467_468.out _; (with_reducible repeat (first | refine blk_drewN ?_ _ | refine blk_drew ?_ | refine blk_alloc ?_ _)); refine blk_put (cs := #[.int .i64 t459, .int .i64 t460, .int .i64 t461, .int .i64 0]) ?_ 3 _ rfl; (with_reducible repeat (first | refine blk_drewN ?_ _ | refine blk_drew ?_ | refine blk_alloc ?_ _)); refine blk_put (cs := #[.int .i64 t459, .int .i64 t460, .int .i64 0, .int .i64 0]) ?_ 2 _ rfl; (with_reducible repeat (first | refine blk_drewN ?_ _ | refine blk_drew ?_ | refine blk_alloc ?_ _)); refine blk_put (cs := #[.int .i64 t459, .int .i64 0, .int .i64 0, .int .i64 0]) ?_ 1 _ rfl; (with_reducible repeat (first | refine blk_drewN ?_ _ | refine blk_drew ?_ | refine blk_alloc ?_ _)); refine blk_put (cs := #[.int .i64 0, .int .i64 0, .int .i64 0, .int .i64 0]) ?_ 0 _ rfl; (with_reducible repeat (first | refine blk_drewN ?_ _ | refine blk_drew ?_ | refine blk_alloc ?_ _)); exact BK467.out⟩
     have n4_ : Aside0 (((((((((w15.setCell ⟨gb467, 0, none⟩ (.int .i64 t459)).setCell ⟨gb467, 1, none⟩ (.int .i64 t460)).setCell ⟨gb467, 2, none⟩ (.int .i64 t461)).setCell ⟨gb467, 3, none⟩ (.int .i64 t462)).setCell ⟨gb468, 0, none⟩ (.int .i64 t463)).setCell ⟨gb468, 1, none⟩ (.int .i64 t464)).setCell ⟨gb468, 2, none⟩ (.int .i64 t465)).setCell ⟨gb468, 3, none⟩ (.int .i64 t466)).heap[gb468]? = some (.cells #[.int .i64 t463, .int .i64 t464, .int .i64 t465, .int .i64 t466] 23 (0, 0))) := ⟨by (with_reducible repeat (first | refine blk_drewN ?_ _ | refine blk_drew ?_ | refine blk_alloc ?_ _)); refine blk_put (cs := #[.int .i64 t463, .int .i64 t464, .int .i64 t465, .int .i64 0]) ?_ 3 _ rfl; (with_reducible repeat (first | refine blk_drewN ?_ _ | refine blk_drew ?_ | refine blk_alloc ?_ _)); refine blk_put (cs := #[.int .i64 t463, .int .i64 t464, .int .i64 0, .int .i64 0]) ?_ 2 _ rfl; (with_reducible repeat (first | refine blk_drewN ?_ _ | refine blk_drew ?_ | refine blk_alloc ?_ _)); refine blk_put (cs := #[.int .i64 t463, .int .i64 0, .int .i64 0, .int .i64 0]) ?_ 1 _ rfl; (with_reducible repeat (first | refine blk_drewN ?_ _ | refine blk_drew ?_ | refine blk_alloc ?_ _)); refine blk_put (cs := #[.int .i64 0, .int .i64 0, .int .i64 0, .int .i64 0]) ?_ 0 _ rfl; (with_reducible repeat (first | refine blk_drewN ?_ _ | refine blk_drew ?_ | refine blk_alloc ?_ _)); refine blk_far ?_ NB468_467.out _; (with_reducible repeat (first | refine blk_drewN ?_ _ | refine blk_drew ?_ | refine blk_alloc ?_ _)); refine blk_far ?_ NB468_467.out _; (with_reducible repeat (first | refine blk_drewN ?_ _ | refine blk_drew ?_ | refine blk_alloc ?_ _)); refine blk_far ?_ NB468_467.out _; (with_reducible repeat (first | refine blk_drewN ?_ _ | refine blk_drew ?_ | refine blk_alloc ?_ _)); refine blk_far ?_ NB468_467.out _; (with_reducible repeat (first | refine blk_drewN ?_ _ | refine blk_drew ?_ | refine blk_alloc ?_ _)); exact BK468.out⟩
     have n5_ : Aside0 (Below w.heap.size w ((((((((w15.setCell ⟨gb467, 0, none⟩ (.int .i64 t459)).setCell ⟨gb467, 1, none⟩ (.int .i64 t460)).setCell ⟨gb467, 2, none⟩ (.int .i64 t461)).setCell ⟨gb467, 3, none⟩ (.int .i64 t462)).setCell ⟨gb468, 0, none⟩ (.int .i64 t463)).setCell ⟨gb468, 1, none⟩ (.int .i64 t464)).setCell ⟨gb468, 2, none⟩ (.int .i64 t465)).setCell ⟨gb468, 3, none⟩ (.int .i64 t466))) := ⟨by repeat (first | (with_reducible first | exact HB.out | apply below_alloc | apply pw_below_drewN | apply below_drew1 | refine below_set ?_ GE456.out | refine below_set ?_ GE457.out | refine below_set ?_ GE458.out | refine below_set ?_ GE467.out | refine below_set ?_ GE468.out) | exact HB.out)⟩
     (try clear BK456)
     (try clear BK457)
     (try clear BK458)
     (try clear BK467)
     (try clear BK468)
     (try clear HB)
     generalize ((((((((w15.setCell ⟨gb467, 0, none⟩ (.int .i64 t459)).setCell ⟨gb467, 1, none⟩ (.int .i64 t460)).setCell ⟨gb467, 2, none⟩ (.int .i64 t461)).setCell ⟨gb467, 3, none⟩ (.int .i64 t462)).setCell ⟨gb468, 0, none⟩ (.int .i64 t463)).setCell ⟨gb468, 1, none⟩ (.int .i64 t464)).setCell ⟨gb468, 2, none⟩ (.int .i64 t465)).setCell ⟨gb468, 3, none⟩ (.int .i64 t466)) = w39 at n0_ n1_ n2_ n3_ n4_ n5_ ⊢
     have BK456 := n0_
     have BK457 := n1_
     have BK458 := n2_
     have BK467 := n3_
     have BK468 := n4_
     have HB := n5_
     clear n0_ n1_ n2_ n3_ n4_ n5_
     replace BK456 := Aside0.mk (blk_drew BK456.out)
     replace BK457 := Aside0.mk (blk_drew BK457.out)
     replace BK458 := Aside0.mk (blk_drew BK458.out)
     replace BK467 := Aside0.mk (blk_drew BK467.out)
     replace BK468 := Aside0.mk (blk_drew BK468.out)
     replace HB := Aside0.mk (below_drew1 HB.out)
     refine start_ (n := 34) (S := fun w' => w'.cell? ⟨gb467, 0, none⟩ = some (.int .i64 t459) ∧ w'.cell? ⟨gb467, 1, none⟩ = some (.int .i64 t460) ∧ w'.cell? ⟨gb467, 2, none⟩ = some (.int .i64 t461) ∧ w'.cell? ⟨gb467, 3, none⟩ = some (.int .i64 t462) ∧ w'.cell? ⟨gb457, 0, none⟩ = some (.int .i64 a1_0) ∧ w'.cell? ⟨gb457, 1, none⟩ = some (.int .i64 a1_1) ∧ w'.cell? ⟨gb457, 2, none⟩ = some (.int .i64 a1_2) ∧ w'.cell? ⟨gb457, 3, none⟩ = some (.int .i64 a1_3) ∧ w'.cell? ⟨gb456, 0, none⟩ = some (.int .i64 a0_0) ∧ w'.cell? ⟨gb456, 1, none⟩ = some (.int .i64 a0_1) ∧ w'.cell? ⟨gb456, 2, none⟩ = some (.int .i64 a0_2) ∧ w'.cell? ⟨gb456, 3, none⟩ = some (.int .i64 a0_3) ∧ w'.cell? ⟨gb468, 0, none⟩ = some (.int .i64 t463) ∧ w'.cell? ⟨gb468, 1, none⟩ = some (.int .i64 t464) ∧ w'.cell? ⟨gb468, 2, none⟩ = some (.int .i64 t465) ∧ w'.cell? ⟨gb468, 3, none⟩ = some (.int .i64 t466) ∧ w'.cell? ⟨gb458, 0, none⟩ = some (.int .i64 a2_0) ∧ w'.cell? ⟨gb458, 1, none⟩ = some (.int .i64 a2_1) ∧ w'.cell? ⟨gb458, 2, none⟩ = some (.int .i64 a2_2) ∧ w'.cell? ⟨gb458, 3, none⟩ = some (.int .i64 a2_3)) (ds := []) zq8.q18 (by kernel_rfl) rfl rfl (a4_ BK467 (a4_ BK457 (a4_ BK456 (a4_ BK468 (h4_ BK458))))) (fun hHeld => ?_); refine with_tabW compositorlaw04_RectLattice.tab2 compositorlaw04_RectLattice.bits2 (fun HT_ HW_ => ?_)
     generalize w39.drew = w40 at BK456 BK457 BK458 BK467 BK468 HB hHeld ⊢
     refine take_ (i := 0) (N := some 15) (v := ?_) (a' := ?_) zq8.q19 rfl rfl (take_ofW HT_.out HW_.out (by kernel_rfl)) (fun _ _ _ h => h) (Or.inl ⟨by rfl, ?_⟩) hHeld ?_ ?_
     rotate_left
     ·
      rintro w' ⟨s0, s1, s2, s3, s4, s5, s6, s7, s8, s9, s10, s11, s12, s13, s14, s15, s16, s17, s18, s19⟩
      go_simp
      with_reducible rfl
     rotate_left
     ·
      simp only [Act.put, List.setIfInBounds_toArray, List.set_cons_zero, List.set_cons_succ, i64_w, i32_w]
      rfl
     refine take_ (i := 1) (N := some 16) (v := ?_) (a' := ?_) zq8.q20 rfl rfl (take_ofW HT_.out HW_.out (by kernel_rfl)) (fun _ _ _ h => h) (Or.inl ⟨by rfl, ?_⟩) hHeld ?_ ?_
     rotate_left
     ·
      rintro w' ⟨s0, s1, s2, s3, s4, s5, s6, s7, s8, s9, s10, s11, s12, s13, s14, s15, s16, s17, s18, s19⟩
      go_simp
      with_reducible rfl
     rotate_left
     ·
      simp only [Act.put, List.setIfInBounds_toArray, List.set_cons_zero, List.set_cons_succ, i64_w, i32_w]
      rfl
     refine take_ (i := 2) (N := some 17) (v := ?_) (a' := ?_) zq8.q21 rfl rfl (take_ofW HT_.out HW_.out (by kernel_rfl)) (fun _ _ _ h => h) (Or.inl ⟨by rfl, ?_⟩) hHeld ?_ ?_
     rotate_left
     ·
      rintro w' ⟨s0, s1, s2, s3, s4, s5, s6, s7, s8, s9, s10, s11, s12, s13, s14, s15, s16, s17, s18, s19⟩
      go_simp
      with_reducible rfl
     rotate_left
     ·
      simp only [Act.put, List.setIfInBounds_toArray, List.set_cons_zero, List.set_cons_succ, i64_w, i32_w]
      rfl
     refine one_ (i := 3) (N := some 18) zq8.q22 rfl rfl (one_of HT_.out (by kernel_rfl)) (by decide) (fun K hK => ?_)
     refine gs_ Try.func21 #[.agg #[.int .i64 a1_0, .int .i64 a1_1, .int .i64 a1_2, .int .i64 a1_3], .agg #[.int .i64 a0_0, .int .i64 a0_1, .int .i64 a0_2, .int .i64 a0_3]] ?_
     with_reducible refine (rect_Intersect.calls a1_0 a1_1 a1_2 a1_3 a0_0 a0_1 a0_2 a0_3 t469 t470 t471 t472 _ A24.out).mono ?_
     rintro e w41 ⟨rfl, hb⟩
     refine ⟨_, rfl, ?_⟩
     replace BK456 := bb_ BK456 hb
     replace BK457 := bb_ BK457 hb
     replace BK458 := bb_ BK458 hb
     replace BK467 := bb_ BK467 hb
     replace BK468 := bb_ BK468 hb
     replace HB := hb_ HB hb
     (try clear hb); (try clear hb2); (try clear hk); (try clear hi)
     refine hK.out _ _ (a4_ BK467 (a4_ BK457 (a4_ BK456 (a4_ BK468 (h4_ BK458))))) (fun hHeld => ?_)
     clear hK K
     refine norm_ (a' := ?_) ?_ ?_
     rotate_left
     ·
      show Act.put _ (some 18) _ = _
      simp only [Act.put, List.setIfInBounds_toArray, List.set_cons_zero, List.set_cons_succ, i64_w, i32_w]
      rfl
     refine pv_ 4 19 zq8.q23 HT_ ?_
     refine pv_ 5 20 zq8.q24 HT_ ?_
     refine take_ (i := 6) (N := some 21) (v := ?_) (a' := ?_) zq8.q25 rfl rfl (take_ofW HT_.out HW_.out (by kernel_rfl)) (fun _ _ _ h => h) (Or.inl ⟨by rfl, ?_⟩) hHeld ?_ ?_
     rotate_left
     ·
      rintro w' ⟨s0, s1, s2, s3, s4, s5, s6, s7, s8, s9, s10, s11, s12, s13, s14, s15, s16, s17, s18, s19⟩
      go_simp
      with_reducible rfl
     rotate_left
     ·
      simp only [Act.put, List.setIfInBounds_toArray, List.set_cons_zero, List.set_cons_succ, i64_w, i32_w]
      rfl
     refine take_ (i := 7) (N := some 22) (v := ?_) (a' := ?_) zq8.q26 rfl rfl (take_ofW HT_.out HW_.out (by kernel_rfl)) (fun _ _ _ h => h) (Or.inl ⟨by rfl, ?_⟩) hHeld ?_ ?_
     rotate_left
     ·
      rintro w' ⟨s0, s1, s2, s3, s4, s5, s6, s7, s8, s9, s10, s11, s12, s13, s14, s15, s16, s17, s18, s19⟩
      go_simp
      with_reducible rfl
     rotate_left
     ·
      simp only [Act.put, List.setIfInBounds_toArray, List.set_cons_zero, List.set_cons_succ, i64_w, i32_w]
      rfl
     refine take_ (i := 8) (N := some 23) (v := ?_) (a' := ?_) zq8.q27 rfl rfl (take_ofW HT_.out HW_.out (by kernel_rfl)) (fun _ _ _ h => h) (Or.inl ⟨by rfl, ?_⟩) hHeld ?_ ?_
     rotate_left
     ·
      rintro w' ⟨s0, s1, s2, s3, s4, s5, s6, s7, s8, s9, s10, s11, s12, s13, s14, s15, s16, s17, s18, s19⟩
      go_simp
      with_reducible rfl
     rotate_left
     ·
      simp only [Act.put, List.setIfInBounds_toArray, List.set_cons_zero, List.set_cons_succ, i64_w, i32_w]
      rfl
     refine one_ (i := 9) (N := some 24) zq8.q28 rfl rfl (one_of HT_.out (by kernel_rfl)) (by decide) (fun K hK => ?_)
     refine gs_ Try.func17 #[.agg #[.int .i64 a1_0, .int .i64 a1_1, .int .i64 a1_2, .int .i64 a1_3], .agg #[.int .i64 a0_0, .int .i64 a0_1, .int .i64 a0_2, .int .i64 a0_3]] ?_
     with_reducible refine (rect_Union.calls a1_0 a1_1 a1_2 a1_3 a0_0 a0_1 a0_2 a0_3 t473 t474 t475 t476 _ A29.out).mono ?_
     rintro e w42 ⟨rfl, hb⟩
     refine ⟨_, rfl, ?_⟩
     replace BK456 := bb_ BK456 hb
     replace BK457 := bb_ BK457 hb
     replace BK458 := bb_ BK458 hb
     replace BK467 := bb_ BK467 hb
     replace BK468 := bb_ BK468 hb
     replace HB := hb_ HB hb
     (try clear hb); (try clear hb2); (try clear hk); (try clear hi)
     refine hK.out _ _ (a4_ BK467 (a4_ BK457 (a4_ BK456 (a4_ BK468 (h4_ BK458))))) (fun hHeld => ?_)
     clear hK K
     refine norm_ (a' := ?_) ?_ ?_
     rotate_left
     ·
      show Act.put _ (some 24) _ = _
      simp only [Act.put, List.setIfInBounds_toArray, List.set_cons_zero, List.set_cons_succ, i64_w, i32_w]
      rfl
     refine pv_ 10 25 zq8.q29 HT_ ?_
     refine pv_ 11 26 zq8.q30 HT_ ?_
     refine pv_ 12 27 zq8.q31 HT_ ?_
     refine take_ (i := 13) (N := some 28) (v := ?_) (a' := ?_) zq8.q32 rfl rfl (take_ofW HT_.out HW_.out (by kernel_rfl)) (fun _ _ _ h => h) (Or.inl ⟨by rfl, ?_⟩) hHeld ?_ ?_
     rotate_left
     ·
      rintro w' ⟨s0, s1, s2, s3, s4, s5, s6, s7, s8, s9, s10, s11, s12, s13, s14, s15, s16, s17, s18, s19⟩
      go_simp
      with_reducible rfl
     rotate_left
     ·
      simp only [Act.put, List.setIfInBounds_toArray, List.set_cons_zero, List.set_cons_succ, i64_w, i32_w]
      rfl
     refine take_ (i := 14) (N := some 29) (v := ?_) (a' := ?_) zq8.q33 rfl rfl (take_ofW HT_.out HW_.out (by kernel_rfl)) (fun _ _ _ h => h) (Or.inl ⟨by rfl, ?_⟩) hHeld ?_ ?_
     rotate_left
     ·
      rintro w' ⟨s0, s1, s2, s3, s4, s5, s6, s7, s8, s9, s10, s11, s12, s13, s14, s15, s16, s17, s18, s19⟩
      go_simp
      with_reducible rfl
     rotate_left
     ·
      simp only [Act.put, List.setIfInBounds_toArray, List.set_cons_zero, List.set_cons_succ, i64_w, i32_w]
      rfl
     refine take_ (i := 16) (N := some 31) (v := ?_) (a' := ?_) zq8.q53 rfl rfl (take_ofW HT_.out HW_.out (by kernel_rfl)) (fun _ _ _ h => h) (Or.inl ⟨by rfl, ?_⟩) hHeld ?_ ?_
     rotate_left
     ·
      rintro w' ⟨s0, s1, s2, s3, s4, s5, s6, s7, s8, s9, s10, s11, s12, s13, s14, s15, s16, s17, s18, s19⟩
      go_simp
      with_reducible rfl
     rotate_left
     ·
      simp only [Act.put, List.setIfInBounds_toArray, List.set_cons_zero, List.set_cons_succ, i64_w, i32_w]
      rfl
     refine take_ (i := 17) (N := some 32) (v := ?_) (a' := ?_) zq8.q54 rfl rfl (take_ofW HT_.out HW_.out (by kernel_rfl)) (fun _ _ _ h => h) (Or.inl ⟨by rfl, ?_⟩) hHeld ?_ ?_
     rotate_left
     ·
      rintro w' ⟨s0, s1, s2, s3, s4, s5, s6, s7, s8, s9, s10, s11, s12, s13, s14, s15, s16, s17, s18, s19⟩
      go_simp
      with_reducible rfl
     rotate_left
     ·
      simp only [Act.put, List.setIfInBounds_toArray, List.set_cons_zero, List.set_cons_succ, i64_w, i32_w]
      rfl
     refine take_ (i := 18) (N := some 33) (v := ?_) (a' := ?_) zq8.q55 rfl rfl (take_ofW HT_.out HW_.out (by kernel_rfl)) (fun _ _ _ h => h) (Or.inl ⟨by rfl, ?_⟩) hHeld ?_ ?_
     rotate_left
     ·
      rintro w' ⟨s0, s1, s2, s3, s4, s5, s6, s7, s8, s9, s10, s11, s12, s13, s14, s15, s16, s17, s18, s19⟩
      go_simp
      with_reducible rfl
     rotate_left
     ·
      simp only [Act.put, List.setIfInBounds_toArray, List.set_cons_zero, List.set_cons_succ, i64_w, i32_w]
      rfl
     refine one_ (i := 15) (N := some 30) zq8.q37 rfl rfl (one_of HT_.out (by kernel_rfl)) (by decide) (fun K hK => ?_)
     refine gs_ Try.func21 #[.agg #[.int .i64 t459, .int .i64 t460, .int .i64 t461, .int .i64 t462], .agg #[.int .i64 a2_0, .int .i64 a2_1, .int .i64 a2_2, .int .i64 a2_3]] ?_
     with_reducible refine (rect_Intersect.calls t459 t460 t461 t462 a2_0 a2_1 a2_2 a2_3 t477 t478 t479 t480 _ A35.out).mono ?_
     rintro e w43 ⟨rfl, hb⟩
     refine ⟨_, rfl, ?_⟩
     replace BK456 := bb_ BK456 hb
     replace BK457 := bb_ BK457 hb
     replace BK458 := bb_ BK458 hb
     replace BK467 := bb_ BK467 hb
     replace BK468 := bb_ BK468 hb
     replace HB := hb_ HB hb
     (try clear hb); (try clear hb2); (try clear hk); (try clear hi)
     refine hK.out _ _ (a4_ BK467 (a4_ BK457 (a4_ BK456 (a4_ BK468 (h4_ BK458))))) (fun hHeld => ?_)
     clear hK K
     refine norm_ (a' := ?_) ?_ ?_
     rotate_left
     ·
      show Act.put _ (some 30) _ = _
      simp only [Act.put, List.setIfInBounds_toArray, List.set_cons_zero, List.set_cons_succ, i64_w, i32_w]
      rfl
     refine one_ (i := 19) (N := some 34) zq8.q38 rfl rfl (one_of HT_.out (by kernel_rfl)) (by decide) (fun K hK => ?_)
     refine gs_ Try.func21 #[.agg #[.int .i64 a1_0, .int .i64 a1_1, .int .i64 a1_2, .int .i64 a1_3], .agg #[.int .i64 a2_0, .int .i64 a2_1, .int .i64 a2_2, .int .i64 a2_3]] ?_
     with_reducible refine (rect_Intersect.calls a1_0 a1_1 a1_2 a1_3 a2_0 a2_1 a2_2 a2_3 t481 t482 t483 t484 _ A36.out).mono ?_
     rintro e w44 ⟨rfl, hb⟩
     refine ⟨_, rfl, ?_⟩
     replace BK456 := bb_ BK456 hb
     replace BK457 := bb_ BK457 hb
     replace BK458 := bb_ BK458 hb
     replace BK467 := bb_ BK467 hb
     replace BK468 := bb_ BK468 hb
     replace HB := hb_ HB hb
     (try clear hb); (try clear hb2); (try clear hk); (try clear hi)
     refine hK.out _ _ (a4_ BK467 (a4_ BK457 (a4_ BK456 (a4_ BK468 (h4_ BK458))))) (fun hHeld => ?_)
     clear hK K
     refine norm_ (a' := ?_) ?_ ?_
     rotate_left
     ·
      show Act.put _ (some 34) _ = _
      simp only [Act.put, List.setIfInBounds_toArray, List.set_cons_zero, List.set_cons_succ, i64_w, i32_w]
      rfl
     refine one_ (i := 20) (N := some 35) zq8.q39 rfl rfl (one_of HT_.out (by kernel_rfl)) (by decide) (fun K hK => ?_)
     refine gs_ Try.func21 #[.agg #[.int .i64 a0_0, .int .i64 a0_1, .int .i64 a0_2, .int .i64 a0_3], .agg #[.int .i64 t481, .int .i64 t482, .int .i64 t483, .int .i64 t484]] ?_
     with_reducible refine (rect_Intersect.calls a0_0 a0_1 a0_2 a0_3 t481 t482 t483 t484 t485 t486 t487 t488 _ A37.out).mono ?_
     rintro e w45 ⟨rfl, hb⟩
     refine ⟨_, rfl, ?_⟩
     replace BK456 := bb_ BK456 hb
     replace BK457 := bb_ BK457 hb
     replace BK458 := bb_ BK458 hb
     replace BK467 := bb_ BK467 hb
     replace BK468 := bb_ BK468 hb
     replace HB := hb_ HB hb
     (try clear hb); (try clear hb2); (try clear hk); (try clear hi)
     refine hK.out _ _ (a4_ BK467 (a4_ BK457 (a4_ BK456 (a4_ BK468 (h4_ BK458))))) (fun hHeld => ?_)
     clear hK K
     refine norm_ (a' := ?_) ?_ ?_
     rotate_left
     ·
      show Act.put _ (some 35) _ = _
      simp only [Act.put, List.setIfInBounds_toArray, List.set_cons_zero, List.set_cons_succ, i64_w, i32_w]
      rfl
     refine pv_ 21 36 zq8.q40 HT_ ?_
     refine pv_ 22 37 zq8.q41 HT_ ?_
     refine pv_ 23 38 zq8.q42 HT_ ?_
     refine pu_ 24 39 zq8.q43 HT_ ?_
     refine pu_ 25 40 zq8.q44 HT_ ?_
     refine pu_ 26 41 zq8.q45 HT_ ?_
     refine pu_ 27 42 zq8.q46 HT_ ?_
     refine pu_ 28 43 zq8.q47 HT_ ?_
     refine pu_ 29 44 zq8.q48 HT_ ?_
     refine pu_ 30 45 zq8.q49 HT_ ?_
     refine pu_ 31 46 zq8.q50 HT_ ?_
     refine pu_ 32 47 zq8.q51 HT_ ?_
     refine pv_ 33 48 zq8.q52 HT_ ?_
     refine done_ (done_of HT_.out (by kernel_rfl)) ?_
     try go_wp2
     go_meet
     case rel => exact ⟨_, (true), (by first | rfl | (simp; done) | (simp [*]; done)), H', ⟨by first | omega | exact Nat.le_refl _⟩, bf_ BK456, bf_ BK457, bf_ BK458, bf_ BK467, bf_ BK468, ⟨by repeat (first | (with_reducible first | exact HB.out | apply below_alloc | apply pw_below_drewN | apply below_drew1 | refine below_set ?_ GE456.out | refine below_set ?_ GE457.out | refine below_set ?_ GE458.out | refine below_set ?_ GE467.out | refine below_set ?_ GE468.out) | exact HB.out)⟩⟩
    ·
     rw [if_neg c38] at H
     have c38b0 : (!(t477 == t485) || (!(t478 == t486) || (!(t479 == t487) || (!(t480 == t488))))) = false := by simpa using c38
     clear c38
     replace H := Option.bind_eq_some_iff.mp H
     obtain ⟨⟨t489, t490, t491, t492⟩, A460, H⟩ := H
     try dsimp only at H
     have A46 := Aside0.mk A460
     clear A460
     replace H := Option.bind_eq_some_iff.mp H
     obtain ⟨⟨t493, t494, t495, t496⟩, A470, H⟩ := H
     try dsimp only at H
     have A47 := Aside0.mk A470
     clear A470
     replace H := Option.bind_eq_some_iff.mp H
     obtain ⟨⟨t497, t498, t499, t500⟩, A480, H⟩ := H
     try dsimp only at H
     have A48 := Aside0.mk A480
     clear A480
     have H' := Aside0.mk H
     clear H
     try go_wp2
     have n0_ : Aside0 (((((((((w15.setCell ⟨gb467, 0, none⟩ (.int .i64 t459)).setCell ⟨gb467, 1, none⟩ (.int .i64 t460)).setCell ⟨gb467, 2, none⟩ (.int .i64 t461)).setCell ⟨gb467, 3, none⟩ (.int .i64 t462)).setCell ⟨gb468, 0, none⟩ (.int .i64 t463)).setCell ⟨gb468, 1, none⟩ (.int .i64 t464)).setCell ⟨gb468, 2, none⟩ (.int .i64 t465)).setCell ⟨gb468, 3, none⟩ (.int .i64 t466)).heap[gb456]? = some (.cells #[.int .i64 a0_0, .int .i64 a0_1, .int .i64 a0_2, .int .i64 a0_3] 23 (0, 0))) := bf_ BK456
     have n1_ : Aside0 (((((((((w15.setCell ⟨gb467, 0, none⟩ (.int .i64 t459)).setCell ⟨gb467, 1, none⟩ (.int .i64 t460)).setCell ⟨gb467, 2, none⟩ (.int .i64 t461)).setCell ⟨gb467, 3, none⟩ (.int .i64 t462)).setCell ⟨gb468, 0, none⟩ (.int .i64 t463)).setCell ⟨gb468, 1, none⟩ (.int .i64 t464)).setCell ⟨gb468, 2, none⟩ (.int .i64 t465)).setCell ⟨gb468, 3, none⟩ (.int .i64 t466)).heap[gb457]? = some (.cells #[.int .i64 a1_0, .int .i64 a1_1, .int .i64 a1_2, .int .i64 a1_3] 23 (0, 0))) := bf_ BK457
     have n2_ : Aside0 (((((((((w15.setCell ⟨gb467, 0, none⟩ (.int .i64 t459)).setCell ⟨gb467, 1, none⟩ (.int .i64 t460)).setCell ⟨gb467, 2, none⟩ (.int .i64 t461)).setCell ⟨gb467, 3, none⟩ (.int .i64 t462)).setCell ⟨gb468, 0, none⟩ (.int .i64 t463)).setCell ⟨gb468, 1, none⟩ (.int .i64 t464)).setCell ⟨gb468, 2, none⟩ (.int .i64 t465)).setCell ⟨gb468, 3, none⟩ (.int .i64 t466)).heap[gb458]? = some (.cells #[.int .i64 a2_0, .int .i64 a2_1, .int .i64 a2_2, .int .i64 a2_3] 23 (0, 0))) := bf_ BK458
     have n3_ : Aside0 (((((((((w15.setCell ⟨gb467, 0, none⟩ (.int .i64 t459)).setCell ⟨gb467, 1, none⟩ (.int .i64 t460)).setCell ⟨gb467, 2, none⟩ (.int .i64 t461)).setCell ⟨gb467, 3, none⟩ (.int .i64 t462)).setCell ⟨gb468, 0, none⟩ (.int .i64 t463)).setCell ⟨gb468, 1, none⟩ (.int .i64 t464)).setCell ⟨gb468, 2, none⟩ (.int .i64 t465)).setCell ⟨gb468, 3, none⟩ (.int .i64 t466)).heap[gb467]? = some (.cells #[.int .i64 t459, .int .i64 t460, .int .i64 t461, .int .i64 t462] 23 (0, 0))) := ⟨by (with_reducible repeat (first | refine blk_drewN ?_ _ | refine blk_drew ?_ | refine blk_alloc ?_ _)); refine blk_far ?_ NB467_468.out _; (with_reducible repeat (first | refine blk_drewN ?_ _ | refine blk_drew ?_ | refine blk_alloc ?_ _)); refine blk_far ?_ NB467_468.out _; (with_reducible repeat (first | refine blk_drewN ?_ _ | refine blk_drew ?_ | refine blk_alloc ?_ _)); refine blk_far ?_ NB467_468.out _; (with_reducible repeat (first | refine blk_drewN ?_ _ | refine blk_drew ?_ | refine blk_alloc ?_ _)); refine blk_far ?_ NB467_468.out _; (with_reducible repeat (first | refine blk_drewN ?_ _ | refine blk_drew ?_ | refine blk_alloc ?_ _)); refine blk_put (cs := #[.int .i64 t459, .int .i64 t460, .int .i64 t461, .int .i64 0]) ?_ 3 _ rfl; (with_reducible repeat (first | refine blk_drewN ?_ _ | refine blk_drew ?_ | refine blk_alloc ?_ _)); refine blk_put (cs := #[.int .i64 t459, .int .i64 t460, .int .i64 0, .int .i64 0]) ?_ 2 _ rfl; (with_reducible repeat (first | refine blk_drewN ?_ _ | refine blk_drew ?_ | refine blk_alloc ?_ _)); refine blk_put (cs := #[.int .i64 t459, .int .i64 0, .int .i64 0, .int .i64 0]) ?_ 1 _ rfl; (with_reducible repeat (first | refine blk_drewN ?_ _ | refine blk_drew ?_ | refine blk_alloc ?_ _)); refine blk_put (cs := #[.int .i64 0, .int .i64 0, .int .i64 0, .int .i64 0]) ?_ 0 _ rfl; (with_reducible repeat (first | refine blk_drewN ?_ _ | refine blk_drew ?_ | refine blk_alloc ?_ _)); exact BK467.out⟩
     have n4_ : Aside0 (((((((((w15.setCell ⟨gb467, 0, none⟩ (.int .i64 t459)).setCell ⟨gb467, 1, none⟩ (.int .i64 t460)).setCell ⟨gb467, 2, none⟩ (.int .i64 t461)).setCell ⟨gb467, 3, none⟩ (.int .i64 t462)).setCell ⟨gb468, 0, none⟩ (.int .i64 t463)).setCell ⟨gb468, 1, none⟩ (.int .i64 t464)).setCell ⟨gb468, 2, none⟩ (.int .i64 t465)).setCell ⟨gb468, 3, none⟩ (.int .i64 t466)).heap[gb468]? = some (.cells #[.int .i64 t463, .int .i64 t464, .int .i64 t465, .int .i64 t466] 23 (0, 0))) := ⟨by (with_reducible repeat (first | refine blk_drewN ?_ _ | refine blk_drew ?_ | refine blk_alloc ?_ _)); refine blk_put (cs := #[.int .i64 t463, .int .i64 t464, .int .i64 t465, .int .i64 0]) ?_ 3 _ rfl; (with_reducible repeat (first | refine blk_drewN ?_ _ | refine blk_drew ?_ | refine blk_alloc ?_ _)); refine blk_put (cs := #[.int .i64 t463, .int .i64 t464, .int .i64 0, .int .i64 0]) ?_ 2 _ rfl; (with_reducible repeat (first | refine blk_drewN ?_ _ | refine blk_drew ?_ | refine blk_alloc ?_ _)); refine blk_put (cs := #[.int .i64 t463, .int .i64 0, .int .i64 0, .int .i64 0]) ?_ 1 _ rfl; (with_reducible repeat (first | refine blk_drewN ?_ _ | refine blk_drew ?_ | refine blk_alloc ?_ _)); refine blk_put (cs := #[.int .i64 0, .int .i64 0, .int .i64 0, .int .i64 0]) ?_ 0 _ rfl; (with_reducible repeat (first | refine blk_drewN ?_ _ | refine blk_drew ?_ | refine blk_alloc ?_ _)); refine blk_far ?_ NB468_467.out _; (with_reducible repeat (first | refine blk_drewN ?_ _ | refine blk_drew ?_ | refine blk_alloc ?_ _)); refine blk_far ?_ NB468_467.out _; (with_reducible repeat (first | refine blk_drewN ?_ _ | refine blk_drew ?_ | refine blk_alloc ?_ _)); refine blk_far ?_ NB468_467.out _; (with_reducible repeat (first | refine blk_drewN ?_ _ | refine blk_drew ?_ | refine blk_alloc ?_ _)); refine blk_far ?_ NB468_467.out _; (with_reducible repeat (first | refine blk_drewN ?_ _ | refine blk_drew ?_ | refine blk_alloc ?_ _)); exact BK468.out⟩
     have n5_ : Aside0 (Below w.heap.size w ((((((((w15.setCell ⟨gb467, 0, none⟩ (.int .i64 t459)).setCell ⟨gb467, 1, none⟩ (.int .i64 t460)).setCell ⟨gb467, 2, none⟩ (.int .i64 t461)).setCell ⟨gb467, 3, none⟩ (.int .i64 t462)).setCell ⟨gb468, 0, none⟩ (.int .i64 t463)).setCell ⟨gb468, 1, none⟩ (.int .i64 t464)).setCell ⟨gb468, 2, none⟩ (.int .i64 t465)).setCell ⟨gb468, 3, none⟩ (.int .i64 t466))) := ⟨by repeat (first | (with_reducible first | exact HB.out | apply below_alloc | apply pw_below_drewN | apply below_drew1 | refine below_set ?_ GE456.out | refine below_set ?_ GE457.out | refine below_set ?_ GE458.out | refine below_set ?_ GE467.out | refine below_set ?_ GE468.out) | exact HB.out)⟩
     (try clear BK456)
     (try clear BK457)
     (try clear BK458)
     (try clear BK467)
     (try clear BK468)
     (try clear HB)
     generalize ((((((((w15.setCell ⟨gb467, 0, none⟩ (.int .i64 t459)).setCell ⟨gb467, 1, none⟩ (.int .i64 t460)).setCell ⟨gb467, 2, none⟩ (.int .i64 t461)).setCell ⟨gb467, 3, none⟩ (.int .i64 t462)).setCell ⟨gb468, 0, none⟩ (.int .i64 t463)).setCell ⟨gb468, 1, none⟩ (.int .i64 t464)).setCell ⟨gb468, 2, none⟩ (.int .i64 t465)).setCell ⟨gb468, 3, none⟩ (.int .i64 t466)) = w49 at n0_ n1_ n2_ n3_ n4_ n5_ ⊢
     have BK456 := n0_
     have BK457 := n1_
     have BK458 := n2_
     have BK467 := n3_
     have BK468 := n4_
     have HB := n5_
     clear n0_ n1_ n2_ n3_ n4_ n5_
     replace BK456 := Aside0.mk (blk_drew BK456.out)
     replace BK457 := Aside0.mk (blk_drew BK457.out)
     replace BK458 := Aside0.mk (blk_drew BK458.out)
     replace BK467 := Aside0.mk (blk_drew BK467.out)
     replace BK468 := Aside0.mk (blk_drew BK468.out)
     replace HB := Aside0.mk (below_drew1 HB.out)
     refine start_ (n := 34) (S := fun w' => w'.cell? ⟨gb467, 0, none⟩ = some (.int .i64 t459) ∧ w'.cell? ⟨gb467, 1, none⟩ = some (.int .i64 t460) ∧ w'.cell? ⟨gb467, 2, none⟩ = some (.int .i64 t461) ∧ w'.cell? ⟨gb467, 3, none⟩ = some (.int .i64 t462) ∧ w'.cell? ⟨gb457, 0, none⟩ = some (.int .i64 a1_0) ∧ w'.cell? ⟨gb457, 1, none⟩ = some (.int .i64 a1_1) ∧ w'.cell? ⟨gb457, 2, none⟩ = some (.int .i64 a1_2) ∧ w'.cell? ⟨gb457, 3, none⟩ = some (.int .i64 a1_3) ∧ w'.cell? ⟨gb456, 0, none⟩ = some (.int .i64 a0_0) ∧ w'.cell? ⟨gb456, 1, none⟩ = some (.int .i64 a0_1) ∧ w'.cell? ⟨gb456, 2, none⟩ = some (.int .i64 a0_2) ∧ w'.cell? ⟨gb456, 3, none⟩ = some (.int .i64 a0_3) ∧ w'.cell? ⟨gb468, 0, none⟩ = some (.int .i64 t463) ∧ w'.cell? ⟨gb468, 1, none⟩ = some (.int .i64 t464) ∧ w'.cell? ⟨gb468, 2, none⟩ = some (.int .i64 t465) ∧ w'.cell? ⟨gb468, 3, none⟩ = some (.int .i64 t466) ∧ w'.cell? ⟨gb458, 0, none⟩ = some (.int .i64 a2_0) ∧ w'.cell? ⟨gb458, 1, none⟩ = some (.int .i64 a2_1) ∧ w'.cell? ⟨gb458, 2, none⟩ = some (.int .i64 a2_2) ∧ w'.cell? ⟨gb458, 3, none⟩ = some (.int .i64 a2_3)) (ds := []) zq8.q18 (by kernel_rfl) rfl rfl (a4_ BK467 (a4_ BK457 (a4_ BK456 (a4_ BK468 (h4_ BK458))))) (fun hHeld => ?_); refine with_tabW compositorlaw04_RectLattice.tab2 compositorlaw04_RectLattice.bits2 (fun HT_ HW_ => ?_)
     generalize w49.drew = w50 at BK456 BK457 BK458 BK467 BK468 HB hHeld ⊢
     refine take_ (i := 0) (N := some 15) (v := ?_) (a' := ?_) zq8.q19 rfl rfl (take_ofW HT_.out HW_.out (by kernel_rfl)) (fun _ _ _ h => h) (Or.inl ⟨by rfl, ?_⟩) hHeld ?_ ?_
     rotate_left
     ·
      rintro w' ⟨s0, s1, s2, s3, s4, s5, s6, s7, s8, s9, s10, s11, s12, s13, s14, s15, s16, s17, s18, s19⟩
      go_simp
      with_reducible rfl
     rotate_left
     ·
      simp only [Act.put, List.setIfInBounds_toArray, List.set_cons_zero, List.set_cons_succ, i64_w, i32_w]
      rfl
     refine take_ (i := 1) (N := some 16) (v := ?_) (a' := ?_) zq8.q20 rfl rfl (take_ofW HT_.out HW_.out (by kernel_rfl)) (fun _ _ _ h => h) (Or.inl ⟨by rfl, ?_⟩) hHeld ?_ ?_
     rotate_left
     ·
      rintro w' ⟨s0, s1, s2, s3, s4, s5, s6, s7, s8, s9, s10, s11, s12, s13, s14, s15, s16, s17, s18, s19⟩
      go_simp
      with_reducible rfl
     rotate_left
     ·
      simp only [Act.put, List.setIfInBounds_toArray, List.set_cons_zero, List.set_cons_succ, i64_w, i32_w]
      rfl
     refine take_ (i := 2) (N := some 17) (v := ?_) (a' := ?_) zq8.q21 rfl rfl (take_ofW HT_.out HW_.out (by kernel_rfl)) (fun _ _ _ h => h) (Or.inl ⟨by rfl, ?_⟩) hHeld ?_ ?_
     rotate_left
     ·
      rintro w' ⟨s0, s1, s2, s3, s4, s5, s6, s7, s8, s9, s10, s11, s12, s13, s14, s15, s16, s17, s18, s19⟩
      go_simp
      with_reducible rfl
     rotate_left
     ·
      simp only [Act.put, List.setIfInBounds_toArray, List.set_cons_zero, List.set_cons_succ, i64_w, i32_w]
      rfl
     refine one_ (i := 3) (N := some 18) zq8.q22 rfl rfl (one_of HT_.out (by kernel_rfl)) (by decide) (fun K hK => ?_)
     refine gs_ Try.func21 #[.agg #[.int .i64 a1_0, .int .i64 a1_1, .int .i64 a1_2, .int .i64 a1_3], .agg #[.int .i64 a0_0, .int .i64 a0_1, .int .i64 a0_2, .int .i64 a0_3]] ?_
     with_reducible refine (rect_Intersect.calls a1_0 a1_1 a1_2 a1_3 a0_0 a0_1 a0_2 a0_3 t469 t470 t471 t472 _ A24.out).mono ?_
     rintro e w51 ⟨rfl, hb⟩
     refine ⟨_, rfl, ?_⟩
     replace BK456 := bb_ BK456 hb
     replace BK457 := bb_ BK457 hb
     replace BK458 := bb_ BK458 hb
     replace BK467 := bb_ BK467 hb
     replace BK468 := bb_ BK468 hb
     replace HB := hb_ HB hb
     (try clear hb); (try clear hb2); (try clear hk); (try clear hi)
     refine hK.out _ _ (a4_ BK467 (a4_ BK457 (a4_ BK456 (a4_ BK468 (h4_ BK458))))) (fun hHeld => ?_)
     clear hK K
     refine norm_ (a' := ?_) ?_ ?_
     rotate_left
     ·
      show Act.put _ (some 18) _ = _
      simp only [Act.put, List.setIfInBounds_toArray, List.set_cons_zero, List.set_cons_succ, i64_w, i32_w]
      rfl
     refine pv_ 4 19 zq8.q23 HT_ ?_
     refine pv_ 5 20 zq8.q24 HT_ ?_
     refine take_ (i := 6) (N := some 21) (v := ?_) (a' := ?_) zq8.q25 rfl rfl (take_ofW HT_.out HW_.out (by kernel_rfl)) (fun _ _ _ h => h) (Or.inl ⟨by rfl, ?_⟩) hHeld ?_ ?_
     rotate_left
     ·
      rintro w' ⟨s0, s1, s2, s3, s4, s5, s6, s7, s8, s9, s10, s11, s12, s13, s14, s15, s16, s17, s18, s19⟩
      go_simp
      with_reducible rfl
     rotate_left
     ·
      simp only [Act.put, List.setIfInBounds_toArray, List.set_cons_zero, List.set_cons_succ, i64_w, i32_w]
      rfl
     refine take_ (i := 7) (N := some 22) (v := ?_) (a' := ?_) zq8.q26 rfl rfl (take_ofW HT_.out HW_.out (by kernel_rfl)) (fun _ _ _ h => h) (Or.inl ⟨by rfl, ?_⟩) hHeld ?_ ?_
     rotate_left
     ·
      rintro w' ⟨s0, s1, s2, s3, s4, s5, s6, s7, s8, s9, s10, s11, s12, s13, s14, s15, s16, s17, s18, s19⟩
      go_simp
      with_reducible rfl
     rotate_left
     ·
      simp only [Act.put, List.setIfInBounds_toArray, List.set_cons_zero, List.set_cons_succ, i64_w, i32_w]
      rfl
     refine take_ (i := 8) (N := some 23) (v := ?_) (a' := ?_) zq8.q27 rfl rfl (take_ofW HT_.out HW_.out (by kernel_rfl)) (fun _ _ _ h => h) (Or.inl ⟨by rfl, ?_⟩) hHeld ?_ ?_
     rotate_left
     ·
      rintro w' ⟨s0, s1, s2, s3, s4, s5, s6, s7, s8, s9, s10, s11, s12, s13, s14, s15, s16, s17, s18, s19⟩
      go_simp
      with_reducible rfl
     rotate_left
     ·
      simp only [Act.put, List.setIfInBounds_toArray, List.set_cons_zero, List.set_cons_succ, i64_w, i32_w]
      rfl
     refine one_ (i := 9) (N := some 24) zq8.q28 rfl rfl (one_of HT_.out (by kernel_rfl)) (by decide) (fun K hK => ?_)
     refine gs_ Try.func17 #[.agg #[.int .i64 a1_0, .int .i64 a1_1, .int .i64 a1_2, .int .i64 a1_3], .agg #[.int .i64 a0_0, .int .i64 a0_1, .int .i64 a0_2, .int .i64 a0_3]] ?_
     with_reducible refine (rect_Union.calls a1_0 a1_1 a1_2 a1_3 a0_0 a0_1 a0_2 a0_3 t473 t474 t475 t476 _ A29.out).mono ?_
     rintro e w52 ⟨rfl, hb⟩
     refine ⟨_, rfl, ?_⟩
     replace BK456 := bb_ BK456 hb
     replace BK457 := bb_ BK457 hb
     replace BK458 := bb_ BK458 hb
     replace BK467 := bb_ BK467 hb
     replace BK468 := bb_ BK468 hb
     replace HB := hb_ HB hb
     (try clear hb); (try clear hb2); (try clear hk); (try clear hi)
     refine hK.out _ _ (a4_ BK467 (a4_ BK457 (a4_ BK456 (a4_ BK468 (h4_ BK458))))) (fun hHeld => ?_)
     clear hK K
     refine norm_ (a' := ?_) ?_ ?_
     rotate_left
     ·
      show Act.put _ (some 24) _ = _
      simp only [Act.put, List.setIfInBounds_toArray, List.set_cons_zero, List.set_cons_succ, i64_w, i32_w]
      rfl
     refine pv_ 10 25 zq8.q29 HT_ ?_
     refine pv_ 11 26 zq8.q30 HT_ ?_
     refine pv_ 12 27 zq8.q31 HT_ ?_
     refine take_ (i := 13) (N := some 28) (v := ?_) (a' := ?_) zq8.q32 rfl rfl (take_ofW HT_.out HW_.out (by kernel_rfl)) (fun _ _ _ h => h) (Or.inl ⟨by rfl, ?_⟩) hHeld ?_ ?_
     rotate_left
     ·
      rintro w' ⟨s0, s1, s2, s3, s4, s5, s6, s7, s8, s9, s10, s11, s12, s13, s14, s15, s16, s17, s18, s19⟩
      go_simp
      with_reducible rfl
     rotate_left
     ·
      simp only [Act.put, List.setIfInBounds_toArray, List.set_cons_zero, List.set_cons_succ, i64_w, i32_w]
      rfl
     refine take_ (i := 14) (N := some 29) (v := ?_) (a' := ?_) zq8.q33 rfl rfl (take_ofW HT_.out HW_.out (by kernel_rfl)) (fun _ _ _ h => h) (Or.inl ⟨by rfl, ?_⟩) hHeld ?_ ?_
     rotate_left
     ·
      rintro w' ⟨s0, s1, s2, s3, s4, s5, s6, s7, s8, s9, s10, s11, s12, s13, s14, s15, s16, s17, s18, s19⟩
      go_simp
      with_reducible rfl
     rotate_left
     ·
      simp only [Act.put, List.setIfInBounds_toArray, List.set_cons_zero, List.set_cons_succ, i64_w, i32_w]
      rfl
     refine take_ (i := 16) (N := some 31) (v := ?_) (a' := ?_) zq8.q53 rfl rfl (take_ofW HT_.out HW_.out (by kernel_rfl)) (fun _ _ _ h => h) (Or.inl ⟨by rfl, ?_⟩) hHeld ?_ ?_
     rotate_left
     ·
      rintro w' ⟨s0, s1, s2, s3, s4, s5, s6, s7, s8, s9, s10, s11, s12, s13, s14, s15, s16, s17, s18, s19⟩
      go_simp
      with_reducible rfl
     rotate_left
     ·
      simp only [Act.put, List.setIfInBounds_toArray, List.set_cons_zero, List.set_cons_succ, i64_w, i32_w]
      rfl
     refine take_ (i := 17) (N := some 32) (v := ?_) (a' := ?_) zq8.q54 rfl rfl (take_ofW HT_.out HW_.out (by kernel_rfl)) (fun _ _ _ h => h) (Or.inl ⟨by rfl, ?_⟩) hHeld ?_ ?_
     rotate_left
     ·
      rintro w' ⟨s0, s1, s2, s3, s4, s5, s6, s7, s8, s9, s10, s11, s12, s13, s14, s15, s16, s17, s18, s19⟩
      go_simp
      with_reducible rfl
     rotate_left
     ·
      simp only [Act.put, List.setIfInBounds_toArray, List.set_cons_zero, List.set_cons_succ, i64_w, i32_w]
      rfl
     refine take_ (i := 18) (N := some 33) (v := ?_) (a' := ?_) zq8.q55 rfl rfl (take_ofW HT_.out HW_.out (by kernel_rfl)) (fun _ _ _ h => h) (Or.inl ⟨by rfl, ?_⟩) hHeld ?_ ?_
     rotate_left
     ·
      rintro w' ⟨s0, s1, s2, s3, s4, s5, s6, s7, s8, s9, s10, s11, s12, s13, s14, s15, s16, s17, s18, s19⟩
      go_simp
      with_reducible rfl
     rotate_left
     ·
      simp only [Act.put, List.setIfInBounds_toArray, List.set_cons_zero, List.set_cons_succ, i64_w, i32_w]
      rfl
     refine one_ (i := 15) (N := some 30) zq8.q37 rfl rfl (one_of HT_.out (by kernel_rfl)) (by decide) (fun K hK => ?_)
     refine gs_ Try.func21 #[.agg #[.int .i64 t459, .int .i64 t460, .int .i64 t461, .int .i64 t462], .agg #[.int .i64 a2_0, .int .i64 a2_1, .int .i64 a2_2, .int .i64 a2_3]] ?_
     with_reducible refine (rect_Intersect.calls t459 t460 t461 t462 a2_0 a2_1 a2_2 a2_3 t477 t478 t479 t480 _ A35.out).mono ?_
     rintro e w53 ⟨rfl, hb⟩
     refine ⟨_, rfl, ?_⟩
     replace BK456 := bb_ BK456 hb
     replace BK457 := bb_ BK457 hb
     replace BK458 := bb_ BK458 hb
     replace BK467 := bb_ BK467 hb
     replace BK468 := bb_ BK468 hb
     replace HB := hb_ HB hb
     (try clear hb); (try clear hb2); (try clear hk); (try clear hi)
     refine hK.out _ _ (a4_ BK467 (a4_ BK457 (a4_ BK456 (a4_ BK468 (h4_ BK458))))) (fun hHeld => ?_)
     clear hK K
     refine norm_ (a' := ?_) ?_ ?_
     rotate_left
     ·
      show Act.put _ (some 30) _ = _
      simp only [Act.put, List.setIfInBounds_toArray, List.set_cons_zero, List.set_cons_succ, i64_w, i32_w]
      rfl
     refine one_ (i := 19) (N := some 34) zq8.q38 rfl rfl (one_of HT_.out (by kernel_rfl)) (by decide) (fun K hK => ?_)
     refine gs_ Try.func21 #[.agg #[.int .i64 a1_0, .int .i64 a1_1, .int .i64 a1_2, .int .i64 a1_3], .agg #[.int .i64 a2_0, .int .i64 a2_1, .int .i64 a2_2, .int .i64 a2_3]] ?_
     with_reducible refine (rect_Intersect.calls a1_0 a1_1 a1_2 a1_3 a2_0 a2_1 a2_2 a2_3 t481 t482 t483 t484 _ A36.out).mono ?_
     rintro e w54 ⟨rfl, hb⟩
     refine ⟨_, rfl, ?_⟩
     replace BK456 := bb_ BK456 hb
     replace BK457 := bb_ BK457 hb
     replace BK458 := bb_ BK458 hb
     replace BK467 := bb_ BK467 hb
     replace BK468 := bb_ BK468 hb
     replace HB := hb_ HB hb
     (try clear hb); (try clear hb2); (try clear hk); (try clear hi)
     refine hK.out _ _ (a4_ BK467 (a4_ BK457 (a4_ BK456 (a4_ BK468 (h4_ BK458))))) (fun hHeld => ?_)
     clear hK K
     refine norm_ (a' := ?_) ?_ ?_
     rotate_left
     ·
      show Act.put _ (some 34) _ = _
      simp only [Act.put, List.setIfInBounds_toArray, List.set_cons_zero, List.set_cons_succ, i64_w, i32_w]
      rfl
     refine one_ (i := 20) (N := some 35) zq8.q39 rfl rfl (one_of HT_.out (by kernel_rfl)) (by decide) (fun K hK => ?_)
     refine gs_ Try.func21 #[.agg #[.int .i64 a0_0, .int .i64 a0_1, .int .i64 a0_2, .int .i64 a0_3], .agg #[.int .i64 t481, .int .i64 t482, .int .i64 t483, .int .i64 t484]] ?_
     with_reducible refine (rect_Intersect.calls a0_0 a0_1 a0_2 a0_3 t481 t482 t483 t484 t485 t486 t487 t488 _ A37.out).mono ?_
     rintro e w55 ⟨rfl, hb⟩
     refine ⟨_, rfl, ?_⟩
     replace BK456 := bb_ BK456 hb
     replace BK457 := bb_ BK457 hb
     replace BK458 := bb_ BK458 hb
     replace BK467 := bb_ BK467 hb
     replace BK468 := bb_ BK468 hb
     replace HB := hb_ HB hb
     (try clear hb); (try clear hb2); (try clear hk); (try clear hi)
     refine hK.out _ _ (a4_ BK467 (a4_ BK457 (a4_ BK456 (a4_ BK468 (h4_ BK458))))) (fun hHeld => ?_)
     clear hK K
     refine norm_ (a' := ?_) ?_ ?_
     rotate_left
     ·
      show Act.put _ (some 35) _ = _
      simp only [Act.put, List.setIfInBounds_toArray, List.set_cons_zero, List.set_cons_succ, i64_w, i32_w]
      rfl
     refine pv_ 21 36 zq8.q40 HT_ ?_
     refine pv_ 22 37 zq8.q41 HT_ ?_
     refine pv_ 23 38 zq8.q42 HT_ ?_
     refine take_ (i := 24) (N := some 39) (v := ?_) (a' := ?_) zq8.q43 rfl rfl (take_ofW HT_.out HW_.out (by kernel_rfl)) (fun _ _ _ h => h) (Or.inl ⟨by rfl, ?_⟩) hHeld ?_ ?_
     rotate_left
     ·
      rintro w' ⟨s0, s1, s2, s3, s4, s5, s6, s7, s8, s9, s10, s11, s12, s13, s14, s15, s16, s17, s18, s19⟩
      go_simp
      with_reducible rfl
     rotate_left
     ·
      simp only [Act.put, List.setIfInBounds_toArray, List.set_cons_zero, List.set_cons_succ, i64_w, i32_w]
      rfl
     refine take_ (i := 25) (N := some 40) (v := ?_) (a' := ?_) zq8.q44 rfl rfl (take_ofW HT_.out HW_.out (by kernel_rfl)) (fun _ _ _ h => h) (Or.inl ⟨by rfl, ?_⟩) hHeld ?_ ?_
     rotate_left
     ·
      rintro w' ⟨s0, s1, s2, s3, s4, s5, s6, s7, s8, s9, s10, s11, s12, s13, s14, s15, s16, s17, s18, s19⟩
      go_simp
      with_reducible rfl
     rotate_left
     ·
      simp only [Act.put, List.setIfInBounds_toArray, List.set_cons_zero, List.set_cons_succ, i64_w, i32_w]
      rfl
     refine take_ (i := 27) (N := some 42) (v := ?_) (a' := ?_) zq8.q56 rfl rfl (take_ofW HT_.out HW_.out (by kernel_rfl)) (fun _ _ _ h => h) (Or.inl ⟨by rfl, ?_⟩) hHeld ?_ ?_
     rotate_left
     ·
      rintro w' ⟨s0, s1, s2, s3, s4, s5, s6, s7, s8, s9, s10, s11, s12, s13, s14, s15, s16, s17, s18, s19⟩
      go_simp
      with_reducible rfl
     rotate_left
     ·
      simp only [Act.put, List.setIfInBounds_toArray, List.set_cons_zero, List.set_cons_succ, i64_w, i32_w]
      rfl
     refine take_ (i := 28) (N := some 43) (v := ?_) (a' := ?_) zq8.q57 rfl rfl (take_ofW HT_.out HW_.out (by kernel_rfl)) (fun _ _ _ h => h) (Or.inl ⟨by rfl, ?_⟩) hHeld ?_ ?_
     rotate_left
     ·
      rintro w' ⟨s0, s1, s2, s3, s4, s5, s6, s7, s8, s9, s10, s11, s12, s13, s14, s15, s16, s17, s18, s19⟩
      go_simp
      with_reducible rfl
     rotate_left
     ·
      simp only [Act.put, List.setIfInBounds_toArray, List.set_cons_zero, List.set_cons_succ, i64_w, i32_w]
      rfl
     refine take_ (i := 29) (N := some 44) (v := ?_) (a' := ?_) zq8.q58 rfl rfl (take_ofW HT_.out HW_.out (by kernel_rfl)) (fun _ _ _ h => h) (Or.inl ⟨by rfl, ?_⟩) hHeld ?_ ?_
     rotate_left
     ·
      rintro w' ⟨s0, s1, s2, s3, s4, s5, s6, s7, s8, s9, s10, s11, s12, s13, s14, s15, s16, s17, s18, s19⟩
      go_simp
      with_reducible rfl
     rotate_left
     ·
      simp only [Act.put, List.setIfInBounds_toArray, List.set_cons_zero, List.set_cons_succ, i64_w, i32_w]
      rfl
     refine one_ (i := 26) (N := some 41) zq8.q48 rfl rfl (one_of HT_.out (by kernel_rfl)) (by decide) (fun K hK => ?_)
     refine gs_ Try.func17 #[.agg #[.int .i64 t463, .int .i64 t464, .int .i64 t465, .int .i64 t466], .agg #[.int .i64 a2_0, .int .i64 a2_1, .int .i64 a2_2, .int .i64 a2_3]] ?_
     with_reducible refine (rect_Union.calls t463 t464 t465 t466 a2_0 a2_1 a2_2 a2_3 t489 t490 t491 t492 _ A46.out).mono ?_
     rintro e w56 ⟨rfl, hb⟩
     refine ⟨_, rfl, ?_⟩
     replace BK456 := bb_ BK456 hb
     replace BK457 := bb_ BK457 hb
     replace BK458 := bb_ BK458 hb
     replace BK467 := bb_ BK467 hb
     replace BK468 := bb_ BK468 hb
     replace HB := hb_ HB hb
     (try clear hb); (try clear hb2); (try clear hk); (try clear hi)
     refine hK.out _ _ (a4_ BK467 (a4_ BK457 (a4_ BK456 (a4_ BK468 (h4_ BK458))))) (fun hHeld => ?_)
     clear hK K
     refine norm_ (a' := ?_) ?_ ?_
     rotate_left
     ·
      show Act.put _ (some 41) _ = _
      simp only [Act.put, List.setIfInBounds_toArray, List.set_cons_zero, List.set_cons_succ, i64_w, i32_w]
      rfl
     refine one_ (i := 30) (N := some 45) zq8.q49 rfl rfl (one_of HT_.out (by kernel_rfl)) (by decide) (fun K hK => ?_)
     refine gs_ Try.func17 #[.agg #[.int .i64 a1_0, .int .i64 a1_1, .int .i64 a1_2, .int .i64 a1_3], .agg #[.int .i64 a2_0, .int .i64 a2_1, .int .i64 a2_2, .int .i64 a2_3]] ?_
     with_reducible refine (rect_Union.calls a1_0 a1_1 a1_2 a1_3 a2_0 a2_1 a2_2 a2_3 t493 t494 t495 t496 _ A47.out).mono ?_
     rintro e w57 ⟨rfl, hb⟩
     refine ⟨_, rfl, ?_⟩
     replace BK456 := bb_ BK456 hb
     replace BK457 := bb_ BK457 hb
     replace BK458 := bb_ BK458 hb
     replace BK467 := bb_ BK467 hb
     replace BK468 := bb_ BK468 hb
     replace HB := hb_ HB hb
     (try clear hb); (try clear hb2); (try clear hk); (try clear hi)
     refine hK.out _ _ (a4_ BK467 (a4_ BK457 (a4_ BK456 (a4_ BK468 (h4_ BK458))))) (fun hHeld => ?_)
     clear hK K
     refine norm_ (a' := ?_) ?_ ?_
     rotate_left
     ·
      show Act.put _ (some 45) _ = _
      simp only [Act.put, List.setIfInBounds_toArray, List.set_cons_zero, List.set_cons_succ, i64_w, i32_w]
      rfl
     refine one_ (i := 31) (N := some 46) zq8.q50 rfl rfl (one_of HT_.out (by kernel_rfl)) (by decide) (fun K hK => ?_)
     refine gs_ Try.func17 #[.agg #[.int .i64 a0_0, .int .i64 a0_1, .int .i64 a0_2, .int .i64 a0_3], .agg #[.int .i64 t493, .int .i64 t494, .int .i64 t495, .int .i64 t496]] ?_
     with_reducible refine (rect_Union.calls a0_0 a0_1 a0_2 a0_3 t493 t494 t495 t496 t497 t498 t499 t500 _ A48.out).mono ?_
     rintro e w58 ⟨rfl, hb⟩
     refine ⟨_, rfl, ?_⟩
     replace BK456 := bb_ BK456 hb
     replace BK457 := bb_ BK457 hb
     replace BK458 := bb_ BK458 hb
     replace BK467 := bb_ BK467 hb
     replace BK468 := bb_ BK468 hb
     replace HB := hb_ HB hb
     (try clear hb); (try clear hb2); (try clear hk); (try clear hi)
     refine hK.out _ _ (a4_ BK467 (a4_ BK457 (a4_ BK456 (a4_ BK468 (h4_ BK458))))) (fun hHeld => ?_)
     clear hK K
     refine norm_ (a' := ?_) ?_ ?_
     rotate_left
     ·
      show Act.put _ (some 46) _ = _
      simp only [Act.put, List.setIfInBounds_toArray, List.set_cons_zero, List.set_cons_succ, i64_w, i32_w]
      rfl
     refine pv_ 32 47 zq8.q51 HT_ ?_
     refine pv_ 33 48 zq8.q52 HT_ ?_
     refine done_ (done_of HT_.out (by kernel_rfl)) ?_
     try go_wp2
     go_meet
     case rel => exact ⟨_, ((!(t489 == t497) || (!(t490 == t498) || (!(t491 == t499) || (!(t492 == t500)))))), (by first | rfl | (simp; done) | (simp [*]; done)), H', ⟨by first | omega | exact Nat.le_refl _⟩, bf_ BK456, bf_ BK457, bf_ BK458, bf_ BK467, bf_ BK468, ⟨by repeat (first | (with_reducible first | exact HB.out | apply below_alloc | apply pw_below_drewN | apply below_drew1 | refine below_set ?_ GE456.out | refine below_set ?_ GE457.out | refine below_set ?_ GE458.out | refine below_set ?_ GE467.out | refine below_set ?_ GE468.out) | exact HB.out)⟩⟩
 case rest =>
  clear HC6
  try clear c1
  try clear c2
  try clear p2
  try clear c3
  try clear c17
  try clear c21
  try clear c38
  try clear c38b0
  obtain ⟨kq, x48_5, rfl, HA, HJ5, BK456, BK457, BK458, BK467, BK468, HB⟩ := hcut
  cases kq with
  | zero => exact absurd HA.out (by simp [compositorlaw04_RectLattice.j0])
  | succ kj5 =>
   have H := HA.out
   clear HA
   simp only [compositorlaw04_RectLattice.j0] at H
   by_cases c59 : x48_5 = true
   ·
    subst c59
    have H1 : (some false) = some true := by rw [if_pos rfl] at H; exact H
    clear H
    have H := H1
    clear H1
    exact absurd H (by simp)
   ·
    replace c59 := Bool.eq_false_iff.mpr c59
    subst c59
    have H1 : ((rect_Within.f a0_0 a0_1 a0_2 a0_3 a1_0 a1_1 a1_2 a1_3).bind fun t501 => ((rect_Canonical.f a0_0 a0_1 a0_2 a0_3).bind fun bt502 => (if (t501 != (t459 == bt502.1 && (t460 == bt502.2.1 && (t461 == bt502.2.2.1 && (t462 == bt502.2.2.2))))) = true then (compositorlaw04_RectLattice.j1 kj5 true a0_0 a0_1 a0_2 a0_3 a1_0 a1_1 a1_2 a1_3 a2_0 a2_1 a2_2 a2_3 t459 t460 t461 t462 t463 t464 t465 t466) else ((rect_Within.f a0_0 a0_1 a0_2 a0_3 a1_0 a1_1 a1_2 a1_3).bind fun t506 => ((rect_Canonical.f a1_0 a1_1 a1_2 a1_3).bind fun bt507 => (compositorlaw04_RectLattice.j1 kj5 (t506 != (t463 == bt507.1 && (t464 == bt507.2.1 && (t465 == bt507.2.2.1 && (t466 == bt507.2.2.2))))) a0_0 a0_1 a0_2 a0_3 a1_0 a1_1 a1_2 a1_3 a2_0 a2_1 a2_2 a2_3 t459 t460 t461 t462 t463 t464 t465 t466)))))) = some true := by rw [if_neg (show ¬ (false = true) by decide)] at H; exact H
    clear H
    have H := H1
    clear H1
    have HC60 := Aside0.mk H
    clear H
    go_upto_region 4 with (fail)
    go_cut [66] (fun v66 wc => ∃ (kq : Nat) (x66_59 : Bool), v66 = .bool x66_59 ∧ Aside0 (compositorlaw04_RectLattice.j1 kq x66_59 a0_0 a0_1 a0_2 a0_3 a1_0 a1_1 a1_2 a1_3 a2_0 a2_1 a2_2 a2_3 t459 t460 t461 t462 t463 t464 t465 t466 = some true) ∧ Aside0 (kq ≤ kj5) ∧ Aside0 (wc.heap[gb456]? = some (.cells #[.int .i64 a0_0, .int .i64 a0_1, .int .i64 a0_2, .int .i64 a0_3] 23 (0, 0))) ∧ Aside0 (wc.heap[gb457]? = some (.cells #[.int .i64 a1_0, .int .i64 a1_1, .int .i64 a1_2, .int .i64 a1_3] 23 (0, 0))) ∧ Aside0 (wc.heap[gb458]? = some (.cells #[.int .i64 a2_0, .int .i64 a2_1, .int .i64 a2_2, .int .i64 a2_3] 23 (0, 0))) ∧ Aside0 (wc.heap[gb467]? = some (.cells #[.int .i64 t459, .int .i64 t460, .int .i64 t461, .int .i64 t462] 23 (0, 0))) ∧ Aside0 (wc.heap[gb468]? = some (.cells #[.int .i64 t463, .int .i64 t464, .int .i64 t465, .int .i64 t466] 23 (0, 0))) ∧ Aside0 (Below w.heap.size w wc))
    case first =>
     have H := HC60.out
     clear HC60
     replace H := Option.bind_eq_some_iff.mp H
     obtain ⟨t501, A610, H⟩ := H
     try dsimp only at H
     have A61 := Aside0.mk A610
     clear A610
     replace H := Option.bind_eq_some_iff.mp H
     obtain ⟨⟨t502, t503, t504, t505⟩, A620, H⟩ := H
     try dsimp only at H
     have A62 := Aside0.mk A620
     clear A620
     by_cases c63 : (t501 != (t459 == t502 && (t460 == t503 && (t461 == t504 && (t462 == t505))))) = true
     ·
      rw [if_pos c63] at H
      have c63b0 : (t501 != (t459 == t502 && (t460 == t503 && (t461 == t504 && (t462 == t505))))) = true := c63
      (try (have c63b1 : decide (t501 = (t459 == t502 && (t460 == t503 && (t461 == t504 && (t462 == t505))))) = false := by simpa using c63))
      (try (have c63b2 : (t501 == (t459 == t502 && (t460 == t503 && (t461 == t504 && (t462 == t505))))) = false := by simpa using c63))
      (try (have c63b3 : ¬ (t501 = (t459 == t502 && (t460 == t503 && (t461 == t504 && (t462 == t505))))) := by simpa using c63))
      clear c63
      (first | rw [c63b0] | (simp only [i64_w, i32_w]; rw [c63b0]) | skip)
      have H' := Aside0.mk H
      clear H
      try go_wp2
      replace BK456 := Aside0.mk (blk_drew BK456.out)
      replace BK457 := Aside0.mk (blk_drew BK457.out)
      replace BK458 := Aside0.mk (blk_drew BK458.out)
      replace BK467 := Aside0.mk (blk_drew BK467.out)
      replace BK468 := Aside0.mk (blk_drew BK468.out)
      replace HB := Aside0.mk (below_drew1 HB.out)
      refine start_ (n := 18) (S := fun w' => w'.cell? ⟨gb456, 0, none⟩ = some (.int .i64 a0_0) ∧ w'.cell? ⟨gb456, 1, none⟩ = some (.int .i64 a0_1) ∧ w'.cell? ⟨gb456, 2, none⟩ = some (.int .i64 a0_2) ∧ w'.cell? ⟨gb456, 3, none⟩ = some (.int .i64 a0_3) ∧ w'.cell? ⟨gb457, 0, none⟩ = some (.int .i64 a1_0) ∧ w'.cell? ⟨gb457, 1, none⟩ = some (.int .i64 a1_1) ∧ w'.cell? ⟨gb457, 2, none⟩ = some (.int .i64 a1_2) ∧ w'.cell? ⟨gb457, 3, none⟩ = some (.int .i64 a1_3) ∧ w'.cell? ⟨gb467, 0, none⟩ = some (.int .i64 t459) ∧ w'.cell? ⟨gb467, 1, none⟩ = some (.int .i64 t460) ∧ w'.cell? ⟨gb467, 2, none⟩ = some (.int .i64 t461) ∧ w'.cell? ⟨gb467, 3, none⟩ = some (.int .i64 t462)) (ds := []) zq8.q59 (by kernel_rfl) rfl rfl (a4_ BK456 (a4_ BK457 (h4_ BK467))) (fun hHeld => ?_); refine with_tabW compositorlaw04_RectLattice.tab4 compositorlaw04_RectLattice.bits4 (fun HT_ HW_ => ?_)
      generalize wc.drew = w64 at BK456 BK457 BK458 BK467 BK468 HB hHeld ⊢
      refine tk12_ 0 49 zq8.q60 HT_ HW_ hHeld ?_
      refine tk12_ 1 50 zq8.q61 HT_ HW_ hHeld ?_
      refine tk12_ 3 52 zq8.q62 HT_ HW_ hHeld ?_
      refine tk12_ 4 53 zq8.q63 HT_ HW_ hHeld ?_
      refine one_ (i := 2) (N := some 51) zq8.q64 rfl rfl (one_of HT_.out (by kernel_rfl)) (by decide) (fun K hK => ?_)
      refine gs_ Try.func29 #[.agg #[.int .i64 a0_0, .int .i64 a0_1, .int .i64 a0_2, .int .i64 a0_3], .agg #[.int .i64 a1_0, .int .i64 a1_1, .int .i64 a1_2, .int .i64 a1_3]] ?_
      with_reducible refine (rect_Within.calls a0_0 a0_1 a0_2 a0_3 a1_0 a1_1 a1_2 a1_3 t501 _ A61.out).mono ?_
      rintro e w65 ⟨rfl, hb⟩
      refine ⟨_, rfl, ?_⟩
      replace BK456 := bb_ BK456 hb
      replace BK457 := bb_ BK457 hb
      replace BK458 := bb_ BK458 hb
      replace BK467 := bb_ BK467 hb
      replace BK468 := bb_ BK468 hb
      replace HB := hb_ HB hb
      (try clear hb); (try clear hb2); (try clear hk); (try clear hi)
      refine hK.out _ _ (a4_ BK456 (a4_ BK457 (h4_ BK467))) (fun hHeld => ?_)
      clear hK K
      refine norm_ (a' := ?_) ?_ ?_
      rotate_left
      ·
       show Act.put _ (some 51) _ = _
       simp only [Act.put, List.setIfInBounds_toArray, List.set_cons_zero, List.set_cons_succ, i64_w, i32_w]
       rfl
      refine one_ (i := 5) (N := some 54) zq8.q65 rfl rfl (one_of HT_.out (by kernel_rfl)) (by decide) (fun K hK => ?_)
      refine gs_ Try.func24 #[.agg #[.int .i64 a0_0, .int .i64 a0_1, .int .i64 a0_2, .int .i64 a0_3]] ?_
      with_reducible refine (rect_Canonical.calls a0_0 a0_1 a0_2 a0_3 t502 t503 t504 t505 _ A62.out).mono ?_
      rintro e w66 ⟨rfl, hb⟩
      refine ⟨_, rfl, ?_⟩
      replace BK456 := bb_ BK456 hb
      replace BK457 := bb_ BK457 hb
      replace BK458 := bb_ BK458 hb
      replace BK467 := bb_ BK467 hb
      replace BK468 := bb_ BK468 hb
      replace HB := hb_ HB hb
      (try clear hb); (try clear hb2); (try clear hk); (try clear hi)
      refine hK.out _ _ (a4_ BK456 (a4_ BK457 (h4_ BK467))) (fun hHeld => ?_)
      clear hK K
      refine norm_ (a' := ?_) ?_ ?_
      rotate_left
      ·
       show Act.put _ (some 54) _ = _
       simp only [Act.put, List.setIfInBounds_toArray, List.set_cons_zero, List.set_cons_succ, i64_w, i32_w]
       rfl
      refine pv_ 6 55 zq8.q66 HT_ ?_
      refine pv_ 7 56 zq8.q67 HT_ ?_
      refine pv_ 8 57 zq8.q68 HT_ ?_
      refine pu_ 9 58 zq8.q69 HT_ ?_
      refine pu_ 10 59 zq8.q70 HT_ ?_
      refine pu_ 11 60 zq8.q71 HT_ ?_
      refine pu_ 12 61 zq8.q72 HT_ ?_
      refine pu_ 13 62 zq8.q73 HT_ ?_
      refine pu_ 14 63 zq8.q74 HT_ ?_
      refine pu_ 15 64 zq8.q75 HT_ ?_
      refine pu_ 16 65 zq8.q76 HT_ ?_
      refine pv_ 17 66 zq8.q77 HT_ ?_
      refine done_ (done_of HT_.out (by kernel_rfl)) ?_
      try go_wp2
      go_meet
      case rel => exact ⟨_, (true), (by first | rfl | (simp; done) | (simp [*]; done)), H', ⟨by have := HJ5.out; first | omega | exact Nat.le_refl _⟩, bf_ BK456, bf_ BK457, bf_ BK458, bf_ BK467, bf_ BK468, ⟨by repeat (first | (with_reducible first | exact HB.out | apply below_alloc | apply pw_below_drewN | apply below_drew1 | refine below_set ?_ GE456.out | refine below_set ?_ GE457.out | refine below_set ?_ GE458.out | refine below_set ?_ GE467.out | refine below_set ?_ GE468.out) | exact HB.out)⟩⟩
     ·
      rw [if_neg c63] at H
      have c63b0 : (t501 != (t459 == t502 && (t460 == t503 && (t461 == t504 && (t462 == t505))))) = false := by simpa using c63
      (try (have c63b1 : decide (t501 = (t459 == t502 && (t460 == t503 && (t461 == t504 && (t462 == t505))))) = true := by simpa using c63))
      (try (have c63b2 : (t501 == (t459 == t502 && (t460 == t503 && (t461 == t504 && (t462 == t505))))) = true := by simpa using c63))
      clear c63
      (first | rw [c63b0] | (simp only [i64_w, i32_w]; rw [c63b0]) | skip)
      replace H := Option.bind_eq_some_iff.mp H
      obtain ⟨t506, A670, H⟩ := H
      try dsimp only at H
      have A67 := Aside0.mk A670
      clear A670
      replace H := Option.bind_eq_some_iff.mp H
      obtain ⟨⟨t507, t508, t509, t510⟩, A680, H⟩ := H
      try dsimp only at H
      have A68 := Aside0.mk A680
      clear A680
      have H' := Aside0.mk H
      clear H
      try go_wp2
      replace BK456 := Aside0.mk (blk_drew BK456.out)
      replace BK457 := Aside0.mk (blk_drew BK457.out)
      replace BK458 := Aside0.mk (blk_drew BK458.out)
      replace BK467 := Aside0.mk (blk_drew BK467.out)
      replace BK468 := Aside0.mk (blk_drew BK468.out)
      replace HB := Aside0.mk (below_drew1 HB.out)
      refine start_ (n := 18) (S := fun w' => w'.cell? ⟨gb456, 0, none⟩ = some (.int .i64 a0_0) ∧ w'.cell? ⟨gb456, 1, none⟩ = some (.int .i64 a0_1) ∧ w'.cell? ⟨gb456, 2, none⟩ = some (.int .i64 a0_2) ∧ w'.cell? ⟨gb456, 3, none⟩ = some (.int .i64 a0_3) ∧ w'.cell? ⟨gb457, 0, none⟩ = some (.int .i64 a1_0) ∧ w'.cell? ⟨gb457, 1, none⟩ = some (.int .i64 a1_1) ∧ w'.cell? ⟨gb457, 2, none⟩ = some (.int .i64 a1_2) ∧ w'.cell? ⟨gb457, 3, none⟩ = some (.int .i64 a1_3) ∧ w'.cell? ⟨gb467, 0, none⟩ = some (.int .i64 t459) ∧ w'.cell? ⟨gb467, 1, none⟩ = some (.int .i64 t460) ∧ w'.cell? ⟨gb467, 2, none⟩ = some (.int .i64 t461) ∧ w'.cell? ⟨gb467, 3, none⟩ = some (.int .i64 t462) ∧ w'.cell? ⟨gb468, 0, none⟩ = some (.int .i64 t463) ∧ w'.cell? ⟨gb468, 1, none⟩ = some (.int .i64 t464) ∧ w'.cell? ⟨gb468, 2, none⟩ = some (.int .i64 t465) ∧ w'.cell? ⟨gb468, 3, none⟩ = some (.int .i64 t466)) (ds := []) zq8.q59 (by kernel_rfl) rfl rfl (a4_ BK456 (a4_ BK457 (a4_ BK467 (h4_ BK468)))) (fun hHeld => ?_); refine with_tabW compositorlaw04_RectLattice.tab4 compositorlaw04_RectLattice.bits4 (fun HT_ HW_ => ?_)
      generalize wc.drew = w69 at BK456 BK457 BK458 BK467 BK468 HB hHeld ⊢
      refine tk16_ 0 49 zq8.q60 HT_ HW_ hHeld ?_
      refine tk16_ 1 50 zq8.q61 HT_ HW_ hHeld ?_
      refine tk16_ 3 52 zq8.q62 HT_ HW_ hHeld ?_
      refine tk16_ 4 53 zq8.q63 HT_ HW_ hHeld ?_
      refine one_ (i := 2) (N := some 51) zq8.q64 rfl rfl (one_of HT_.out (by kernel_rfl)) (by decide) (fun K hK => ?_)
      refine gs_ Try.func29 #[.agg #[.int .i64 a0_0, .int .i64 a0_1, .int .i64 a0_2, .int .i64 a0_3], .agg #[.int .i64 a1_0, .int .i64 a1_1, .int .i64 a1_2, .int .i64 a1_3]] ?_
      with_reducible refine (rect_Within.calls a0_0 a0_1 a0_2 a0_3 a1_0 a1_1 a1_2 a1_3 t501 _ A61.out).mono ?_
      rintro e w70 ⟨rfl, hb⟩
      refine ⟨_, rfl, ?_⟩
      replace BK456 := bb_ BK456 hb
      replace BK457 := bb_ BK457 hb
      replace BK458 := bb_ BK458 hb
      replace BK467 := bb_ BK467 hb
      replace BK468 := bb_ BK468 hb
      replace HB := hb_ HB hb
      (try clear hb); (try clear hb2); (try clear hk); (try clear hi)
      refine hK.out _ _ (a4_ BK456 (a4_ BK457 (a4_ BK467 (h4_ BK468)))) (fun hHeld => ?_)
      clear hK K
      refine norm_ (a' := ?_) ?_ ?_
      rotate_left
      ·
       show Act.put _ (some 51) _ = _
       simp only [Act.put, List.setIfInBounds_toArray, List.set_cons_zero, List.set_cons_succ, i64_w, i32_w]
       rfl
      refine one_ (i := 5) (N := some 54) zq8.q65 rfl rfl (one_of HT_.out (by kernel_rfl)) (by decide) (fun K hK => ?_)
      refine gs_ Try.func24 #[.agg #[.int .i64 a0_0, .int .i64 a0_1, .int .i64 a0_2, .int .i64 a0_3]] ?_
      with_reducible refine (rect_Canonical.calls a0_0 a0_1 a0_2 a0_3 t502 t503 t504 t505 _ A62.out).mono ?_
      rintro e w71 ⟨rfl, hb⟩
      refine ⟨_, rfl, ?_⟩
      replace BK456 := bb_ BK456 hb
      replace BK457 := bb_ BK457 hb
      replace BK458 := bb_ BK458 hb
      replace BK467 := bb_ BK467 hb
      replace BK468 := bb_ BK468 hb
      replace HB := hb_ HB hb
      (try clear hb); (try clear hb2); (try clear hk); (try clear hi)
      refine hK.out _ _ (a4_ BK456 (a4_ BK457 (a4_ BK467 (h4_ BK468)))) (fun hHeld => ?_)
      clear hK K
      refine norm_ (a' := ?_) ?_ ?_
      rotate_left
      ·
       show Act.put _ (some 54) _ = _
       simp only [Act.put, List.setIfInBounds_toArray, List.set_cons_zero, List.set_cons_succ, i64_w, i32_w]
       rfl
      refine pv_ 6 55 zq8.q66 HT_ ?_
      refine pv_ 7 56 zq8.q67 HT_ ?_
      refine pv_ 8 57 zq8.q68 HT_ ?_
      refine tk16_ 9 58 zq8.q69 HT_ HW_ hHeld ?_
      refine tk16_ 10 59 zq8.q70 HT_ HW_ hHeld ?_
      refine tk16_ 12 61 zq8.q78 HT_ HW_ hHeld ?_
      refine tk16_ 13 62 zq8.q79 HT_ HW_ hHeld ?_
      refine one_ (i := 11) (N := some 60) zq8.q73 rfl rfl (one_of HT_.out (by kernel_rfl)) (by decide) (fun K hK => ?_)
      refine gs_ Try.func29 #[.agg #[.int .i64 a0_0, .int .i64 a0_1, .int .i64 a0_2, .int .i64 a0_3], .agg #[.int .i64 a1_0, .int .i64 a1_1, .int .i64 a1_2, .int .i64 a1_3]] ?_
      with_reducible refine (rect_Within.calls a0_0 a0_1 a0_2 a0_3 a1_0 a1_1 a1_2 a1_3 t506 _ A67.out).mono ?_
      rintro e w72 ⟨rfl, hb⟩
      refine ⟨_, rfl, ?_⟩
      replace BK456 := bb_ BK456 hb
      replace BK457 := bb_ BK457 hb
      replace BK458 := bb_ BK458 hb
      replace BK467 := bb_ BK467 hb
      replace BK468 := bb_ BK468 hb
      replace HB := hb_ HB hb
      (try clear hb); (try clear hb2); (try clear hk); (try clear hi)
      refine hK.out _ _ (a4_ BK456 (a4_ BK457 (a4_ BK467 (h4_ BK468)))) (fun hHeld => ?_)
      clear hK K
      refine norm_ (a' := ?_) ?_ ?_
      rotate_left
      ·
       show Act.put _ (some 60) _ = _
       simp only [Act.put, List.setIfInBounds_toArray, List.set_cons_zero, List.set_cons_succ, i64_w, i32_w]
       rfl
      refine one_ (i := 14) (N := some 63) zq8.q74 rfl rfl (one_of HT_.out (by kernel_rfl)) (by decide) (fun K hK => ?_)
      refine gs_ Try.func24 #[.agg #[.int .i64 a1_0, .int .i64 a1_1, .int .i64 a1_2, .int .i64 a1_3]] ?_
      with_reducible refine (rect_Canonical.calls a1_0 a1_1 a1_2 a1_3 t507 t508 t509 t510 _ A68.out).mono ?_
      rintro e w73 ⟨rfl, hb⟩
      refine ⟨_, rfl, ?_⟩
      replace BK456 := bb_ BK456 hb
      replace BK457 := bb_ BK457 hb
      replace BK458 := bb_ BK458 hb
      replace BK467 := bb_ BK467 hb
      replace BK468 := bb_ BK468 hb
      replace HB := hb_ HB hb
      (try clear hb); (try clear hb2); (try clear hk); (try clear hi)
      refine hK.out _ _ (a4_ BK456 (a4_ BK457 (a4_ BK467 (h4_ BK468)))) (fun hHeld => ?_)
      clear hK K
      refine norm_ (a' := ?_) ?_ ?_
      rotate_left
      ·
       show Act.put _ (some 63) _ = _
       simp only [Act.put, List.setIfInBounds_toArray, List.set_cons_zero, List.set_cons_succ, i64_w, i32_w]
       rfl
      refine pv_ 15 64 zq8.q75 HT_ ?_
      refine pv_ 16 65 zq8.q76 HT_ ?_
      refine pv_ 17 66 zq8.q77 HT_ ?_
      refine done_ (done_of HT_.out (by kernel_rfl)) ?_
      try go_wp2
      go_meet
      case rel => exact ⟨_, ((t506 != (t463 == t507 && (t464 == t508 && (t465 == t509 && (t466 == t510)))))), (by first | rfl | (simp; done) | (simp [*]; done)), H', ⟨by have := HJ5.out; first | omega | exact Nat.le_refl _⟩, bf_ BK456, bf_ BK457, bf_ BK458, bf_ BK467, bf_ BK468, ⟨by repeat (first | (with_reducible first | exact HB.out | apply below_alloc | apply pw_below_drewN | apply below_drew1 | refine below_set ?_ GE456.out | refine below_set ?_ GE457.out | refine below_set ?_ GE458.out | refine below_set ?_ GE467.out | refine below_set ?_ GE468.out) | exact HB.out)⟩⟩
    case rest =>
     clear HC60
     try clear c1
     try clear c2
     try clear p2
     try clear c3
     try clear c5
     try clear c6
     try clear c17
     try clear c21
     try clear c24
     try clear c29
     try clear c38
     try clear c38b0
     try clear c59
     try clear c63
     try clear c63b0
     try clear c63b1
     try clear c63b2
     try clear p2
     obtain ⟨kq, x66_59, rfl, HA, HJ59, BK456, BK457, BK458, BK467, BK468, HB⟩ := hcut
     cases kq with
     | zero => exact absurd HA.out (by simp [compositorlaw04_RectLattice.j1])
     | succ kj59 =>
      have H := HA.out
      clear HA
      simp only [compositorlaw04_RectLattice.j1] at H
      by_cases c74 : x66_59 = true
      ·
       subst c74
       have H1 : (some false) = some true := by rw [if_pos rfl] at H; exact H
       clear H
       have H := H1
       clear H1
       exact absurd H (by simp)
      ·
       replace c74 := Bool.eq_false_iff.mpr c74
       subst c74
       have H1 : ((rect_Within.f t463 t464 t465 t466 a2_0 a2_1 a2_2 a2_3).bind fun t511 => ((rect_Within.f a0_0 a0_1 a0_2 a0_3 a2_0 a2_1 a2_2 a2_3).bind fun t512 => (if t512 = true then ((rect_Within.f a1_0 a1_1 a1_2 a1_3 a2_0 a2_1 a2_2 a2_3).bind fun t513 => (if (t511 == t513) = true then ((rect_Within.f a2_0 a2_1 a2_2 a2_3 t459 t460 t461 t462).bind fun t514 => ((rect_Within.f a2_0 a2_1 a2_2 a2_3 a0_0 a0_1 a0_2 a0_3).bind fun t515 => (if t515 = true then ((rect_Within.f a2_0 a2_1 a2_2 a2_3 a1_0 a1_1 a1_2 a1_3).bind fun t516 => (if (t514 == t516) = true then ((compositorlaw04_exampleHolds.f kj59).bind fun t517 => (some t517)) else (some false))) else (if (t514 == false) = true then ((compositorlaw04_exampleHolds.f kj59).bind fun t518 => (some t518)) else (some false))))) else (some false))) else (if (t511 == false) = true then ((rect_Within.f a2_0 a2_1 a2_2 a2_3 t459 t460 t461 t462).bind fun t519 => ((rect_Within.f a2_0 a2_1 a2_2 a2_3 a0_0 a0_1 a0_2 a0_3).bind fun t520 => (if t520 = true then ((rect_Within.f a2_0 a2_1 a2_2 a2_3 a1_0 a1_1 a1_2 a1_3).bind fun t521 => (if (t519 == t521) = true then ((compositorlaw04_exampleHolds.f kj59).bind fun t522 => (some t522)) else (some false))) else (if (t519 == false) = true then ((compositorlaw04_exampleHolds.f kj59).bind fun t523 => (some t523)) else (some false))))) else (some false))))) = some true := by rw [if_neg (show ¬ (false = true) by decide)] at H; exact H
       clear H
       have H := H1
       clear H1
       replace H := Option.bind_eq_some_iff.mp H
       obtain ⟨t511, A750, H⟩ := H
       try dsimp only at H
       have A75 := Aside0.mk A750
       clear A750
       replace H := Option.bind_eq_some_iff.mp H
       obtain ⟨t512, A760, H⟩ := H
       try dsimp only at H
       have A76 := Aside0.mk A760
       clear A760
       by_cases c77 : t512 = true
       ·
        subst c77
        have H1 : ((rect_Within.f a1_0 a1_1 a1_2 a1_3 a2_0 a2_1 a2_2 a2_3).bind fun t513 => (if (t511 == t513) = true then ((rect_Within.f a2_0 a2_1 a2_2 a2_3 t459 t460 t461 t462).bind fun t514 => ((rect_Within.f a2_0 a2_1 a2_2 a2_3 a0_0 a0_1 a0_2 a0_3).bind fun t515 => (if t515 = true then ((rect_Within.f a2_0 a2_1 a2_2 a2_3 a1_0 a1_1 a1_2 a1_3).bind fun t516 => (if (t514 == t516) = true then ((compositorlaw04_exampleHolds.f kj59).bind fun t517 => (some t517)) else (some false))) else (if (t514 == false) = true then ((compositorlaw04_exampleHolds.f kj59).bind fun t518 => (some t518)) else (some false))))) else (some false))) = some true := by rw [if_pos rfl] at H; exact H
        clear H
        have H := H1
        clear H1
        replace H := Option.bind_eq_some_iff.mp H
        obtain ⟨t513, A780, H⟩ := H
        try dsimp only at H
        have A78 := Aside0.mk A780
        clear A780
        by_cases c79 : (t511 == t513) = true
        ·
         rw [if_pos c79] at H
         have c79b0 : (t511 == t513) = true := c79
         (try (have c79b1 : decide (t511 = t513) = true := by simpa using c79))
         (try (have c79b2 : (t511 == t513) = true := by simpa using c79))
         clear c79
         replace H := Option.bind_eq_some_iff.mp H
         obtain ⟨t514, A800, H⟩ := H
         try dsimp only at H
         have A80 := Aside0.mk A800
         clear A800
         replace H := Option.bind_eq_some_iff.mp H
         obtain ⟨t515, A810, H⟩ := H
         try dsimp only at H
         have A81 := Aside0.mk A810
         clear A810
         by_cases c82 : t515 = true
         ·
          subst c82
          have H1 : ((rect_Within.f a2_0 a2_1 a2_2 a2_3 a1_0 a1_1 a1_2 a1_3).bind fun t516 => (if (t514 == t516) = true then ((compositorlaw04_exampleHolds.f kj59).bind fun t517 => (some t517)) else (some false))) = some true := by rw [if_pos rfl] at H; exact H
          clear H
          have H := H1
          clear H1
          replace H := Option.bind_eq_some_iff.mp H
          obtain ⟨t516, A830, H⟩ := H
          try dsimp only at H
          have A83 := Aside0.mk A830
          clear A830
          by_cases c84 : (t514 == t516) = true
          ·
           rw [if_pos c84] at H
           have c84b0 : (t514 == t516) = true := c84
           (try (have c84b1 : decide (t514 = t516) = true := by simpa using c84))
           (try (have c84b2 : (t514 == t516) = true := by simpa using c84))
           clear c84
           replace H := Option.bind_eq_some_iff.mp H
           obtain ⟨t517, A850, H⟩ := H
           try dsimp only at H
           have A85 := Aside0.mk A850
           clear A850
           have Hq_ := Option.some.inj H
           try go_wp2
           replace BK456 := Aside0.mk (blk_drew BK456.out)
           replace BK457 := Aside0.mk (blk_drew BK457.out)
           replace BK458 := Aside0.mk (blk_drew BK458.out)
           replace BK467 := Aside0.mk (blk_drew BK467.out)
           replace BK468 := Aside0.mk (blk_drew BK468.out)
           replace HB := Aside0.mk (below_drew1 HB.out)
           refine start_ (n := 30) (S := fun w' => w'.cell? ⟨gb468, 0, none⟩ = some (.int .i64 t463) ∧ w'.cell? ⟨gb468, 1, none⟩ = some (.int .i64 t464) ∧ w'.cell? ⟨gb468, 2, none⟩ = some (.int .i64 t465) ∧ w'.cell? ⟨gb468, 3, none⟩ = some (.int .i64 t466) ∧ w'.cell? ⟨gb458, 0, none⟩ = some (.int .i64 a2_0) ∧ w'.cell? ⟨gb458, 1, none⟩ = some (.int .i64 a2_1) ∧ w'.cell? ⟨gb458, 2, none⟩ = some (.int .i64 a2_2) ∧ w'.cell? ⟨gb458, 3, none⟩ = some (.int .i64 a2_3) ∧ w'.cell? ⟨gb456, 0, none⟩ = some (.int .i64 a0_0) ∧ w'.cell? ⟨gb456, 1, none⟩ = some (.int .i64 a0_1) ∧ w'.cell? ⟨gb456, 2, none⟩ = some (.int .i64 a0_2) ∧ w'.cell? ⟨gb456, 3, none⟩ = some (.int .i64 a0_3) ∧ w'.cell? ⟨gb457, 0, none⟩ = some (.int .i64 a1_0) ∧ w'.cell? ⟨gb457, 1, none⟩ = some (.int .i64 a1_1) ∧ w'.cell? ⟨gb457, 2, none⟩ = some (.int .i64 a1_2) ∧ w'.cell? ⟨gb457, 3, none⟩ = some (.int .i64 a1_3) ∧ w'.cell? ⟨gb467, 0, none⟩ = some (.int .i64 t459) ∧ w'.cell? ⟨gb467, 1, none⟩ = some (.int .i64 t460) ∧ w'.cell? ⟨gb467, 2, none⟩ = some (.int .i64 t461) ∧ w'.cell? ⟨gb467, 3, none⟩ = some (.int .i64 t462)) (ds := []) zq8.q80 (by kernel_rfl) rfl rfl (a4_ BK468 (a4_ BK458 (a4_ BK456 (a4_ BK457 (h4_ BK467))))) (fun hHeld => ?_); refine with_tabW compositorlaw04_RectLattice.tab6 compositorlaw04_RectLattice.bits6 (fun HT_ HW_ => ?_)
           generalize wc.drew = w86 at BK456 BK457 BK458 BK467 BK468 HB hHeld ⊢
           refine take_ (i := 0) (N := some 67) (v := ?_) (a' := ?_) zq8.q81 rfl rfl (take_ofW HT_.out HW_.out (by kernel_rfl)) (fun _ _ _ h => h) (Or.inl ⟨by rfl, ?_⟩) hHeld ?_ ?_
           rotate_left
           ·
            rintro w' ⟨s0, s1, s2, s3, s4, s5, s6, s7, s8, s9, s10, s11, s12, s13, s14, s15, s16, s17, s18, s19⟩
            go_simp
            with_reducible rfl
           rotate_left
           ·
            simp only [Act.put, List.setIfInBounds_toArray, List.set_cons_zero, List.set_cons_succ, i64_w, i32_w]
            rfl
           refine take_ (i := 1) (N := some 68) (v := ?_) (a' := ?_) zq8.q82 rfl rfl (take_ofW HT_.out HW_.out (by kernel_rfl)) (fun _ _ _ h => h) (Or.inl ⟨by rfl, ?_⟩) hHeld ?_ ?_
           rotate_left
           ·
            rintro w' ⟨s0, s1, s2, s3, s4, s5, s6, s7, s8, s9, s10, s11, s12, s13, s14, s15, s16, s17, s18, s19⟩
            go_simp
            with_reducible rfl
           rotate_left
           ·
            simp only [Act.put, List.setIfInBounds_toArray, List.set_cons_zero, List.set_cons_succ, i64_w, i32_w]
            rfl
           refine take_ (i := 3) (N := some 70) (v := ?_) (a' := ?_) zq8.q83 rfl rfl (take_ofW HT_.out HW_.out (by kernel_rfl)) (fun _ _ _ h => h) (Or.inl ⟨by rfl, ?_⟩) hHeld ?_ ?_
           rotate_left
           ·
            rintro w' ⟨s0, s1, s2, s3, s4, s5, s6, s7, s8, s9, s10, s11, s12, s13, s14, s15, s16, s17, s18, s19⟩
            go_simp
            with_reducible rfl
           rotate_left
           ·
            simp only [Act.put, List.setIfInBounds_toArray, List.set_cons_zero, List.set_cons_succ, i64_w, i32_w]
            rfl
           refine take_ (i := 4) (N := some 71) (v := ?_) (a' := ?_) zq8.q84 rfl rfl (take_ofW HT_.out HW_.out (by kernel_rfl)) (fun _ _ _ h => h) (Or.inl ⟨by rfl, ?_⟩) hHeld ?_ ?_
           rotate_left
           ·
            rintro w' ⟨s0, s1, s2, s3, s4, s5, s6, s7, s8, s9, s10, s11, s12, s13, s14, s15, s16, s17, s18, s19⟩
            go_simp
            with_reducible rfl
           rotate_left
           ·
            simp only [Act.put, List.setIfInBounds_toArray, List.set_cons_zero, List.set_cons_succ, i64_w, i32_w]
            rfl
           refine one_ (i := 2) (N := some 69) zq8.q85 rfl rfl (one_of HT_.out (by kernel_rfl)) (by decide) (fun K hK => ?_)
           refine gs_ Try.func29 #[.agg #[.int .i64 t463, .int .i64 t464, .int .i64 t465, .int .i64 t466], .agg #[.int .i64 a2_0, .int .i64 a2_1, .int .i64 a2_2, .int .i64 a2_3]] ?_
           with_reducible refine (rect_Within.calls t463 t464 t465 t466 a2_0 a2_1 a2_2 a2_3 t511 _ A75.out).mono ?_
           rintro e w87 ⟨rfl, hb⟩
           refine ⟨_, rfl, ?_⟩
           replace BK456 := bb_ BK456 hb
           replace BK457 := bb_ BK457 hb
           replace BK458 := bb_ BK458 hb
           replace BK467 := bb_ BK467 hb
           replace BK468 := bb_ BK468 hb
           replace HB := hb_ HB hb
           (try clear hb); (try clear hb2); (try clear hk); (try clear hi)
           refine hK.out _ _ (a4_ BK468 (a4_ BK458 (a4_ BK456 (a4_ BK457 (h4_ BK467))))) (fun hHeld => ?_)
           clear hK K
           refine norm_ (a' := ?_) ?_ ?_
           rotate_left
           ·
            show Act.put _ (some 69) _ = _
            simp only [Act.put, List.setIfInBounds_toArray, List.set_cons_zero, List.set_cons_succ, i64_w, i32_w]
            rfl
           refine one_ (i := 5) (N := some 72) zq8.q86 rfl rfl (one_of HT_.out (by kernel_rfl)) (by decide) (fun K hK => ?_)
           refine gs_ Try.func29 #[.agg #[.int .i64 a0_0, .int .i64 a0_1, .int .i64 a0_2, .int .i64 a0_3], .agg #[.int .i64 a2_0, .int .i64 a2_1, .int .i64 a2_2, .int .i64 a2_3]] ?_
           with_reducible refine (rect_Within.calls a0_0 a0_1 a0_2 a0_3 a2_0 a2_1 a2_2 a2_3 true _ A76.out).mono ?_
           rintro e w88 ⟨rfl, hb⟩
           refine ⟨_, rfl, ?_⟩
           replace BK456 := bb_ BK456 hb
           replace BK457 := bb_ BK457 hb
           replace BK458 := bb_ BK458 hb
           replace BK467 := bb_ BK467 hb
           replace BK468 := bb_ BK468 hb
           replace HB := hb_ HB hb
           (try clear hb); (try clear hb2); (try clear hk); (try clear hi)
           refine hK.out _ _ (a4_ BK468 (a4_ BK458 (a4_ BK456 (a4_ BK457 (h4_ BK467))))) (fun hHeld => ?_)
           clear hK K
           refine norm_ (a' := ?_) ?_ ?_
           rotate_left
           ·
            show Act.put _ (some 72) _ = _
            simp only [Act.put, List.setIfInBounds_toArray, List.set_cons_zero, List.set_cons_succ, i64_w, i32_w]
            rfl
           refine pv_ 6 73 zq8.q87 HT_ ?_
           refine take_ (i := 7) (N := some 74) (v := ?_) (a' := ?_) zq8.q88 rfl rfl (take_ofW HT_.out HW_.out (by kernel_rfl)) (fun _ _ _ h => h) (Or.inl ⟨by rfl, ?_⟩) hHeld ?_ ?_
           rotate_left
           ·
            rintro w' ⟨s0, s1, s2, s3, s4, s5, s6, s7, s8, s9, s10, s11, s12, s13, s14, s15, s16, s17, s18, s19⟩
            go_simp
            with_reducible rfl
           rotate_left
           ·
            simp only [Act.put, List.setIfInBounds_toArray, List.set_cons_zero, List.set_cons_succ, i64_w, i32_w]
            rfl
           refine take_ (i := 8) (N := some 75) (v := ?_) (a' := ?_) zq8.q89 rfl rfl (take_ofW HT_.out HW_.out (by kernel_rfl)) (fun _ _ _ h => h) (Or.inl ⟨by rfl, ?_⟩) hHeld ?_ ?_
           rotate_left
           ·
            rintro w' ⟨s0, s1, s2, s3, s4, s5, s6, s7, s8, s9, s10, s11, s12, s13, s14, s15, s16, s17, s18, s19⟩
            go_simp
            with_reducible rfl
           rotate_left
           ·
            simp only [Act.put, List.setIfInBounds_toArray, List.set_cons_zero, List.set_cons_succ, i64_w, i32_w]
            rfl
           refine one_ (i := 9) (N := some 76) zq8.q90 rfl rfl (one_of HT_.out (by kernel_rfl)) (by decide) (fun K hK => ?_)
           refine gs_ Try.func29 #[.agg #[.int .i64 a1_0, .int .i64 a1_1, .int .i64 a1_2, .int .i64 a1_3], .agg #[.int .i64 a2_0, .int .i64 a2_1, .int .i64 a2_2, .int .i64 a2_3]] ?_
           with_reducible refine (rect_Within.calls a1_0 a1_1 a1_2 a1_3 a2_0 a2_1 a2_2 a2_3 t513 _ A78.out).mono ?_
           rintro e w89 ⟨rfl, hb⟩
           refine ⟨_, rfl, ?_⟩
           replace BK456 := bb_ BK456 hb
           replace BK457 := bb_ BK457 hb
           replace BK458 := bb_ BK458 hb
           replace BK467 := bb_ BK467 hb
           replace BK468 := bb_ BK468 hb
           replace HB := hb_ HB hb
           (try clear hb); (try clear hb2); (try clear hk); (try clear hi)
           refine hK.out _ _ (a4_ BK468 (a4_ BK458 (a4_ BK456 (a4_ BK457 (h4_ BK467))))) (fun hHeld => ?_)
           clear hK K
           refine norm_ (a' := ?_) ?_ ?_
           rotate_left
           ·
            show Act.put _ (some 76) _ = _
            simp only [Act.put, List.setIfInBounds_toArray, List.set_cons_zero, List.set_cons_succ, i64_w, i32_w]
            rfl
           refine pv_ 10 77 zq8.q91 HT_ ?_
           refine pv_ 11 78 zq8.q92 HT_ ?_
           refine pv_ 12 79 zq8.q93 HT_ ?_
           refine take_ (i := 13) (N := some 80) (v := ?_) (a' := ?_) zq8.q94 rfl rfl (take_ofW HT_.out HW_.out (by kernel_rfl)) (fun _ _ _ h => h) (Or.inl ⟨by rfl, ?_⟩) hHeld ?_ ?_
           rotate_left
           ·
            rintro w' ⟨s0, s1, s2, s3, s4, s5, s6, s7, s8, s9, s10, s11, s12, s13, s14, s15, s16, s17, s18, s19⟩
            go_simp
            with_reducible rfl
           rotate_left
           ·
            simp only [Act.put, List.setIfInBounds_toArray, List.set_cons_zero, List.set_cons_succ, i64_w, i32_w]
            rfl
           refine take_ (i := 14) (N := some 81) (v := ?_) (a' := ?_) zq8.q95 rfl rfl (take_ofW HT_.out HW_.out (by kernel_rfl)) (fun _ _ _ h => h) (Or.inl ⟨by rfl, ?_⟩) hHeld ?_ ?_
           rotate_left
           ·
            rintro w' ⟨s0, s1, s2, s3, s4, s5, s6, s7, s8, s9, s10, s11, s12, s13, s14, s15, s16, s17, s18, s19⟩
            go_simp
            with_reducible rfl
           rotate_left
           ·
            simp only [Act.put, List.setIfInBounds_toArray, List.set_cons_zero, List.set_cons_succ, i64_w, i32_w]
            rfl
           refine take_ (i := 16) (N := some 83) (v := ?_) (a' := ?_) zq8.q96 rfl rfl (take_ofW HT_.out HW_.out (by kernel_rfl)) (fun _ _ _ h => h) (Or.inl ⟨by rfl, ?_⟩) hHeld ?_ ?_
           rotate_left
           ·
            rintro w' ⟨s0, s1, s2, s3, s4, s5, s6, s7, s8, s9, s10, s11, s12, s13, s14, s15, s16, s17, s18, s19⟩
            go_simp
            with_reducible rfl
           rotate_left
           ·
            simp only [Act.put, List.setIfInBounds_toArray, List.set_cons_zero, List.set_cons_succ, i64_w, i32_w]
            rfl
           refine take_ (i := 17) (N := some 84) (v := ?_) (a' := ?_) zq8.q97 rfl rfl (take_ofW HT_.out HW_.out (by kernel_rfl)) (fun _ _ _ h => h) (Or.inl ⟨by rfl, ?_⟩) hHeld ?_ ?_
           rotate_left
           ·
            rintro w' ⟨s0, s1, s2, s3, s4, s5, s6, s7, s8, s9, s10, s11, s12, s13, s14, s15, s16, s17, s18, s19⟩
            go_simp
            with_reducible rfl
           rotate_left
           ·
            simp only [Act.put, List.setIfInBounds_toArray, List.set_cons_zero, List.set_cons_succ, i64_w, i32_w]
            rfl
           refine one_ (i := 15) (N := some 82) zq8.q98 rfl rfl (one_of HT_.out (by kernel_rfl)) (by decide) (fun K hK => ?_)
           refine gs_ Try.func29 #[.agg #[.int .i64 a2_0, .int .i64 a2_1, .int .i64 a2_2, .int .i64 a2_3], .agg #[.int .i64 t459, .int .i64 t460, .int .i64 t461, .int .i64 t462]] ?_
           with_reducible refine (rect_Within.calls a2_0 a2_1 a2_2 a2_3 t459 t460 t461 t462 t514 _ A80.out).mono ?_
           rintro e w90 ⟨rfl, hb⟩
           refine ⟨_, rfl, ?_⟩
           replace BK456 := bb_ BK456 hb
           replace BK457 := bb_ BK457 hb
           replace BK458 := bb_ BK458 hb
           replace BK467 := bb_ BK467 hb
           replace BK468 := bb_ BK468 hb
           replace HB := hb_ HB hb
           (try clear hb); (try clear hb2); (try clear hk); (try clear hi)
           refine hK.out _ _ (a4_ BK468 (a4_ BK458 (a4_ BK456 (a4_ BK457 (h4_ BK467))))) (fun hHeld => ?_)
           clear hK K
           refine norm_ (a' := ?_) ?_ ?_
           rotate_left
           ·
            show Act.put _ (some 82) _ = _
            simp only [Act.put, List.setIfInBounds_toArray, List.set_cons_zero, List.set_cons_succ, i64_w, i32_w]
            rfl
           refine one_ (i := 18) (N := some 85) zq8.q99 rfl rfl (one_of HT_.out (by kernel_rfl)) (by decide) (fun K hK => ?_)
           refine gs_ Try.func29 #[.agg #[.int .i64 a2_0, .int .i64 a2_1, .int .i64 a2_2, .int .i64 a2_3], .agg #[.int .i64 a0_0, .int .i64 a0_1, .int .i64 a0_2, .int .i64 a0_3]] ?_
           with_reducible refine (rect_Within.calls a2_0 a2_1 a2_2 a2_3 a0_0 a0_1 a0_2 a0_3 true _ A81.out).mono ?_
           rintro e w91 ⟨rfl, hb⟩
           refine ⟨_, rfl, ?_⟩
           replace BK456 := bb_ BK456 hb
           replace BK457 := bb_ BK457 hb
           replace BK458 := bb_ BK458 hb
           replace BK467 := bb_ BK467 hb
           replace BK468 := bb_ BK468 hb
           replace HB := hb_ HB hb
           (try clear hb); (try clear hb2); (try clear hk); (try clear hi)
           refine hK.out _ _ (a4_ BK468 (a4_ BK458 (a4_ BK456 (a4_ BK457 (h4_ BK467))))) (fun hHeld => ?_)
           clear hK K
           refine norm_ (a' := ?_) ?_ ?_
           rotate_left
           ·
            show Act.put _ (some 85) _ = _
            simp only [Act.put, List.setIfInBounds_toArray, List.set_cons_zero, List.set_cons_succ, i64_w, i32_w]
            rfl
           refine pv_ 19 86 zq8.q100 HT_ ?_
           refine take_ (i := 20) (N := some 87) (v := ?_) (a' := ?_) zq8.q101 rfl rfl (take_ofW HT_.out HW_.out (by kernel_rfl)) (fun _ _ _ h => h) (Or.inl ⟨by rfl, ?_⟩) hHeld ?_ ?_
           rotate_left
           ·
            rintro w' ⟨s0, s1, s2, s3, s4, s5, s6, s7, s8, s9, s10, s11, s12, s13, s14, s15, s16, s17, s18, s19⟩
            go_simp
            with_reducible rfl
           rotate_left
           ·
            simp only [Act.put, List.setIfInBounds_toArray, List.set_cons_zero, List.set_cons_succ, i64_w, i32_w]
            rfl
           refine take_ (i := 21) (N := some 88) (v := ?_) (a' := ?_) zq8.q102 rfl rfl (take_ofW HT_.out HW_.out (by kernel_rfl)) (fun _ _ _ h => h) (Or.inl ⟨by rfl, ?_⟩) hHeld ?_ ?_
           rotate_left
           ·
            rintro w' ⟨s0, s1, s2, s3, s4, s5, s6, s7, s8, s9, s10, s11, s12, s13, s14, s15, s16, s17, s18, s19⟩
            go_simp
            with_reducible rfl
           rotate_left
           ·
            simp only [Act.put, List.setIfInBounds_toArray, List.set_cons_zero, List.set_cons_succ, i64_w, i32_w]
            rfl
           refine one_ (i := 22) (N := some 89) zq8.q103 rfl rfl (one_of HT_.out (by kernel_rfl)) (by decide) (fun K hK => ?_)
           refine gs_ Try.func29 #[.agg #[.int .i64 a2_0, .int .i64 a2_1, .int .i64 a2_2, .int .i64 a2_3], .agg #[.int .i64 a1_0, .int .i64 a1_1, .int .i64 a1_2, .int .i64 a1_3]] ?_
           with_reducible refine (rect_Within.calls a2_0 a2_1 a2_2 a2_3 a1_0 a1_1 a1_2 a1_3 t516 _ A83.out).mono ?_
           rintro e w92 ⟨rfl, hb⟩
           refine ⟨_, rfl, ?_⟩
           replace BK456 := bb_ BK456 hb
           replace BK457 := bb_ BK457 hb
           replace BK458 := bb_ BK458 hb
           replace BK467 := bb_ BK467 hb
           replace BK468 := bb_ BK468 hb
           replace HB := hb_ HB hb
           (try clear hb); (try clear hb2); (try clear hk); (try clear hi)
           refine hK.out _ _ (a4_ BK468 (a4_ BK458 (a4_ BK456 (a4_ BK457 (h4_ BK467))))) (fun hHeld => ?_)
           clear hK K
           refine norm_ (a' := ?_) ?_ ?_
           rotate_left
           ·
            show Act.put _ (some 89) _ = _
            simp only [Act.put, List.setIfInBounds_toArray, List.set_cons_zero, List.set_cons_succ, i64_w, i32_w]
            rfl
           refine pv_ 23 90 zq8.q104 HT_ ?_
           refine pv_ 24 91 zq8.q105 HT_ ?_
           refine pv_ 25 92 zq8.q106 HT_ ?_
           refine pv_ 26 93 zq8.q107 HT_ ?_
           refine one_ (i := 27) (N := some 94) zq8.q108 rfl rfl (one_of HT_.out (by kernel_rfl)) (by decide) (fun K hK => ?_)
           refine gs_ Try.func15 #[] ?_
           with_reducible refine (compositorlaw04_exampleHolds.calls kj59  t517 _ A85.out).mono ?_
           rintro e w93 ⟨rfl, hb⟩
           refine ⟨_, rfl, ?_⟩
           replace BK456 := bb_ BK456 hb
           replace BK457 := bb_ BK457 hb
           replace BK458 := bb_ BK458 hb
           replace BK467 := bb_ BK467 hb
           replace BK468 := bb_ BK468 hb
           replace HB := hb_ HB hb
           (try clear hb); (try clear hb2); (try clear hk); (try clear hi)
           refine hK.out _ _ (a4_ BK468 (a4_ BK458 (a4_ BK456 (a4_ BK457 (h4_ BK467))))) (fun hHeld => ?_)
           clear hK K
           refine norm_ (a' := ?_) ?_ ?_
           rotate_left
           ·
            show Act.put _ (some 94) _ = _
            simp only [Act.put, List.setIfInBounds_toArray, List.set_cons_zero, List.set_cons_succ, i64_w, i32_w]
            rfl
           refine pv_ 28 95 zq8.q109 HT_ ?_
           refine pv_ 29 6 zq8.q110 HT_ ?_
           refine done_ (done_of HT_.out (by kernel_rfl)) ?_
           try go_wp2
           go_ret
           exact ⟨by first | rfl | (simp [errW_none, errW_some] <;> rfl) | (simp [*, errW_none, errW_some] <;> rfl), by repeat (first | (with_reducible first | exact HB.out | apply below_alloc | apply pw_below_drewN | apply below_drew1 | refine below_set ?_ GE456.out | refine below_set ?_ GE457.out | refine below_set ?_ GE458.out | refine below_set ?_ GE467.out | refine below_set ?_ GE468.out) | exact HB.out)⟩
          ·
           rw [if_neg c84] at H
           have c84b0 : (t514 == t516) = false := by simpa using c84
           (try (have c84b1 : decide (t514 = t516) = false := by simpa using c84))
           (try (have c84b2 : (t514 == t516) = false := by simpa using c84))
           (try (have c84b3 : ¬ (t514 = t516) := by simpa using c84))
           clear c84
           exact absurd H (by simp)
         ·
          replace c82 := Bool.eq_false_iff.mpr c82
          subst c82
          have H1 : (if (t514 == false) = true then ((compositorlaw04_exampleHolds.f kj59).bind fun t518 => (some t518)) else (some false)) = some true := by rw [if_neg (show ¬ (false = true) by decide)] at H; exact H
          clear H
          have H := H1
          clear H1
          by_cases c94 : (t514 == false) = true
          ·
           rw [if_pos c94] at H
           have c94b0 : (t514 == false) = true := c94
           (try (have c94b1 : decide (t514 = false) = true := by simpa using c94))
           (try (have c94b2 : (t514 == false) = true := by simpa using c94))
           clear c94
           replace H := Option.bind_eq_some_iff.mp H
           obtain ⟨t518, A950, H⟩ := H
           try dsimp only at H
           have A95 := Aside0.mk A950
           clear A950
           have Hq_ := Option.some.inj H
           try go_wp2
           replace BK456 := Aside0.mk (blk_drew BK456.out)
           replace BK457 := Aside0.mk (blk_drew BK457.out)
           replace BK458 := Aside0.mk (blk_drew BK458.out)
           replace BK467 := Aside0.mk (blk_drew BK467.out)
           replace BK468 := Aside0.mk (blk_drew BK468.out)
           replace HB := Aside0.mk (below_drew1 HB.out)
           refine start_ (n := 30) (S := fun w' => w'.cell? ⟨gb468, 0, none⟩ = some (.int .i64 t463) ∧ w'.cell? ⟨gb468, 1, none⟩ = some (.int .i64 t464) ∧ w'.cell? ⟨gb468, 2, none⟩ = some (.int .i64 t465) ∧ w'.cell? ⟨gb468, 3, none⟩ = some (.int .i64 t466) ∧ w'.cell? ⟨gb458, 0, none⟩ = some (.int .i64 a2_0) ∧ w'.cell? ⟨gb458, 1, none⟩ = some (.int .i64 a2_1) ∧ w'.cell? ⟨gb458, 2, none⟩ = some (.int .i64 a2_2) ∧ w'.cell? ⟨gb458, 3, none⟩ = some (.int .i64 a2_3) ∧ w'.cell? ⟨gb456, 0, none⟩ = some (.int .i64 a0_0) ∧ w'.cell? ⟨gb456, 1, none⟩ = some (.int .i64 a0_1) ∧ w'.cell? ⟨gb456, 2, none⟩ = some (.int .i64 a0_2) ∧ w'.cell? ⟨gb456, 3, none⟩ = some (.int .i64 a0_3) ∧ w'.cell? ⟨gb457, 0, none⟩ = some (.int .i64 a1_0) ∧ w'.cell? ⟨gb457, 1, none⟩ = some (.int .i64 a1_1) ∧ w'.cell? ⟨gb457, 2, none⟩ = some (.int .i64 a1_2) ∧ w'.cell? ⟨gb457, 3, none⟩ = some (.int .i64 a1_3) ∧ w'.cell? ⟨gb467, 0, none⟩ = some (.int .i64 t459) ∧ w'.cell? ⟨gb467, 1, none⟩ = some (.int .i64 t460) ∧ w'.cell? ⟨gb467, 2, none⟩ = some (.int .i64 t461) ∧ w'.cell? ⟨gb467, 3, none⟩ = some (.int .i64 t462)) (ds := []) zq8.q80 (by kernel_rfl) rfl rfl (a4_ BK468 (a4_ BK458 (a4_ BK456 (a4_ BK457 (h4_ BK467))))) (fun hHeld => ?_); refine with_tabW compositorlaw04_RectLattice.tab6 compositorlaw04_RectLattice.bits6 (fun HT_ HW_ => ?_)
           generalize wc.drew = w96 at BK456 BK457 BK458 BK467 BK468 HB hHeld ⊢
           refine take_ (i := 0) (N := some 67) (v := ?_) (a' := ?_) zq8.q81 rfl rfl (take_ofW HT_.out HW_.out (by kernel_rfl)) (fun _ _ _ h => h) (Or.inl ⟨by rfl, ?_⟩) hHeld ?_ ?_
           rotate_left
           ·
            rintro w' ⟨s0, s1, s2, s3, s4, s5, s6, s7, s8, s9, s10, s11, s12, s13, s14, s15, s16, s17, s18, s19⟩
            go_simp
            with_reducible rfl
           rotate_left
           ·
            simp only [Act.put, List.setIfInBounds_toArray, List.set_cons_zero, List.set_cons_succ, i64_w, i32_w]
            rfl
           refine take_ (i := 1) (N := some 68) (v := ?_) (a' := ?_) zq8.q82 rfl rfl (take_ofW HT_.out HW_.out (by kernel_rfl)) (fun _ _ _ h => h) (Or.inl ⟨by rfl, ?_⟩) hHeld ?_ ?_
           rotate_left
           ·
            rintro w' ⟨s0, s1, s2, s3, s4, s5, s6, s7, s8, s9, s10, s11, s12, s13, s14, s15, s16, s17, s18, s19⟩
            go_simp
            with_reducible rfl
           rotate_left
           ·
            simp only [Act.put, List.setIfInBounds_toArray, List.set_cons_zero, List.set_cons_succ, i64_w, i32_w]
            rfl
           refine take_ (i := 3) (N := some 70) (v := ?_) (a' := ?_) zq8.q83 rfl rfl (take_ofW HT_.out HW_.out (by kernel_rfl)) (fun _ _ _ h => h) (Or.inl ⟨by rfl, ?_⟩) hHeld ?_ ?_
           rotate_left
           ·
            rintro w' ⟨s0, s1, s2, s3, s4, s5, s6, s7, s8, s9, s10, s11, s12, s13, s14, s15, s16, s17, s18, s19⟩
            go_simp
            with_reducible rfl
           rotate_left
           ·
            simp only [Act.put, List.setIfInBounds_toArray, List.set_cons_zero, List.set_cons_succ, i64_w, i32_w]
            rfl
           refine take_ (i := 4) (N := some 71) (v := ?_) (a' := ?_) zq8.q84 rfl rfl (take_ofW HT_.out HW_.out (by kernel_rfl)) (fun _ _ _ h => h) (Or.inl ⟨by rfl, ?_⟩) hHeld ?_ ?_
           rotate_left
           ·
            rintro w' ⟨s0, s1, s2, s3, s4, s5, s6, s7, s8, s9, s10, s11, s12, s13, s14, s15, s16, s17, s18, s19⟩
            go_simp
            with_reducible rfl
           rotate_left
           ·
            simp only [Act.put, List.setIfInBounds_toArray, List.set_cons_zero, List.set_cons_succ, i64_w, i32_w]
            rfl
           refine one_ (i := 2) (N := some 69) zq8.q85 rfl rfl (one_of HT_.out (by kernel_rfl)) (by decide) (fun K hK => ?_)
           refine gs_ Try.func29 #[.agg #[.int .i64 t463, .int .i64 t464, .int .i64 t465, .int .i64 t466], .agg #[.int .i64 a2_0, .int .i64 a2_1, .int .i64 a2_2, .int .i64 a2_3]] ?_
           with_reducible refine (rect_Within.calls t463 t464 t465 t466 a2_0 a2_1 a2_2 a2_3 t511 _ A75.out).mono ?_
           rintro e w97 ⟨rfl, hb⟩
           refine ⟨_, rfl, ?_⟩
           replace BK456 := bb_ BK456 hb
           replace BK457 := bb_ BK457 hb
           replace BK458 := bb_ BK458 hb
           replace BK467 := bb_ BK467 hb
           replace BK468 := bb_ BK468 hb
           replace HB := hb_ HB hb
           (try clear hb); (try clear hb2); (try clear hk); (try clear hi)
           refine hK.out _ _ (a4_ BK468 (a4_ BK458 (a4_ BK456 (a4_ BK457 (h4_ BK467))))) (fun hHeld => ?_)
           clear hK K
           refine norm_ (a' := ?_) ?_ ?_
           rotate_left
           ·
            show Act.put _ (some 69) _ = _
            simp only [Act.put, List.setIfInBounds_toArray, List.set_cons_zero, List.set_cons_succ, i64_w, i32_w]
            rfl
           refine one_ (i := 5) (N := some 72) zq8.q86 rfl rfl (one_of HT_.out (by kernel_rfl)) (by decide) (fun K hK => ?_)
           refine gs_ Try.func29 #[.agg #[.int .i64 a0_0, .int .i64 a0_1, .int .i64 a0_2, .int .i64 a0_3], .agg #[.int .i64 a2_0, .int .i64 a2_1, .int .i64 a2_2, .int .i64 a2_3]] ?_
           with_reducible refine (rect_Within.calls a0_0 a0_1 a0_2 a0_3 a2_0 a2_1 a2_2 a2_3 true _ A76.out).mono ?_
           rintro e w98 ⟨rfl, hb⟩
           refine ⟨_, rfl, ?_⟩
           replace BK456 := bb_ BK456 hb
           replace BK457 := bb_ BK457 hb
           replace BK458 := bb_ BK458 hb
           replace BK467 := bb_ BK467 hb
           replace BK468 := bb_ BK468 hb
           replace HB := hb_ HB hb
           (try clear hb); (try clear hb2); (try clear hk); (try clear hi)
           refine hK.out _ _ (a4_ BK468 (a4_ BK458 (a4_ BK456 (a4_ BK457 (h4_ BK467))))) (fun hHeld => ?_)
           clear hK K
           refine norm_ (a' := ?_) ?_ ?_
           rotate_left
           ·
            show Act.put _ (some 72) _ = _
            simp only [Act.put, List.setIfInBounds_toArray, List.set_cons_zero, List.set_cons_succ, i64_w, i32_w]
            rfl
           refine pv_ 6 73 zq8.q87 HT_ ?_
           refine take_ (i := 7) (N := some 74) (v := ?_) (a' := ?_) zq8.q88 rfl rfl (take_ofW HT_.out HW_.out (by kernel_rfl)) (fun _ _ _ h => h) (Or.inl ⟨by rfl, ?_⟩) hHeld ?_ ?_
           rotate_left
           ·
            rintro w' ⟨s0, s1, s2, s3, s4, s5, s6, s7, s8, s9, s10, s11, s12, s13, s14, s15, s16, s17, s18, s19⟩
            go_simp
            with_reducible rfl
           rotate_left
           ·
            simp only [Act.put, List.setIfInBounds_toArray, List.set_cons_zero, List.set_cons_succ, i64_w, i32_w]
            rfl
           refine take_ (i := 8) (N := some 75) (v := ?_) (a' := ?_) zq8.q89 rfl rfl (take_ofW HT_.out HW_.out (by kernel_rfl)) (fun _ _ _ h => h) (Or.inl ⟨by rfl, ?_⟩) hHeld ?_ ?_
           rotate_left
           ·
            rintro w' ⟨s0, s1, s2, s3, s4, s5, s6, s7, s8, s9, s10, s11, s12, s13, s14, s15, s16, s17, s18, s19⟩
            go_simp
            with_reducible rfl
           rotate_left
           ·
            simp only [Act.put, List.setIfInBounds_toArray, List.set_cons_zero, List.set_cons_succ, i64_w, i32_w]
            rfl
           refine one_ (i := 9) (N := some 76) zq8.q90 rfl rfl (one_of HT_.out (by kernel_rfl)) (by decide) (fun K hK => ?_)
           refine gs_ Try.func29 #[.agg #[.int .i64 a1_0, .int .i64 a1_1, .int .i64 a1_2, .int .i64 a1_3], .agg #[.int .i64 a2_0, .int .i64 a2_1, .int .i64 a2_2, .int .i64 a2_3]] ?_
           with_reducible refine (rect_Within.calls a1_0 a1_1 a1_2 a1_3 a2_0 a2_1 a2_2 a2_3 t513 _ A78.out).mono ?_
           rintro e w99 ⟨rfl, hb⟩
           refine ⟨_, rfl, ?_⟩
           replace BK456 := bb_ BK456 hb
           replace BK457 := bb_ BK457 hb
           replace BK458 := bb_ BK458 hb
           replace BK467 := bb_ BK467 hb
           replace BK468 := bb_ BK468 hb
           replace HB := hb_ HB hb
           (try clear hb); (try clear hb2); (try clear hk); (try clear hi)
           refine hK.out _ _ (a4_ BK468 (a4_ BK458 (a4_ BK456 (a4_ BK457 (h4_ BK467))))) (fun hHeld => ?_)
           clear hK K
           refine norm_ (a' := ?_) ?_ ?_
           rotate_left
           ·
            show Act.put _ (some 76) _ = _
            simp only [Act.put, List.setIfInBounds_toArray, List.set_cons_zero, List.set_cons_succ, i64_w, i32_w]
            rfl
           refine pv_ 10 77 zq8.q91 HT_ ?_
           refine pv_ 11 78 zq8.q92 HT_ ?_
           refine pv_ 12 79 zq8.q93 HT_ ?_
           refine take_ (i := 13) (N := some 80) (v := ?_) (a' := ?_) zq8.q94 rfl rfl (take_ofW HT_.out HW_.out (by kernel_rfl)) (fun _ _ _ h => h) (Or.inl ⟨by rfl, ?_⟩) hHeld ?_ ?_
           rotate_left
           ·
            rintro w' ⟨s0, s1, s2, s3, s4, s5, s6, s7, s8, s9, s10, s11, s12, s13, s14, s15, s16, s17, s18, s19⟩
            go_simp
            with_reducible rfl
           rotate_left
           ·
            simp only [Act.put, List.setIfInBounds_toArray, List.set_cons_zero, List.set_cons_succ, i64_w, i32_w]
            rfl
           refine take_ (i := 14) (N := some 81) (v := ?_) (a' := ?_) zq8.q95 rfl rfl (take_ofW HT_.out HW_.out (by kernel_rfl)) (fun _ _ _ h => h) (Or.inl ⟨by rfl, ?_⟩) hHeld ?_ ?_
           rotate_left
           ·
            rintro w' ⟨s0, s1, s2, s3, s4, s5, s6, s7, s8, s9, s10, s11, s12, s13, s14, s15, s16, s17, s18, s19⟩
            go_simp
            with_reducible rfl
           rotate_left
           ·
            simp only [Act.put, List.setIfInBounds_toArray, List.set_cons_zero, List.set_cons_succ, i64_w, i32_w]
            rfl
           refine take_ (i := 16) (N := some 83) (v := ?_) (a' := ?_) zq8.q96 rfl rfl (take_ofW HT_.out HW_.out (by kernel_rfl)) (fun _ _ _ h => h) (Or.inl ⟨by rfl, ?_⟩) hHeld ?_ ?_
           rotate_left
           ·
            rintro w' ⟨s0, s1, s2, s3, s4, s5, s6, s7, s8, s9, s10, s11, s12, s13, s14, s15, s16, s17, s18, s19⟩
            go_simp
            with_reducible rfl
           rotate_left
           ·
            simp only [Act.put, List.setIfInBounds_toArray, List.set_cons_zero, List.set_cons_succ, i64_w, i32_w]
            rfl
           refine take_ (i := 17) (N := some 84) (v := ?_) (a' := ?_) zq8.q97 rfl rfl (take_ofW HT_.out HW_.out (by kernel_rfl)) (fun _ _ _ h => h) (Or.inl ⟨by rfl, ?_⟩) hHeld ?_ ?_
           rotate_left
           ·
            rintro w' ⟨s0, s1, s2, s3, s4, s5, s6, s7, s8, s9, s10, s11, s12, s13, s14, s15, s16, s17, s18, s19⟩
            go_simp
            with_reducible rfl
           rotate_left
           ·
            simp only [Act.put, List.setIfInBounds_toArray, List.set_cons_zero, List.set_cons_succ, i64_w, i32_w]
            rfl
           refine one_ (i := 15) (N := some 82) zq8.q98 rfl rfl (one_of HT_.out (by kernel_rfl)) (by decide) (fun K hK => ?_)
           refine gs_ Try.func29 #[.agg #[.int .i64 a2_0, .int .i64 a2_1, .int .i64 a2_2, .int .i64 a2_3], .agg #[.int .i64 t459, .int .i64 t460, .int .i64 t461, .int .i64 t462]] ?_
           with_reducible refine (rect_Within.calls a2_0 a2_1 a2_2 a2_3 t459 t460 t461 t462 t514 _ A80.out).mono ?_
           rintro e w100 ⟨rfl, hb⟩
           refine ⟨_, rfl, ?_⟩
           replace BK456 := bb_ BK456 hb
           replace BK457 := bb_ BK457 hb
           replace BK458 := bb_ BK458 hb
           replace BK467 := bb_ BK467 hb
           replace BK468 := bb_ BK468 hb
           replace HB := hb_ HB hb
           (try clear hb); (try clear hb2); (try clear hk); (try clear hi)
           refine hK.out _ _ (a4_ BK468 (a4_ BK458 (a4_ BK456 (a4_ BK457 (h4_ BK467))))) (fun hHeld => ?_)
           clear hK K
           refine norm_ (a' := ?_) ?_ ?_
           rotate_left
           ·
            show Act.put _ (some 82) _ = _
            simp only [Act.put, List.setIfInBounds_toArray, List.set_cons_zero, List.set_cons_succ, i64_w, i32_w]
            rfl
           refine one_ (i := 18) (N := some 85) zq8.q99 rfl rfl (one_of HT_.out (by kernel_rfl)) (by decide) (fun K hK => ?_)
           refine gs_ Try.func29 #[.agg #[.int .i64 a2_0, .int .i64 a2_1, .int .i64 a2_2, .int .i64 a2_3], .agg #[.int .i64 a0_0, .int .i64 a0_1, .int .i64 a0_2, .int .i64 a0_3]] ?_
           with_reducible refine (rect_Within.calls a2_0 a2_1 a2_2 a2_3 a0_0 a0_1 a0_2 a0_3 false _ A81.out).mono ?_
           rintro e w101 ⟨rfl, hb⟩
           refine ⟨_, rfl, ?_⟩
           replace BK456 := bb_ BK456 hb
           replace BK457 := bb_ BK457 hb
           replace BK458 := bb_ BK458 hb
           replace BK467 := bb_ BK467 hb
           replace BK468 := bb_ BK468 hb
           replace HB := hb_ HB hb
           (try clear hb); (try clear hb2); (try clear hk); (try clear hi)
           refine hK.out _ _ (a4_ BK468 (a4_ BK458 (a4_ BK456 (a4_ BK457 (h4_ BK467))))) (fun hHeld => ?_)
           clear hK K
           refine norm_ (a' := ?_) ?_ ?_
           rotate_left
           ·
            show Act.put _ (some 85) _ = _
            simp only [Act.put, List.setIfInBounds_toArray, List.set_cons_zero, List.set_cons_succ, i64_w, i32_w]
            rfl
           refine pv_ 19 86 zq8.q100 HT_ ?_
           refine pu_ 20 87 zq8.q101 HT_ ?_
           refine pu_ 21 88 zq8.q102 HT_ ?_
           refine pu_ 22 89 zq8.q103 HT_ ?_
           refine pv_ 23 90 zq8.q104 HT_ ?_
           refine pv_ 24 91 zq8.q105 HT_ ?_
           refine pv_ 25 92 zq8.q106 HT_ ?_
           refine pv_ 26 93 zq8.q107 HT_ ?_
           refine one_ (i := 27) (N := some 94) zq8.q108 rfl rfl (one_of HT_.out (by kernel_rfl)) (by decide) (fun K hK => ?_)
           refine gs_ Try.func15 #[] ?_
           with_reducible refine (compositorlaw04_exampleHolds.calls kj59  t518 _ A95.out).mono ?_
           rintro e w102 ⟨rfl, hb⟩
           refine ⟨_, rfl, ?_⟩
           replace BK456 := bb_ BK456 hb
           replace BK457 := bb_ BK457 hb
           replace BK458 := bb_ BK458 hb
           replace BK467 := bb_ BK467 hb
           replace BK468 := bb_ BK468 hb
           replace HB := hb_ HB hb
           (try clear hb); (try clear hb2); (try clear hk); (try clear hi)
           refine hK.out _ _ (a4_ BK468 (a4_ BK458 (a4_ BK456 (a4_ BK457 (h4_ BK467))))) (fun hHeld => ?_)
           clear hK K
           refine norm_ (a' := ?_) ?_ ?_
           rotate_left
           ·
            show Act.put _ (some 94) _ = _
            simp only [Act.put, List.setIfInBounds_toArray, List.set_cons_zero, List.set_cons_succ, i64_w, i32_w]
            rfl
           refine pv_ 28 95 zq8.q109 HT_ ?_
           refine pv_ 29 6 zq8.q110 HT_ ?_
           refine done_ (done_of HT_.out (by kernel_rfl)) ?_
           try go_wp2
           go_ret
           exact ⟨by first | rfl | (simp [errW_none, errW_some] <;> rfl) | (simp [*, errW_none, errW_some] <;> rfl), by repeat (first | (with_reducible first | exact HB.out | apply below_alloc | apply pw_below_drewN | apply below_drew1 | refine below_set ?_ GE456.out | refine below_set ?_ GE457.out | refine below_set ?_ GE458.out | refine below_set ?_ GE467.out | refine below_set ?_ GE468.out) | exact HB.out)⟩
          ·
           rw [if_neg c94] at H
           have c94b0 : (t514 == false) = false := by simpa using c94
           (try (have c94b1 : decide (t514 = false) = false := by simpa using c94))
           (try (have c94b2 : (t514 == false) = false := by simpa using c94))
           (try (have c94b3 : ¬ (t514 = false) := by simpa using c94))
           clear c94
           exact absurd H (by simp)
        ·
         rw [if_neg c79] at H
         have c79b0 : (t511 == t513) = false := by simpa using c79
         (try (have c79b1 : decide (t511 = t513) = false := by simpa using c79))
         (try (have c79b2 : (t511 == t513) = false := by simpa using c79))
         (try (have c79b3 : ¬ (t511 = t513) := by simpa using c79))
         clear c79
         exact absurd H (by simp)
       ·
        replace c77 := Bool.eq_false_iff.mpr c77
        subst c77
        have H1 : (if (t511 == false) = true then ((rect_Within.f a2_0 a2_1 a2_2 a2_3 t459 t460 t461 t462).bind fun t519 => ((rect_Within.f a2_0 a2_1 a2_2 a2_3 a0_0 a0_1 a0_2 a0_3).bind fun t520 => (if t520 = true then ((rect_Within.f a2_0 a2_1 a2_2 a2_3 a1_0 a1_1 a1_2 a1_3).bind fun t521 => (if (t519 == t521) = true then ((compositorlaw04_exampleHolds.f kj59).bind fun t522 => (some t522)) else (some false))) else (if (t519 == false) = true then ((compositorlaw04_exampleHolds.f kj59).bind fun t523 => (some t523)) else (some false))))) else (some false)) = some true := by rw [if_neg (show ¬ (false = true) by decide)] at H; exact H
        clear H
        have H := H1
        clear H1
        by_cases c103 : (t511 == false) = true
        ·
         rw [if_pos c103] at H
         have c103b0 : (t511 == false) = true := c103
         (try (have c103b1 : decide (t511 = false) = true := by simpa using c103))
         (try (have c103b2 : (t511 == false) = true := by simpa using c103))
         clear c103
         replace H := Option.bind_eq_some_iff.mp H
         obtain ⟨t519, A1040, H⟩ := H
         try dsimp only at H
         have A104 := Aside0.mk A1040
         clear A1040
         replace H := Option.bind_eq_some_iff.mp H
         obtain ⟨t520, A1050, H⟩ := H
         try dsimp only at H
         have A105 := Aside0.mk A1050
         clear A1050
         by_cases c106 : t520 = true
         ·
          subst c106
          have H1 : ((rect_Within.f a2_0 a2_1 a2_2 a2_3 a1_0 a1_1 a1_2 a1_3).bind fun t521 => (if (t519 == t521) = true then ((compositorlaw04_exampleHolds.f kj59).bind fun t522 => (some t522)) else (some false))) = some true := by rw [if_pos rfl] at H; exact H
          clear H
          have H := H1
          clear H1
          replace H := Option.bind_eq_some_iff.mp H
          obtain ⟨t521, A1070, H⟩ := H
          try dsimp only at H
          have A107 := Aside0.mk A1070
          clear A1070
          by_cases c108 : (t519 == t521) = true
          ·
           rw [if_pos c108] at H
           have c108b0 : (t519 == t521) = true := c108
           (try (have c108b1 : decide (t519 = t521) = true := by simpa using c108))
           (try (have c108b2 : (t519 == t521) = true := by simpa using c108))
           clear c108
           replace H := Option.bind_eq_some_iff.mp H
           obtain ⟨t522, A1090, H⟩ := H
           try dsimp only at H
           have A109 := Aside0.mk A1090
           clear A1090
           have Hq_ := Option.some.inj H
           try go_wp2
           replace BK456 := Aside0.mk (blk_drew BK456.out)
           replace BK457 := Aside0.mk (blk_drew BK457.out)
           replace BK458 := Aside0.mk (blk_drew BK458.out)
           replace BK467 := Aside0.mk (blk_drew BK467.out)
           replace BK468 := Aside0.mk (blk_drew BK468.out)
           replace HB := Aside0.mk (below_drew1 HB.out)
           refine start_ (n := 30) (S := fun w' => w'.cell? ⟨gb468, 0, none⟩ = some (.int .i64 t463) ∧ w'.cell? ⟨gb468, 1, none⟩ = some (.int .i64 t464) ∧ w'.cell? ⟨gb468, 2, none⟩ = some (.int .i64 t465) ∧ w'.cell? ⟨gb468, 3, none⟩ = some (.int .i64 t466) ∧ w'.cell? ⟨gb458, 0, none⟩ = some (.int .i64 a2_0) ∧ w'.cell? ⟨gb458, 1, none⟩ = some (.int .i64 a2_1) ∧ w'.cell? ⟨gb458, 2, none⟩ = some (.int .i64 a2_2) ∧ w'.cell? ⟨gb458, 3, none⟩ = some (.int .i64 a2_3) ∧ w'.cell? ⟨gb456, 0, none⟩ = some (.int .i64 a0_0) ∧ w'.cell? ⟨gb456, 1, none⟩ = some (.int .i64 a0_1) ∧ w'.cell? ⟨gb456, 2, none⟩ = some (.int .i64 a0_2) ∧ w'.cell? ⟨gb456, 3, none⟩ = some (.int .i64 a0_3) ∧ w'.cell? ⟨gb467, 0, none⟩ = some (.int .i64 t459) ∧ w'.cell? ⟨gb467, 1, none⟩ = some (.int .i64 t460) ∧ w'.cell? ⟨gb467, 2, none⟩ = some (.int .i64 t461) ∧ w'.cell? ⟨gb467, 3, none⟩ = some (.int .i64 t462) ∧ w'.cell? ⟨gb457, 0, none⟩ = some (.int .i64 a1_0) ∧ w'.cell? ⟨gb457, 1, none⟩ = some (.int .i64 a1_1) ∧ w'.cell? ⟨gb457, 2, none⟩ = some (.int .i64 a1_2) ∧ w'.cell? ⟨gb457, 3, none⟩ = some (.int .i64 a1_3)) (ds := []) zq8.q80 (by kernel_rfl) rfl rfl (a4_ BK468 (a4_ BK458 (a4_ BK456 (a4_ BK467 (h4_ BK457))))) (fun hHeld => ?_); refine with_tabW compositorlaw04_RectLattice.tab6 compositorlaw04_RectLattice.bits6 (fun HT_ HW_ => ?_)
           generalize wc.drew = w110 at BK456 BK457 BK458 BK467 BK468 HB hHeld ⊢
           refine take_ (i := 0) (N := some 67) (v := ?_) (a' := ?_) zq8.q81 rfl rfl (take_ofW HT_.out HW_.out (by kernel_rfl)) (fun _ _ _ h => h) (Or.inl ⟨by rfl, ?_⟩) hHeld ?_ ?_
           rotate_left
           ·
            rintro w' ⟨s0, s1, s2, s3, s4, s5, s6, s7, s8, s9, s10, s11, s12, s13, s14, s15, s16, s17, s18, s19⟩
            go_simp
            with_reducible rfl
           rotate_left
           ·
            simp only [Act.put, List.setIfInBounds_toArray, List.set_cons_zero, List.set_cons_succ, i64_w, i32_w]
            rfl
           refine take_ (i := 1) (N := some 68) (v := ?_) (a' := ?_) zq8.q82 rfl rfl (take_ofW HT_.out HW_.out (by kernel_rfl)) (fun _ _ _ h => h) (Or.inl ⟨by rfl, ?_⟩) hHeld ?_ ?_
           rotate_left
           ·
            rintro w' ⟨s0, s1, s2, s3, s4, s5, s6, s7, s8, s9, s10, s11, s12, s13, s14, s15, s16, s17, s18, s19⟩
            go_simp
            with_reducible rfl
           rotate_left
           ·
            simp only [Act.put, List.setIfInBounds_toArray, List.set_cons_zero, List.set_cons_succ, i64_w, i32_w]
            rfl
           refine take_ (i := 3) (N := some 70) (v := ?_) (a' := ?_) zq8.q83 rfl rfl (take_ofW HT_.out HW_.out (by kernel_rfl)) (fun _ _ _ h => h) (Or.inl ⟨by rfl, ?_⟩) hHeld ?_ ?_
           rotate_left
           ·
            rintro w' ⟨s0, s1, s2, s3, s4, s5, s6, s7, s8, s9, s10, s11, s12, s13, s14, s15, s16, s17, s18, s19⟩
            go_simp
            with_reducible rfl
           rotate_left
           ·
            simp only [Act.put, List.setIfInBounds_toArray, List.set_cons_zero, List.set_cons_succ, i64_w, i32_w]
            rfl
           refine take_ (i := 4) (N := some 71) (v := ?_) (a' := ?_) zq8.q84 rfl rfl (take_ofW HT_.out HW_.out (by kernel_rfl)) (fun _ _ _ h => h) (Or.inl ⟨by rfl, ?_⟩) hHeld ?_ ?_
           rotate_left
           ·
            rintro w' ⟨s0, s1, s2, s3, s4, s5, s6, s7, s8, s9, s10, s11, s12, s13, s14, s15, s16, s17, s18, s19⟩
            go_simp
            with_reducible rfl
           rotate_left
           ·
            simp only [Act.put, List.setIfInBounds_toArray, List.set_cons_zero, List.set_cons_succ, i64_w, i32_w]
            rfl
           refine one_ (i := 2) (N := some 69) zq8.q85 rfl rfl (one_of HT_.out (by kernel_rfl)) (by decide) (fun K hK => ?_)
           refine gs_ Try.func29 #[.agg #[.int .i64 t463, .int .i64 t464, .int .i64 t465, .int .i64 t466], .agg #[.int .i64 a2_0, .int .i64 a2_1, .int .i64 a2_2, .int .i64 a2_3]] ?_
           with_reducible refine (rect_Within.calls t463 t464 t465 t466 a2_0 a2_1 a2_2 a2_3 t511 _ A75.out).mono ?_
           rintro e w111 ⟨rfl, hb⟩
           refine ⟨_, rfl, ?_⟩
           replace BK456 := bb_ BK456 hb
           replace BK457 := bb_ BK457 hb
           replace BK458 := bb_ BK458 hb
           replace BK467 := bb_ BK467 hb
           replace BK468 := bb_ BK468 hb
           replace HB := hb_ HB hb
           (try clear hb); (try clear hb2); (try clear hk); (try clear hi)
           refine hK.out _ _ (a4_ BK468 (a4_ BK458 (a4_ BK456 (a4_ BK467 (h4_ BK457))))) (fun hHeld => ?_)
           clear hK K
           refine norm_ (a' := ?_) ?_ ?_
           rotate_left
           ·
            show Act.put _ (some 69) _ = _
            simp only [Act.put, List.setIfInBounds_toArray, List.set_cons_zero, List.set_cons_succ, i64_w, i32_w]
            rfl
           refine one_ (i := 5) (N := some 72) zq8.q86 rfl rfl (one_of HT_.out (by kernel_rfl)) (by decide) (fun K hK => ?_)
           refine gs_ Try.func29 #[.agg #[.int .i64 a0_0, .int .i64 a0_1, .int .i64 a0_2, .int .i64 a0_3], .agg #[.int .i64 a2_0, .int .i64 a2_1, .int .i64 a2_2, .int .i64 a2_3]] ?_
           with_reducible refine (rect_Within.calls a0_0 a0_1 a0_2 a0_3 a2_0 a2_1 a2_2 a2_3 false _ A76.out).mono ?_
           rintro e w112 ⟨rfl, hb⟩
           refine ⟨_, rfl, ?_⟩
           replace BK456 := bb_ BK456 hb
           replace BK457 := bb_ BK457 hb
           replace BK458 := bb_ BK458 hb
           replace BK467 := bb_ BK467 hb
           replace BK468 := bb_ BK468 hb
           replace HB := hb_ HB hb
           (try clear hb); (try clear hb2); (try clear hk); (try clear hi)
           refine hK.out _ _ (a4_ BK468 (a4_ BK458 (a4_ BK456 (a4_ BK467 (h4_ BK457))))) (fun hHeld => ?_)
           clear hK K
           refine norm_ (a' := ?_) ?_ ?_
           rotate_left
           ·
            show Act.put _ (some 72) _ = _
            simp only [Act.put, List.setIfInBounds_toArray, List.set_cons_zero, List.set_cons_succ, i64_w, i32_w]
            rfl
           refine pv_ 6 73 zq8.q87 HT_ ?_
           refine pu_ 7 74 zq8.q88 HT_ ?_
           refine pu_ 8 75 zq8.q89 HT_ ?_
           refine pu_ 9 76 zq8.q90 HT_ ?_
           refine pv_ 10 77 zq8.q91 HT_ ?_
           refine pv_ 11 78 zq8.q92 HT_ ?_
           refine pv_ 12 79 zq8.q93 HT_ ?_
           refine take_ (i := 13) (N := some 80) (v := ?_) (a' := ?_) zq8.q94 rfl rfl (take_ofW HT_.out HW_.out (by kernel_rfl)) (fun _ _ _ h => h) (Or.inl ⟨by rfl, ?_⟩) hHeld ?_ ?_
           rotate_left
           ·
            rintro w' ⟨s0, s1, s2, s3, s4, s5, s6, s7, s8, s9, s10, s11, s12, s13, s14, s15, s16, s17, s18, s19⟩
            go_simp
            with_reducible rfl
           rotate_left
           ·
            simp only [Act.put, List.setIfInBounds_toArray, List.set_cons_zero, List.set_cons_succ, i64_w, i32_w]
            rfl
           refine take_ (i := 14) (N := some 81) (v := ?_) (a' := ?_) zq8.q95 rfl rfl (take_ofW HT_.out HW_.out (by kernel_rfl)) (fun _ _ _ h => h) (Or.inl ⟨by rfl, ?_⟩) hHeld ?_ ?_
           rotate_left
           ·
            rintro w' ⟨s0, s1, s2, s3, s4, s5, s6, s7, s8, s9, s10, s11, s12, s13, s14, s15, s16, s17, s18, s19⟩
            go_simp
            with_reducible rfl
           rotate_left
           ·
            simp only [Act.put, List.setIfInBounds_toArray, List.set_cons_zero, List.set_cons_succ, i64_w, i32_w]
            rfl
           refine take_ (i := 16) (N := some 83) (v := ?_) (a' := ?_) zq8.q96 rfl rfl (take_ofW HT_.out HW_.out (by kernel_rfl)) (fun _ _ _ h => h) (Or.inl ⟨by rfl, ?_⟩) hHeld ?_ ?_
           rotate_left
           ·
            rintro w' ⟨s0, s1, s2, s3, s4, s5, s6, s7, s8, s9, s10, s11, s12, s13, s14, s15, s16, s17, s18, s19⟩
            go_simp
            with_reducible rfl
           rotate_left
           ·
            simp only [Act.put, List.setIfInBounds_toArray, List.set_cons_zero, List.set_cons_succ, i64_w, i32_w]
            rfl
           refine take_ (i := 17) (N := some 84) (v := ?_) (a' := ?_) zq8.q97 rfl rfl (take_ofW HT_.out HW_.out (by kernel_rfl)) (fun _ _ _ h => h) (Or.inl ⟨by rfl, ?_⟩) hHeld ?_ ?_
           rotate_left
           ·
            rintro w' ⟨s0, s1, s2, s3, s4, s5, s6, s7, s8, s9, s10, s11, s12, s13, s14, s15, s16, s17, s18, s19⟩
            go_simp
            with_reducible rfl
           rotate_left
           ·
            simp only [Act.put, List.setIfInBounds_toArray, List.set_cons_zero, List.set_cons_succ, i64_w, i32_w]
            rfl
           refine one_ (i := 15) (N := some 82) zq8.q98 rfl rfl (one_of HT_.out (by kernel_rfl)) (by decide) (fun K hK => ?_)
           refine gs_ Try.func29 #[.agg #[.int .i64 a2_0, .int .i64 a2_1, .int .i64 a2_2, .int .i64 a2_3], .agg #[.int .i64 t459, .int .i64 t460, .int .i64 t461, .int .i64 t462]] ?_
           with_reducible refine (rect_Within.calls a2_0 a2_1 a2_2 a2_3 t459 t460 t461 t462 t519 _ A104.out).mono ?_
           rintro e w113 ⟨rfl, hb⟩
           refine ⟨_, rfl, ?_⟩
           replace BK456 := bb_ BK456 hb
           replace BK457 := bb_ BK457 hb
           replace BK458 := bb_ BK458 hb
           replace BK467 := bb_ BK467 hb
           replace BK468 := bb_ BK468 hb
           replace HB := hb_ HB hb
           (try clear hb); (try clear hb2); (try clear hk); (try clear hi)
           refine hK.out _ _ (a4_ BK468 (a4_ BK458 (a4_ BK456 (a4_ BK467 (h4_ BK457))))) (fun hHeld => ?_)
           clear hK K
           refine norm_ (a' := ?_) ?_ ?_
           rotate_left
           ·
            show Act.put _ (some 82) _ = _
            simp only [Act.put, List.setIfInBounds_toArray, List.set_cons_zero, List.set_cons_succ, i64_w, i32_w]
            rfl
           refine one_ (i := 18) (N := some 85) zq8.q99 rfl rfl (one_of HT_.out (by kernel_rfl)) (by decide) (fun K hK => ?_)
           refine gs_ Try.func29 #[.agg #[.int .i64 a2_0, .int .i64 a2_1, .int .i64 a2_2, .int .i64 a2_3], .agg #[.int .i64 a0_0, .int .i64 a0_1, .int .i64 a0_2, .int .i64 a0_3]] ?_
           with_reducible refine (rect_Within.calls a2_0 a2_1 a2_2 a2_3 a0_0 a0_1 a0_2 a0_3 true _ A105.out).mono ?_
           rintro e w114 ⟨rfl, hb⟩
           refine ⟨_, rfl, ?_⟩
           replace BK456 := bb_ BK456 hb
           replace BK457 := bb_ BK457 hb
           replace BK458 := bb_ BK458 hb
           replace BK467 := bb_ BK467 hb
           replace BK468 := bb_ BK468 hb
           replace HB := hb_ HB hb
           (try clear hb); (try clear hb2); (try clear hk); (try clear hi)
           refine hK.out _ _ (a4_ BK468 (a4_ BK458 (a4_ BK456 (a4_ BK467 (h4_ BK457))))) (fun hHeld => ?_)
           clear hK K
           refine norm_ (a' := ?_) ?_ ?_
           rotate_left
           ·
            show Act.put _ (some 85) _ = _
            simp only [Act.put, List.setIfInBounds_toArray, List.set_cons_zero, List.set_cons_succ, i64_w, i32_w]
            rfl
           refine pv_ 19 86 zq8.q100 HT_ ?_
           refine take_ (i := 20) (N := some 87) (v := ?_) (a' := ?_) zq8.q101 rfl rfl (take_ofW HT_.out HW_.out (by kernel_rfl)) (fun _ _ _ h => h) (Or.inl ⟨by rfl, ?_⟩) hHeld ?_ ?_
           rotate_left
           ·
            rintro w' ⟨s0, s1, s2, s3, s4, s5, s6, s7, s8, s9, s10, s11, s12, s13, s14, s15, s16, s17, s18, s19⟩
            go_simp
            with_reducible rfl
           rotate_left
           ·
            simp only [Act.put, List.setIfInBounds_toArray, List.set_cons_zero, List.set_cons_succ, i64_w, i32_w]
            rfl
           refine take_ (i := 21) (N := some 88) (v := ?_) (a' := ?_) zq8.q102 rfl rfl (take_ofW HT_.out HW_.out (by kernel_rfl)) (fun _ _ _ h => h) (Or.inl ⟨by rfl, ?_⟩) hHeld ?_ ?_
           rotate_left
           ·
            rintro w' ⟨s0, s1, s2, s3, s4, s5, s6, s7, s8, s9, s10, s11, s12, s13, s14, s15, s16, s17, s18, s19⟩
            go_simp
            with_reducible rfl
           rotate_left
           ·
            simp only [Act.put, List.setIfInBounds_toArray, List.set_cons_zero, List.set_cons_succ, i64_w, i32_w]
            rfl
           refine one_ (i := 22) (N := some 89) zq8.q103 rfl rfl (one_of HT_.out (by kernel_rfl)) (by decide) (fun K hK => ?_)
           refine gs_ Try.func29 #[.agg #[.int .i64 a2_0, .int .i64 a2_1, .int .i64 a2_2, .int .i64 a2_3], .agg #[.int .i64 a1_0, .int .i64 a1_1, .int .i64 a1_2, .int .i64 a1_3]] ?_
           with_reducible refine (rect_Within.calls a2_0 a2_1 a2_2 a2_3 a1_0 a1_1 a1_2 a1_3 t521 _ A107.out).mono ?_
           rintro e w115 ⟨rfl, hb⟩
           refine ⟨_, rfl, ?_⟩
           replace BK456 := bb_ BK456 hb
           replace BK457 := bb_ BK457 hb
           replace BK458 := bb_ BK458 hb
           replace BK467 := bb_ BK467 hb
           replace BK468 := bb_ BK468 hb
           replace HB := hb_ HB hb
           (try clear hb); (try clear hb2); (try clear hk); (try clear hi)
           refine hK.out _ _ (a4_ BK468 (a4_ BK458 (a4_ BK456 (a4_ BK467 (h4_ BK457))))) (fun hHeld => ?_)
           clear hK K
           refine norm_ (a' := ?_) ?_ ?_
           rotate_left
           ·
            show Act.put _ (some 89) _ = _
            simp only [Act.put, List.setIfInBounds_toArray, List.set_cons_zero, List.set_cons_succ, i64_w, i32_w]
            rfl
           refine pv_ 23 90 zq8.q104 HT_ ?_
           refine pv_ 24 91 zq8.q105 HT_ ?_
           refine pv_ 25 92 zq8.q106 HT_ ?_
           refine pv_ 26 93 zq8.q107 HT_ ?_
           refine one_ (i := 27) (N := some 94) zq8.q108 rfl rfl (one_of HT_.out (by kernel_rfl)) (by decide) (fun K hK => ?_)
           refine gs_ Try.func15 #[] ?_
           with_reducible refine (compositorlaw04_exampleHolds.calls kj59  t522 _ A109.out).mono ?_
           rintro e w116 ⟨rfl, hb⟩
           refine ⟨_, rfl, ?_⟩
           replace BK456 := bb_ BK456 hb
           replace BK457 := bb_ BK457 hb
           replace BK458 := bb_ BK458 hb
           replace BK467 := bb_ BK467 hb
           replace BK468 := bb_ BK468 hb
           replace HB := hb_ HB hb
           (try clear hb); (try clear hb2); (try clear hk); (try clear hi)
           refine hK.out _ _ (a4_ BK468 (a4_ BK458 (a4_ BK456 (a4_ BK467 (h4_ BK457))))) (fun hHeld => ?_)
           clear hK K
           refine norm_ (a' := ?_) ?_ ?_
           rotate_left
           ·
            show Act.put _ (some 94) _ = _
            simp only [Act.put, List.setIfInBounds_toArray, List.set_cons_zero, List.set_cons_succ, i64_w, i32_w]
            rfl
           refine pv_ 28 95 zq8.q109 HT_ ?_
           refine pv_ 29 6 zq8.q110 HT_ ?_
           refine done_ (done_of HT_.out (by kernel_rfl)) ?_
           try go_wp2
           go_ret
           exact ⟨by first | rfl | (simp [errW_none, errW_some] <;> rfl) | (simp [*, errW_none, errW_some] <;> rfl), by repeat (first | (with_reducible first | exact HB.out | apply below_alloc | apply pw_below_drewN | apply below_drew1 | refine below_set ?_ GE456.out | refine below_set ?_ GE457.out | refine below_set ?_ GE458.out | refine below_set ?_ GE467.out | refine below_set ?_ GE468.out) | exact HB.out)⟩
          ·
           rw [if_neg c108] at H
           have c108b0 : (t519 == t521) = false := by simpa using c108
           (try (have c108b1 : decide (t519 = t521) = false := by simpa using c108))
           (try (have c108b2 : (t519 == t521) = false := by simpa using c108))
           (try (have c108b3 : ¬ (t519 = t521) := by simpa using c108))
           clear c108
           exact absurd H (by simp)
         ·
          replace c106 := Bool.eq_false_iff.mpr c106
          subst c106
          have H1 : (if (t519 == false) = true then ((compositorlaw04_exampleHolds.f kj59).bind fun t523 => (some t523)) else (some false)) = some true := by rw [if_neg (show ¬ (false = true) by decide)] at H; exact H
          clear H
          have H := H1
          clear H1
          by_cases c117 : (t519 == false) = true
          ·
           rw [if_pos c117] at H
           have c117b0 : (t519 == false) = true := c117
           (try (have c117b1 : decide (t519 = false) = true := by simpa using c117))
           (try (have c117b2 : (t519 == false) = true := by simpa using c117))
           clear c117
           replace H := Option.bind_eq_some_iff.mp H
           obtain ⟨t523, A1180, H⟩ := H
           try dsimp only at H
           have A118 := Aside0.mk A1180
           clear A1180
           have Hq_ := Option.some.inj H
           try go_wp2
           replace BK456 := Aside0.mk (blk_drew BK456.out)
           replace BK457 := Aside0.mk (blk_drew BK457.out)
           replace BK458 := Aside0.mk (blk_drew BK458.out)
           replace BK467 := Aside0.mk (blk_drew BK467.out)
           replace BK468 := Aside0.mk (blk_drew BK468.out)
           replace HB := Aside0.mk (below_drew1 HB.out)
           refine start_ (n := 30) (S := fun w' => w'.cell? ⟨gb468, 0, none⟩ = some (.int .i64 t463) ∧ w'.cell? ⟨gb468, 1, none⟩ = some (.int .i64 t464) ∧ w'.cell? ⟨gb468, 2, none⟩ = some (.int .i64 t465) ∧ w'.cell? ⟨gb468, 3, none⟩ = some (.int .i64 t466) ∧ w'.cell? ⟨gb458, 0, none⟩ = some (.int .i64 a2_0) ∧ w'.cell? ⟨gb458, 1, none⟩ = some (.int .i64 a2_1) ∧ w'.cell? ⟨gb458, 2, none⟩ = some (.int .i64 a2_2) ∧ w'.cell? ⟨gb458, 3, none⟩ = some (.int .i64 a2_3) ∧ w'.cell? ⟨gb456, 0, none⟩ = some (.int .i64 a0_0) ∧ w'.cell? ⟨gb456, 1, none⟩ = some (.int .i64 a0_1) ∧ w'.cell? ⟨gb456, 2, none⟩ = some (.int .i64 a0_2) ∧ w'.cell? ⟨gb456, 3, none⟩ = some (.int .i64 a0_3) ∧ w'.cell? ⟨gb467, 0, none⟩ = some (.int .i64 t459) ∧ w'.cell? ⟨gb467, 1, none⟩ = some (.int .i64 t460) ∧ w'.cell? ⟨gb467, 2, none⟩ = some (.int .i64 t461) ∧ w'.cell? ⟨gb467, 3, none⟩ = some (.int .i64 t462)) (ds := []) zq8.q80 (by kernel_rfl) rfl rfl (a4_ BK468 (a4_ BK458 (a4_ BK456 (h4_ BK467)))) (fun hHeld => ?_); refine with_tabW compositorlaw04_RectLattice.tab6 compositorlaw04_RectLattice.bits6 (fun HT_ HW_ => ?_)
           generalize wc.drew = w119 at BK456 BK457 BK458 BK467 BK468 HB hHeld ⊢
           refine tk16_ 0 67 zq8.q81 HT_ HW_ hHeld ?_
           refine tk16_ 1 68 zq8.q82 HT_ HW_ hHeld ?_
           refine tk16_ 3 70 zq8.q83 HT_ HW_ hHeld ?_
           refine tk16_ 4 71 zq8.q84 HT_ HW_ hHeld ?_
           refine one_ (i := 2) (N := some 69) zq8.q85 rfl rfl (one_of HT_.out (by kernel_rfl)) (by decide) (fun K hK => ?_)
           refine gs_ Try.func29 #[.agg #[.int .i64 t463, .int .i64 t464, .int .i64 t465, .int .i64 t466], .agg #[.int .i64 a2_0, .int .i64 a2_1, .int .i64 a2_2, .int .i64 a2_3]] ?_
           with_reducible refine (rect_Within.calls t463 t464 t465 t466 a2_0 a2_1 a2_2 a2_3 t511 _ A75.out).mono ?_
           rintro e w120 ⟨rfl, hb⟩
           refine ⟨_, rfl, ?_⟩
           replace BK456 := bb_ BK456 hb
           replace BK457 := bb_ BK457 hb
           replace BK458 := bb_ BK458 hb
           replace BK467 := bb_ BK467 hb
           replace BK468 := bb_ BK468 hb
           replace HB := hb_ HB hb
           (try clear hb); (try clear hb2); (try clear hk); (try clear hi)
           refine hK.out _ _ (a4_ BK468 (a4_ BK458 (a4_ BK456 (h4_ BK467)))) (fun hHeld => ?_)
           clear hK K
           refine norm_ (a' := ?_) ?_ ?_
           rotate_left
           ·
            show Act.put _ (some 69) _ = _
            simp only [Act.put, List.setIfInBounds_toArray, List.set_cons_zero, List.set_cons_succ, i64_w, i32_w]
            rfl
           refine one_ (i := 5) (N := some 72) zq8.q86 rfl rfl (one_of HT_.out (by kernel_rfl)) (by decide) (fun K hK => ?_)
           refine gs_ Try.func29 #[.agg #[.int .i64 a0_0, .int .i64 a0_1, .int .i64 a0_2, .int .i64 a0_3], .agg #[.int .i64 a2_0, .int .i64 a2_1, .int .i64 a2_2, .int .i64 a2_3]] ?_
           with_reducible refine (rect_Within.calls a0_0 a0_1 a0_2 a0_3 a2_0 a2_1 a2_2 a2_3 false _ A76.out).mono ?_
           rintro e w121 ⟨rfl, hb⟩
           refine ⟨_, rfl, ?_⟩
           replace BK456 := bb_ BK456 hb
           replace BK457 := bb_ BK457 hb
           replace BK458 := bb_ BK458 hb
           replace BK467 := bb_ BK467 hb
           replace BK468 := bb_ BK468 hb
           replace HB := hb_ HB hb
           (try clear hb); (try clear hb2); (try clear hk); (try clear hi)
           refine hK.out _ _ (a4_ BK468 (a4_ BK458 (a4_ BK456 (h4_ BK467)))) (fun hHeld => ?_)
           clear hK K
           refine norm_ (a' := ?_) ?_ ?_
           rotate_left
           ·
            show Act.put _ (some 72) _ = _
            simp only [Act.put, List.setIfInBounds_toArray, List.set_cons_zero, List.set_cons_succ, i64_w, i32_w]
            rfl
           refine pv_ 6 73 zq8.q87 HT_ ?_
           refine pu_ 7 74 zq8.q88 HT_ ?_
           refine pu_ 8 75 zq8.q89 HT_ ?_
           refine pu_ 9 76 zq8.q90 HT_ ?_
           refine pv_ 10 77 zq8.q91 HT_ ?_
           refine pv_ 11 78 zq8.q92 HT_ ?_
           refine pv_ 12 79 zq8.q93 HT_ ?_
           refine tk16_ 13 80 zq8.q94 HT_ HW_ hHeld ?_
           refine tk16_ 14 81 zq8.q95 HT_ HW_ hHeld ?_
           refine tk16_ 16 83 zq8.q96 HT_ HW_ hHeld ?_
           refine tk16_ 17 84 zq8.q97 HT_ HW_ hHeld ?_
           refine one_ (i := 15) (N := some 82) zq8.q98 rfl rfl (one_of HT_.out (by kernel_rfl)) (by decide) (fun K hK => ?_)
           refine gs_ Try.func29 #[.agg #[.int .i64 a2_0, .int .i64 a2_1, .int .i64 a2_2, .int .i64 a2_3], .agg #[.int .i64 t459, .int .i64 t460, .int .i64 t461, .int .i64 t462]] ?_
           with_reducible refine (rect_Within.calls a2_0 a2_1 a2_2 a2_3 t459 t460 t461 t462 t519 _ A104.out).mono ?_
           rintro e w122 ⟨rfl, hb⟩
           refine ⟨_, rfl, ?_⟩
           replace BK456 := bb_ BK456 hb
           replace BK457 := bb_ BK457 hb
           replace BK458 := bb_ BK458 hb
           replace BK467 := bb_ BK467 hb
           replace BK468 := bb_ BK468 hb
           replace HB := hb_ HB hb
           (try clear hb); (try clear hb2); (try clear hk); (try clear hi)
           refine hK.out _ _ (a4_ BK468 (a4_ BK458 (a4_ BK456 (h4_ BK467)))) (fun hHeld => ?_)
           clear hK K
           refine norm_ (a' := ?_) ?_ ?_
           rotate_left
           ·
            show Act.put _ (some 82) _ = _
            simp only [Act.put, List.setIfInBounds_toArray, List.set_cons_zero, List.set_cons_succ, i64_w, i32_w]
            rfl
           refine one_ (i := 18) (N := some 85) zq8.q99 rfl rfl (one_of HT_.out (by kernel_rfl)) (by decide) (fun K hK => ?_)
           refine gs_ Try.func29 #[.agg #[.int .i64 a2_0, .int .i64 a2_1, .int .i64 a2_2, .int .i64 a2_3], .agg #[.int .i64 a0_0, .int .i64 a0_1, .int .i64 a0_2, .int .i64 a0_3]] ?_
           with_reducible refine (rect_Within.calls a2_0 a2_1 a2_2 a2_3 a0_0 a0_1 a0_2 a0_3 false _ A105.out).mono ?_
           rintro e w123 ⟨rfl, hb⟩
           refine ⟨_, rfl, ?_⟩
           replace BK456 := bb_ BK456 hb
           replace BK457 := bb_ BK457 hb
           replace BK458 := bb_ BK458 hb
           replace BK467 := bb_ BK467 hb
           replace BK468 := bb_ BK468 hb
           replace HB := hb_ HB hb
           (try clear hb); (try clear hb2); (try clear hk); (try clear hi)
           refine hK.out _ _ (a4_ BK468 (a4_ BK458 (a4_ BK456 (h4_ BK467)))) (fun hHeld => ?_)
           clear hK K
           refine norm_ (a' := ?_) ?_ ?_
           rotate_left
           ·
            show Act.put _ (some 85) _ = _
            simp only [Act.put, List.setIfInBounds_toArray, List.set_cons_zero, List.set_cons_succ, i64_w, i32_w]
            rfl
           refine pv_ 19 86 zq8.q100 HT_ ?_
           refine pu_ 20 87 zq8.q101 HT_ ?_
           refine pu_ 21 88 zq8.q102 HT_ ?_
           refine pu_ 22 89 zq8.q103 HT_ ?_
           refine pv_ 23 90 zq8.q104 HT_ ?_
           refine pv_ 24 91 zq8.q105 HT_ ?_
           refine pv_ 25 92 zq8.q106 HT_ ?_
           refine pv_ 26 93 zq8.q107 HT_ ?_
           refine one_ (i := 27) (N := some 94) zq8.q108 rfl rfl (one_of HT_.out (by kernel_rfl)) (by decide) (fun K hK => ?_)
           refine gs_ Try.func15 #[] ?_
           with_reducible refine (compositorlaw04_exampleHolds.calls kj59  t523 _ A118.out).mono ?_
           rintro e w124 ⟨rfl, hb⟩
           refine ⟨_, rfl, ?_⟩
           replace BK456 := bb_ BK456 hb
           replace BK457 := bb_ BK457 hb
           replace BK458 := bb_ BK458 hb
           replace BK467 := bb_ BK467 hb
           replace BK468 := bb_ BK468 hb
           replace HB := hb_ HB hb
           (try clear hb); (try clear hb2); (try clear hk); (try clear hi)
           refine hK.out _ _ (a4_ BK468 (a4_ BK458 (a4_ BK456 (h4_ BK467)))) (fun hHeld => ?_)
           clear hK K
           refine norm_ (a' := ?_) ?_ ?_
           rotate_left
           ·
            show Act.put _ (some 94) _ = _
            simp only [Act.put, List.setIfInBounds_toArray, List.set_cons_zero, List.set_cons_succ, i64_w, i32_w]
            rfl
           refine pv_ 28 95 zq8.q109 HT_ ?_
           refine pv_ 29 6 zq8.q110 HT_ ?_
           refine done_ (done_of HT_.out (by kernel_rfl)) ?_
           try go_wp2
           go_ret
           exact ⟨by first | rfl | (simp [errW_none, errW_some] <;> rfl) | (simp [*, errW_none, errW_some] <;> rfl), by repeat (first | (with_reducible first | exact HB.out | apply below_alloc | apply pw_below_drewN | apply below_drew1 | refine below_set ?_ GE456.out | refine below_set ?_ GE457.out | refine below_set ?_ GE458.out | refine below_set ?_ GE467.out | refine below_set ?_ GE468.out) | exact HB.out)⟩
          ·
           rw [if_neg c117] at H
           have c117b0 : (t519 == false) = false := by simpa using c117
           (try (have c117b1 : decide (t519 = false) = false := by simpa using c117))
           (try (have c117b2 : (t519 == false) = false := by simpa using c117))
           (try (have c117b3 : ¬ (t519 = false) := by simpa using c117))
           clear c117
           exact absurd H (by simp)
        ·
         rw [if_neg c103] at H
         have c103b0 : (t511 == false) = false := by simpa using c103
         (try (have c103b1 : decide (t511 = false) = false := by simpa using c103))
         (try (have c103b2 : (t511 == false) = false := by simpa using c103))
         (try (have c103b3 : ¬ (t511 = false) := by simpa using c103))
         clear c103
         exact absurd H (by simp)

end Go.Proofs.Ytloojhnohofonaa.All
