-- Written by a program of this session, which runs the kit's print.py and puts in functions that this session typed. Not trusted: Lean checks it.
import Derived.Test.YtdhjbdofklglgaaSq
import Derived.Test.YtdhjbdofklglgaaAllx0
import Derived.Test.YtdhjbdofklglgaaAllx1
import Derived.Test.YtdhjbdofklglgaaAllx2
import Derived.Test.YtdhjbdofklglgaaAllx5
import Derived.Test.YtdhjbdofklglgaaAllx7
import Derived.Test.YtdhjbdofklglgaaAllx14
namespace Go.Proofs.Ytdhjbdofklglgaa.All
open Go.Proofs.YtdhjbdofklglgaaSq
open Go.RowKit Go.Proofs.YtdhjbdofklglgaaW.PrintWords Go.Proofs.YtdhjbdofklglgaaW.PrintLast Go.Proofs.YtdhjbdofklglgaaW.PrintMore
attribute [local go_sem] max2_int min2_int max_two min_two max_three min_three max_four min_four   -- for this text's walks alone
set_option linter.unusedVariables false
set_option linter.unusedSimpArgs false

attribute [local go_sem high] eqA23
/-! ### compositorlaw08_PixelOverIdentities: function 6 -/
abbrev zq6.q0 : Array Bool := #[false, false, false, false, false, false, false, false, false, false, false, false, false, false, false, false, false, false, false, false, false, false, false, false, false, false, false, false, false, false, false, false, false, false, false, false, false, false, false, false, false, false, false, false, false, false, false, false, false, false, false, false, false, false]
abbrev zq6.q1 : Array Bool := #[true, false, false, false, false, false, false, false, false, false, false, false, false, false, false, false, false, false, false, false, false, false, false, false, false, false, false, false, false, false, false, false, false, false, false, false, false, false, false, false, false, false, false, false, false, false, false, false, false, false, false, false, false, false]
abbrev zq6.q2 : Array Bool := #[true, false, true, false, false, false, false, false, false, false, false, false, false, false, false, false, false, false, false, false, false, false, false, false, false, false, false, false, false, false, false, false, false, false, false, false, false, false, false, false, false, false, false, false, false, false, false, false, false, false, false, false, false, false]
abbrev zq6.q3 : Array Bool := #[true, true, true, false, false, false, false, false, false, false, false, false, false, false, false, false, false, false, false, false, false, false, false, false, false, false, false, false, false, false, false, false, false, false, false, false, false, false, false, false, false, false, false, false, false, false, false, false, false, false, false, false, false, false]
abbrev zq6.q4 : Array Bool := #[true, true, true, true, false, false, false, false, false, false, false, false, false, false, false, false, false, false, false, false, false, false, false, false, false, false, false, false, false, false, false, false, false, false, false, false, false, false, false, false, false, false, false, false, false, false, false, false, false, false, false, false, false, false]
abbrev zq6.q5 : Array Bool := #[true, true, true, true, true, false, false, false, false, false, false, false, false, false, false, false, false, false, false, false, false, false, false, false, false, false, false, false, false, false, false, false, false, false, false, false, false, false, false, false, false, false, false, false, false, false, false, false, false, false, false, false, false, false]
abbrev zq6.q6 : Array Bool := #[true, true, true, true, true, true, false, false, false, false, false, false, false, false, false, false, false, false, false, false, false, false, false, false, false, false, false, false, false, false, false, false, false, false, false, false, false, false, false, false, false, false, false, false, false, false, false, false, false, false, false, false, false, false]
abbrev zq6.q7 : Array Bool := #[true, true, true, true, true, true, true, false, false, false, false, false, false, false, false, false, false, false, false, false, false, false, false, false, false, false, false, false, false, false, false, false, false, false, false, false, false, false, false, false, false, false, false, false, false, false, false, false, false, false, false, false, false, false]
abbrev zq6.q8 : Array Bool := #[true, true, true, true, true, true, true, true, false, false, false, false, false, false, false, false, false, false, false, false, false, false, false, false, false, false, false, false, false, false, false, false, false, false, false, false, false, false, false, false, false, false, false, false, false, false, false, false, false, false, false, false, false, false]
abbrev zq6.q9 : Array Bool := #[true, true, true, true, true, true, true, true, true, false, false, false, false, false, false, false, false, false, false, false, false, false, false, false, false, false, false, false, false, false, false, false, false, false, false, false, false, false, false, false, false, false, false, false, false, false, false, false, false, false, false, false, false, false]
abbrev zq6.q10 : Array Bool := #[true, true, true, true, true, true, true, true, true, true, false, false, false, false, false, false, false, false, false, false, false, false, false, false, false, false, false, false, false, false, false, false, false, false, false, false, false, false, false, false, false, false, false, false, false, false, false, false, false, false, false, false, false, false]
abbrev zq6.q11 : Array Bool := #[true, true, true, true, true, true, true, true, true, true, true, false, false, false, false, false, false, false, false, false, false, false, false, false, false, false, false, false, false, false, false, false, false, false, false, false, false, false, false, false, false, false, false, false, false, false, false, false, false, false, false, false, false, false]
abbrev zq6.q12 : Array Bool := #[true, true, true, true, true, true, true, true, true, true, true, true, false, false, false, false, false, false, false, false, false, false, false, false, false, false, false, false, false, false, false, false, false, false, false, false, false, false, false, false, false, false, false, false, false, false, false, false, false, false, false, false, false, false]
abbrev zq6.q13 : Array Bool := #[true, true, true, true, true, true, true, true, true, true, true, true, true, false, false, false, false, false, false, false, false, false, false, false, false, false, false, false, false, false, false, false, false, false, false, false, false, false, false, false, false, false, false, false, false, false, false, false, false, false, false, false, false, false]
abbrev zq6.q14 : Array Bool := #[true, true, true, true, true, true, true, true, true, true, true, true, true, true, false, false, false, false, false, false, false, false, false, false, false, false, false, false, false, false, false, false, false, false, false, false, false, false, false, false, false, false, false, false, false, false, false, false, false, false, false, false, false, false]
abbrev zq6.q15 : Array Bool := #[true, true, true, true, true, true, true, true, true, true, true, true, true, true, true, false, false, false, false, false, false, false, false, false, false, false, false, false, false, false, false, false, false, false, false, false, false, false, false, false, false, false, false, false, false, false, false, false, false, false, false, false, false, false]
abbrev zq6.q16 : Array Bool := #[true, true, true, true, true, true, true, true, true, true, true, true, true, true, true, true, false, false, false, false, false, false, false, false, false, false, false, false, false, false, false, false, false, false, false, false, false, false, false, false, false, false, false, false, false, false, false, false, false, false, false, false, false, false]
abbrev zq6.q17 : Array Bool := #[true, true, true, true, true, true, true, true, true, true, true, true, true, true, true, true, true, false, false, false, false, false, false, false, false, false, false, false, false, false, false, false, false, false, false, false, false, false, false, false, false, false, false, false, false, false, false, false, false, false, false, false, false, false]
abbrev zq6.q18 : Array Bool := #[true, true, true, true, true, true, true, true, true, true, true, true, true, true, true, true, true, true, false, false, false, false, false, false, false, false, false, false, false, false, false, false, false, false, false, false, false, false, false, false, false, false, false, false, false, false, false, false, false, false, false, false, false, false]
abbrev zq6.q19 : Array Bool := #[true, true, true, true, true, true, true, true, true, true, true, true, true, true, true, true, true, true, true, false, false, false, false, false, false, false, false, false, false, false, false, false, false, false, false, false, false, false, false, false, false, false, false, false, false, false, false, false, false, false, false, false, false, false]
abbrev zq6.q20 : Array Bool := #[true, true, true, true, true, true, true, true, true, true, true, true, true, true, true, true, true, true, true, true, false, false, false, false, false, false, false, false, false, false, false, false, false, false, false, false, false, false, false, false, false, false, false, false, false, false, false, false, false, false, false, false, false, false]
abbrev zq6.q21 : Array Bool := #[true, true, true, true, true, true, true, true, true, true, true, true, true, true, true, true, true, true, true, true, true, false, false, false, false, false, false, false, false, false, false, false, false, false, false, false, false, false, false, false, false, false, false, false, false, false, false, false, false, false, false, false, false, false]
abbrev zq6.q22 : Array Bool := #[true, true, true, true, true, true, true, true, true, true, true, true, true, true, true, true, true, true, true, true, true, true, false, false, false, false, false, false, false, false, false, false, false, false, false, false, false, false, false, false, false, false, false, false, false, false, false, false, false, false, false, false, false, false]
abbrev zq6.q23 : Array Bool := #[true, true, true, true, true, true, true, true, true, true, true, true, true, true, true, true, true, true, true, true, true, true, true, false, false, false, false, false, false, false, false, false, false, false, false, false, false, false, false, false, false, false, false, false, false, false, false, false, false, false, false, false, false, false]
abbrev zq6.q24 : Array Bool := #[true, true, true, true, true, true, true, true, true, true, true, true, true, true, true, true, true, true, true, true, true, true, true, true, false, false, false, false, false, false, false, false, false, false, false, false, false, false, false, false, false, false, false, false, false, false, false, false, false, false, false, false, false, false]
abbrev zq6.q25 : Array Bool := #[true, true, true, true, true, true, true, true, true, true, true, true, true, true, true, true, true, true, true, true, true, true, true, true, true, false, false, false, false, false, false, false, false, false, false, false, false, false, false, false, false, false, false, false, false, false, false, false, false, false, false, false, false, false]
abbrev zq6.q26 : Array Bool := #[true, true, true, true, true, true, true, true, true, true, true, true, true, true, true, true, true, true, true, true, true, true, true, true, true, true, false, false, false, false, false, false, false, false, false, false, false, false, false, false, false, false, false, false, false, false, false, false, false, false, false, false, false, false]
abbrev zq6.q27 : Array Bool := #[true, true, true, true, true, true, true, true, true, true, true, true, true, true, true, true, true, true, true, true, true, true, true, true, true, true, true, false, false, false, false, false, false, false, false, false, false, false, false, false, false, false, false, false, false, false, false, false, false, false, false, false, false, false]
abbrev zq6.q28 : Array Bool := #[true, true, true, true, true, true, true, true, true, true, true, true, true, true, true, true, true, true, true, true, true, true, true, true, true, true, true, true, false, false, false, false, false, false, false, false, false, false, false, false, false, false, false, false, false, false, false, false, false, false, false, false, false, false]
abbrev zq6.q29 : Array Bool := #[true, true, true, true, true, true, true, true, true, true, true, true, true, true, true, true, true, true, true, true, true, true, true, true, true, true, true, true, true, false, false, false, false, false, false, false, false, false, false, false, false, false, false, false, false, false, false, false, false, false, false, false, false, false]
abbrev zq6.q30 : Array Bool := #[true, true, true, true, true, true, true, true, true, true, true, true, true, true, true, true, true, true, true, true, true, true, true, true, true, true, true, true, true, true, false, false, false, false, false, false, false, false, false, false, false, false, false, false, false, false, false, false, false, false, false, false, false, false]
abbrev zq6.q31 : Array Bool := #[true, true, true, true, true, true, true, true, true, true, true, true, true, true, true, true, true, true, true, true, true, true, true, true, true, true, true, true, true, true, true, false, false, false, false, false, false, false, false, false, false, false, false, false, false, false, false, false, false, false, false, false, false, false]
abbrev zq6.q32 : Array Bool := #[true, true, true, true, true, true, true, true, true, true, true, true, true, true, true, true, true, true, true, true, true, true, true, true, true, true, true, true, true, true, true, true, false, false, false, false, false, false, false, false, false, false, false, false, false, false, false, false, false, false, false, false, false, false]
abbrev zq6.q33 : Array Bool := #[true, true, true, true, true, true, true, true, true, true, true, true, true, true, true, true, true, true, true, true, true, true, true, true, true, true, true, true, true, true, true, true, true, false, false, false, false, false, false, false, false, false, false, false, false, false, false, false, false, false, false, false, false, false]
abbrev zq6.q34 : Array Bool := #[true, true, true, true, true, true, true, true, true, true, true, true, true, true, true, true, true, true, true, true, true, true, true, true, true, true, true, true, true, true, true, true, true, true, false, false, false, false, false, false, false, false, false, false, false, false, false, false, false, false, false, false, false, false]
abbrev zq6.q35 : Array Bool := #[true, true, true, true, true, true, true, true, true, true, true, true, true, true, true, true, true, true, true, true, true, true, true, true, true, true, true, true, true, true, true, true, true, true, true, false, false, false, false, false, false, false, false, false, false, false, false, false, false, false, false, false, false, false]
abbrev zq6.q36 : Array Bool := #[true, true, true, true, true, true, true, true, true, true, true, true, true, true, true, true, true, true, true, true, true, true, true, true, true, true, true, true, true, true, true, true, true, true, true, true, false, false, false, false, false, false, false, false, false, false, false, false, false, false, false, false, false, false]
abbrev zq6.q37 : Array Bool := #[true, true, true, true, true, true, true, true, true, true, true, true, true, true, true, true, true, true, true, true, true, true, true, true, true, true, true, true, true, true, true, true, true, true, true, true, true, false, false, false, false, false, false, false, false, false, false, false, false, false, false, false, false, false]
abbrev zq6.q38 : Array Bool := #[true, true, true, true, true, true, true, true, true, true, true, true, true, true, true, true, true, true, true, true, true, true, true, true, true, true, true, true, true, true, true, true, true, true, true, true, true, true, false, false, false, false, false, false, false, false, false, false, false, false, false, false, false, false]
abbrev zq6.q39 : Array Bool := #[true, true, true, true, true, true, true, true, true, true, true, true, true, true, true, true, true, true, true, true, true, true, true, true, true, true, true, true, true, true, true, true, true, true, true, true, true, true, true, false, false, false, false, false, false, false, false, false, false, false, false, false, false, false]
abbrev zq6.q40 : Array Bool := #[true, true, true, true, true, true, true, true, true, true, true, true, true, true, true, true, true, true, true, true, true, true, true, true, true, true, true, true, true, true, true, true, true, true, true, true, true, true, true, true, false, false, false, false, false, false, false, false, false, false, false, false, false, false]
abbrev zq6.q41 : Array Bool := #[true, true, true, true, true, true, true, true, true, true, true, true, true, true, true, true, true, true, true, true, true, true, true, true, true, true, true, true, true, true, true, true, true, true, true, true, true, true, true, true, true, false, false, false, false, false, false, false, false, false, false, false, false, false]
abbrev zq6.q42 : Array Bool := #[true, true, true, true, true, true, true, true, true, true, true, true, true, true, true, true, true, true, true, true, true, true, true, true, true, true, true, true, true, true, true, true, true, true, true, true, true, true, true, true, true, true, false, false, false, false, false, false, false, false, false, false, false, false]
abbrev zq6.q43 : Array Bool := #[true, true, true, true, true, true, true, true, true, true, true, true, true, true, true, true, true, true, true, true, true, true, true, true, true, true, true, true, true, true, true, true, true, true, true, true, true, true, true, true, true, true, true, false, false, false, false, false, false, false, false, false, false, false]
abbrev zq6.q44 : Array Bool := #[true, true, true, true, true, true, true, true, true, true, true, true, true, true, true, true, true, true, true, true, true, true, true, true, true, true, true, true, true, true, true, true, true, true, true, true, true, true, true, true, true, true, true, true, false, false, false, false, false, false, false, false, false, false]
abbrev zq6.q45 : Array Bool := #[true, true, true, true, true, true, true, true, true, true, true, true, true, true, true, true, true, true, true, true, true, true, true, true, true, true, true, true, true, true, true, true, true, true, true, true, true, true, true, true, true, true, true, true, true, false, false, false, false, false, false, false, false, false]
abbrev zq6.q46 : Array Bool := #[true, true, true, true, true, true, true, true, true, true, true, true, true, true, true, true, true, true, true, true, true, true, true, true, true, true, true, true, true, true, true, true, true, true, true, true, true, true, true, true, true, true, true, true, true, true, false, false, false, false, false, false, false, false]
abbrev zq6.q47 : Array Bool := #[true, true, true, true, true, true, true, true, true, true, true, true, true, true, true, true, true, true, true, true, true, true, true, true, true, true, true, true, true, true, true, true, true, true, true, true, true, true, true, true, true, true, true, true, true, true, true, false, false, false, false, false, false, false]
abbrev zq6.q48 : Array Bool := #[true, true, true, true, true, true, true, true, true, true, true, true, true, true, true, true, true, true, true, true, true, true, true, true, true, true, true, true, true, true, true, true, true, true, true, true, true, true, true, true, true, true, true, true, true, true, true, true, false, false, false, false, false, false]
abbrev zq6.q49 : Array Bool := #[true, true, true, true, true, true, true, true, true, true, true, true, true, true, true, true, true, true, true, true, true, true, true, true, true, true, true, true, true, true, true, true, true, true, true, true, true, true, true, true, true, true, true, true, true, true, true, true, true, false, false, false, false, false]
abbrev zq6.q50 : Array Bool := #[true, true, true, true, true, true, true, true, true, true, true, true, true, true, true, true, true, true, true, true, true, true, true, true, true, true, true, true, true, true, true, true, true, true, true, true, true, true, true, true, true, true, true, true, true, true, true, true, true, true, false, false, false, false]
abbrev zq6.q51 : Array Bool := #[true, true, true, true, true, true, true, true, true, true, true, true, true, true, true, true, true, true, true, true, true, true, true, true, true, true, true, true, true, true, true, true, true, true, true, true, true, true, true, true, true, true, true, true, true, true, true, true, true, true, true, false, false, false]
abbrev zq6.q52 : Array Bool := #[true, true, true, true, true, true, true, true, true, true, true, true, true, true, true, true, true, true, true, true, true, true, true, true, true, true, true, true, true, true, true, true, true, true, true, true, true, true, true, true, true, true, true, true, true, true, true, true, true, true, true, true, false, false]
abbrev zq6.q53 : Array Bool := #[true, true, true, true, true, true, true, true, true, true, true, true, true, true, true, true, true, true, true, true, true, true, true, true, true, true, true, true, true, true, true, true, true, true, true, true, true, true, true, true, true, true, true, true, true, true, true, true, true, true, true, true, true, false]
abbrev zq6.q54 : Array Bool := #[true, true, true, true, true, true, true, true, true, true, true, true, true, true, true, true, true, true, true, true, true, true, true, true, true, true, true, true, true, true, true, true, true, true, true, true, true, true, true, true, true, true, true, true, true, true, true, true, true, true, true, true, true, true]
abbrev zq6.q55 : Array Bool := #[true, true, true, true, true, true, true, false, true, false, false, false, false, false, false, false, false, false, false, false, false, false, false, false, false, false, false, false, false, false, false, false, false, false, false, false, false, false, false, false, false, false, false, false, false, false, false, false, false, false, false, false, false, false]
abbrev zq6.q56 : Array Bool := #[true, true, true, true, true, true, true, true, true, true, true, true, true, true, false, true, false, false, false, false, false, false, false, false, false, false, false, false, false, false, false, false, false, false, false, false, false, false, false, false, false, false, false, false, false, false, false, false, false, false, false, false, false, false]
abbrev zq6.q57 : Array Bool := #[true, true, true, true, true, true, true, true, true, true, true, true, true, true, true, true, true, true, true, true, true, false, true, false, false, false, false, false, false, false, false, false, false, false, false, false, false, false, false, false, false, false, false, false, false, false, false, false, false, false, false, false, false, false]
abbrev zq6.q58 : Array Bool := #[true, true, true, true, true, true, true, true, true, true, true, true, true, true, true, true, true, true, true, true, true, true, true, true, true, true, true, true, false, true, false, false, false, false, false, false, false, false, false, false, false, false, false, false, false, false, false, false, false, false, false, false, false, false]
abbrev zq6.q59 : Array Bool := #[true, true, true, true, true, true, true, true, true, true, true, true, true, true, true, true, true, true, true, true, true, true, true, true, true, true, true, true, true, true, true, true, true, true, false, false, true, false, false, false, false, false, false, false, false, false, false, false, false, false, false, false, false, false]
abbrev zq6.q60 : Array Bool := #[true, true, true, true, true, true, true, true, true, true, true, true, true, true, true, true, true, true, true, true, true, true, true, true, true, true, true, true, true, true, true, true, true, true, true, false, true, false, false, false, false, false, false, false, false, false, false, false, false, false, false, false, false, false]
abbrev zq6.q61 : Array Bool := #[true, true, true, true, true, true, true, true, true, true, true, true, true, true, true, true, true, true, true, true, true, true, true, true, true, true, true, true, true, true, true, true, true, true, true, false, true, true, false, false, false, false, false, false, false, false, false, false, false, false, false, false, false, false]
abbrev zq6.q62 : Array Bool := #[true, true, true, true, true, true, true, true, true, true, true, true, true, true, true, true, true, true, true, true, true, true, true, true, true, true, true, true, true, true, true, true, true, true, true, false, true, true, true, false, false, false, false, false, false, false, false, false, false, false, false, false, false, false]
abbrev zq6.q63 : Array Bool := #[false, false, false, false, false, false, false, false, false, false, false, false, false, false, false, false, false, false, false, false, false, false, false, false, false, false, false, false, false, false, false, false, false, false, false]
abbrev zq6.q64 : Array Bool := #[true, false, false, false, false, false, false, false, false, false, false, false, false, false, false, false, false, false, false, false, false, false, false, false, false, false, false, false, false, false, false, false, false, false, false]
abbrev zq6.q65 : Array Bool := #[true, true, false, false, false, false, false, false, false, false, false, false, false, false, false, false, false, false, false, false, false, false, false, false, false, false, false, false, false, false, false, false, false, false, false]
abbrev zq6.q66 : Array Bool := #[true, true, false, true, false, false, false, false, false, false, false, false, false, false, false, false, false, false, false, false, false, false, false, false, false, false, false, false, false, false, false, false, false, false, false]
abbrev zq6.q67 : Array Bool := #[true, true, true, true, false, false, false, false, false, false, false, false, false, false, false, false, false, false, false, false, false, false, false, false, false, false, false, false, false, false, false, false, false, false, false]
abbrev zq6.q68 : Array Bool := #[true, true, true, true, true, false, false, false, false, false, false, false, false, false, false, false, false, false, false, false, false, false, false, false, false, false, false, false, false, false, false, false, false, false, false]
abbrev zq6.q69 : Array Bool := #[true, true, true, true, true, true, false, false, false, false, false, false, false, false, false, false, false, false, false, false, false, false, false, false, false, false, false, false, false, false, false, false, false, false, false]
abbrev zq6.q70 : Array Bool := #[true, true, true, true, true, true, true, false, false, false, false, false, false, false, false, false, false, false, false, false, false, false, false, false, false, false, false, false, false, false, false, false, false, false, false]
abbrev zq6.q71 : Array Bool := #[true, true, true, true, true, true, true, true, false, false, false, false, false, false, false, false, false, false, false, false, false, false, false, false, false, false, false, false, false, false, false, false, false, false, false]
abbrev zq6.q72 : Array Bool := #[true, true, true, true, true, true, true, true, false, true, false, false, false, false, false, false, false, false, false, false, false, false, false, false, false, false, false, false, false, false, false, false, false, false, false]
abbrev zq6.q73 : Array Bool := #[true, true, true, true, true, true, true, true, true, true, false, false, false, false, false, false, false, false, false, false, false, false, false, false, false, false, false, false, false, false, false, false, false, false, false]
abbrev zq6.q74 : Array Bool := #[true, true, true, true, true, true, true, true, true, true, true, false, false, false, false, false, false, false, false, false, false, false, false, false, false, false, false, false, false, false, false, false, false, false, false]
abbrev zq6.q75 : Array Bool := #[true, true, true, true, true, true, true, true, true, true, true, true, false, false, false, false, false, false, false, false, false, false, false, false, false, false, false, false, false, false, false, false, false, false, false]
abbrev zq6.q76 : Array Bool := #[true, true, true, true, true, true, true, true, true, true, true, true, true, false, false, false, false, false, false, false, false, false, false, false, false, false, false, false, false, false, false, false, false, false, false]
abbrev zq6.q77 : Array Bool := #[true, true, true, true, true, true, true, true, true, true, true, true, true, false, true, false, false, false, false, false, false, false, false, false, false, false, false, false, false, false, false, false, false, false, false]
abbrev zq6.q78 : Array Bool := #[true, true, true, true, true, true, true, true, true, true, true, true, true, true, true, false, false, false, false, false, false, false, false, false, false, false, false, false, false, false, false, false, false, false, false]
abbrev zq6.q79 : Array Bool := #[true, true, true, true, true, true, true, true, true, true, true, true, true, true, true, false, true, false, false, false, false, false, false, false, false, false, false, false, false, false, false, false, false, false, false]
abbrev zq6.q80 : Array Bool := #[true, true, true, true, true, true, true, true, true, true, true, true, true, true, true, true, true, false, false, false, false, false, false, false, false, false, false, false, false, false, false, false, false, false, false]
abbrev zq6.q81 : Array Bool := #[true, true, true, true, true, true, true, true, true, true, true, true, true, true, true, true, true, true, false, false, false, false, false, false, false, false, false, false, false, false, false, false, false, false, false]
abbrev zq6.q82 : Array Bool := #[true, true, true, true, true, true, true, true, true, true, true, true, true, true, true, true, true, true, true, false, false, false, false, false, false, false, false, false, false, false, false, false, false, false, false]
abbrev zq6.q83 : Array Bool := #[true, true, true, true, true, true, true, true, true, true, true, true, true, true, true, true, true, true, true, true, false, false, false, false, false, false, false, false, false, false, false, false, false, false, false]
abbrev zq6.q84 : Array Bool := #[true, true, true, true, true, true, true, true, true, true, true, true, true, true, true, true, true, true, true, true, true, false, false, false, false, false, false, false, false, false, false, false, false, false, false]
abbrev zq6.q85 : Array Bool := #[true, true, true, true, true, true, true, true, true, true, true, true, true, true, true, true, true, true, true, true, true, false, true, false, false, false, false, false, false, false, false, false, false, false, false]
abbrev zq6.q86 : Array Bool := #[true, true, true, true, true, true, true, true, true, true, true, true, true, true, true, true, true, true, true, true, true, true, true, false, false, false, false, false, false, false, false, false, false, false, false]
abbrev zq6.q87 : Array Bool := #[true, true, true, true, true, true, true, true, true, true, true, true, true, true, true, true, true, true, true, true, true, true, true, true, false, false, false, false, false, false, false, false, false, false, false]
abbrev zq6.q88 : Array Bool := #[true, true, true, true, true, true, true, true, true, true, true, true, true, true, true, true, true, true, true, true, true, true, true, true, true, false, false, false, false, false, false, false, false, false, false]
abbrev zq6.q89 : Array Bool := #[true, true, true, true, true, true, true, true, true, true, true, true, true, true, true, true, true, true, true, true, true, true, true, true, true, true, false, false, false, false, false, false, false, false, false]
abbrev zq6.q90 : Array Bool := #[true, true, true, true, true, true, true, true, true, true, true, true, true, true, true, true, true, true, true, true, true, true, true, true, true, true, false, false, true, false, false, false, false, false, false]
abbrev zq6.q91 : Array Bool := #[true, true, true, true, true, true, true, true, true, true, true, true, true, true, true, true, true, true, true, true, true, true, true, true, true, true, true, false, true, false, false, false, false, false, false]
abbrev zq6.q92 : Array Bool := #[true, true, true, true, true, true, true, true, true, true, true, true, true, true, true, true, true, true, true, true, true, true, true, true, true, true, true, true, true, false, false, false, false, false, false]
abbrev zq6.q93 : Array Bool := #[true, true, true, true, true, true, true, true, true, true, true, true, true, true, true, true, true, true, true, true, true, true, true, true, true, true, true, true, true, true, false, false, false, false, false]
abbrev zq6.q94 : Array Bool := #[true, true, true, true, true, true, true, true, true, true, true, true, true, true, true, true, true, true, true, true, true, true, true, true, true, true, true, true, true, true, true, false, false, false, false]
abbrev zq6.q95 : Array Bool := #[true, true, true, true, true, true, true, true, true, true, true, true, true, true, true, true, true, true, true, true, true, true, true, true, true, true, true, true, true, true, true, true, false, false, false]
abbrev zq6.q96 : Array Bool := #[true, true, true, true, true, true, true, true, true, true, true, true, true, true, true, true, true, true, true, true, true, true, true, true, true, true, true, true, true, true, true, true, true, false, false]
abbrev zq6.q97 : Array Bool := #[true, true, true, true, true, true, true, true, true, true, true, true, true, true, true, true, true, true, true, true, true, true, true, true, true, true, true, true, true, true, true, true, true, true, false]
abbrev zq6.q98 : Array Bool := #[true, true, true, true, true, true, true, true, true, true, true, true, true, true, true, true, true, true, true, true, true, true, true, true, true, true, true, true, true, true, true, true, true, true, true]
def compositorlaw08_PixelOverIdentities.j0 : Nat → Bool → Int → Int → Int → Int → Int → Int → Int → Int → Int → Int → Int → Int → Option (Bool)
 | 0, _, _, _, _, _, _, _, _, _, _, _, _, _ => none
 | k + 1, x69, x274000, x274001, x274002, x274003, x275000, x275001, x275002, x275003, x284000, x284001, x284002, x284003 => if x69 = true then (some false) else ((pixel_Over.f x284000 x284001 x284002 x284003 x275000 x275001 x275002 x275003).bind fun bt294 => (if (bt294.1 == x284000 && (bt294.2.1 == x284001 && (bt294.2.2.1 == x284002 && (bt294.2.2.2 == x284003)))) = true then ((pixel_Over.f 0 0 0 0 x275000 x275001 x275002 x275003).bind fun bt298 => (if (bt298.1 == x275000 && (bt298.2.1 == x275001 && (bt298.2.2.1 == x275002 && (bt298.2.2.2 == x275003)))) = true then ((pixel_Over.f x274000 x274001 x274002 x274003 0 0 0 0).bind fun bt302 => (if (bt302.1 == x274000 && (bt302.2.1 == x274001 && (bt302.2.2.1 == x274002 && (bt302.2.2.2 == x274003)))) = true then ((pixel_Scale.f x274000 x274001 x274002 x274003 255).bind fun bt306 => (if (bt306.1 == x274000 && (bt306.2.1 == x274001 && (bt306.2.2.1 == x274002 && (bt306.2.2.2 == x274003)))) = true then ((pixel_Scale.f x274000 x274001 x274002 x274003 0).bind fun bt310 => (if (bt310.1 == 0 && (bt310.2.1 == 0 && (bt310.2.2.1 == 0 && (bt310.2.2.2 == 0)))) = true then ((compositorlaw08_exampleHolds.f).bind fun t314 => (some t314)) else (some false))) else (some false))) else (some false))) else (some false))) else (some false)))
def compositorlaw08_PixelOverIdentities.f (k : Nat) (a0_0 : Int) (a0_1 : Int) (a0_2 : Int) (a0_3 : Int) (a1_0 : Int) (a1_1 : Int) (a1_2 : Int) (a1_3 : Int) : Option (Bool) := (pixel_Clamp.f a0_0 a0_1 a0_2 a0_3).bind fun bt275 => ((pixel_Clamp.f a1_0 a1_1 a1_2 a1_3).bind fun bt279 => ((pixel_Over.f bt275.1 bt275.2.1 bt275.2.2.1 bt275.2.2.2 bt279.1 bt279.2.1 bt279.2.2.1 bt279.2.2.2).bind fun bt284 => (if bt284.2.2.2 < bt275.2.2.2 then (compositorlaw08_PixelOverIdentities.j0 k true bt275.1 bt275.2.1 bt275.2.2.1 bt275.2.2.2 bt279.1 bt279.2.1 bt279.2.2.1 bt279.2.2.2 bt275.1 bt275.2.1 bt275.2.2.1 255) else (if bt284.2.2.2 < bt279.2.2.2 then (compositorlaw08_PixelOverIdentities.j0 k true bt275.1 bt275.2.1 bt275.2.2.1 bt275.2.2.2 bt279.1 bt279.2.1 bt279.2.2.1 bt279.2.2.2 bt275.1 bt275.2.1 bt275.2.2.1 255) else (if bt284.1 < bt275.1 then (compositorlaw08_PixelOverIdentities.j0 k true bt275.1 bt275.2.1 bt275.2.2.1 bt275.2.2.2 bt279.1 bt279.2.1 bt279.2.2.1 bt279.2.2.2 bt275.1 bt275.2.1 bt275.2.2.1 255) else (if bt284.2.1 < bt275.2.1 then (compositorlaw08_PixelOverIdentities.j0 k true bt275.1 bt275.2.1 bt275.2.2.1 bt275.2.2.2 bt279.1 bt279.2.1 bt279.2.2.1 bt279.2.2.2 bt275.1 bt275.2.1 bt275.2.2.1 255) else (if bt284.2.2.1 < bt275.2.2.1 then (compositorlaw08_PixelOverIdentities.j0 k true bt275.1 bt275.2.1 bt275.2.2.1 bt275.2.2.2 bt279.1 bt279.2.1 bt279.2.2.1 bt279.2.2.2 bt275.1 bt275.2.1 bt275.2.2.1 255) else ((pixel_Opaque.f bt284.1 bt284.2.1 bt284.2.2.1 bt284.2.2.2).bind fun t289 => (if (t289 != (bt284.2.2.2 == 255)) = true then (compositorlaw08_PixelOverIdentities.j0 k true bt275.1 bt275.2.1 bt275.2.2.1 bt275.2.2.2 bt279.1 bt279.2.1 bt279.2.2.1 bt279.2.2.2 bt275.1 bt275.2.1 bt275.2.2.1 255) else ((pixel_Opaque.f bt275.1 bt275.2.1 bt275.2.2.1 bt275.2.2.2).bind fun t290 => (if t290 = true then ((pixel_Opaque.f bt284.1 bt284.2.1 bt284.2.2.1 bt284.2.2.2).bind fun t291 => (compositorlaw08_PixelOverIdentities.j0 k (!t291) bt275.1 bt275.2.1 bt275.2.2.1 bt275.2.2.2 bt279.1 bt279.2.1 bt279.2.2.1 bt279.2.2.2 bt275.1 bt275.2.1 bt275.2.2.1 255)) else ((pixel_Opaque.f bt279.1 bt279.2.1 bt279.2.2.1 bt279.2.2.2).bind fun t292 => (if t292 = true then ((pixel_Opaque.f bt284.1 bt284.2.1 bt284.2.2.1 bt284.2.2.2).bind fun t293 => (compositorlaw08_PixelOverIdentities.j0 k (!t293) bt275.1 bt275.2.1 bt275.2.2.1 bt275.2.2.2 bt279.1 bt279.2.1 bt279.2.2.1 bt279.2.2.2 bt275.1 bt275.2.1 bt275.2.2.1 255)) else (compositorlaw08_PixelOverIdentities.j0 k false bt275.1 bt275.2.1 bt275.2.2.1 bt275.2.2.2 bt279.1 bt279.2.1 bt279.2.2.1 bt279.2.2.2 bt275.1 bt275.2.1 bt275.2.2.1 255))))))))))))))
theorem compositorlaw08_PixelOverIdentities.mono_l : ∀ k, (∀ y0 y1 y2 y3 y4 y5 y6 y7 y8 y9 y10 y11 y12, LeO (compositorlaw08_PixelOverIdentities.j0 k y0 y1 y2 y3 y4 y5 y6 y7 y8 y9 y10 y11 y12) (compositorlaw08_PixelOverIdentities.j0 (k + 1) y0 y1 y2 y3 y4 y5 y6 y7 y8 y9 y10 y11 y12))
 | 0 => fun _ _ _ _ _ _ _ _ _ _ _ _ _ r h => by simp [compositorlaw08_PixelOverIdentities.j0] at h
 | k + 1 => by
  have ih0 := compositorlaw08_PixelOverIdentities.mono_l k
  ·
   intro y0 y1 y2 y3 y4 y5 y6 y7 y8 y9 y10 y11 y12
   unfold compositorlaw08_PixelOverIdentities.j0
   repeat' first
   | (with_reducible exact ih0 _ _ _ _ _ _ _ _ _ _ _ _ _)
   | (with_reducible exact LeO.refl _)
   | (with_reducible exact LeO.none _)
   | (with_reducible refine LeO.ite ?_ ?_)
   | (with_reducible refine LeO.bind ?_ (fun _ => ?_))
   | exact ih0 _ _ _ _ _ _ _ _ _ _ _ _ _
   | exact LeO.none _
   | refine LeO.ite ?_ ?_
   | refine LeO.bind ?_ (fun _ => ?_)
theorem compositorlaw08_PixelOverIdentities.mono : ∀ a0 a1 a2 a3 a4 a5 a6 a7 k, LeO (compositorlaw08_PixelOverIdentities.f k a0 a1 a2 a3 a4 a5 a6 a7) (compositorlaw08_PixelOverIdentities.f (k + 1) a0 a1 a2 a3 a4 a5 a6 a7) := by
 intro a0 a1 a2 a3 a4 a5 a6 a7 k
 have ih0 := compositorlaw08_PixelOverIdentities.mono_l k
 unfold compositorlaw08_PixelOverIdentities.f
 repeat' first
   | (with_reducible exact ih0 _ _ _ _ _ _ _ _ _ _ _ _ _)
   | (with_reducible exact LeO.refl _)
   | (with_reducible exact LeO.none _)
   | (with_reducible refine LeO.ite ?_ ?_)
   | (with_reducible refine LeO.bind ?_ (fun _ => ?_))
   | exact ih0 _ _ _ _ _ _ _ _ _ _ _ _ _
   | exact LeO.none _
   | refine LeO.ite ?_ ?_
   | refine LeO.bind ?_ (fun _ => ?_)
def compositorlaw08_PixelOverIdentities.T5 : Bool × List (List Nat × List Nat) := (true, [([], []), ([0], [0]), ([], []), ([2], [2]), ([1, 3], [1, 3]), ([4], [4]), ([5], [5]), ([6, 5], [5, 6]), ([5], [5]), ([8, 5], [5, 8]), ([7, 9, 5], [5, 7, 9]), ([5, 10], [5, 10]), ([11, 5], [11]), ([12], [12]), ([13, 12], [12, 13]), ([12], [12]), ([15, 12], [12, 15]), ([14, 16, 12], [12, 14, 16]), ([12, 17], [12, 17]), ([18, 12], [18]), ([19], [19]), ([20, 19], [19, 20]), ([19], [19]), ([22, 19], [19, 22]), ([21, 23, 19], [19, 21, 23]), ([19, 24], [19, 24]), ([25, 19], [25]), ([26], [26]), ([27, 26], [26, 27]), ([26], [26]), ([29, 26], [26, 29]), ([28, 30, 26], [26, 28, 30]), ([26, 31], [26, 31]), ([32, 26], [32]), ([33], [33]), ([34, 33, 33], [33, 34]), ([33], [33]), ([36, 33], [33, 36]), ([37, 33], [33, 37]), ([35, 38, 33], [33, 35, 38]), ([33, 39], [33, 39]), ([40, 35], [40]), ([41], [41]), ([42, 41, 41], [41, 42]), ([43, 43, 41], [41, 43]), ([44], [44]), ([45, 44, 44], [44, 45]), ([44, 46, 41], [41, 44, 46]), ([47, 46, 41], [41, 47]), ([48], [48]), ([49, 48, 48], [48, 49]), ([50, 48], [48, 50]), ([48, 51, 41], [41, 48, 51]), ([41, 52], [41, 52])])
def compositorlaw08_PixelOverIdentities.B5 : List Nat := [0, 1, 0, 4, 15, 31, 63, 127, 63, 319, 1023, 2047, 4095, 8191, 16383, 8191, 40959, 131071, 262143, 524287, 1048575, 2097151, 1048575, 5242879, 16777215, 33554431, 67108863, 134217727, 268435455, 134217727, 671088639, 2147483647, 4294967295, 8589934591, 17179869183, 34359738367, 17179869183, 85899345919, 223338299391, 549755813887, 1099511627775, 2199023255551, 4398046511103, 8796093022207, 17592186044415, 35184372088831, 70368744177663, 140737488355327, 281474976710655, 562949953421311, 1125899906842623, 2251799813685247, 4503599627370495, 9007199254740991]
theorem compositorlaw08_PixelOverIdentities.tab5 : rtab .any (opsOf Try.f6 5) = compositorlaw08_PixelOverIdentities.T5 := by kernel_rfl
theorem compositorlaw08_PixelOverIdentities.bits5 : waitsOk compositorlaw08_PixelOverIdentities.T5.2 compositorlaw08_PixelOverIdentities.B5 = true := by kernel_rfl
def compositorlaw08_PixelOverIdentities.T7 : Bool × List (List Nat × List Nat) := (true, [([], []), ([], []), ([0, 1], [0, 1]), ([], []), ([2, 3], [2, 3]), ([4, 2], [4]), ([5], [5]), ([5], [5]), ([6, 7, 5, 5], [5, 6, 7]), ([5], [5]), ([8, 9, 5], [5, 8, 9]), ([5, 10], [5, 10]), ([11, 8], [11]), ([12], [12]), ([12], [12]), ([13, 14, 12, 12], [12, 13, 14]), ([12], [12]), ([15, 16, 12], [12, 15, 16]), ([12, 17], [12, 17]), ([18, 15], [18]), ([19], [19]), ([20, 19, 19], [19, 20]), ([19], [19]), ([21, 22, 19], [19, 21, 22]), ([19, 23], [19, 23]), ([24, 21], [24]), ([25], [25]), ([26, 25, 25], [25, 26]), ([25], [25]), ([27, 28, 25], [25, 27, 28]), ([25, 29], [25, 29]), ([30, 27], [30]), ([31, 31], [31]), ([31, 32], [31, 32]), ([33, 32, 0, 1, 2, 3, 4, 5, 6, 7, 8, 9, 10, 11, 12, 13, 14, 15, 16, 17, 18, 19, 20, 21, 22, 23, 24, 25, 26, 27, 28, 29, 30, 31, 32, 33], [33])])
def compositorlaw08_PixelOverIdentities.B7 : List Nat := [0, 0, 3, 0, 15, 31, 63, 63, 255, 63, 1023, 2047, 4095, 8191, 8191, 32767, 8191, 131071, 262143, 524287, 1048575, 2097151, 1048575, 8388607, 16777215, 33554431, 67108863, 134217727, 67108863, 536870911, 1073741823, 2147483647, 4294967295, 8589934591, 17179869183]
theorem compositorlaw08_PixelOverIdentities.tab7 : rtab .any (opsOf Try.f6 7) = compositorlaw08_PixelOverIdentities.T7 := by kernel_rfl
theorem compositorlaw08_PixelOverIdentities.bits7 : waitsOk compositorlaw08_PixelOverIdentities.T7.2 compositorlaw08_PixelOverIdentities.B7 = true := by kernel_rfl
set_option maxHeartbeats 8000000 in
set_option maxRecDepth 100000 in
theorem compositorlaw08_PixelOverIdentities.calls (k : Nat) (a0_0 : Int) (a0_1 : Int) (a0_2 : Int) (a0_3 : Int) (a1_0 : Int) (a1_1 : Int) (a1_2 : Int) (a1_3 : Int) (w : World) (h : compositorlaw08_PixelOverIdentities.f k a0_0 a0_1 a0_2 a0_3 a1_0 a1_1 a1_2 a1_3 = some true) :
  Calls Try.prog 6 #[.agg #[.int .u8 a0_0, .int .u8 a0_1, .int .u8 a0_2, .int .u8 a0_3], .agg #[.int .u8 a1_0, .int .u8 a1_1, .int .u8 a1_2, .int .u8 a1_3]] w fun e w' => e = .returned (.bool true) ∧ Below w.heap.size w w' := by
 have hu23 := Try.underlying23
 have HB := Aside0.mk (Below.refl w.heap.size w)
 have H : ((pixel_Clamp.f a0_0 a0_1 a0_2 a0_3).bind fun bt275 => ((pixel_Clamp.f a1_0 a1_1 a1_2 a1_3).bind fun bt279 => ((pixel_Over.f bt275.1 bt275.2.1 bt275.2.2.1 bt275.2.2.2 bt279.1 bt279.2.1 bt279.2.2.1 bt279.2.2.2).bind fun bt284 => (if bt284.2.2.2 < bt275.2.2.2 then (compositorlaw08_PixelOverIdentities.j0 k true bt275.1 bt275.2.1 bt275.2.2.1 bt275.2.2.2 bt279.1 bt279.2.1 bt279.2.2.1 bt279.2.2.2 bt275.1 bt275.2.1 bt275.2.2.1 255) else (if bt284.2.2.2 < bt279.2.2.2 then (compositorlaw08_PixelOverIdentities.j0 k true bt275.1 bt275.2.1 bt275.2.2.1 bt275.2.2.2 bt279.1 bt279.2.1 bt279.2.2.1 bt279.2.2.2 bt275.1 bt275.2.1 bt275.2.2.1 255) else (if bt284.1 < bt275.1 then (compositorlaw08_PixelOverIdentities.j0 k true bt275.1 bt275.2.1 bt275.2.2.1 bt275.2.2.2 bt279.1 bt279.2.1 bt279.2.2.1 bt279.2.2.2 bt275.1 bt275.2.1 bt275.2.2.1 255) else (if bt284.2.1 < bt275.2.1 then (compositorlaw08_PixelOverIdentities.j0 k true bt275.1 bt275.2.1 bt275.2.2.1 bt275.2.2.2 bt279.1 bt279.2.1 bt279.2.2.1 bt279.2.2.2 bt275.1 bt275.2.1 bt275.2.2.1 255) else (if bt284.2.2.1 < bt275.2.2.1 then (compositorlaw08_PixelOverIdentities.j0 k true bt275.1 bt275.2.1 bt275.2.2.1 bt275.2.2.2 bt279.1 bt279.2.1 bt279.2.2.1 bt279.2.2.2 bt275.1 bt275.2.1 bt275.2.2.1 255) else ((pixel_Opaque.f bt284.1 bt284.2.1 bt284.2.2.1 bt284.2.2.2).bind fun t289 => (if (t289 != (bt284.2.2.2 == 255)) = true then (compositorlaw08_PixelOverIdentities.j0 k true bt275.1 bt275.2.1 bt275.2.2.1 bt275.2.2.2 bt279.1 bt279.2.1 bt279.2.2.1 bt279.2.2.2 bt275.1 bt275.2.1 bt275.2.2.1 255) else ((pixel_Opaque.f bt275.1 bt275.2.1 bt275.2.2.1 bt275.2.2.2).bind fun t290 => (if t290 = true then ((pixel_Opaque.f bt284.1 bt284.2.1 bt284.2.2.1 bt284.2.2.2).bind fun t291 => (compositorlaw08_PixelOverIdentities.j0 k (!t291) bt275.1 bt275.2.1 bt275.2.2.1 bt275.2.2.2 bt279.1 bt279.2.1 bt279.2.2.1 bt279.2.2.2 bt275.1 bt275.2.1 bt275.2.2.1 255)) else ((pixel_Opaque.f bt279.1 bt279.2.1 bt279.2.2.1 bt279.2.2.2).bind fun t292 => (if t292 = true then ((pixel_Opaque.f bt284.1 bt284.2.1 bt284.2.2.1 bt284.2.2.2).bind fun t293 => (compositorlaw08_PixelOverIdentities.j0 k (!t293) bt275.1 bt275.2.1 bt275.2.2.1 bt275.2.2.2 bt279.1 bt279.2.1 bt279.2.2.1 bt279.2.2.2 bt275.1 bt275.2.1 bt275.2.2.1 255)) else (compositorlaw08_PixelOverIdentities.j0 k false bt275.1 bt275.2.1 bt275.2.2.1 bt275.2.2.2 bt279.1 bt279.2.1 bt279.2.2.1 bt279.2.2.2 bt275.1 bt275.2.1 bt275.2.2.1 255))))))))))))))) = some true := h
 clear h
 replace H := Option.bind_eq_some_iff.mp H
 obtain ⟨⟨t275, t276, t277, t278⟩, A30, H⟩ := H
 replace H : ((pixel_Clamp.f a1_0 a1_1 a1_2 a1_3).bind fun bt279 => ((pixel_Over.f t275 t276 t277 t278 bt279.1 bt279.2.1 bt279.2.2.1 bt279.2.2.2).bind fun bt284 => (if bt284.2.2.2 < t278 then (compositorlaw08_PixelOverIdentities.j0 k true t275 t276 t277 t278 bt279.1 bt279.2.1 bt279.2.2.1 bt279.2.2.2 t275 t276 t277 255) else (if bt284.2.2.2 < bt279.2.2.2 then (compositorlaw08_PixelOverIdentities.j0 k true t275 t276 t277 t278 bt279.1 bt279.2.1 bt279.2.2.1 bt279.2.2.2 t275 t276 t277 255) else (if bt284.1 < t275 then (compositorlaw08_PixelOverIdentities.j0 k true t275 t276 t277 t278 bt279.1 bt279.2.1 bt279.2.2.1 bt279.2.2.2 t275 t276 t277 255) else (if bt284.2.1 < t276 then (compositorlaw08_PixelOverIdentities.j0 k true t275 t276 t277 t278 bt279.1 bt279.2.1 bt279.2.2.1 bt279.2.2.2 t275 t276 t277 255) else (if bt284.2.2.1 < t277 then (compositorlaw08_PixelOverIdentities.j0 k true t275 t276 t277 t278 bt279.1 bt279.2.1 bt279.2.2.1 bt279.2.2.2 t275 t276 t277 255) else ((pixel_Opaque.f bt284.1 bt284.2.1 bt284.2.2.1 bt284.2.2.2).bind fun t289 => (if (t289 != (bt284.2.2.2 == 255)) = true then (compositorlaw08_PixelOverIdentities.j0 k true t275 t276 t277 t278 bt279.1 bt279.2.1 bt279.2.2.1 bt279.2.2.2 t275 t276 t277 255) else ((pixel_Opaque.f t275 t276 t277 t278).bind fun t290 => (if t290 = true then ((pixel_Opaque.f bt284.1 bt284.2.1 bt284.2.2.1 bt284.2.2.2).bind fun t291 => (compositorlaw08_PixelOverIdentities.j0 k (!t291) t275 t276 t277 t278 bt279.1 bt279.2.1 bt279.2.2.1 bt279.2.2.2 t275 t276 t277 255)) else ((pixel_Opaque.f bt279.1 bt279.2.1 bt279.2.2.1 bt279.2.2.2).bind fun t292 => (if t292 = true then ((pixel_Opaque.f bt284.1 bt284.2.1 bt284.2.2.1 bt284.2.2.2).bind fun t293 => (compositorlaw08_PixelOverIdentities.j0 k (!t293) t275 t276 t277 t278 bt279.1 bt279.2.1 bt279.2.2.1 bt279.2.2.2 t275 t276 t277 255)) else (compositorlaw08_PixelOverIdentities.j0 k false t275 t276 t277 t278 bt279.1 bt279.2.1 bt279.2.2.1 bt279.2.2.2 t275 t276 t277 255)))))))))))))) = some true := H
 have A3 := Aside0.mk A30
 clear A30
 replace H := Option.bind_eq_some_iff.mp H
 obtain ⟨⟨t279, t280, t281, t282⟩, A40, H⟩ := H
 replace H : ((pixel_Over.f t275 t276 t277 t278 t279 t280 t281 t282).bind fun bt284 => (if bt284.2.2.2 < t278 then (compositorlaw08_PixelOverIdentities.j0 k true t275 t276 t277 t278 t279 t280 t281 t282 t275 t276 t277 255) else (if bt284.2.2.2 < t282 then (compositorlaw08_PixelOverIdentities.j0 k true t275 t276 t277 t278 t279 t280 t281 t282 t275 t276 t277 255) else (if bt284.1 < t275 then (compositorlaw08_PixelOverIdentities.j0 k true t275 t276 t277 t278 t279 t280 t281 t282 t275 t276 t277 255) else (if bt284.2.1 < t276 then (compositorlaw08_PixelOverIdentities.j0 k true t275 t276 t277 t278 t279 t280 t281 t282 t275 t276 t277 255) else (if bt284.2.2.1 < t277 then (compositorlaw08_PixelOverIdentities.j0 k true t275 t276 t277 t278 t279 t280 t281 t282 t275 t276 t277 255) else ((pixel_Opaque.f bt284.1 bt284.2.1 bt284.2.2.1 bt284.2.2.2).bind fun t289 => (if (t289 != (bt284.2.2.2 == 255)) = true then (compositorlaw08_PixelOverIdentities.j0 k true t275 t276 t277 t278 t279 t280 t281 t282 t275 t276 t277 255) else ((pixel_Opaque.f t275 t276 t277 t278).bind fun t290 => (if t290 = true then ((pixel_Opaque.f bt284.1 bt284.2.1 bt284.2.2.1 bt284.2.2.2).bind fun t291 => (compositorlaw08_PixelOverIdentities.j0 k (!t291) t275 t276 t277 t278 t279 t280 t281 t282 t275 t276 t277 255)) else ((pixel_Opaque.f t279 t280 t281 t282).bind fun t292 => (if t292 = true then ((pixel_Opaque.f bt284.1 bt284.2.1 bt284.2.2.1 bt284.2.2.2).bind fun t293 => (compositorlaw08_PixelOverIdentities.j0 k (!t293) t275 t276 t277 t278 t279 t280 t281 t282 t275 t276 t277 255)) else (compositorlaw08_PixelOverIdentities.j0 k false t275 t276 t277 t278 t279 t280 t281 t282 t275 t276 t277 255))))))))))))) = some true := H
 have A4 := Aside0.mk A40
 clear A40
 replace H := Option.bind_eq_some_iff.mp H
 obtain ⟨⟨t284, t285, t286, t287⟩, A50, H⟩ := H
 replace H : (if t287 < t278 then (compositorlaw08_PixelOverIdentities.j0 k true t275 t276 t277 t278 t279 t280 t281 t282 t275 t276 t277 255) else (if t287 < t282 then (compositorlaw08_PixelOverIdentities.j0 k true t275 t276 t277 t278 t279 t280 t281 t282 t275 t276 t277 255) else (if t284 < t275 then (compositorlaw08_PixelOverIdentities.j0 k true t275 t276 t277 t278 t279 t280 t281 t282 t275 t276 t277 255) else (if t285 < t276 then (compositorlaw08_PixelOverIdentities.j0 k true t275 t276 t277 t278 t279 t280 t281 t282 t275 t276 t277 255) else (if t286 < t277 then (compositorlaw08_PixelOverIdentities.j0 k true t275 t276 t277 t278 t279 t280 t281 t282 t275 t276 t277 255) else ((pixel_Opaque.f t284 t285 t286 t287).bind fun t289 => (if (t289 != (t287 == 255)) = true then (compositorlaw08_PixelOverIdentities.j0 k true t275 t276 t277 t278 t279 t280 t281 t282 t275 t276 t277 255) else ((pixel_Opaque.f t275 t276 t277 t278).bind fun t290 => (if t290 = true then ((pixel_Opaque.f t284 t285 t286 t287).bind fun t291 => (compositorlaw08_PixelOverIdentities.j0 k (!t291) t275 t276 t277 t278 t279 t280 t281 t282 t275 t276 t277 255)) else ((pixel_Opaque.f t279 t280 t281 t282).bind fun t292 => (if t292 = true then ((pixel_Opaque.f t284 t285 t286 t287).bind fun t293 => (compositorlaw08_PixelOverIdentities.j0 k (!t293) t275 t276 t277 t278 t279 t280 t281 t282 t275 t276 t277 255)) else (compositorlaw08_PixelOverIdentities.j0 k false t275 t276 t277 t278 t279 t280 t281 t282 t275 t276 t277 255)))))))))))) = some true := H
 have A5 := Aside0.mk A50
 clear A50
 have HC6 := Aside0.mk H
 clear H
 go_enter Try.func6, Try.ntmps6
 try go_wp2_with (first | ((with_reducible refine gate_dst (N := 2) rfl ?_); refine box_event ?hg (N := 2) ?hd (cs := #[.int .u8 a0_0, .int .u8 a0_1, .int .u8 a0_2, .int .u8 a0_3]) (t := 23) ?hr ?_; (case hd => rfl); (case hg => rfl); (case hr => first | (go_simp; done) | (go_simp; rfl)); intro gb273 hg w7 hbox hb; have n0_ := hb_ HB hb; have n1_ := Aside0.mk (hbox); have n2_ := Aside0.mk ((by rw [hg]; exact (below_size (hq_ HB)) : w.heap.size ≤ gb273)); have n3_ := Aside0.mk ((by rw [hg]; exact (below_size (hq_ HB)) : w.heap.size ≤ gb273)); clear HB; have HB := n0_; have BK273 := n1_; have GW273 := n2_; have GE273 := n3_; clear n0_ n1_ n2_ n3_; clear hb hbox hg) | ((with_reducible refine gate_dst (N := 3) rfl ?_); refine box_event ?hg (N := 3) ?hd (cs := #[.int .u8 a1_0, .int .u8 a1_1, .int .u8 a1_2, .int .u8 a1_3]) (t := 23) ?hr ?_; (case hd => rfl); (case hg => rfl); (case hr => first | (go_simp; done) | (go_simp; rfl)); intro gb274 hg w8 hbox hb; have n0_ := bb_ BK273 hb; have n1_ := hb_ HB hb; have n2_ := Aside0.mk (hbox); have n3_ := Aside0.mk ((by rw [hg]; exact (below_size (hq_ HB)) : w.heap.size ≤ gb274)); have n4_ := Aside0.mk ((by rw [hg]; exact (below_size (hq_ HB)) : w.heap.size ≤ gb274)); have n5_ := Aside0.mk ((by rw [hg]; exact Nat.ne_of_lt (blk_lt (g := gb273) (o := .cells #[.int .u8 a0_0, .int .u8 a0_1, .int .u8 a0_2, .int .u8 a0_3] 23 (0, 0)) (bq_ BK273)) : gb273 ≠ gb274)); have n6_ := Aside0.mk ((by rw [hg]; exact Nat.ne_of_gt (blk_lt (g := gb273) (o := .cells #[.int .u8 a0_0, .int .u8 a0_1, .int .u8 a0_2, .int .u8 a0_3] 23 (0, 0)) (bq_ BK273)) : gb274 ≠ gb273)); clear BK273; clear HB; have BK273 := n0_; have HB := n1_; have BK274 := n2_; have GW274 := n3_; have GE274 := n4_; have NB273_274 := n5_; have NB274_273 := n6_; clear n0_ n1_ n2_ n3_ n4_ n5_ n6_; clear hb hbox hg))
 replace BK273 := Aside0.mk (blk_drew BK273.out)
 replace BK274 := Aside0.mk (blk_drew BK274.out)
 replace HB := Aside0.mk (below_drew1 HB.out)
 refine start_ (n := 6) (S := fun w' => w'.cell? ⟨gb273, 0, none⟩ = some (.int .u8 a0_0) ∧ w'.cell? ⟨gb273, 1, none⟩ = some (.int .u8 a0_1) ∧ w'.cell? ⟨gb273, 2, none⟩ = some (.int .u8 a0_2) ∧ w'.cell? ⟨gb273, 3, none⟩ = some (.int .u8 a0_3) ∧ w'.cell? ⟨gb274, 0, none⟩ = some (.int .u8 a1_0) ∧ w'.cell? ⟨gb274, 1, none⟩ = some (.int .u8 a1_1) ∧ w'.cell? ⟨gb274, 2, none⟩ = some (.int .u8 a1_2) ∧ w'.cell? ⟨gb274, 3, none⟩ = some (.int .u8 a1_3)) (ds := [4, 5]) #[false, false, false, false, false, false] (by kernel_rfl) rfl rfl (a4_ BK273 (h4_ BK274)) (fun hHeld => ?_)
 generalize w8.drew = w9 at BK273 BK274 HB hHeld ⊢
 refine take_ (i := 0) (N := some 7) (v := ?_) (a' := ?_) #[true, false, false, false, false, false] rfl rfl (by kernel_rfl) (fun _ _ _ h => h) (Or.inl ⟨by rfl, ?_⟩) hHeld ?_ ?_
 rotate_left
 ·
  rintro w' ⟨s0, s1, s2, s3, s4, s5, s6, s7⟩
  go_simp
  with_reducible rfl
 rotate_left
 ·
  simp only [Act.put, List.setIfInBounds_toArray, List.set_cons_zero, List.set_cons_succ, i64_w, i32_w]
  rfl
 refine take_ (i := 2) (N := some 9) (v := ?_) (a' := ?_) #[true, false, true, false, false, false] rfl rfl (by kernel_rfl) (fun _ _ _ h => h) (Or.inl ⟨by rfl, ?_⟩) hHeld ?_ ?_
 rotate_left
 ·
  rintro w' ⟨s0, s1, s2, s3, s4, s5, s6, s7⟩
  go_simp
  with_reducible rfl
 rotate_left
 ·
  simp only [Act.put, List.setIfInBounds_toArray, List.set_cons_zero, List.set_cons_succ, i64_w, i32_w]
  rfl
 refine one_ (i := 1) (N := some 8) #[true, true, true, false, false, false] rfl rfl (by kernel_rfl) (by decide) (fun K hK => ?_)
 refine goes_ Try.func18 (by kernel_rfl) rfl #[.agg #[.int .u8 a0_0, .int .u8 a0_1, .int .u8 a0_2, .int .u8 a0_3]] (by rfl) rfl rfl (by (try simp only [List.map_toArray, List.map_cons, List.map_nil]) <;> rfl) ?_
 with_reducible refine (pixel_Clamp.calls a0_0 a0_1 a0_2 a0_3 t275 t276 t277 t278 _ A3.out).mono ?_
 rintro e w10 ⟨rfl, hb⟩
 refine ⟨_, rfl, ?_⟩
 replace BK273 := bb_ BK273 hb
 replace BK274 := bb_ BK274 hb
 replace HB := hb_ HB hb
 (try clear hb); (try clear hb2); (try clear hk); (try clear hi)
 refine hK.out _ _ (a4_ BK273 (h4_ BK274)) (fun hHeld => ?_)
 clear hK K
 refine norm_ (a' := ?_) ?_ ?_
 rotate_left
 ·
  show Act.put _ (some 8) _ = _
  simp only [Act.put, List.setIfInBounds_toArray, List.set_cons_zero, List.set_cons_succ, i64_w, i32_w]
  rfl
 refine one_ (i := 3) (N := some 10) #[true, true, true, true, false, false] rfl rfl (by kernel_rfl) (by decide) (fun K hK => ?_)
 refine goes_ Try.func18 (by kernel_rfl) rfl #[.agg #[.int .u8 a1_0, .int .u8 a1_1, .int .u8 a1_2, .int .u8 a1_3]] (by rfl) rfl rfl (by (try simp only [List.map_toArray, List.map_cons, List.map_nil]) <;> rfl) ?_
 with_reducible refine (pixel_Clamp.calls a1_0 a1_1 a1_2 a1_3 t279 t280 t281 t282 _ A4.out).mono ?_
 rintro e w11 ⟨rfl, hb⟩
 refine ⟨_, rfl, ?_⟩
 replace BK273 := bb_ BK273 hb
 replace BK274 := bb_ BK274 hb
 replace HB := hb_ HB hb
 (try clear hb); (try clear hb2); (try clear hk); (try clear hi)
 refine hK.out _ _ (a4_ BK273 (h4_ BK274)) (fun hHeld => ?_)
 clear hK K
 refine norm_ (a' := ?_) ?_ ?_
 rotate_left
 ·
  show Act.put _ (some 10) _ = _
  simp only [Act.put, List.setIfInBounds_toArray, List.set_cons_zero, List.set_cons_succ, i64_w, i32_w]
  rfl
 refine last_ (i := 4) (N := none) #[true, true, true, true, true, false] rfl rfl (by kernel_rfl) (by decide) (fun K hK => ?_)
 have hs12 : w11.cell? ⟨gb273, 0, none⟩ = some (.int .u8 a0_0) := (blk_cell BK273.out 0).trans rfl
 have hfs12 := blk_frozen BK273.out 0
 have hns12_1 := NB274_273.out
 have hms12_1 := NB273_274.out
 have hs13 : w11.cell? ⟨gb273, 1, none⟩ = some (.int .u8 a0_1) := (blk_cell BK273.out 1).trans rfl
 have hfs13 := blk_frozen BK273.out 1
 have hns13_1 := NB274_273.out
 have hms13_1 := NB273_274.out
 have hs14 : w11.cell? ⟨gb273, 2, none⟩ = some (.int .u8 a0_2) := (blk_cell BK273.out 2).trans rfl
 have hfs14 := blk_frozen BK273.out 2
 have hns14_1 := NB274_273.out
 have hms14_1 := NB273_274.out
 have hs15 : w11.cell? ⟨gb273, 3, none⟩ = some (.int .u8 a0_3) := (blk_cell BK273.out 3).trans rfl
 have hfs15 := blk_frozen BK273.out 3
 have hns15_1 := NB274_273.out
 have hms15_1 := NB273_274.out
 refine skip_ (w1 := ?_) (by rfl) rfl ?_ ?_
 rotate_left
 ·
  go_simp
  rfl
 refine hK.out _ _ ?_
 clear hK K
 refine last_ (i := 5) (N := none) #[true, true, true, true, true, true] rfl rfl (by kernel_rfl) (by decide) (fun K hK => ?_)
 have hs16 : w11.cell? ⟨gb274, 0, none⟩ = some (.int .u8 a1_0) := (blk_cell BK274.out 0).trans rfl
 have hfs16 := blk_frozen BK274.out 0
 have hns16_0 := NB273_274.out
 have hms16_0 := NB274_273.out
 have hs17 : w11.cell? ⟨gb274, 1, none⟩ = some (.int .u8 a1_1) := (blk_cell BK274.out 1).trans rfl
 have hfs17 := blk_frozen BK274.out 1
 have hns17_0 := NB273_274.out
 have hms17_0 := NB274_273.out
 have hs18 : w11.cell? ⟨gb274, 2, none⟩ = some (.int .u8 a1_2) := (blk_cell BK274.out 2).trans rfl
 have hfs18 := blk_frozen BK274.out 2
 have hns18_0 := NB273_274.out
 have hms18_0 := NB274_273.out
 have hs19 : w11.cell? ⟨gb274, 3, none⟩ = some (.int .u8 a1_3) := (blk_cell BK274.out 3).trans rfl
 have hfs19 := blk_frozen BK274.out 3
 have hns19_0 := NB273_274.out
 have hms19_0 := NB274_273.out
 refine skip_ (w1 := ?_) (by rfl) rfl ?_ ?_
 rotate_left
 ·
  go_simp
  rfl
 refine hK.out _ _ ?_
 clear hK K
 refine done_ (by kernel_rfl) ?_
 have hnb20 := NB273_274.out
 have hnc20 := NB274_273.out
 have hcz21_0 : w11.cell? ⟨gb273, 0, none⟩ = some (.int .u8 a0_0) := (blk_cell BK273.out 0).trans rfl
 have hcz21_1 : w11.cell? ⟨gb273, 1, none⟩ = some (.int .u8 a0_1) := (blk_cell BK273.out 1).trans rfl
 have hcz21_2 : w11.cell? ⟨gb273, 2, none⟩ = some (.int .u8 a0_2) := (blk_cell BK273.out 2).trans rfl
 have hcz21_3 : w11.cell? ⟨gb273, 3, none⟩ = some (.int .u8 a0_3) := (blk_cell BK273.out 3).trans rfl
 have hfz21_0 := blk_frozen BK273.out 0
 have hfz21_1 := blk_frozen BK273.out 1
 have hfz21_2 := blk_frozen BK273.out 2
 have hfz21_3 := blk_frozen BK273.out 3
 go_upto_region 5 with (first | ((with_reducible refine gate_dst (N := 5) rfl ?_); refine box_event ?hg (N := 5) ?hd (cs := #[.int .u8 0, .int .u8 0, .int .u8 0, .int .u8 0]) (t := 23) ?hr ?_; (case hd => rfl); (case hg => rfl); (case hr => first | (go_simp; done) | (go_simp; rfl)); intro gb283 hg w22 hbox hb; have n0_ := Aside0.mk (blk_below (g := gb273) (o := .cells #[.int .u8 t275, .int .u8 t276, .int .u8 t277, .int .u8 t278] 23 (0, 0)) (by (with_reducible repeat (first | refine blk_drewN ?_ _ | refine blk_drew ?_ | refine blk_alloc ?_ _)); refine blk_far ?_ NB273_274.out _; (with_reducible repeat (first | refine blk_drewN ?_ _ | refine blk_drew ?_ | refine blk_alloc ?_ _)); refine blk_far ?_ NB273_274.out _; (with_reducible repeat (first | refine blk_drewN ?_ _ | refine blk_drew ?_ | refine blk_alloc ?_ _)); refine blk_far ?_ NB273_274.out _; (with_reducible repeat (first | refine blk_drewN ?_ _ | refine blk_drew ?_ | refine blk_alloc ?_ _)); refine blk_far ?_ NB273_274.out _; (with_reducible repeat (first | refine blk_drewN ?_ _ | refine blk_drew ?_ | refine blk_alloc ?_ _)); refine blk_put (cs := #[.int .u8 t275, .int .u8 t276, .int .u8 t277, .int .u8 a0_3]) ?_ 3 _ rfl; (with_reducible repeat (first | refine blk_drewN ?_ _ | refine blk_drew ?_ | refine blk_alloc ?_ _)); refine blk_put (cs := #[.int .u8 t275, .int .u8 t276, .int .u8 a0_2, .int .u8 a0_3]) ?_ 2 _ rfl; (with_reducible repeat (first | refine blk_drewN ?_ _ | refine blk_drew ?_ | refine blk_alloc ?_ _)); refine blk_put (cs := #[.int .u8 t275, .int .u8 a0_1, .int .u8 a0_2, .int .u8 a0_3]) ?_ 1 _ rfl; (with_reducible repeat (first | refine blk_drewN ?_ _ | refine blk_drew ?_ | refine blk_alloc ?_ _)); refine blk_put (cs := #[.int .u8 a0_0, .int .u8 a0_1, .int .u8 a0_2, .int .u8 a0_3]) ?_ 0 _ rfl; (with_reducible repeat (first | refine blk_drewN ?_ _ | refine blk_drew ?_ | refine blk_alloc ?_ _)); exact BK273.out) hb); have n1_ := Aside0.mk (blk_below (g := gb274) (o := .cells #[.int .u8 t279, .int .u8 t280, .int .u8 t281, .int .u8 t282] 23 (0, 0)) (by (with_reducible repeat (first | refine blk_drewN ?_ _ | refine blk_drew ?_ | refine blk_alloc ?_ _)); refine blk_put (cs := #[.int .u8 t279, .int .u8 t280, .int .u8 t281, .int .u8 a1_3]) ?_ 3 _ rfl; (with_reducible repeat (first | refine blk_drewN ?_ _ | refine blk_drew ?_ | refine blk_alloc ?_ _)); refine blk_put (cs := #[.int .u8 t279, .int .u8 t280, .int .u8 a1_2, .int .u8 a1_3]) ?_ 2 _ rfl; (with_reducible repeat (first | refine blk_drewN ?_ _ | refine blk_drew ?_ | refine blk_alloc ?_ _)); refine blk_put (cs := #[.int .u8 t279, .int .u8 a1_1, .int .u8 a1_2, .int .u8 a1_3]) ?_ 1 _ rfl; (with_reducible repeat (first | refine blk_drewN ?_ _ | refine blk_drew ?_ | refine blk_alloc ?_ _)); refine blk_put (cs := #[.int .u8 a1_0, .int .u8 a1_1, .int .u8 a1_2, .int .u8 a1_3]) ?_ 0 _ rfl; (with_reducible repeat (first | refine blk_drewN ?_ _ | refine blk_drew ?_ | refine blk_alloc ?_ _)); refine blk_far ?_ NB274_273.out _; (with_reducible repeat (first | refine blk_drewN ?_ _ | refine blk_drew ?_ | refine blk_alloc ?_ _)); refine blk_far ?_ NB274_273.out _; (with_reducible repeat (first | refine blk_drewN ?_ _ | refine blk_drew ?_ | refine blk_alloc ?_ _)); refine blk_far ?_ NB274_273.out _; (with_reducible repeat (first | refine blk_drewN ?_ _ | refine blk_drew ?_ | refine blk_alloc ?_ _)); refine blk_far ?_ NB274_273.out _; (with_reducible repeat (first | refine blk_drewN ?_ _ | refine blk_drew ?_ | refine blk_alloc ?_ _)); exact BK274.out) hb); have n2_ := hb_ HB hb; have n3_ := Aside0.mk (hbox); have n4_ := Aside0.mk ((by rw [hg]; exact (below_size (hq_ HB)) : w.heap.size ≤ gb283)); have n5_ := Aside0.mk ((by rw [hg]; exact (below_size (hq_ HB)) : w.heap.size ≤ gb283)); have n6_ := Aside0.mk ((by rw [hg]; exact Nat.ne_of_lt (blk_lt (g := gb273) (o := .cells #[.int .u8 t275, .int .u8 t276, .int .u8 t277, .int .u8 t278] 23 (0, 0)) (by (with_reducible repeat (first | refine blk_drewN ?_ _ | refine blk_drew ?_ | refine blk_alloc ?_ _)); refine blk_far ?_ NB273_274.out _; (with_reducible repeat (first | refine blk_drewN ?_ _ | refine blk_drew ?_ | refine blk_alloc ?_ _)); refine blk_far ?_ NB273_274.out _; (with_reducible repeat (first | refine blk_drewN ?_ _ | refine blk_drew ?_ | refine blk_alloc ?_ _)); refine blk_far ?_ NB273_274.out _; (with_reducible repeat (first | refine blk_drewN ?_ _ | refine blk_drew ?_ | refine blk_alloc ?_ _)); refine blk_far ?_ NB273_274.out _; (with_reducible repeat (first | refine blk_drewN ?_ _ | refine blk_drew ?_ | refine blk_alloc ?_ _)); refine blk_put (cs := #[.int .u8 t275, .int .u8 t276, .int .u8 t277, .int .u8 a0_3]) ?_ 3 _ rfl; (with_reducible repeat (first | refine blk_drewN ?_ _ | refine blk_drew ?_ | refine blk_alloc ?_ _)); refine blk_put (cs := #[.int .u8 t275, .int .u8 t276, .int .u8 a0_2, .int .u8 a0_3]) ?_ 2 _ rfl; (with_reducible repeat (first | refine blk_drewN ?_ _ | refine blk_drew ?_ | refine blk_alloc ?_ _)); refine blk_put (cs := #[.int .u8 t275, .int .u8 a0_1, .int .u8 a0_2, .int .u8 a0_3]) ?_ 1 _ rfl; (with_reducible repeat (first | refine blk_drewN ?_ _ | refine blk_drew ?_ | refine blk_alloc ?_ _)); refine blk_put (cs := #[.int .u8 a0_0, .int .u8 a0_1, .int .u8 a0_2, .int .u8 a0_3]) ?_ 0 _ rfl; (with_reducible repeat (first | refine blk_drewN ?_ _ | refine blk_drew ?_ | refine blk_alloc ?_ _)); exact BK273.out)) : gb273 ≠ gb283)); have n7_ := Aside0.mk ((by rw [hg]; exact Nat.ne_of_gt (blk_lt (g := gb273) (o := .cells #[.int .u8 t275, .int .u8 t276, .int .u8 t277, .int .u8 t278] 23 (0, 0)) (by (with_reducible repeat (first | refine blk_drewN ?_ _ | refine blk_drew ?_ | refine blk_alloc ?_ _)); refine blk_far ?_ NB273_274.out _; (with_reducible repeat (first | refine blk_drewN ?_ _ | refine blk_drew ?_ | refine blk_alloc ?_ _)); refine blk_far ?_ NB273_274.out _; (with_reducible repeat (first | refine blk_drewN ?_ _ | refine blk_drew ?_ | refine blk_alloc ?_ _)); refine blk_far ?_ NB273_274.out _; (with_reducible repeat (first | refine blk_drewN ?_ _ | refine blk_drew ?_ | refine blk_alloc ?_ _)); refine blk_far ?_ NB273_274.out _; (with_reducible repeat (first | refine blk_drewN ?_ _ | refine blk_drew ?_ | refine blk_alloc ?_ _)); refine blk_put (cs := #[.int .u8 t275, .int .u8 t276, .int .u8 t277, .int .u8 a0_3]) ?_ 3 _ rfl; (with_reducible repeat (first | refine blk_drewN ?_ _ | refine blk_drew ?_ | refine blk_alloc ?_ _)); refine blk_put (cs := #[.int .u8 t275, .int .u8 t276, .int .u8 a0_2, .int .u8 a0_3]) ?_ 2 _ rfl; (with_reducible repeat (first | refine blk_drewN ?_ _ | refine blk_drew ?_ | refine blk_alloc ?_ _)); refine blk_put (cs := #[.int .u8 t275, .int .u8 a0_1, .int .u8 a0_2, .int .u8 a0_3]) ?_ 1 _ rfl; (with_reducible repeat (first | refine blk_drewN ?_ _ | refine blk_drew ?_ | refine blk_alloc ?_ _)); refine blk_put (cs := #[.int .u8 a0_0, .int .u8 a0_1, .int .u8 a0_2, .int .u8 a0_3]) ?_ 0 _ rfl; (with_reducible repeat (first | refine blk_drewN ?_ _ | refine blk_drew ?_ | refine blk_alloc ?_ _)); exact BK273.out)) : gb283 ≠ gb273)); have n8_ := Aside0.mk ((by rw [hg]; exact Nat.ne_of_lt (blk_lt (g := gb274) (o := .cells #[.int .u8 t279, .int .u8 t280, .int .u8 t281, .int .u8 t282] 23 (0, 0)) (by (with_reducible repeat (first | refine blk_drewN ?_ _ | refine blk_drew ?_ | refine blk_alloc ?_ _)); refine blk_put (cs := #[.int .u8 t279, .int .u8 t280, .int .u8 t281, .int .u8 a1_3]) ?_ 3 _ rfl; (with_reducible repeat (first | refine blk_drewN ?_ _ | refine blk_drew ?_ | refine blk_alloc ?_ _)); refine blk_put (cs := #[.int .u8 t279, .int .u8 t280, .int .u8 a1_2, .int .u8 a1_3]) ?_ 2 _ rfl; (with_reducible repeat (first | refine blk_drewN ?_ _ | refine blk_drew ?_ | refine blk_alloc ?_ _)); refine blk_put (cs := #[.int .u8 t279, .int .u8 a1_1, .int .u8 a1_2, .int .u8 a1_3]) ?_ 1 _ rfl; (with_reducible repeat (first | refine blk_drewN ?_ _ | refine blk_drew ?_ | refine blk_alloc ?_ _)); refine blk_put (cs := #[.int .u8 a1_0, .int .u8 a1_1, .int .u8 a1_2, .int .u8 a1_3]) ?_ 0 _ rfl; (with_reducible repeat (first | refine blk_drewN ?_ _ | refine blk_drew ?_ | refine blk_alloc ?_ _)); refine blk_far ?_ NB274_273.out _; (with_reducible repeat (first | refine blk_drewN ?_ _ | refine blk_drew ?_ | refine blk_alloc ?_ _)); refine blk_far ?_ NB274_273.out _; (with_reducible repeat (first | refine blk_drewN ?_ _ | refine blk_drew ?_ | refine blk_alloc ?_ _)); refine blk_far ?_ NB274_273.out _; (with_reducible repeat (first | refine blk_drewN ?_ _ | refine blk_drew ?_ | refine blk_alloc ?_ _)); refine blk_far ?_ NB274_273.out _; (with_reducible repeat (first | refine blk_drewN ?_ _ | refine blk_drew ?_ | refine blk_alloc ?_ _)); exact BK274.out)) : gb274 ≠ gb283)); have n9_ := Aside0.mk ((by rw [hg]; exact Nat.ne_of_gt (blk_lt (g := gb274) (o := .cells #[.int .u8 t279, .int .u8 t280, .int .u8 t281, .int .u8 t282] 23 (0, 0)) (by (with_reducible repeat (first | refine blk_drewN ?_ _ | refine blk_drew ?_ | refine blk_alloc ?_ _)); refine blk_put (cs := #[.int .u8 t279, .int .u8 t280, .int .u8 t281, .int .u8 a1_3]) ?_ 3 _ rfl; (with_reducible repeat (first | refine blk_drewN ?_ _ | refine blk_drew ?_ | refine blk_alloc ?_ _)); refine blk_put (cs := #[.int .u8 t279, .int .u8 t280, .int .u8 a1_2, .int .u8 a1_3]) ?_ 2 _ rfl; (with_reducible repeat (first | refine blk_drewN ?_ _ | refine blk_drew ?_ | refine blk_alloc ?_ _)); refine blk_put (cs := #[.int .u8 t279, .int .u8 a1_1, .int .u8 a1_2, .int .u8 a1_3]) ?_ 1 _ rfl; (with_reducible repeat (first | refine blk_drewN ?_ _ | refine blk_drew ?_ | refine blk_alloc ?_ _)); refine blk_put (cs := #[.int .u8 a1_0, .int .u8 a1_1, .int .u8 a1_2, .int .u8 a1_3]) ?_ 0 _ rfl; (with_reducible repeat (first | refine blk_drewN ?_ _ | refine blk_drew ?_ | refine blk_alloc ?_ _)); refine blk_far ?_ NB274_273.out _; (with_reducible repeat (first | refine blk_drewN ?_ _ | refine blk_drew ?_ | refine blk_alloc ?_ _)); refine blk_far ?_ NB274_273.out _; (with_reducible repeat (first | refine blk_drewN ?_ _ | refine blk_drew ?_ | refine blk_alloc ?_ _)); refine blk_far ?_ NB274_273.out _; (with_reducible repeat (first | refine blk_drewN ?_ _ | refine blk_drew ?_ | refine blk_alloc ?_ _)); refine blk_far ?_ NB274_273.out _; (with_reducible repeat (first | refine blk_drewN ?_ _ | refine blk_drew ?_ | refine blk_alloc ?_ _)); exact BK274.out)) : gb283 ≠ gb274)); clear BK273; clear BK274; clear HB; have BK273 := n0_; have BK274 := n1_; have HB := n2_; have BK283 := n3_; have GW283 := n4_; have GE283 := n5_; have NB273_283 := n6_; have NB283_273 := n7_; have NB274_283 := n8_; have NB283_274 := n9_; clear n0_ n1_ n2_ n3_ n4_ n5_ n6_ n7_ n8_ n9_; clear hb hbox hg; have hnb23 := NB283_273.out; have hnc23 := NB273_283.out; have hnb24 := NB283_274.out; have hnc24 := NB274_283.out; have hcz25_0 : w22.cell? ⟨gb283, 0, none⟩ = some (.int .u8 0) := (blk_cell BK283.out 0).trans rfl; have hcz25_1 : w22.cell? ⟨gb283, 1, none⟩ = some (.int .u8 0) := (blk_cell BK283.out 1).trans rfl; have hcz25_2 : w22.cell? ⟨gb283, 2, none⟩ = some (.int .u8 0) := (blk_cell BK283.out 2).trans rfl; have hcz25_3 : w22.cell? ⟨gb283, 3, none⟩ = some (.int .u8 0) := (blk_cell BK283.out 3).trans rfl; have hfz25_0 := blk_frozen BK283.out 0; have hfz25_1 := blk_frozen BK283.out 1; have hfz25_2 := blk_frozen BK283.out 2; have hfz25_3 := blk_frozen BK283.out 3; have hcz26_0 : w22.cell? ⟨gb273, 0, none⟩ = some (.int .u8 t275) := (blk_cell BK273.out 0).trans rfl; have hcz26_1 : w22.cell? ⟨gb273, 1, none⟩ = some (.int .u8 t276) := (blk_cell BK273.out 1).trans rfl; have hcz26_2 : w22.cell? ⟨gb273, 2, none⟩ = some (.int .u8 t277) := (blk_cell BK273.out 2).trans rfl; have hcz26_3 : w22.cell? ⟨gb273, 3, none⟩ = some (.int .u8 t278) := (blk_cell BK273.out 3).trans rfl; have hfz26_0 := blk_frozen BK273.out 0; have hfz26_1 := blk_frozen BK273.out 1; have hfz26_2 := blk_frozen BK273.out 2; have hfz26_3 := blk_frozen BK273.out 3; have hcz27_0 : w22.cell? ⟨gb274, 0, none⟩ = some (.int .u8 t279) := (blk_cell BK274.out 0).trans rfl; have hcz27_1 : w22.cell? ⟨gb274, 1, none⟩ = some (.int .u8 t280) := (blk_cell BK274.out 1).trans rfl; have hcz27_2 : w22.cell? ⟨gb274, 2, none⟩ = some (.int .u8 t281) := (blk_cell BK274.out 2).trans rfl; have hcz27_3 : w22.cell? ⟨gb274, 3, none⟩ = some (.int .u8 t282) := (blk_cell BK274.out 3).trans rfl; have hfz27_0 := blk_frozen BK274.out 0; have hfz27_1 := blk_frozen BK274.out 1; have hfz27_2 := blk_frozen BK274.out 2; have hfz27_3 := blk_frozen BK274.out 3) | ((with_reducible refine gate_callee (f := 13) rfl ?_); refine goesL_ (some 15) rfl rfl Try.func13 (by kernel_rfl) rfl #[.agg #[.int .u8 t275, .int .u8 t276, .int .u8 t277, .int .u8 t278], .agg #[.int .u8 t279, .int .u8 t280, .int .u8 t281, .int .u8 t282]] rfl (by (try simp only [List.map_toArray, List.map_cons, List.map_nil]) <;> rfl) ?_; (with_reducible refine (pixel_Over.calls t275 t276 t277 t278 t279 t280 t281 t282 t284 t285 t286 t287 _ A5.out).mono ?_); rintro e w28 ⟨rfl, hb⟩; refine ⟨_, rfl, ?_⟩; have n0_ := Aside0.mk (blk_below (g := gb273) (o := .cells #[.int .u8 t275, .int .u8 t276, .int .u8 t277, .int .u8 t278] 23 (0, 0)) (by (with_reducible repeat (first | refine blk_drewN ?_ _ | refine blk_drew ?_ | refine blk_alloc ?_ _)); refine blk_far ?_ NB273_283.out _; (with_reducible repeat (first | refine blk_drewN ?_ _ | refine blk_drew ?_ | refine blk_alloc ?_ _)); refine blk_far ?_ NB273_283.out _; (with_reducible repeat (first | refine blk_drewN ?_ _ | refine blk_drew ?_ | refine blk_alloc ?_ _)); refine blk_far ?_ NB273_283.out _; (with_reducible repeat (first | refine blk_drewN ?_ _ | refine blk_drew ?_ | refine blk_alloc ?_ _)); refine blk_far ?_ NB273_283.out _; (with_reducible repeat (first | refine blk_drewN ?_ _ | refine blk_drew ?_ | refine blk_alloc ?_ _)); refine blk_far ?_ NB273_283.out _; (with_reducible repeat (first | refine blk_drewN ?_ _ | refine blk_drew ?_ | refine blk_alloc ?_ _)); exact BK273.out) hb); have n1_ := Aside0.mk (blk_below (g := gb274) (o := .cells #[.int .u8 t279, .int .u8 t280, .int .u8 t281, .int .u8 t282] 23 (0, 0)) (by (with_reducible repeat (first | refine blk_drewN ?_ _ | refine blk_drew ?_ | refine blk_alloc ?_ _)); refine blk_far ?_ NB274_283.out _; (with_reducible repeat (first | refine blk_drewN ?_ _ | refine blk_drew ?_ | refine blk_alloc ?_ _)); refine blk_far ?_ NB274_283.out _; (with_reducible repeat (first | refine blk_drewN ?_ _ | refine blk_drew ?_ | refine blk_alloc ?_ _)); refine blk_far ?_ NB274_283.out _; (with_reducible repeat (first | refine blk_drewN ?_ _ | refine blk_drew ?_ | refine blk_alloc ?_ _)); refine blk_far ?_ NB274_283.out _; (with_reducible repeat (first | refine blk_drewN ?_ _ | refine blk_drew ?_ | refine blk_alloc ?_ _)); refine blk_far ?_ NB274_283.out _; (with_reducible repeat (first | refine blk_drewN ?_ _ | refine blk_drew ?_ | refine blk_alloc ?_ _)); exact BK274.out) hb); have n2_ := Aside0.mk (blk_below (g := gb283) (o := .cells #[.int .u8 t275, .int .u8 t276, .int .u8 t277, .int .u8 255] 23 (0, 0)) (by (with_reducible repeat (first | refine blk_drewN ?_ _ | refine blk_drew ?_ | refine blk_alloc ?_ _)); refine blk_put (cs := #[.int .u8 t275, .int .u8 t276, .int .u8 t277, .int .u8 t278]) ?_ 3 _ rfl; (with_reducible repeat (first | refine blk_drewN ?_ _ | refine blk_drew ?_ | refine blk_alloc ?_ _)); refine blk_put (cs := #[.int .u8 t275, .int .u8 t276, .int .u8 t277, .int .u8 0]) ?_ 3 _ rfl; (with_reducible repeat (first | refine blk_drewN ?_ _ | refine blk_drew ?_ | refine blk_alloc ?_ _)); refine blk_put (cs := #[.int .u8 t275, .int .u8 t276, .int .u8 0, .int .u8 0]) ?_ 2 _ rfl; (with_reducible repeat (first | refine blk_drewN ?_ _ | refine blk_drew ?_ | refine blk_alloc ?_ _)); refine blk_put (cs := #[.int .u8 t275, .int .u8 0, .int .u8 0, .int .u8 0]) ?_ 1 _ rfl; (with_reducible repeat (first | refine blk_drewN ?_ _ | refine blk_drew ?_ | refine blk_alloc ?_ _)); refine blk_put (cs := #[.int .u8 0, .int .u8 0, .int .u8 0, .int .u8 0]) ?_ 0 _ rfl; (with_reducible repeat (first | refine blk_drewN ?_ _ | refine blk_drew ?_ | refine blk_alloc ?_ _)); exact BK283.out) hb); have n3_ := hb_ HB hb; clear BK273; clear BK274; clear BK283; clear HB; have BK273 := n0_; have BK274 := n1_; have BK283 := n2_; have HB := n3_; clear n0_ n1_ n2_ n3_; (try clear hb); (try clear hb2); (try clear hk); (try clear hi)) | ((with_reducible refine gate_dst (N := 6) rfl ?_); refine box_event ?hg (N := 6) ?hd (cs := #[.int .u8 0, .int .u8 0, .int .u8 0, .int .u8 0]) (t := 23) ?hr ?_; (case hd => rfl); (case hg => rfl); (case hr => first | (go_simp; done) | (go_simp; rfl)); intro gb288 hg w29 hbox hb; have n0_ := bb_ BK273 hb; have n1_ := bb_ BK274 hb; have n2_ := bb_ BK283 hb; have n3_ := hb_ HB hb; have n4_ := Aside0.mk (hbox); have n5_ := Aside0.mk ((by rw [hg]; exact (below_size (hq_ HB)) : w.heap.size ≤ gb288)); have n6_ := Aside0.mk ((by rw [hg]; exact (below_size (hq_ HB)) : w.heap.size ≤ gb288)); have n7_ := Aside0.mk ((by rw [hg]; exact Nat.ne_of_lt (blk_lt (g := gb273) (o := .cells #[.int .u8 t275, .int .u8 t276, .int .u8 t277, .int .u8 t278] 23 (0, 0)) (bq_ BK273)) : gb273 ≠ gb288)); have n8_ := Aside0.mk ((by rw [hg]; exact Nat.ne_of_gt (blk_lt (g := gb273) (o := .cells #[.int .u8 t275, .int .u8 t276, .int .u8 t277, .int .u8 t278] 23 (0, 0)) (bq_ BK273)) : gb288 ≠ gb273)); have n9_ := Aside0.mk ((by rw [hg]; exact Nat.ne_of_lt (blk_lt (g := gb274) (o := .cells #[.int .u8 t279, .int .u8 t280, .int .u8 t281, .int .u8 t282] 23 (0, 0)) (bq_ BK274)) : gb274 ≠ gb288)); have n10_ := Aside0.mk ((by rw [hg]; exact Nat.ne_of_gt (blk_lt (g := gb274) (o := .cells #[.int .u8 t279, .int .u8 t280, .int .u8 t281, .int .u8 t282] 23 (0, 0)) (bq_ BK274)) : gb288 ≠ gb274)); have n11_ := Aside0.mk ((by rw [hg]; exact Nat.ne_of_lt (blk_lt (g := gb283) (o := .cells #[.int .u8 t275, .int .u8 t276, .int .u8 t277, .int .u8 255] 23 (0, 0)) (bq_ BK283)) : gb283 ≠ gb288)); have n12_ := Aside0.mk ((by rw [hg]; exact Nat.ne_of_gt (blk_lt (g := gb283) (o := .cells #[.int .u8 t275, .int .u8 t276, .int .u8 t277, .int .u8 255] 23 (0, 0)) (bq_ BK283)) : gb288 ≠ gb283)); clear BK273; clear BK274; clear BK283; clear HB; have BK273 := n0_; have BK274 := n1_; have BK283 := n2_; have HB := n3_; have BK288 := n4_; have GW288 := n5_; have GE288 := n6_; have NB273_288 := n7_; have NB288_273 := n8_; have NB274_288 := n9_; have NB288_274 := n10_; have NB283_288 := n11_; have NB288_283 := n12_; clear n0_ n1_ n2_ n3_ n4_ n5_ n6_ n7_ n8_ n9_ n10_ n11_ n12_; clear hb hbox hg; have hnb30 := NB288_273.out; have hnc30 := NB273_288.out; have hnb31 := NB288_274.out; have hnc31 := NB274_288.out; have hnb32 := NB288_283.out; have hnc32 := NB283_288.out; have hcz33_0 : w29.cell? ⟨gb288, 0, none⟩ = some (.int .u8 0) := (blk_cell BK288.out 0).trans rfl; have hcz33_1 : w29.cell? ⟨gb288, 1, none⟩ = some (.int .u8 0) := (blk_cell BK288.out 1).trans rfl; have hcz33_2 : w29.cell? ⟨gb288, 2, none⟩ = some (.int .u8 0) := (blk_cell BK288.out 2).trans rfl; have hcz33_3 : w29.cell? ⟨gb288, 3, none⟩ = some (.int .u8 0) := (blk_cell BK288.out 3).trans rfl; have hfz33_0 := blk_frozen BK288.out 0; have hfz33_1 := blk_frozen BK288.out 1; have hfz33_2 := blk_frozen BK288.out 2; have hfz33_3 := blk_frozen BK288.out 3))
 (try simp only [Act.put, List.setIfInBounds_toArray, List.set_cons_zero, List.set_cons_succ])
 go_cut [69] (fun v69 wc => ∃ (kq : Nat) (x69_5 : Bool), v69 = .bool x69_5 ∧ Aside0 (compositorlaw08_PixelOverIdentities.j0 kq x69_5 t275 t276 t277 t278 t279 t280 t281 t282 t275 t276 t277 255 = some true) ∧ Aside0 (kq ≤ k) ∧ Aside0 (wc.heap[gb273]? = some (.cells #[.int .u8 t275, .int .u8 t276, .int .u8 t277, .int .u8 t278] 23 (0, 0))) ∧ Aside0 (wc.heap[gb274]? = some (.cells #[.int .u8 t279, .int .u8 t280, .int .u8 t281, .int .u8 t282] 23 (0, 0))) ∧ Aside0 (wc.heap[gb283]? = some (.cells #[.int .u8 t275, .int .u8 t276, .int .u8 t277, .int .u8 255] 23 (0, 0))) ∧ Aside0 (wc.heap[gb288]? = some (.cells #[.int .u8 t284, .int .u8 t285, .int .u8 t286, .int .u8 t287] 23 (0, 0))) ∧ Aside0 (Below w.heap.size w wc))
 case first =>
  have H := HC6.out
  clear HC6
  by_cases c34 : t287 < t278
  ·
   rw [if_pos c34] at H
   have c34b0 : decide (t287 < t278) = true := decide_eq_true c34
   clear c34
   (first | rw [c34b0] | (simp only [i64_w, i32_w]; rw [c34b0]) | skip)
   have H' := Aside0.mk H
   clear H
   try go_wp2
   have n0_ : Aside0 (((((w29.setCell ⟨gb288, 0, none⟩ (.int .u8 t284)).setCell ⟨gb288, 1, none⟩ (.int .u8 t285)).setCell ⟨gb288, 2, none⟩ (.int .u8 t286)).setCell ⟨gb288, 3, none⟩ (.int .u8 t287)).heap[gb273]? = some (.cells #[.int .u8 t275, .int .u8 t276, .int .u8 t277, .int .u8 t278] 23 (0, 0))) := bf_ BK273
   have n1_ : Aside0 (((((w29.setCell ⟨gb288, 0, none⟩ (.int .u8 t284)).setCell ⟨gb288, 1, none⟩ (.int .u8 t285)).setCell ⟨gb288, 2, none⟩ (.int .u8 t286)).setCell ⟨gb288, 3, none⟩ (.int .u8 t287)).heap[gb274]? = some (.cells #[.int .u8 t279, .int .u8 t280, .int .u8 t281, .int .u8 t282] 23 (0, 0))) := bf_ BK274
   have n2_ : Aside0 (((((w29.setCell ⟨gb288, 0, none⟩ (.int .u8 t284)).setCell ⟨gb288, 1, none⟩ (.int .u8 t285)).setCell ⟨gb288, 2, none⟩ (.int .u8 t286)).setCell ⟨gb288, 3, none⟩ (.int .u8 t287)).heap[gb283]? = some (.cells #[.int .u8 t275, .int .u8 t276, .int .u8 t277, .int .u8 255] 23 (0, 0))) := bf_ BK283
   have n3_ : Aside0 (((((w29.setCell ⟨gb288, 0, none⟩ (.int .u8 t284)).setCell ⟨gb288, 1, none⟩ (.int .u8 t285)).setCell ⟨gb288, 2, none⟩ (.int .u8 t286)).setCell ⟨gb288, 3, none⟩ (.int .u8 t287)).heap[gb288]? = some (.cells #[.int .u8 t284, .int .u8 t285, .int .u8 t286, .int .u8 t287] 23 (0, 0))) := ⟨by (with_reducible repeat (first | refine blk_drewN ?_ _ | refine blk_drew ?_ | refine blk_alloc ?_ _)); refine blk_put (cs := #[.int .u8 t284, .int .u8 t285, .int .u8 t286, .int .u8 0]) ?_ 3 _ rfl; (with_reducible repeat (first | refine blk_drewN ?_ _ | refine blk_drew ?_ | refine blk_alloc ?_ _)); refine blk_put (cs := #[.int .u8 t284, .int .u8 t285, .int .u8 0, .int .u8 0]) ?_ 2 _ rfl; (with_reducible repeat (first | refine blk_drewN ?_ _ | refine blk_drew ?_ | refine blk_alloc ?_ _)); refine blk_put (cs := #[.int .u8 t284, .int .u8 0, .int .u8 0, .int .u8 0]) ?_ 1 _ rfl; (with_reducible repeat (first | refine blk_drewN ?_ _ | refine blk_drew ?_ | refine blk_alloc ?_ _)); refine blk_put (cs := #[.int .u8 0, .int .u8 0, .int .u8 0, .int .u8 0]) ?_ 0 _ rfl; (with_reducible repeat (first | refine blk_drewN ?_ _ | refine blk_drew ?_ | refine blk_alloc ?_ _)); exact BK288.out⟩
   have n4_ : Aside0 (Below w.heap.size w ((((w29.setCell ⟨gb288, 0, none⟩ (.int .u8 t284)).setCell ⟨gb288, 1, none⟩ (.int .u8 t285)).setCell ⟨gb288, 2, none⟩ (.int .u8 t286)).setCell ⟨gb288, 3, none⟩ (.int .u8 t287))) := ⟨by repeat (first | (with_reducible first | exact HB.out | apply below_alloc | apply pw_below_drewN | apply below_drew1 | refine below_set ?_ GE273.out | refine below_set ?_ GE274.out | refine below_set ?_ GE283.out | refine below_set ?_ GE288.out) | exact HB.out)⟩
   (try clear BK273)
   (try clear BK274)
   (try clear BK283)
   (try clear BK288)
   (try clear HB)
   generalize ((((w29.setCell ⟨gb288, 0, none⟩ (.int .u8 t284)).setCell ⟨gb288, 1, none⟩ (.int .u8 t285)).setCell ⟨gb288, 2, none⟩ (.int .u8 t286)).setCell ⟨gb288, 3, none⟩ (.int .u8 t287)) = w35 at n0_ n1_ n2_ n3_ n4_ ⊢
   have BK273 := n0_
   have BK274 := n1_
   have BK283 := n2_
   have BK288 := n3_
   have HB := n4_
   clear n0_ n1_ n2_ n3_ n4_
   replace BK273 := Aside0.mk (blk_drew BK273.out)
   replace BK274 := Aside0.mk (blk_drew BK274.out)
   replace BK283 := Aside0.mk (blk_drew BK283.out)
   replace BK288 := Aside0.mk (blk_drew BK288.out)
   replace HB := Aside0.mk (below_drew1 HB.out)
   refine start_ (n := 54) (S := fun w' => w'.cell? ⟨gb288, 0, none⟩ = some (.int .u8 t284) ∧ w'.cell? ⟨gb288, 1, none⟩ = some (.int .u8 t285) ∧ w'.cell? ⟨gb288, 2, none⟩ = some (.int .u8 t286) ∧ w'.cell? ⟨gb288, 3, none⟩ = some (.int .u8 t287) ∧ w'.cell? ⟨gb273, 0, none⟩ = some (.int .u8 t275) ∧ w'.cell? ⟨gb273, 1, none⟩ = some (.int .u8 t276) ∧ w'.cell? ⟨gb273, 2, none⟩ = some (.int .u8 t277) ∧ w'.cell? ⟨gb273, 3, none⟩ = some (.int .u8 t278)) (ds := []) zq6.q0 (by kernel_rfl) rfl rfl (a4_ BK288 (h4_ BK273)) (fun hHeld => ?_); refine with_tabW compositorlaw08_PixelOverIdentities.tab5 compositorlaw08_PixelOverIdentities.bits5 (fun HT_ HW_ => ?_)
   generalize w35.drew = w36 at BK273 BK274 BK283 BK288 HB hHeld ⊢
   refine pv_ 0 16 zq6.q1 HT_ ?_
   refine pv_ 2 18 zq6.q2 HT_ ?_
   refine take_ (i := 1) (N := some 17) (v := ?_) (a' := ?_) zq6.q3 rfl rfl (take_ofW HT_.out HW_.out (by kernel_rfl)) (fun _ _ _ h => h) (Or.inl ⟨by rfl, ?_⟩) hHeld ?_ ?_
   rotate_left
   ·
    rintro w' ⟨s0, s1, s2, s3, s4, s5, s6, s7⟩
    go_simp
    with_reducible rfl
   rotate_left
   ·
    simp only [Act.put, List.setIfInBounds_toArray, List.set_cons_zero, List.set_cons_succ, i64_w, i32_w]
    rfl
   refine take_ (i := 3) (N := some 19) (v := ?_) (a' := ?_) zq6.q4 rfl rfl (take_ofW HT_.out HW_.out (by kernel_rfl)) (fun _ _ _ h => h) (Or.inl ⟨by rfl, ?_⟩) hHeld ?_ ?_
   rotate_left
   ·
    rintro w' ⟨s0, s1, s2, s3, s4, s5, s6, s7⟩
    go_simp
    with_reducible rfl
   rotate_left
   ·
    simp only [Act.put, List.setIfInBounds_toArray, List.set_cons_zero, List.set_cons_succ, i64_w, i32_w]
    rfl
   refine pv_ 4 20 zq6.q5 HT_ ?_
   refine pv_ 5 21 zq6.q6 HT_ ?_
   refine pu_ 6 22 zq6.q7 HT_ ?_
   refine pu_ 7 23 zq6.q8 HT_ ?_
   refine pu_ 8 24 zq6.q9 HT_ ?_
   refine pu_ 9 25 zq6.q10 HT_ ?_
   refine pu_ 10 26 zq6.q11 HT_ ?_
   refine pv_ 11 27 zq6.q12 HT_ ?_
   refine pv_ 12 28 zq6.q13 HT_ ?_
   refine pu_ 13 29 zq6.q14 HT_ ?_
   refine pu_ 14 30 zq6.q15 HT_ ?_
   refine pu_ 15 31 zq6.q16 HT_ ?_
   refine pu_ 16 32 zq6.q17 HT_ ?_
   refine pu_ 17 33 zq6.q18 HT_ ?_
   refine pv_ 18 34 zq6.q19 HT_ ?_
   refine pv_ 19 35 zq6.q20 HT_ ?_
   refine pu_ 20 36 zq6.q21 HT_ ?_
   refine pu_ 21 37 zq6.q22 HT_ ?_
   refine pu_ 22 38 zq6.q23 HT_ ?_
   refine pu_ 23 39 zq6.q24 HT_ ?_
   refine pu_ 24 40 zq6.q25 HT_ ?_
   refine pv_ 25 41 zq6.q26 HT_ ?_
   refine pv_ 26 42 zq6.q27 HT_ ?_
   refine pu_ 27 43 zq6.q28 HT_ ?_
   refine pu_ 28 44 zq6.q29 HT_ ?_
   refine pu_ 29 45 zq6.q30 HT_ ?_
   refine pu_ 30 46 zq6.q31 HT_ ?_
   refine pu_ 31 47 zq6.q32 HT_ ?_
   refine pv_ 32 48 zq6.q33 HT_ ?_
   refine pv_ 33 49 zq6.q34 HT_ ?_
   refine pu_ 34 50 zq6.q35 HT_ ?_
   refine pu_ 35 51 zq6.q36 HT_ ?_
   refine pu_ 36 52 zq6.q37 HT_ ?_
   refine pu_ 37 53 zq6.q38 HT_ ?_
   refine pu_ 38 54 zq6.q39 HT_ ?_
   refine pu_ 39 55 zq6.q40 HT_ ?_
   refine pv_ 40 56 zq6.q41 HT_ ?_
   refine pv_ 41 57 zq6.q42 HT_ ?_
   refine pu_ 42 58 zq6.q43 HT_ ?_
   refine pu_ 43 59 zq6.q44 HT_ ?_
   refine pu_ 44 60 zq6.q45 HT_ ?_
   refine pu_ 45 61 zq6.q46 HT_ ?_
   refine pu_ 46 62 zq6.q47 HT_ ?_
   refine pu_ 47 63 zq6.q48 HT_ ?_
   refine pu_ 48 64 zq6.q49 HT_ ?_
   refine pu_ 49 65 zq6.q50 HT_ ?_
   refine pu_ 50 66 zq6.q51 HT_ ?_
   refine pu_ 51 67 zq6.q52 HT_ ?_
   refine pu_ 52 68 zq6.q53 HT_ ?_
   refine pv_ 53 69 zq6.q54 HT_ ?_
   refine done_ (done_of HT_.out (by kernel_rfl)) ?_
   try go_wp2
   go_meet
   case rel => exact ⟨_, (true), (by first | rfl | (simp; done) | (simp [*]; done)), H', ⟨by first | omega | exact Nat.le_refl _⟩, bf_ BK273, bf_ BK274, bf_ BK283, bf_ BK288, ⟨by repeat (first | (with_reducible first | exact HB.out | apply below_alloc | apply pw_below_drewN | apply below_drew1 | refine below_set ?_ GE273.out | refine below_set ?_ GE274.out | refine below_set ?_ GE283.out | refine below_set ?_ GE288.out) | exact HB.out)⟩⟩
  ·
   rw [if_neg c34] at H
   have c34b0 : decide (t287 < t278) = false := decide_eq_false c34
   clear c34
   (first | rw [c34b0] | (simp only [i64_w, i32_w]; rw [c34b0]) | skip)
   by_cases c37 : t287 < t282
   ·
    rw [if_pos c37] at H
    have c37b0 : decide (t287 < t282) = true := decide_eq_true c37
    clear c37
    have H' := Aside0.mk H
    clear H
    try go_wp2
    have n0_ : Aside0 (((((w29.setCell ⟨gb288, 0, none⟩ (.int .u8 t284)).setCell ⟨gb288, 1, none⟩ (.int .u8 t285)).setCell ⟨gb288, 2, none⟩ (.int .u8 t286)).setCell ⟨gb288, 3, none⟩ (.int .u8 t287)).heap[gb273]? = some (.cells #[.int .u8 t275, .int .u8 t276, .int .u8 t277, .int .u8 t278] 23 (0, 0))) := bf_ BK273
    have n1_ : Aside0 (((((w29.setCell ⟨gb288, 0, none⟩ (.int .u8 t284)).setCell ⟨gb288, 1, none⟩ (.int .u8 t285)).setCell ⟨gb288, 2, none⟩ (.int .u8 t286)).setCell ⟨gb288, 3, none⟩ (.int .u8 t287)).heap[gb274]? = some (.cells #[.int .u8 t279, .int .u8 t280, .int .u8 t281, .int .u8 t282] 23 (0, 0))) := bf_ BK274
    have n2_ : Aside0 (((((w29.setCell ⟨gb288, 0, none⟩ (.int .u8 t284)).setCell ⟨gb288, 1, none⟩ (.int .u8 t285)).setCell ⟨gb288, 2, none⟩ (.int .u8 t286)).setCell ⟨gb288, 3, none⟩ (.int .u8 t287)).heap[gb283]? = some (.cells #[.int .u8 t275, .int .u8 t276, .int .u8 t277, .int .u8 255] 23 (0, 0))) := bf_ BK283
    have n3_ : Aside0 (((((w29.setCell ⟨gb288, 0, none⟩ (.int .u8 t284)).setCell ⟨gb288, 1, none⟩ (.int .u8 t285)).setCell ⟨gb288, 2, none⟩ (.int .u8 t286)).setCell ⟨gb288, 3, none⟩ (.int .u8 t287)).heap[gb288]? = some (.cells #[.int .u8 t284, .int .u8 t285, .int .u8 t286, .int .u8 t287] 23 (0, 0))) := ⟨by (with_reducible repeat (first | refine blk_drewN ?_ _ | refine blk_drew ?_ | refine blk_alloc ?_ _)); refine blk_put (cs := #[.int .u8 t284, .int .u8 t285, .int .u8 t286, .int .u8 0]) ?_ 3 _ rfl; (with_reducible repeat (first | refine blk_drewN ?_ _ | refine blk_drew ?_ | refine blk_alloc ?_ _)); refine blk_put (cs := #[.int .u8 t284, .int .u8 t285, .int .u8 0, .int .u8 0]) ?_ 2 _ rfl; (with_reducible repeat (first | refine blk_drewN ?_ _ | refine blk_drew ?_ | refine blk_alloc ?_ _)); refine blk_put (cs := #[.int .u8 t284, .int .u8 0, .int .u8 0, .int .u8 0]) ?_ 1 _ rfl; (with_reducible repeat (first | refine blk_drewN ?_ _ | refine blk_drew ?_ | refine blk_alloc ?_ _)); refine blk_put (cs := #[.int .u8 0, .int .u8 0, .int .u8 0, .int .u8 0]) ?_ 0 _ rfl; (with_reducible repeat (first | refine blk_drewN ?_ _ | refine blk_drew ?_ | refine blk_alloc ?_ _)); exact BK288.out⟩
    have n4_ : Aside0 (Below w.heap.size w ((((w29.setCell ⟨gb288, 0, none⟩ (.int .u8 t284)).setCell ⟨gb288, 1, none⟩ (.int .u8 t285)).setCell ⟨gb288, 2, none⟩ (.int .u8 t286)).setCell ⟨gb288, 3, none⟩ (.int .u8 t287))) := ⟨by repeat (first | (with_reducible first | exact HB.out | apply below_alloc | apply pw_below_drewN | apply below_drew1 | refine below_set ?_ GE273.out | refine below_set ?_ GE274.out | refine below_set ?_ GE283.out | refine below_set ?_ GE288.out) | exact HB.out)⟩
    (try clear BK273)
    (try clear BK274)
    (try clear BK283)
    (try clear BK288)
    (try clear HB)
    generalize ((((w29.setCell ⟨gb288, 0, none⟩ (.int .u8 t284)).setCell ⟨gb288, 1, none⟩ (.int .u8 t285)).setCell ⟨gb288, 2, none⟩ (.int .u8 t286)).setCell ⟨gb288, 3, none⟩ (.int .u8 t287)) = w38 at n0_ n1_ n2_ n3_ n4_ ⊢
    have BK273 := n0_
    have BK274 := n1_
    have BK283 := n2_
    have BK288 := n3_
    have HB := n4_
    clear n0_ n1_ n2_ n3_ n4_
    replace BK273 := Aside0.mk (blk_drew BK273.out)
    replace BK274 := Aside0.mk (blk_drew BK274.out)
    replace BK283 := Aside0.mk (blk_drew BK283.out)
    replace BK288 := Aside0.mk (blk_drew BK288.out)
    replace HB := Aside0.mk (below_drew1 HB.out)
    refine start_ (n := 54) (S := fun w' => w'.cell? ⟨gb288, 0, none⟩ = some (.int .u8 t284) ∧ w'.cell? ⟨gb288, 1, none⟩ = some (.int .u8 t285) ∧ w'.cell? ⟨gb288, 2, none⟩ = some (.int .u8 t286) ∧ w'.cell? ⟨gb288, 3, none⟩ = some (.int .u8 t287) ∧ w'.cell? ⟨gb273, 0, none⟩ = some (.int .u8 t275) ∧ w'.cell? ⟨gb273, 1, none⟩ = some (.int .u8 t276) ∧ w'.cell? ⟨gb273, 2, none⟩ = some (.int .u8 t277) ∧ w'.cell? ⟨gb273, 3, none⟩ = some (.int .u8 t278) ∧ w'.cell? ⟨gb274, 0, none⟩ = some (.int .u8 t279) ∧ w'.cell? ⟨gb274, 1, none⟩ = some (.int .u8 t280) ∧ w'.cell? ⟨gb274, 2, none⟩ = some (.int .u8 t281) ∧ w'.cell? ⟨gb274, 3, none⟩ = some (.int .u8 t282)) (ds := []) zq6.q0 (by kernel_rfl) rfl rfl (a4_ BK288 (a4_ BK273 (h4_ BK274))) (fun hHeld => ?_); refine with_tabW compositorlaw08_PixelOverIdentities.tab5 compositorlaw08_PixelOverIdentities.bits5 (fun HT_ HW_ => ?_)
    generalize w38.drew = w39 at BK273 BK274 BK283 BK288 HB hHeld ⊢
    refine pv_ 0 16 zq6.q1 HT_ ?_
    refine pv_ 2 18 zq6.q2 HT_ ?_
    refine take_ (i := 1) (N := some 17) (v := ?_) (a' := ?_) zq6.q3 rfl rfl (take_ofW HT_.out HW_.out (by kernel_rfl)) (fun _ _ _ h => h) (Or.inl ⟨by rfl, ?_⟩) hHeld ?_ ?_
    rotate_left
    ·
     rintro w' ⟨s0, s1, s2, s3, s4, s5, s6, s7, s8, s9, s10, s11⟩
     go_simp
     with_reducible rfl
    rotate_left
    ·
     simp only [Act.put, List.setIfInBounds_toArray, List.set_cons_zero, List.set_cons_succ, i64_w, i32_w]
     rfl
    refine take_ (i := 3) (N := some 19) (v := ?_) (a' := ?_) zq6.q4 rfl rfl (take_ofW HT_.out HW_.out (by kernel_rfl)) (fun _ _ _ h => h) (Or.inl ⟨by rfl, ?_⟩) hHeld ?_ ?_
    rotate_left
    ·
     rintro w' ⟨s0, s1, s2, s3, s4, s5, s6, s7, s8, s9, s10, s11⟩
     go_simp
     with_reducible rfl
    rotate_left
    ·
     simp only [Act.put, List.setIfInBounds_toArray, List.set_cons_zero, List.set_cons_succ, i64_w, i32_w]
     rfl
    refine pv_ 4 20 zq6.q5 HT_ ?_
    refine pv_ 5 21 zq6.q6 HT_ ?_
    refine pv_ 6 22 zq6.q7 HT_ ?_
    refine pv_ 8 24 zq6.q55 HT_ ?_
    refine take_ (i := 7) (N := some 23) (v := ?_) (a' := ?_) zq6.q9 rfl rfl (take_ofW HT_.out HW_.out (by kernel_rfl)) (fun _ _ _ h => h) (Or.inl ⟨by rfl, ?_⟩) hHeld ?_ ?_
    rotate_left
    ·
     rintro w' ⟨s0, s1, s2, s3, s4, s5, s6, s7, s8, s9, s10, s11⟩
     go_simp
     with_reducible rfl
    rotate_left
    ·
     simp only [Act.put, List.setIfInBounds_toArray, List.set_cons_zero, List.set_cons_succ, i64_w, i32_w]
     rfl
    refine take_ (i := 9) (N := some 25) (v := ?_) (a' := ?_) zq6.q10 rfl rfl (take_ofW HT_.out HW_.out (by kernel_rfl)) (fun _ _ _ h => h) (Or.inl ⟨by rfl, ?_⟩) hHeld ?_ ?_
    rotate_left
    ·
     rintro w' ⟨s0, s1, s2, s3, s4, s5, s6, s7, s8, s9, s10, s11⟩
     go_simp
     with_reducible rfl
    rotate_left
    ·
     simp only [Act.put, List.setIfInBounds_toArray, List.set_cons_zero, List.set_cons_succ, i64_w, i32_w]
     rfl
    refine pv_ 10 26 zq6.q11 HT_ ?_
    refine pv_ 11 27 zq6.q12 HT_ ?_
    refine pv_ 12 28 zq6.q13 HT_ ?_
    refine pu_ 13 29 zq6.q14 HT_ ?_
    refine pu_ 14 30 zq6.q15 HT_ ?_
    refine pu_ 15 31 zq6.q16 HT_ ?_
    refine pu_ 16 32 zq6.q17 HT_ ?_
    refine pu_ 17 33 zq6.q18 HT_ ?_
    refine pv_ 18 34 zq6.q19 HT_ ?_
    refine pv_ 19 35 zq6.q20 HT_ ?_
    refine pu_ 20 36 zq6.q21 HT_ ?_
    refine pu_ 21 37 zq6.q22 HT_ ?_
    refine pu_ 22 38 zq6.q23 HT_ ?_
    refine pu_ 23 39 zq6.q24 HT_ ?_
    refine pu_ 24 40 zq6.q25 HT_ ?_
    refine pv_ 25 41 zq6.q26 HT_ ?_
    refine pv_ 26 42 zq6.q27 HT_ ?_
    refine pu_ 27 43 zq6.q28 HT_ ?_
    refine pu_ 28 44 zq6.q29 HT_ ?_
    refine pu_ 29 45 zq6.q30 HT_ ?_
    refine pu_ 30 46 zq6.q31 HT_ ?_
    refine pu_ 31 47 zq6.q32 HT_ ?_
    refine pv_ 32 48 zq6.q33 HT_ ?_
    refine pv_ 33 49 zq6.q34 HT_ ?_
    refine pu_ 34 50 zq6.q35 HT_ ?_
    refine pu_ 35 51 zq6.q36 HT_ ?_
    refine pu_ 36 52 zq6.q37 HT_ ?_
    refine pu_ 37 53 zq6.q38 HT_ ?_
    refine pu_ 38 54 zq6.q39 HT_ ?_
    refine pu_ 39 55 zq6.q40 HT_ ?_
    refine pv_ 40 56 zq6.q41 HT_ ?_
    refine pv_ 41 57 zq6.q42 HT_ ?_
    refine pu_ 42 58 zq6.q43 HT_ ?_
    refine pu_ 43 59 zq6.q44 HT_ ?_
    refine pu_ 44 60 zq6.q45 HT_ ?_
    refine pu_ 45 61 zq6.q46 HT_ ?_
    refine pu_ 46 62 zq6.q47 HT_ ?_
    refine pu_ 47 63 zq6.q48 HT_ ?_
    refine pu_ 48 64 zq6.q49 HT_ ?_
    refine pu_ 49 65 zq6.q50 HT_ ?_
    refine pu_ 50 66 zq6.q51 HT_ ?_
    refine pu_ 51 67 zq6.q52 HT_ ?_
    refine pu_ 52 68 zq6.q53 HT_ ?_
    refine pv_ 53 69 zq6.q54 HT_ ?_
    refine done_ (done_of HT_.out (by kernel_rfl)) ?_
    try go_wp2
    go_meet
    case rel => exact ⟨_, (true), (by first | rfl | (simp; done) | (simp [*]; done)), H', ⟨by first | omega | exact Nat.le_refl _⟩, bf_ BK273, bf_ BK274, bf_ BK283, bf_ BK288, ⟨by repeat (first | (with_reducible first | exact HB.out | apply below_alloc | apply pw_below_drewN | apply below_drew1 | refine below_set ?_ GE273.out | refine below_set ?_ GE274.out | refine below_set ?_ GE283.out | refine below_set ?_ GE288.out) | exact HB.out)⟩⟩
   ·
    rw [if_neg c37] at H
    have c37b0 : decide (t287 < t282) = false := decide_eq_false c37
    clear c37
    by_cases c40 : t284 < t275
    ·
     rw [if_pos c40] at H
     have c40b0 : decide (t284 < t275) = true := decide_eq_true c40
     clear c40
     have H' := Aside0.mk H
     clear H
     try go_wp2
     have n0_ : Aside0 (((((w29.setCell ⟨gb288, 0, none⟩ (.int .u8 t284)).setCell ⟨gb288, 1, none⟩ (.int .u8 t285)).setCell ⟨gb288, 2, none⟩ (.int .u8 t286)).setCell ⟨gb288, 3, none⟩ (.int .u8 t287)).heap[gb273]? = some (.cells #[.int .u8 t275, .int .u8 t276, .int .u8 t277, .int .u8 t278] 23 (0, 0))) := bf_ BK273
     have n1_ : Aside0 (((((w29.setCell ⟨gb288, 0, none⟩ (.int .u8 t284)).setCell ⟨gb288, 1, none⟩ (.int .u8 t285)).setCell ⟨gb288, 2, none⟩ (.int .u8 t286)).setCell ⟨gb288, 3, none⟩ (.int .u8 t287)).heap[gb274]? = some (.cells #[.int .u8 t279, .int .u8 t280, .int .u8 t281, .int .u8 t282] 23 (0, 0))) := bf_ BK274
     have n2_ : Aside0 (((((w29.setCell ⟨gb288, 0, none⟩ (.int .u8 t284)).setCell ⟨gb288, 1, none⟩ (.int .u8 t285)).setCell ⟨gb288, 2, none⟩ (.int .u8 t286)).setCell ⟨gb288, 3, none⟩ (.int .u8 t287)).heap[gb283]? = some (.cells #[.int .u8 t275, .int .u8 t276, .int .u8 t277, .int .u8 255] 23 (0, 0))) := bf_ BK283
     have n3_ : Aside0 (((((w29.setCell ⟨gb288, 0, none⟩ (.int .u8 t284)).setCell ⟨gb288, 1, none⟩ (.int .u8 t285)).setCell ⟨gb288, 2, none⟩ (.int .u8 t286)).setCell ⟨gb288, 3, none⟩ (.int .u8 t287)).heap[gb288]? = some (.cells #[.int .u8 t284, .int .u8 t285, .int .u8 t286, .int .u8 t287] 23 (0, 0))) := ⟨by (with_reducible repeat (first | refine blk_drewN ?_ _ | refine blk_drew ?_ | refine blk_alloc ?_ _)); refine blk_put (cs := #[.int .u8 t284, .int .u8 t285, .int .u8 t286, .int .u8 0]) ?_ 3 _ rfl; (with_reducible repeat (first | refine blk_drewN ?_ _ | refine blk_drew ?_ | refine blk_alloc ?_ _)); refine blk_put (cs := #[.int .u8 t284, .int .u8 t285, .int .u8 0, .int .u8 0]) ?_ 2 _ rfl; (with_reducible repeat (first | refine blk_drewN ?_ _ | refine blk_drew ?_ | refine blk_alloc ?_ _)); refine blk_put (cs := #[.int .u8 t284, .int .u8 0, .int .u8 0, .int .u8 0]) ?_ 1 _ rfl; (with_reducible repeat (first | refine blk_drewN ?_ _ | refine blk_drew ?_ | refine blk_alloc ?_ _)); refine blk_put (cs := #[.int .u8 0, .int .u8 0, .int .u8 0, .int .u8 0]) ?_ 0 _ rfl; (with_reducible repeat (first | refine blk_drewN ?_ _ | refine blk_drew ?_ | refine blk_alloc ?_ _)); exact BK288.out⟩
     have n4_ : Aside0 (Below w.heap.size w ((((w29.setCell ⟨gb288, 0, none⟩ (.int .u8 t284)).setCell ⟨gb288, 1, none⟩ (.int .u8 t285)).setCell ⟨gb288, 2, none⟩ (.int .u8 t286)).setCell ⟨gb288, 3, none⟩ (.int .u8 t287))) := ⟨by repeat (first | (with_reducible first | exact HB.out | apply below_alloc | apply pw_below_drewN | apply below_drew1 | refine below_set ?_ GE273.out | refine below_set ?_ GE274.out | refine below_set ?_ GE283.out | refine below_set ?_ GE288.out) | exact HB.out)⟩
     (try clear BK273)
     (try clear BK274)
     (try clear BK283)
     (try clear BK288)
     (try clear HB)
     generalize ((((w29.setCell ⟨gb288, 0, none⟩ (.int .u8 t284)).setCell ⟨gb288, 1, none⟩ (.int .u8 t285)).setCell ⟨gb288, 2, none⟩ (.int .u8 t286)).setCell ⟨gb288, 3, none⟩ (.int .u8 t287)) = w41 at n0_ n1_ n2_ n3_ n4_ ⊢
     have BK273 := n0_
     have BK274 := n1_
     have BK283 := n2_
     have BK288 := n3_
     have HB := n4_
     clear n0_ n1_ n2_ n3_ n4_
     replace BK273 := Aside0.mk (blk_drew BK273.out)
     replace BK274 := Aside0.mk (blk_drew BK274.out)
     replace BK283 := Aside0.mk (blk_drew BK283.out)
     replace BK288 := Aside0.mk (blk_drew BK288.out)
     replace HB := Aside0.mk (below_drew1 HB.out)
     refine start_ (n := 54) (S := fun w' => w'.cell? ⟨gb288, 0, none⟩ = some (.int .u8 t284) ∧ w'.cell? ⟨gb288, 1, none⟩ = some (.int .u8 t285) ∧ w'.cell? ⟨gb288, 2, none⟩ = some (.int .u8 t286) ∧ w'.cell? ⟨gb288, 3, none⟩ = some (.int .u8 t287) ∧ w'.cell? ⟨gb273, 0, none⟩ = some (.int .u8 t275) ∧ w'.cell? ⟨gb273, 1, none⟩ = some (.int .u8 t276) ∧ w'.cell? ⟨gb273, 2, none⟩ = some (.int .u8 t277) ∧ w'.cell? ⟨gb273, 3, none⟩ = some (.int .u8 t278) ∧ w'.cell? ⟨gb274, 0, none⟩ = some (.int .u8 t279) ∧ w'.cell? ⟨gb274, 1, none⟩ = some (.int .u8 t280) ∧ w'.cell? ⟨gb274, 2, none⟩ = some (.int .u8 t281) ∧ w'.cell? ⟨gb274, 3, none⟩ = some (.int .u8 t282)) (ds := []) zq6.q0 (by kernel_rfl) rfl rfl (a4_ BK288 (a4_ BK273 (h4_ BK274))) (fun hHeld => ?_); refine with_tabW compositorlaw08_PixelOverIdentities.tab5 compositorlaw08_PixelOverIdentities.bits5 (fun HT_ HW_ => ?_)
     generalize w41.drew = w42 at BK273 BK274 BK283 BK288 HB hHeld ⊢
     refine pv_ 0 16 zq6.q1 HT_ ?_
     refine pv_ 2 18 zq6.q2 HT_ ?_
     refine take_ (i := 1) (N := some 17) (v := ?_) (a' := ?_) zq6.q3 rfl rfl (take_ofW HT_.out HW_.out (by kernel_rfl)) (fun _ _ _ h => h) (Or.inl ⟨by rfl, ?_⟩) hHeld ?_ ?_
     rotate_left
     ·
      rintro w' ⟨s0, s1, s2, s3, s4, s5, s6, s7, s8, s9, s10, s11⟩
      go_simp
      with_reducible rfl
     rotate_left
     ·
      simp only [Act.put, List.setIfInBounds_toArray, List.set_cons_zero, List.set_cons_succ, i64_w, i32_w]
      rfl
     refine take_ (i := 3) (N := some 19) (v := ?_) (a' := ?_) zq6.q4 rfl rfl (take_ofW HT_.out HW_.out (by kernel_rfl)) (fun _ _ _ h => h) (Or.inl ⟨by rfl, ?_⟩) hHeld ?_ ?_
     rotate_left
     ·
      rintro w' ⟨s0, s1, s2, s3, s4, s5, s6, s7, s8, s9, s10, s11⟩
      go_simp
      with_reducible rfl
     rotate_left
     ·
      simp only [Act.put, List.setIfInBounds_toArray, List.set_cons_zero, List.set_cons_succ, i64_w, i32_w]
      rfl
     refine pv_ 4 20 zq6.q5 HT_ ?_
     refine pv_ 5 21 zq6.q6 HT_ ?_
     refine pv_ 6 22 zq6.q7 HT_ ?_
     refine pv_ 8 24 zq6.q55 HT_ ?_
     refine take_ (i := 7) (N := some 23) (v := ?_) (a' := ?_) zq6.q9 rfl rfl (take_ofW HT_.out HW_.out (by kernel_rfl)) (fun _ _ _ h => h) (Or.inl ⟨by rfl, ?_⟩) hHeld ?_ ?_
     rotate_left
     ·
      rintro w' ⟨s0, s1, s2, s3, s4, s5, s6, s7, s8, s9, s10, s11⟩
      go_simp
      with_reducible rfl
     rotate_left
     ·
      simp only [Act.put, List.setIfInBounds_toArray, List.set_cons_zero, List.set_cons_succ, i64_w, i32_w]
      rfl
     refine take_ (i := 9) (N := some 25) (v := ?_) (a' := ?_) zq6.q10 rfl rfl (take_ofW HT_.out HW_.out (by kernel_rfl)) (fun _ _ _ h => h) (Or.inl ⟨by rfl, ?_⟩) hHeld ?_ ?_
     rotate_left
     ·
      rintro w' ⟨s0, s1, s2, s3, s4, s5, s6, s7, s8, s9, s10, s11⟩
      go_simp
      with_reducible rfl
     rotate_left
     ·
      simp only [Act.put, List.setIfInBounds_toArray, List.set_cons_zero, List.set_cons_succ, i64_w, i32_w]
      rfl
     refine pv_ 10 26 zq6.q11 HT_ ?_
     refine pv_ 11 27 zq6.q12 HT_ ?_
     refine pv_ 12 28 zq6.q13 HT_ ?_
     refine pv_ 13 29 zq6.q14 HT_ ?_
     refine pv_ 15 31 zq6.q56 HT_ ?_
     refine take_ (i := 14) (N := some 30) (v := ?_) (a' := ?_) zq6.q16 rfl rfl (take_ofW HT_.out HW_.out (by kernel_rfl)) (fun _ _ _ h => h) (Or.inl ⟨by rfl, ?_⟩) hHeld ?_ ?_
     rotate_left
     ·
      rintro w' ⟨s0, s1, s2, s3, s4, s5, s6, s7, s8, s9, s10, s11⟩
      go_simp
      with_reducible rfl
     rotate_left
     ·
      simp only [Act.put, List.setIfInBounds_toArray, List.set_cons_zero, List.set_cons_succ, i64_w, i32_w]
      rfl
     refine take_ (i := 16) (N := some 32) (v := ?_) (a' := ?_) zq6.q17 rfl rfl (take_ofW HT_.out HW_.out (by kernel_rfl)) (fun _ _ _ h => h) (Or.inl ⟨by rfl, ?_⟩) hHeld ?_ ?_
     rotate_left
     ·
      rintro w' ⟨s0, s1, s2, s3, s4, s5, s6, s7, s8, s9, s10, s11⟩
      go_simp
      with_reducible rfl
     rotate_left
     ·
      simp only [Act.put, List.setIfInBounds_toArray, List.set_cons_zero, List.set_cons_succ, i64_w, i32_w]
      rfl
     refine pv_ 17 33 zq6.q18 HT_ ?_
     refine pv_ 18 34 zq6.q19 HT_ ?_
     refine pv_ 19 35 zq6.q20 HT_ ?_
     refine pu_ 20 36 zq6.q21 HT_ ?_
     refine pu_ 21 37 zq6.q22 HT_ ?_
     refine pu_ 22 38 zq6.q23 HT_ ?_
     refine pu_ 23 39 zq6.q24 HT_ ?_
     refine pu_ 24 40 zq6.q25 HT_ ?_
     refine pv_ 25 41 zq6.q26 HT_ ?_
     refine pv_ 26 42 zq6.q27 HT_ ?_
     refine pu_ 27 43 zq6.q28 HT_ ?_
     refine pu_ 28 44 zq6.q29 HT_ ?_
     refine pu_ 29 45 zq6.q30 HT_ ?_
     refine pu_ 30 46 zq6.q31 HT_ ?_
     refine pu_ 31 47 zq6.q32 HT_ ?_
     refine pv_ 32 48 zq6.q33 HT_ ?_
     refine pv_ 33 49 zq6.q34 HT_ ?_
     refine pu_ 34 50 zq6.q35 HT_ ?_
     refine pu_ 35 51 zq6.q36 HT_ ?_
     refine pu_ 36 52 zq6.q37 HT_ ?_
     refine pu_ 37 53 zq6.q38 HT_ ?_
     refine pu_ 38 54 zq6.q39 HT_ ?_
     refine pu_ 39 55 zq6.q40 HT_ ?_
     refine pv_ 40 56 zq6.q41 HT_ ?_
     refine pv_ 41 57 zq6.q42 HT_ ?_
     refine pu_ 42 58 zq6.q43 HT_ ?_
     refine pu_ 43 59 zq6.q44 HT_ ?_
     refine pu_ 44 60 zq6.q45 HT_ ?_
     refine pu_ 45 61 zq6.q46 HT_ ?_
     refine pu_ 46 62 zq6.q47 HT_ ?_
     refine pu_ 47 63 zq6.q48 HT_ ?_
     refine pu_ 48 64 zq6.q49 HT_ ?_
     refine pu_ 49 65 zq6.q50 HT_ ?_
     refine pu_ 50 66 zq6.q51 HT_ ?_
     refine pu_ 51 67 zq6.q52 HT_ ?_
     refine pu_ 52 68 zq6.q53 HT_ ?_
     refine pv_ 53 69 zq6.q54 HT_ ?_
     refine done_ (done_of HT_.out (by kernel_rfl)) ?_
     try go_wp2
     go_meet
     case rel => exact ⟨_, (true), (by first | rfl | (simp; done) | (simp [*]; done)), H', ⟨by first | omega | exact Nat.le_refl _⟩, bf_ BK273, bf_ BK274, bf_ BK283, bf_ BK288, ⟨by repeat (first | (with_reducible first | exact HB.out | apply below_alloc | apply pw_below_drewN | apply below_drew1 | refine below_set ?_ GE273.out | refine below_set ?_ GE274.out | refine below_set ?_ GE283.out | refine below_set ?_ GE288.out) | exact HB.out)⟩⟩
    ·
     rw [if_neg c40] at H
     have c40b0 : decide (t284 < t275) = false := decide_eq_false c40
     clear c40
     by_cases c43 : t285 < t276
     ·
      rw [if_pos c43] at H
      have c43b0 : decide (t285 < t276) = true := decide_eq_true c43
      clear c43
      have H' := Aside0.mk H
      clear H
      try go_wp2
      have n0_ : Aside0 (((((w29.setCell ⟨gb288, 0, none⟩ (.int .u8 t284)).setCell ⟨gb288, 1, none⟩ (.int .u8 t285)).setCell ⟨gb288, 2, none⟩ (.int .u8 t286)).setCell ⟨gb288, 3, none⟩ (.int .u8 t287)).heap[gb273]? = some (.cells #[.int .u8 t275, .int .u8 t276, .int .u8 t277, .int .u8 t278] 23 (0, 0))) := bf_ BK273
      have n1_ : Aside0 (((((w29.setCell ⟨gb288, 0, none⟩ (.int .u8 t284)).setCell ⟨gb288, 1, none⟩ (.int .u8 t285)).setCell ⟨gb288, 2, none⟩ (.int .u8 t286)).setCell ⟨gb288, 3, none⟩ (.int .u8 t287)).heap[gb274]? = some (.cells #[.int .u8 t279, .int .u8 t280, .int .u8 t281, .int .u8 t282] 23 (0, 0))) := bf_ BK274
      have n2_ : Aside0 (((((w29.setCell ⟨gb288, 0, none⟩ (.int .u8 t284)).setCell ⟨gb288, 1, none⟩ (.int .u8 t285)).setCell ⟨gb288, 2, none⟩ (.int .u8 t286)).setCell ⟨gb288, 3, none⟩ (.int .u8 t287)).heap[gb283]? = some (.cells #[.int .u8 t275, .int .u8 t276, .int .u8 t277, .int .u8 255] 23 (0, 0))) := bf_ BK283
      have n3_ : Aside0 (((((w29.setCell ⟨gb288, 0, none⟩ (.int .u8 t284)).setCell ⟨gb288, 1, none⟩ (.int .u8 t285)).setCell ⟨gb288, 2, none⟩ (.int .u8 t286)).setCell ⟨gb288, 3, none⟩ (.int .u8 t287)).heap[gb288]? = some (.cells #[.int .u8 t284, .int .u8 t285, .int .u8 t286, .int .u8 t287] 23 (0, 0))) := ⟨by (with_reducible repeat (first | refine blk_drewN ?_ _ | refine blk_drew ?_ | refine blk_alloc ?_ _)); refine blk_put (cs := #[.int .u8 t284, .int .u8 t285, .int .u8 t286, .int .u8 0]) ?_ 3 _ rfl; (with_reducible repeat (first | refine blk_drewN ?_ _ | refine blk_drew ?_ | refine blk_alloc ?_ _)); refine blk_put (cs := #[.int .u8 t284, .int .u8 t285, .int .u8 0, .int .u8 0]) ?_ 2 _ rfl; (with_reducible repeat (first | refine blk_drewN ?_ _ | refine blk_drew ?_ | refine blk_alloc ?_ _)); refine blk_put (cs := #[.int .u8 t284, .int .u8 0, .int .u8 0, .int .u8 0]) ?_ 1 _ rfl; (with_reducible repeat (first | refine blk_drewN ?_ _ | refine blk_drew ?_ | refine blk_alloc ?_ _)); refine blk_put (cs := #[.int .u8 0, .int .u8 0, .int .u8 0, .int .u8 0]) ?_ 0 _ rfl; (with_reducible repeat (first | refine blk_drewN ?_ _ | refine blk_drew ?_ | refine blk_alloc ?_ _)); exact BK288.out⟩
      have n4_ : Aside0 (Below w.heap.size w ((((w29.setCell ⟨gb288, 0, none⟩ (.int .u8 t284)).setCell ⟨gb288, 1, none⟩ (.int .u8 t285)).setCell ⟨gb288, 2, none⟩ (.int .u8 t286)).setCell ⟨gb288, 3, none⟩ (.int .u8 t287))) := ⟨by repeat (first | (with_reducible first | exact HB.out | apply below_alloc | apply pw_below_drewN | apply below_drew1 | refine below_set ?_ GE273.out | refine below_set ?_ GE274.out | refine below_set ?_ GE283.out | refine below_set ?_ GE288.out) | exact HB.out)⟩
      (try clear BK273)
      (try clear BK274)
      (try clear BK283)
      (try clear BK288)
      (try clear HB)
      generalize ((((w29.setCell ⟨gb288, 0, none⟩ (.int .u8 t284)).setCell ⟨gb288, 1, none⟩ (.int .u8 t285)).setCell ⟨gb288, 2, none⟩ (.int .u8 t286)).setCell ⟨gb288, 3, none⟩ (.int .u8 t287)) = w44 at n0_ n1_ n2_ n3_ n4_ ⊢
      have BK273 := n0_
      have BK274 := n1_
      have BK283 := n2_
      have BK288 := n3_
      have HB := n4_
      clear n0_ n1_ n2_ n3_ n4_
      replace BK273 := Aside0.mk (blk_drew BK273.out)
      replace BK274 := Aside0.mk (blk_drew BK274.out)
      replace BK283 := Aside0.mk (blk_drew BK283.out)
      replace BK288 := Aside0.mk (blk_drew BK288.out)
      replace HB := Aside0.mk (below_drew1 HB.out)
      refine start_ (n := 54) (S := fun w' => w'.cell? ⟨gb288, 0, none⟩ = some (.int .u8 t284) ∧ w'.cell? ⟨gb288, 1, none⟩ = some (.int .u8 t285) ∧ w'.cell? ⟨gb288, 2, none⟩ = some (.int .u8 t286) ∧ w'.cell? ⟨gb288, 3, none⟩ = some (.int .u8 t287) ∧ w'.cell? ⟨gb273, 0, none⟩ = some (.int .u8 t275) ∧ w'.cell? ⟨gb273, 1, none⟩ = some (.int .u8 t276) ∧ w'.cell? ⟨gb273, 2, none⟩ = some (.int .u8 t277) ∧ w'.cell? ⟨gb273, 3, none⟩ = some (.int .u8 t278) ∧ w'.cell? ⟨gb274, 0, none⟩ = some (.int .u8 t279) ∧ w'.cell? ⟨gb274, 1, none⟩ = some (.int .u8 t280) ∧ w'.cell? ⟨gb274, 2, none⟩ = some (.int .u8 t281) ∧ w'.cell? ⟨gb274, 3, none⟩ = some (.int .u8 t282)) (ds := []) zq6.q0 (by kernel_rfl) rfl rfl (a4_ BK288 (a4_ BK273 (h4_ BK274))) (fun hHeld => ?_); refine with_tabW compositorlaw08_PixelOverIdentities.tab5 compositorlaw08_PixelOverIdentities.bits5 (fun HT_ HW_ => ?_)
      generalize w44.drew = w45 at BK273 BK274 BK283 BK288 HB hHeld ⊢
      refine pv_ 0 16 zq6.q1 HT_ ?_
      refine pv_ 2 18 zq6.q2 HT_ ?_
      refine take_ (i := 1) (N := some 17) (v := ?_) (a' := ?_) zq6.q3 rfl rfl (take_ofW HT_.out HW_.out (by kernel_rfl)) (fun _ _ _ h => h) (Or.inl ⟨by rfl, ?_⟩) hHeld ?_ ?_
      rotate_left
      ·
       rintro w' ⟨s0, s1, s2, s3, s4, s5, s6, s7, s8, s9, s10, s11⟩
       go_simp
       with_reducible rfl
      rotate_left
      ·
       simp only [Act.put, List.setIfInBounds_toArray, List.set_cons_zero, List.set_cons_succ, i64_w, i32_w]
       rfl
      refine take_ (i := 3) (N := some 19) (v := ?_) (a' := ?_) zq6.q4 rfl rfl (take_ofW HT_.out HW_.out (by kernel_rfl)) (fun _ _ _ h => h) (Or.inl ⟨by rfl, ?_⟩) hHeld ?_ ?_
      rotate_left
      ·
       rintro w' ⟨s0, s1, s2, s3, s4, s5, s6, s7, s8, s9, s10, s11⟩
       go_simp
       with_reducible rfl
      rotate_left
      ·
       simp only [Act.put, List.setIfInBounds_toArray, List.set_cons_zero, List.set_cons_succ, i64_w, i32_w]
       rfl
      refine pv_ 4 20 zq6.q5 HT_ ?_
      refine pv_ 5 21 zq6.q6 HT_ ?_
      refine pv_ 6 22 zq6.q7 HT_ ?_
      refine pv_ 8 24 zq6.q55 HT_ ?_
      refine take_ (i := 7) (N := some 23) (v := ?_) (a' := ?_) zq6.q9 rfl rfl (take_ofW HT_.out HW_.out (by kernel_rfl)) (fun _ _ _ h => h) (Or.inl ⟨by rfl, ?_⟩) hHeld ?_ ?_
      rotate_left
      ·
       rintro w' ⟨s0, s1, s2, s3, s4, s5, s6, s7, s8, s9, s10, s11⟩
       go_simp
       with_reducible rfl
      rotate_left
      ·
       simp only [Act.put, List.setIfInBounds_toArray, List.set_cons_zero, List.set_cons_succ, i64_w, i32_w]
       rfl
      refine take_ (i := 9) (N := some 25) (v := ?_) (a' := ?_) zq6.q10 rfl rfl (take_ofW HT_.out HW_.out (by kernel_rfl)) (fun _ _ _ h => h) (Or.inl ⟨by rfl, ?_⟩) hHeld ?_ ?_
      rotate_left
      ·
       rintro w' ⟨s0, s1, s2, s3, s4, s5, s6, s7, s8, s9, s10, s11⟩
       go_simp
       with_reducible rfl
      rotate_left
      ·
       simp only [Act.put, List.setIfInBounds_toArray, List.set_cons_zero, List.set_cons_succ, i64_w, i32_w]
       rfl
      refine pv_ 10 26 zq6.q11 HT_ ?_
      refine pv_ 11 27 zq6.q12 HT_ ?_
      refine pv_ 12 28 zq6.q13 HT_ ?_
      refine pv_ 13 29 zq6.q14 HT_ ?_
      refine pv_ 15 31 zq6.q56 HT_ ?_
      refine take_ (i := 14) (N := some 30) (v := ?_) (a' := ?_) zq6.q16 rfl rfl (take_ofW HT_.out HW_.out (by kernel_rfl)) (fun _ _ _ h => h) (Or.inl ⟨by rfl, ?_⟩) hHeld ?_ ?_
      rotate_left
      ·
       rintro w' ⟨s0, s1, s2, s3, s4, s5, s6, s7, s8, s9, s10, s11⟩
       go_simp
       with_reducible rfl
      rotate_left
      ·
       simp only [Act.put, List.setIfInBounds_toArray, List.set_cons_zero, List.set_cons_succ, i64_w, i32_w]
       rfl
      refine take_ (i := 16) (N := some 32) (v := ?_) (a' := ?_) zq6.q17 rfl rfl (take_ofW HT_.out HW_.out (by kernel_rfl)) (fun _ _ _ h => h) (Or.inl ⟨by rfl, ?_⟩) hHeld ?_ ?_
      rotate_left
      ·
       rintro w' ⟨s0, s1, s2, s3, s4, s5, s6, s7, s8, s9, s10, s11⟩
       go_simp
       with_reducible rfl
      rotate_left
      ·
       simp only [Act.put, List.setIfInBounds_toArray, List.set_cons_zero, List.set_cons_succ, i64_w, i32_w]
       rfl
      refine pv_ 17 33 zq6.q18 HT_ ?_
      refine pv_ 18 34 zq6.q19 HT_ ?_
      refine pv_ 19 35 zq6.q20 HT_ ?_
      refine pv_ 20 36 zq6.q21 HT_ ?_
      refine pv_ 22 38 zq6.q57 HT_ ?_
      refine take_ (i := 21) (N := some 37) (v := ?_) (a' := ?_) zq6.q23 rfl rfl (take_ofW HT_.out HW_.out (by kernel_rfl)) (fun _ _ _ h => h) (Or.inl ⟨by rfl, ?_⟩) hHeld ?_ ?_
      rotate_left
      ·
       rintro w' ⟨s0, s1, s2, s3, s4, s5, s6, s7, s8, s9, s10, s11⟩
       go_simp
       with_reducible rfl
      rotate_left
      ·
       simp only [Act.put, List.setIfInBounds_toArray, List.set_cons_zero, List.set_cons_succ, i64_w, i32_w]
       rfl
      refine take_ (i := 23) (N := some 39) (v := ?_) (a' := ?_) zq6.q24 rfl rfl (take_ofW HT_.out HW_.out (by kernel_rfl)) (fun _ _ _ h => h) (Or.inl ⟨by rfl, ?_⟩) hHeld ?_ ?_
      rotate_left
      ·
       rintro w' ⟨s0, s1, s2, s3, s4, s5, s6, s7, s8, s9, s10, s11⟩
       go_simp
       with_reducible rfl
      rotate_left
      ·
       simp only [Act.put, List.setIfInBounds_toArray, List.set_cons_zero, List.set_cons_succ, i64_w, i32_w]
       rfl
      refine pv_ 24 40 zq6.q25 HT_ ?_
      refine pv_ 25 41 zq6.q26 HT_ ?_
      refine pv_ 26 42 zq6.q27 HT_ ?_
      refine pu_ 27 43 zq6.q28 HT_ ?_
      refine pu_ 28 44 zq6.q29 HT_ ?_
      refine pu_ 29 45 zq6.q30 HT_ ?_
      refine pu_ 30 46 zq6.q31 HT_ ?_
      refine pu_ 31 47 zq6.q32 HT_ ?_
      refine pv_ 32 48 zq6.q33 HT_ ?_
      refine pv_ 33 49 zq6.q34 HT_ ?_
      refine pu_ 34 50 zq6.q35 HT_ ?_
      refine pu_ 35 51 zq6.q36 HT_ ?_
      refine pu_ 36 52 zq6.q37 HT_ ?_
      refine pu_ 37 53 zq6.q38 HT_ ?_
      refine pu_ 38 54 zq6.q39 HT_ ?_
      refine pu_ 39 55 zq6.q40 HT_ ?_
      refine pv_ 40 56 zq6.q41 HT_ ?_
      refine pv_ 41 57 zq6.q42 HT_ ?_
      refine pu_ 42 58 zq6.q43 HT_ ?_
      refine pu_ 43 59 zq6.q44 HT_ ?_
      refine pu_ 44 60 zq6.q45 HT_ ?_
      refine pu_ 45 61 zq6.q46 HT_ ?_
      refine pu_ 46 62 zq6.q47 HT_ ?_
      refine pu_ 47 63 zq6.q48 HT_ ?_
      refine pu_ 48 64 zq6.q49 HT_ ?_
      refine pu_ 49 65 zq6.q50 HT_ ?_
      refine pu_ 50 66 zq6.q51 HT_ ?_
      refine pu_ 51 67 zq6.q52 HT_ ?_
      refine pu_ 52 68 zq6.q53 HT_ ?_
      refine pv_ 53 69 zq6.q54 HT_ ?_
      refine done_ (done_of HT_.out (by kernel_rfl)) ?_
      try go_wp2
      go_meet
      case rel => exact ⟨_, (true), (by first | rfl | (simp; done) | (simp [*]; done)), H', ⟨by first | omega | exact Nat.le_refl _⟩, bf_ BK273, bf_ BK274, bf_ BK283, bf_ BK288, ⟨by repeat (first | (with_reducible first | exact HB.out | apply below_alloc | apply pw_below_drewN | apply below_drew1 | refine below_set ?_ GE273.out | refine below_set ?_ GE274.out | refine below_set ?_ GE283.out | refine below_set ?_ GE288.out) | exact HB.out)⟩⟩
     ·
      rw [if_neg c43] at H
      have c43b0 : decide (t285 < t276) = false := decide_eq_false c43
      clear c43
      by_cases c46 : t286 < t277
      ·
       rw [if_pos c46] at H
       have c46b0 : decide (t286 < t277) = true := decide_eq_true c46
       clear c46
       have H' := Aside0.mk H
       clear H
       try go_wp2
       have n0_ : Aside0 (((((w29.setCell ⟨gb288, 0, none⟩ (.int .u8 t284)).setCell ⟨gb288, 1, none⟩ (.int .u8 t285)).setCell ⟨gb288, 2, none⟩ (.int .u8 t286)).setCell ⟨gb288, 3, none⟩ (.int .u8 t287)).heap[gb273]? = some (.cells #[.int .u8 t275, .int .u8 t276, .int .u8 t277, .int .u8 t278] 23 (0, 0))) := bf_ BK273
       have n1_ : Aside0 (((((w29.setCell ⟨gb288, 0, none⟩ (.int .u8 t284)).setCell ⟨gb288, 1, none⟩ (.int .u8 t285)).setCell ⟨gb288, 2, none⟩ (.int .u8 t286)).setCell ⟨gb288, 3, none⟩ (.int .u8 t287)).heap[gb274]? = some (.cells #[.int .u8 t279, .int .u8 t280, .int .u8 t281, .int .u8 t282] 23 (0, 0))) := bf_ BK274
       have n2_ : Aside0 (((((w29.setCell ⟨gb288, 0, none⟩ (.int .u8 t284)).setCell ⟨gb288, 1, none⟩ (.int .u8 t285)).setCell ⟨gb288, 2, none⟩ (.int .u8 t286)).setCell ⟨gb288, 3, none⟩ (.int .u8 t287)).heap[gb283]? = some (.cells #[.int .u8 t275, .int .u8 t276, .int .u8 t277, .int .u8 255] 23 (0, 0))) := bf_ BK283
       have n3_ : Aside0 (((((w29.setCell ⟨gb288, 0, none⟩ (.int .u8 t284)).setCell ⟨gb288, 1, none⟩ (.int .u8 t285)).setCell ⟨gb288, 2, none⟩ (.int .u8 t286)).setCell ⟨gb288, 3, none⟩ (.int .u8 t287)).heap[gb288]? = some (.cells #[.int .u8 t284, .int .u8 t285, .int .u8 t286, .int .u8 t287] 23 (0, 0))) := ⟨by (with_reducible repeat (first | refine blk_drewN ?_ _ | refine blk_drew ?_ | refine blk_alloc ?_ _)); refine blk_put (cs := #[.int .u8 t284, .int .u8 t285, .int .u8 t286, .int .u8 0]) ?_ 3 _ rfl; (with_reducible repeat (first | refine blk_drewN ?_ _ | refine blk_drew ?_ | refine blk_alloc ?_ _)); refine blk_put (cs := #[.int .u8 t284, .int .u8 t285, .int .u8 0, .int .u8 0]) ?_ 2 _ rfl; (with_reducible repeat (first | refine blk_drewN ?_ _ | refine blk_drew ?_ | refine blk_alloc ?_ _)); refine blk_put (cs := #[.int .u8 t284, .int .u8 0, .int .u8 0, .int .u8 0]) ?_ 1 _ rfl; (with_reducible repeat (first | refine blk_drewN ?_ _ | refine blk_drew ?_ | refine blk_alloc ?_ _)); refine blk_put (cs := #[.int .u8 0, .int .u8 0, .int .u8 0, .int .u8 0]) ?_ 0 _ rfl; (with_reducible repeat (first | refine blk_drewN ?_ _ | refine blk_drew ?_ | refine blk_alloc ?_ _)); exact BK288.out⟩
       have n4_ : Aside0 (Below w.heap.size w ((((w29.setCell ⟨gb288, 0, none⟩ (.int .u8 t284)).setCell ⟨gb288, 1, none⟩ (.int .u8 t285)).setCell ⟨gb288, 2, none⟩ (.int .u8 t286)).setCell ⟨gb288, 3, none⟩ (.int .u8 t287))) := ⟨by repeat (first | (with_reducible first | exact HB.out | apply below_alloc | apply pw_below_drewN | apply below_drew1 | refine below_set ?_ GE273.out | refine below_set ?_ GE274.out | refine below_set ?_ GE283.out | refine below_set ?_ GE288.out) | exact HB.out)⟩
       (try clear BK273)
       (try clear BK274)
       (try clear BK283)
       (try clear BK288)
       (try clear HB)
       generalize ((((w29.setCell ⟨gb288, 0, none⟩ (.int .u8 t284)).setCell ⟨gb288, 1, none⟩ (.int .u8 t285)).setCell ⟨gb288, 2, none⟩ (.int .u8 t286)).setCell ⟨gb288, 3, none⟩ (.int .u8 t287)) = w47 at n0_ n1_ n2_ n3_ n4_ ⊢
       have BK273 := n0_
       have BK274 := n1_
       have BK283 := n2_
       have BK288 := n3_
       have HB := n4_
       clear n0_ n1_ n2_ n3_ n4_
       replace BK273 := Aside0.mk (blk_drew BK273.out)
       replace BK274 := Aside0.mk (blk_drew BK274.out)
       replace BK283 := Aside0.mk (blk_drew BK283.out)
       replace BK288 := Aside0.mk (blk_drew BK288.out)
       replace HB := Aside0.mk (below_drew1 HB.out)
       refine start_ (n := 54) (S := fun w' => w'.cell? ⟨gb288, 0, none⟩ = some (.int .u8 t284) ∧ w'.cell? ⟨gb288, 1, none⟩ = some (.int .u8 t285) ∧ w'.cell? ⟨gb288, 2, none⟩ = some (.int .u8 t286) ∧ w'.cell? ⟨gb288, 3, none⟩ = some (.int .u8 t287) ∧ w'.cell? ⟨gb273, 0, none⟩ = some (.int .u8 t275) ∧ w'.cell? ⟨gb273, 1, none⟩ = some (.int .u8 t276) ∧ w'.cell? ⟨gb273, 2, none⟩ = some (.int .u8 t277) ∧ w'.cell? ⟨gb273, 3, none⟩ = some (.int .u8 t278) ∧ w'.cell? ⟨gb274, 0, none⟩ = some (.int .u8 t279) ∧ w'.cell? ⟨gb274, 1, none⟩ = some (.int .u8 t280) ∧ w'.cell? ⟨gb274, 2, none⟩ = some (.int .u8 t281) ∧ w'.cell? ⟨gb274, 3, none⟩ = some (.int .u8 t282)) (ds := []) zq6.q0 (by kernel_rfl) rfl rfl (a4_ BK288 (a4_ BK273 (h4_ BK274))) (fun hHeld => ?_); refine with_tabW compositorlaw08_PixelOverIdentities.tab5 compositorlaw08_PixelOverIdentities.bits5 (fun HT_ HW_ => ?_)
       generalize w47.drew = w48 at BK273 BK274 BK283 BK288 HB hHeld ⊢
       refine pv_ 0 16 zq6.q1 HT_ ?_
       refine pv_ 2 18 zq6.q2 HT_ ?_
       refine take_ (i := 1) (N := some 17) (v := ?_) (a' := ?_) zq6.q3 rfl rfl (take_ofW HT_.out HW_.out (by kernel_rfl)) (fun _ _ _ h => h) (Or.inl ⟨by rfl, ?_⟩) hHeld ?_ ?_
       rotate_left
       ·
        rintro w' ⟨s0, s1, s2, s3, s4, s5, s6, s7, s8, s9, s10, s11⟩
        go_simp
        with_reducible rfl
       rotate_left
       ·
        simp only [Act.put, List.setIfInBounds_toArray, List.set_cons_zero, List.set_cons_succ, i64_w, i32_w]
        rfl
       refine take_ (i := 3) (N := some 19) (v := ?_) (a' := ?_) zq6.q4 rfl rfl (take_ofW HT_.out HW_.out (by kernel_rfl)) (fun _ _ _ h => h) (Or.inl ⟨by rfl, ?_⟩) hHeld ?_ ?_
       rotate_left
       ·
        rintro w' ⟨s0, s1, s2, s3, s4, s5, s6, s7, s8, s9, s10, s11⟩
        go_simp
        with_reducible rfl
       rotate_left
       ·
        simp only [Act.put, List.setIfInBounds_toArray, List.set_cons_zero, List.set_cons_succ, i64_w, i32_w]
        rfl
       refine pv_ 4 20 zq6.q5 HT_ ?_
       refine pv_ 5 21 zq6.q6 HT_ ?_
       refine pv_ 6 22 zq6.q7 HT_ ?_
       refine pv_ 8 24 zq6.q55 HT_ ?_
       refine take_ (i := 7) (N := some 23) (v := ?_) (a' := ?_) zq6.q9 rfl rfl (take_ofW HT_.out HW_.out (by kernel_rfl)) (fun _ _ _ h => h) (Or.inl ⟨by rfl, ?_⟩) hHeld ?_ ?_
       rotate_left
       ·
        rintro w' ⟨s0, s1, s2, s3, s4, s5, s6, s7, s8, s9, s10, s11⟩
        go_simp
        with_reducible rfl
       rotate_left
       ·
        simp only [Act.put, List.setIfInBounds_toArray, List.set_cons_zero, List.set_cons_succ, i64_w, i32_w]
        rfl
       refine take_ (i := 9) (N := some 25) (v := ?_) (a' := ?_) zq6.q10 rfl rfl (take_ofW HT_.out HW_.out (by kernel_rfl)) (fun _ _ _ h => h) (Or.inl ⟨by rfl, ?_⟩) hHeld ?_ ?_
       rotate_left
       ·
        rintro w' ⟨s0, s1, s2, s3, s4, s5, s6, s7, s8, s9, s10, s11⟩
        go_simp
        with_reducible rfl
       rotate_left
       ·
        simp only [Act.put, List.setIfInBounds_toArray, List.set_cons_zero, List.set_cons_succ, i64_w, i32_w]
        rfl
       refine pv_ 10 26 zq6.q11 HT_ ?_
       refine pv_ 11 27 zq6.q12 HT_ ?_
       refine pv_ 12 28 zq6.q13 HT_ ?_
       refine pv_ 13 29 zq6.q14 HT_ ?_
       refine pv_ 15 31 zq6.q56 HT_ ?_
       refine take_ (i := 14) (N := some 30) (v := ?_) (a' := ?_) zq6.q16 rfl rfl (take_ofW HT_.out HW_.out (by kernel_rfl)) (fun _ _ _ h => h) (Or.inl ⟨by rfl, ?_⟩) hHeld ?_ ?_
       rotate_left
       ·
        rintro w' ⟨s0, s1, s2, s3, s4, s5, s6, s7, s8, s9, s10, s11⟩
        go_simp
        with_reducible rfl
       rotate_left
       ·
        simp only [Act.put, List.setIfInBounds_toArray, List.set_cons_zero, List.set_cons_succ, i64_w, i32_w]
        rfl
       refine take_ (i := 16) (N := some 32) (v := ?_) (a' := ?_) zq6.q17 rfl rfl (take_ofW HT_.out HW_.out (by kernel_rfl)) (fun _ _ _ h => h) (Or.inl ⟨by rfl, ?_⟩) hHeld ?_ ?_
       rotate_left
       ·
        rintro w' ⟨s0, s1, s2, s3, s4, s5, s6, s7, s8, s9, s10, s11⟩
        go_simp
        with_reducible rfl
       rotate_left
       ·
        simp only [Act.put, List.setIfInBounds_toArray, List.set_cons_zero, List.set_cons_succ, i64_w, i32_w]
        rfl
       refine pv_ 17 33 zq6.q18 HT_ ?_
       refine pv_ 18 34 zq6.q19 HT_ ?_
       refine pv_ 19 35 zq6.q20 HT_ ?_
       refine pv_ 20 36 zq6.q21 HT_ ?_
       refine pv_ 22 38 zq6.q57 HT_ ?_
       refine take_ (i := 21) (N := some 37) (v := ?_) (a' := ?_) zq6.q23 rfl rfl (take_ofW HT_.out HW_.out (by kernel_rfl)) (fun _ _ _ h => h) (Or.inl ⟨by rfl, ?_⟩) hHeld ?_ ?_
       rotate_left
       ·
        rintro w' ⟨s0, s1, s2, s3, s4, s5, s6, s7, s8, s9, s10, s11⟩
        go_simp
        with_reducible rfl
       rotate_left
       ·
        simp only [Act.put, List.setIfInBounds_toArray, List.set_cons_zero, List.set_cons_succ, i64_w, i32_w]
        rfl
       refine take_ (i := 23) (N := some 39) (v := ?_) (a' := ?_) zq6.q24 rfl rfl (take_ofW HT_.out HW_.out (by kernel_rfl)) (fun _ _ _ h => h) (Or.inl ⟨by rfl, ?_⟩) hHeld ?_ ?_
       rotate_left
       ·
        rintro w' ⟨s0, s1, s2, s3, s4, s5, s6, s7, s8, s9, s10, s11⟩
        go_simp
        with_reducible rfl
       rotate_left
       ·
        simp only [Act.put, List.setIfInBounds_toArray, List.set_cons_zero, List.set_cons_succ, i64_w, i32_w]
        rfl
       refine pv_ 24 40 zq6.q25 HT_ ?_
       refine pv_ 25 41 zq6.q26 HT_ ?_
       refine pv_ 26 42 zq6.q27 HT_ ?_
       refine pv_ 27 43 zq6.q28 HT_ ?_
       refine pv_ 29 45 zq6.q58 HT_ ?_
       refine take_ (i := 28) (N := some 44) (v := ?_) (a' := ?_) zq6.q30 rfl rfl (take_ofW HT_.out HW_.out (by kernel_rfl)) (fun _ _ _ h => h) (Or.inl ⟨by rfl, ?_⟩) hHeld ?_ ?_
       rotate_left
       ·
        rintro w' ⟨s0, s1, s2, s3, s4, s5, s6, s7, s8, s9, s10, s11⟩
        go_simp
        with_reducible rfl
       rotate_left
       ·
        simp only [Act.put, List.setIfInBounds_toArray, List.set_cons_zero, List.set_cons_succ, i64_w, i32_w]
        rfl
       refine take_ (i := 30) (N := some 46) (v := ?_) (a' := ?_) zq6.q31 rfl rfl (take_ofW HT_.out HW_.out (by kernel_rfl)) (fun _ _ _ h => h) (Or.inl ⟨by rfl, ?_⟩) hHeld ?_ ?_
       rotate_left
       ·
        rintro w' ⟨s0, s1, s2, s3, s4, s5, s6, s7, s8, s9, s10, s11⟩
        go_simp
        with_reducible rfl
       rotate_left
       ·
        simp only [Act.put, List.setIfInBounds_toArray, List.set_cons_zero, List.set_cons_succ, i64_w, i32_w]
        rfl
       refine pv_ 31 47 zq6.q32 HT_ ?_
       refine pv_ 32 48 zq6.q33 HT_ ?_
       refine pv_ 33 49 zq6.q34 HT_ ?_
       refine pu_ 34 50 zq6.q35 HT_ ?_
       refine pu_ 35 51 zq6.q36 HT_ ?_
       refine pu_ 36 52 zq6.q37 HT_ ?_
       refine pu_ 37 53 zq6.q38 HT_ ?_
       refine pu_ 38 54 zq6.q39 HT_ ?_
       refine pu_ 39 55 zq6.q40 HT_ ?_
       refine pv_ 40 56 zq6.q41 HT_ ?_
       refine pv_ 41 57 zq6.q42 HT_ ?_
       refine pu_ 42 58 zq6.q43 HT_ ?_
       refine pu_ 43 59 zq6.q44 HT_ ?_
       refine pu_ 44 60 zq6.q45 HT_ ?_
       refine pu_ 45 61 zq6.q46 HT_ ?_
       refine pu_ 46 62 zq6.q47 HT_ ?_
       refine pu_ 47 63 zq6.q48 HT_ ?_
       refine pu_ 48 64 zq6.q49 HT_ ?_
       refine pu_ 49 65 zq6.q50 HT_ ?_
       refine pu_ 50 66 zq6.q51 HT_ ?_
       refine pu_ 51 67 zq6.q52 HT_ ?_
       refine pu_ 52 68 zq6.q53 HT_ ?_
       refine pv_ 53 69 zq6.q54 HT_ ?_
       refine done_ (done_of HT_.out (by kernel_rfl)) ?_
       try go_wp2
       go_meet
       case rel => exact ⟨_, (true), (by first | rfl | (simp; done) | (simp [*]; done)), H', ⟨by first | omega | exact Nat.le_refl _⟩, bf_ BK273, bf_ BK274, bf_ BK283, bf_ BK288, ⟨by repeat (first | (with_reducible first | exact HB.out | apply below_alloc | apply pw_below_drewN | apply below_drew1 | refine below_set ?_ GE273.out | refine below_set ?_ GE274.out | refine below_set ?_ GE283.out | refine below_set ?_ GE288.out) | exact HB.out)⟩⟩
      ·
       rw [if_neg c46] at H
       have c46b0 : decide (t286 < t277) = false := decide_eq_false c46
       clear c46
       replace H := Option.bind_eq_some_iff.mp H
       obtain ⟨t289, A490, H⟩ := H
       replace H : (if (t289 != (t287 == 255)) = true then (compositorlaw08_PixelOverIdentities.j0 k true t275 t276 t277 t278 t279 t280 t281 t282 t275 t276 t277 255) else ((pixel_Opaque.f t275 t276 t277 t278).bind fun t290 => (if t290 = true then ((pixel_Opaque.f t284 t285 t286 t287).bind fun t291 => (compositorlaw08_PixelOverIdentities.j0 k (!t291) t275 t276 t277 t278 t279 t280 t281 t282 t275 t276 t277 255)) else ((pixel_Opaque.f t279 t280 t281 t282).bind fun t292 => (if t292 = true then ((pixel_Opaque.f t284 t285 t286 t287).bind fun t293 => (compositorlaw08_PixelOverIdentities.j0 k (!t293) t275 t276 t277 t278 t279 t280 t281 t282 t275 t276 t277 255)) else (compositorlaw08_PixelOverIdentities.j0 k false t275 t276 t277 t278 t279 t280 t281 t282 t275 t276 t277 255)))))) = some true := H
       have A49 := Aside0.mk A490
       clear A490
       by_cases c50 : (t289 != (t287 == 255)) = true
       ·
        rw [if_pos c50] at H
        have c50b0 : (t289 != (t287 == 255)) = true := c50
        (try (have c50b1 : decide (t289 = (t287 == 255)) = false := by simpa using c50))
        (try (have c50b2 : (t289 == (t287 == 255)) = false := by simpa using c50))
        (try (have c50b3 : ¬ (t289 = (t287 == 255)) := by simpa using c50))
        clear c50
        have H' := Aside0.mk H
        clear H
        try go_wp2
        have n0_ : Aside0 (((((w29.setCell ⟨gb288, 0, none⟩ (.int .u8 t284)).setCell ⟨gb288, 1, none⟩ (.int .u8 t285)).setCell ⟨gb288, 2, none⟩ (.int .u8 t286)).setCell ⟨gb288, 3, none⟩ (.int .u8 t287)).heap[gb273]? = some (.cells #[.int .u8 t275, .int .u8 t276, .int .u8 t277, .int .u8 t278] 23 (0, 0))) := bf_ BK273
        have n1_ : Aside0 (((((w29.setCell ⟨gb288, 0, none⟩ (.int .u8 t284)).setCell ⟨gb288, 1, none⟩ (.int .u8 t285)).setCell ⟨gb288, 2, none⟩ (.int .u8 t286)).setCell ⟨gb288, 3, none⟩ (.int .u8 t287)).heap[gb274]? = some (.cells #[.int .u8 t279, .int .u8 t280, .int .u8 t281, .int .u8 t282] 23 (0, 0))) := bf_ BK274
        have n2_ : Aside0 (((((w29.setCell ⟨gb288, 0, none⟩ (.int .u8 t284)).setCell ⟨gb288, 1, none⟩ (.int .u8 t285)).setCell ⟨gb288, 2, none⟩ (.int .u8 t286)).setCell ⟨gb288, 3, none⟩ (.int .u8 t287)).heap[gb283]? = some (.cells #[.int .u8 t275, .int .u8 t276, .int .u8 t277, .int .u8 255] 23 (0, 0))) := bf_ BK283
        have n3_ : Aside0 (((((w29.setCell ⟨gb288, 0, none⟩ (.int .u8 t284)).setCell ⟨gb288, 1, none⟩ (.int .u8 t285)).setCell ⟨gb288, 2, none⟩ (.int .u8 t286)).setCell ⟨gb288, 3, none⟩ (.int .u8 t287)).heap[gb288]? = some (.cells #[.int .u8 t284, .int .u8 t285, .int .u8 t286, .int .u8 t287] 23 (0, 0))) := ⟨by (with_reducible repeat (first | refine blk_drewN ?_ _ | refine blk_drew ?_ | refine blk_alloc ?_ _)); refine blk_put (cs := #[.int .u8 t284, .int .u8 t285, .int .u8 t286, .int .u8 0]) ?_ 3 _ rfl; (with_reducible repeat (first | refine blk_drewN ?_ _ | refine blk_drew ?_ | refine blk_alloc ?_ _)); refine blk_put (cs := #[.int .u8 t284, .int .u8 t285, .int .u8 0, .int .u8 0]) ?_ 2 _ rfl; (with_reducible repeat (first | refine blk_drewN ?_ _ | refine blk_drew ?_ | refine blk_alloc ?_ _)); refine blk_put (cs := #[.int .u8 t284, .int .u8 0, .int .u8 0, .int .u8 0]) ?_ 1 _ rfl; (with_reducible repeat (first | refine blk_drewN ?_ _ | refine blk_drew ?_ | refine blk_alloc ?_ _)); refine blk_put (cs := #[.int .u8 0, .int .u8 0, .int .u8 0, .int .u8 0]) ?_ 0 _ rfl; (with_reducible repeat (first | refine blk_drewN ?_ _ | refine blk_drew ?_ | refine blk_alloc ?_ _)); exact BK288.out⟩
        have n4_ : Aside0 (Below w.heap.size w ((((w29.setCell ⟨gb288, 0, none⟩ (.int .u8 t284)).setCell ⟨gb288, 1, none⟩ (.int .u8 t285)).setCell ⟨gb288, 2, none⟩ (.int .u8 t286)).setCell ⟨gb288, 3, none⟩ (.int .u8 t287))) := ⟨by repeat (first | (with_reducible first | exact HB.out | apply below_alloc | apply pw_below_drewN | apply below_drew1 | refine below_set ?_ GE273.out | refine below_set ?_ GE274.out | refine below_set ?_ GE283.out | refine below_set ?_ GE288.out) | exact HB.out)⟩
        (try clear BK273)
        (try clear BK274)
        (try clear BK283)
        (try clear BK288)
        (try clear HB)
        generalize ((((w29.setCell ⟨gb288, 0, none⟩ (.int .u8 t284)).setCell ⟨gb288, 1, none⟩ (.int .u8 t285)).setCell ⟨gb288, 2, none⟩ (.int .u8 t286)).setCell ⟨gb288, 3, none⟩ (.int .u8 t287)) = w51 at n0_ n1_ n2_ n3_ n4_ ⊢
        have BK273 := n0_
        have BK274 := n1_
        have BK283 := n2_
        have BK288 := n3_
        have HB := n4_
        clear n0_ n1_ n2_ n3_ n4_
        replace BK273 := Aside0.mk (blk_drew BK273.out)
        replace BK274 := Aside0.mk (blk_drew BK274.out)
        replace BK283 := Aside0.mk (blk_drew BK283.out)
        replace BK288 := Aside0.mk (blk_drew BK288.out)
        replace HB := Aside0.mk (below_drew1 HB.out)
        refine start_ (n := 54) (S := fun w' => w'.cell? ⟨gb288, 0, none⟩ = some (.int .u8 t284) ∧ w'.cell? ⟨gb288, 1, none⟩ = some (.int .u8 t285) ∧ w'.cell? ⟨gb288, 2, none⟩ = some (.int .u8 t286) ∧ w'.cell? ⟨gb288, 3, none⟩ = some (.int .u8 t287) ∧ w'.cell? ⟨gb273, 0, none⟩ = some (.int .u8 t275) ∧ w'.cell? ⟨gb273, 1, none⟩ = some (.int .u8 t276) ∧ w'.cell? ⟨gb273, 2, none⟩ = some (.int .u8 t277) ∧ w'.cell? ⟨gb273, 3, none⟩ = some (.int .u8 t278) ∧ w'.cell? ⟨gb274, 0, none⟩ = some (.int .u8 t279) ∧ w'.cell? ⟨gb274, 1, none⟩ = some (.int .u8 t280) ∧ w'.cell? ⟨gb274, 2, none⟩ = some (.int .u8 t281) ∧ w'.cell? ⟨gb274, 3, none⟩ = some (.int .u8 t282)) (ds := []) zq6.q0 (by kernel_rfl) rfl rfl (a4_ BK288 (a4_ BK273 (h4_ BK274))) (fun hHeld => ?_); refine with_tabW compositorlaw08_PixelOverIdentities.tab5 compositorlaw08_PixelOverIdentities.bits5 (fun HT_ HW_ => ?_)
        generalize w51.drew = w52 at BK273 BK274 BK283 BK288 HB hHeld ⊢
        refine pv_ 0 16 zq6.q1 HT_ ?_
        refine pv_ 2 18 zq6.q2 HT_ ?_
        refine take_ (i := 1) (N := some 17) (v := ?_) (a' := ?_) zq6.q3 rfl rfl (take_ofW HT_.out HW_.out (by kernel_rfl)) (fun _ _ _ h => h) (Or.inl ⟨by rfl, ?_⟩) hHeld ?_ ?_
        rotate_left
        ·
         rintro w' ⟨s0, s1, s2, s3, s4, s5, s6, s7, s8, s9, s10, s11⟩
         go_simp
         with_reducible rfl
        rotate_left
        ·
         simp only [Act.put, List.setIfInBounds_toArray, List.set_cons_zero, List.set_cons_succ, i64_w, i32_w]
         rfl
        refine take_ (i := 3) (N := some 19) (v := ?_) (a' := ?_) zq6.q4 rfl rfl (take_ofW HT_.out HW_.out (by kernel_rfl)) (fun _ _ _ h => h) (Or.inl ⟨by rfl, ?_⟩) hHeld ?_ ?_
        rotate_left
        ·
         rintro w' ⟨s0, s1, s2, s3, s4, s5, s6, s7, s8, s9, s10, s11⟩
         go_simp
         with_reducible rfl
        rotate_left
        ·
         simp only [Act.put, List.setIfInBounds_toArray, List.set_cons_zero, List.set_cons_succ, i64_w, i32_w]
         rfl
        refine pv_ 4 20 zq6.q5 HT_ ?_
        refine pv_ 5 21 zq6.q6 HT_ ?_
        refine pv_ 6 22 zq6.q7 HT_ ?_
        refine pv_ 8 24 zq6.q55 HT_ ?_
        refine take_ (i := 7) (N := some 23) (v := ?_) (a' := ?_) zq6.q9 rfl rfl (take_ofW HT_.out HW_.out (by kernel_rfl)) (fun _ _ _ h => h) (Or.inl ⟨by rfl, ?_⟩) hHeld ?_ ?_
        rotate_left
        ·
         rintro w' ⟨s0, s1, s2, s3, s4, s5, s6, s7, s8, s9, s10, s11⟩
         go_simp
         with_reducible rfl
        rotate_left
        ·
         simp only [Act.put, List.setIfInBounds_toArray, List.set_cons_zero, List.set_cons_succ, i64_w, i32_w]
         rfl
        refine take_ (i := 9) (N := some 25) (v := ?_) (a' := ?_) zq6.q10 rfl rfl (take_ofW HT_.out HW_.out (by kernel_rfl)) (fun _ _ _ h => h) (Or.inl ⟨by rfl, ?_⟩) hHeld ?_ ?_
        rotate_left
        ·
         rintro w' ⟨s0, s1, s2, s3, s4, s5, s6, s7, s8, s9, s10, s11⟩
         go_simp
         with_reducible rfl
        rotate_left
        ·
         simp only [Act.put, List.setIfInBounds_toArray, List.set_cons_zero, List.set_cons_succ, i64_w, i32_w]
         rfl
        refine pv_ 10 26 zq6.q11 HT_ ?_
        refine pv_ 11 27 zq6.q12 HT_ ?_
        refine pv_ 12 28 zq6.q13 HT_ ?_
        refine pv_ 13 29 zq6.q14 HT_ ?_
        refine pv_ 15 31 zq6.q56 HT_ ?_
        refine take_ (i := 14) (N := some 30) (v := ?_) (a' := ?_) zq6.q16 rfl rfl (take_ofW HT_.out HW_.out (by kernel_rfl)) (fun _ _ _ h => h) (Or.inl ⟨by rfl, ?_⟩) hHeld ?_ ?_
        rotate_left
        ·
         rintro w' ⟨s0, s1, s2, s3, s4, s5, s6, s7, s8, s9, s10, s11⟩
         go_simp
         with_reducible rfl
        rotate_left
        ·
         simp only [Act.put, List.setIfInBounds_toArray, List.set_cons_zero, List.set_cons_succ, i64_w, i32_w]
         rfl
        refine take_ (i := 16) (N := some 32) (v := ?_) (a' := ?_) zq6.q17 rfl rfl (take_ofW HT_.out HW_.out (by kernel_rfl)) (fun _ _ _ h => h) (Or.inl ⟨by rfl, ?_⟩) hHeld ?_ ?_
        rotate_left
        ·
         rintro w' ⟨s0, s1, s2, s3, s4, s5, s6, s7, s8, s9, s10, s11⟩
         go_simp
         with_reducible rfl
        rotate_left
        ·
         simp only [Act.put, List.setIfInBounds_toArray, List.set_cons_zero, List.set_cons_succ, i64_w, i32_w]
         rfl
        refine pv_ 17 33 zq6.q18 HT_ ?_
        refine pv_ 18 34 zq6.q19 HT_ ?_
        refine pv_ 19 35 zq6.q20 HT_ ?_
        refine pv_ 20 36 zq6.q21 HT_ ?_
        refine pv_ 22 38 zq6.q57 HT_ ?_
        refine take_ (i := 21) (N := some 37) (v := ?_) (a' := ?_) zq6.q23 rfl rfl (take_ofW HT_.out HW_.out (by kernel_rfl)) (fun _ _ _ h => h) (Or.inl ⟨by rfl, ?_⟩) hHeld ?_ ?_
        rotate_left
        ·
         rintro w' ⟨s0, s1, s2, s3, s4, s5, s6, s7, s8, s9, s10, s11⟩
         go_simp
         with_reducible rfl
        rotate_left
        ·
         simp only [Act.put, List.setIfInBounds_toArray, List.set_cons_zero, List.set_cons_succ, i64_w, i32_w]
         rfl
        refine take_ (i := 23) (N := some 39) (v := ?_) (a' := ?_) zq6.q24 rfl rfl (take_ofW HT_.out HW_.out (by kernel_rfl)) (fun _ _ _ h => h) (Or.inl ⟨by rfl, ?_⟩) hHeld ?_ ?_
        rotate_left
        ·
         rintro w' ⟨s0, s1, s2, s3, s4, s5, s6, s7, s8, s9, s10, s11⟩
         go_simp
         with_reducible rfl
        rotate_left
        ·
         simp only [Act.put, List.setIfInBounds_toArray, List.set_cons_zero, List.set_cons_succ, i64_w, i32_w]
         rfl
        refine pv_ 24 40 zq6.q25 HT_ ?_
        refine pv_ 25 41 zq6.q26 HT_ ?_
        refine pv_ 26 42 zq6.q27 HT_ ?_
        refine pv_ 27 43 zq6.q28 HT_ ?_
        refine pv_ 29 45 zq6.q58 HT_ ?_
        refine take_ (i := 28) (N := some 44) (v := ?_) (a' := ?_) zq6.q30 rfl rfl (take_ofW HT_.out HW_.out (by kernel_rfl)) (fun _ _ _ h => h) (Or.inl ⟨by rfl, ?_⟩) hHeld ?_ ?_
        rotate_left
        ·
         rintro w' ⟨s0, s1, s2, s3, s4, s5, s6, s7, s8, s9, s10, s11⟩
         go_simp
         with_reducible rfl
        rotate_left
        ·
         simp only [Act.put, List.setIfInBounds_toArray, List.set_cons_zero, List.set_cons_succ, i64_w, i32_w]
         rfl
        refine take_ (i := 30) (N := some 46) (v := ?_) (a' := ?_) zq6.q31 rfl rfl (take_ofW HT_.out HW_.out (by kernel_rfl)) (fun _ _ _ h => h) (Or.inl ⟨by rfl, ?_⟩) hHeld ?_ ?_
        rotate_left
        ·
         rintro w' ⟨s0, s1, s2, s3, s4, s5, s6, s7, s8, s9, s10, s11⟩
         go_simp
         with_reducible rfl
        rotate_left
        ·
         simp only [Act.put, List.setIfInBounds_toArray, List.set_cons_zero, List.set_cons_succ, i64_w, i32_w]
         rfl
        refine pv_ 31 47 zq6.q32 HT_ ?_
        refine pv_ 32 48 zq6.q33 HT_ ?_
        refine pv_ 33 49 zq6.q34 HT_ ?_
        refine pv_ 36 52 zq6.q59 HT_ ?_
        refine take_ (i := 34) (N := some 50) (v := ?_) (a' := ?_) zq6.q60 rfl rfl (take_ofW HT_.out HW_.out (by kernel_rfl)) (fun _ _ _ h => h) (Or.inl ⟨by rfl, ?_⟩) hHeld ?_ ?_
        rotate_left
        ·
         rintro w' ⟨s0, s1, s2, s3, s4, s5, s6, s7, s8, s9, s10, s11⟩
         go_simp
         with_reducible rfl
        rotate_left
        ·
         simp only [Act.put, List.setIfInBounds_toArray, List.set_cons_zero, List.set_cons_succ, i64_w, i32_w]
         rfl
        refine take_ (i := 37) (N := some 53) (v := ?_) (a' := ?_) zq6.q61 rfl rfl (take_ofW HT_.out HW_.out (by kernel_rfl)) (fun _ _ _ h => h) (Or.inl ⟨by rfl, ?_⟩) hHeld ?_ ?_
        rotate_left
        ·
         rintro w' ⟨s0, s1, s2, s3, s4, s5, s6, s7, s8, s9, s10, s11⟩
         go_simp
         with_reducible rfl
        rotate_left
        ·
         simp only [Act.put, List.setIfInBounds_toArray, List.set_cons_zero, List.set_cons_succ, i64_w, i32_w]
         rfl
        refine pv_ 38 54 zq6.q62 HT_ ?_
        refine one_ (i := 35) (N := some 51) zq6.q39 rfl rfl (one_of HT_.out (by kernel_rfl)) (by decide) (fun K hK => ?_)
        refine goes_ Try.func20 (by kernel_rfl) rfl #[.agg #[.int .u8 t284, .int .u8 t285, .int .u8 t286, .int .u8 t287]] (by rfl) rfl rfl (by (try simp only [List.map_toArray, List.map_cons, List.map_nil]) <;> rfl) ?_
        with_reducible refine (pixel_Opaque.calls t284 t285 t286 t287 t289 _ A49.out).mono ?_
        rintro e w53 ⟨rfl, hb⟩
        refine ⟨_, rfl, ?_⟩
        replace BK273 := bb_ BK273 hb
        replace BK274 := bb_ BK274 hb
        replace BK283 := bb_ BK283 hb
        replace BK288 := bb_ BK288 hb
        replace HB := hb_ HB hb
        (try clear hb); (try clear hb2); (try clear hk); (try clear hi)
        refine hK.out _ _ (a4_ BK288 (a4_ BK273 (h4_ BK274))) (fun hHeld => ?_)
        clear hK K
        refine norm_ (a' := ?_) ?_ ?_
        rotate_left
        ·
         show Act.put _ (some 51) _ = _
         simp only [Act.put, List.setIfInBounds_toArray, List.set_cons_zero, List.set_cons_succ, i64_w, i32_w]
         rfl
        refine pv_ 39 55 zq6.q40 HT_ ?_
        refine pv_ 40 56 zq6.q41 HT_ ?_
        refine pv_ 41 57 zq6.q42 HT_ ?_
        refine pu_ 42 58 zq6.q43 HT_ ?_
        refine pu_ 43 59 zq6.q44 HT_ ?_
        refine pu_ 44 60 zq6.q45 HT_ ?_
        refine pu_ 45 61 zq6.q46 HT_ ?_
        refine pu_ 46 62 zq6.q47 HT_ ?_
        refine pu_ 47 63 zq6.q48 HT_ ?_
        refine pu_ 48 64 zq6.q49 HT_ ?_
        refine pu_ 49 65 zq6.q50 HT_ ?_
        refine pu_ 50 66 zq6.q51 HT_ ?_
        refine pu_ 51 67 zq6.q52 HT_ ?_
        refine pu_ 52 68 zq6.q53 HT_ ?_
        refine pv_ 53 69 zq6.q54 HT_ ?_
        refine done_ (done_of HT_.out (by kernel_rfl)) ?_
        try go_wp2
        go_meet
        case rel => exact ⟨_, (true), (by first | rfl | (simp; done) | (simp [*]; done)), H', ⟨by first | omega | exact Nat.le_refl _⟩, bf_ BK273, bf_ BK274, bf_ BK283, bf_ BK288, ⟨by repeat (first | (with_reducible first | exact HB.out | apply below_alloc | apply pw_below_drewN | apply below_drew1 | refine below_set ?_ GE273.out | refine below_set ?_ GE274.out | refine below_set ?_ GE283.out | refine below_set ?_ GE288.out) | exact HB.out)⟩⟩
       ·
        rw [if_neg c50] at H
        have c50b0 : (t289 != (t287 == 255)) = false := by simpa using c50
        (try (have c50b1 : decide (t289 = (t287 == 255)) = true := by simpa using c50))
        (try (have c50b2 : (t289 == (t287 == 255)) = true := by simpa using c50))
        clear c50
        replace H := Option.bind_eq_some_iff.mp H
        obtain ⟨t290, A540, H⟩ := H
        replace H : (if t290 = true then ((pixel_Opaque.f t284 t285 t286 t287).bind fun t291 => (compositorlaw08_PixelOverIdentities.j0 k (!t291) t275 t276 t277 t278 t279 t280 t281 t282 t275 t276 t277 255)) else ((pixel_Opaque.f t279 t280 t281 t282).bind fun t292 => (if t292 = true then ((pixel_Opaque.f t284 t285 t286 t287).bind fun t293 => (compositorlaw08_PixelOverIdentities.j0 k (!t293) t275 t276 t277 t278 t279 t280 t281 t282 t275 t276 t277 255)) else (compositorlaw08_PixelOverIdentities.j0 k false t275 t276 t277 t278 t279 t280 t281 t282 t275 t276 t277 255)))) = some true := H
        have A54 := Aside0.mk A540
        clear A540
        by_cases c55 : t290 = true
        ·
         subst c55
         have H1 : ((pixel_Opaque.f t284 t285 t286 t287).bind fun t291 => (compositorlaw08_PixelOverIdentities.j0 k (!t291) t275 t276 t277 t278 t279 t280 t281 t282 t275 t276 t277 255)) = some true := by rw [if_pos rfl] at H; exact H
         clear H
         have H := H1
         clear H1
         replace H := Option.bind_eq_some_iff.mp H
         obtain ⟨t291, A560, H⟩ := H
         replace H : (compositorlaw08_PixelOverIdentities.j0 k (!t291) t275 t276 t277 t278 t279 t280 t281 t282 t275 t276 t277 255) = some true := H
         have A56 := Aside0.mk A560
         clear A560
         have H' := Aside0.mk H
         clear H
         try go_wp2
         have n0_ : Aside0 (((((w29.setCell ⟨gb288, 0, none⟩ (.int .u8 t284)).setCell ⟨gb288, 1, none⟩ (.int .u8 t285)).setCell ⟨gb288, 2, none⟩ (.int .u8 t286)).setCell ⟨gb288, 3, none⟩ (.int .u8 t287)).heap[gb273]? = some (.cells #[.int .u8 t275, .int .u8 t276, .int .u8 t277, .int .u8 t278] 23 (0, 0))) := bf_ BK273
         have n1_ : Aside0 (((((w29.setCell ⟨gb288, 0, none⟩ (.int .u8 t284)).setCell ⟨gb288, 1, none⟩ (.int .u8 t285)).setCell ⟨gb288, 2, none⟩ (.int .u8 t286)).setCell ⟨gb288, 3, none⟩ (.int .u8 t287)).heap[gb274]? = some (.cells #[.int .u8 t279, .int .u8 t280, .int .u8 t281, .int .u8 t282] 23 (0, 0))) := bf_ BK274
         have n2_ : Aside0 (((((w29.setCell ⟨gb288, 0, none⟩ (.int .u8 t284)).setCell ⟨gb288, 1, none⟩ (.int .u8 t285)).setCell ⟨gb288, 2, none⟩ (.int .u8 t286)).setCell ⟨gb288, 3, none⟩ (.int .u8 t287)).heap[gb283]? = some (.cells #[.int .u8 t275, .int .u8 t276, .int .u8 t277, .int .u8 255] 23 (0, 0))) := bf_ BK283
         have n3_ : Aside0 (((((w29.setCell ⟨gb288, 0, none⟩ (.int .u8 t284)).setCell ⟨gb288, 1, none⟩ (.int .u8 t285)).setCell ⟨gb288, 2, none⟩ (.int .u8 t286)).setCell ⟨gb288, 3, none⟩ (.int .u8 t287)).heap[gb288]? = some (.cells #[.int .u8 t284, .int .u8 t285, .int .u8 t286, .int .u8 t287] 23 (0, 0))) := ⟨by (with_reducible repeat (first | refine blk_drewN ?_ _ | refine blk_drew ?_ | refine blk_alloc ?_ _)); refine blk_put (cs := #[.int .u8 t284, .int .u8 t285, .int .u8 t286, .int .u8 0]) ?_ 3 _ rfl; (with_reducible repeat (first | refine blk_drewN ?_ _ | refine blk_drew ?_ | refine blk_alloc ?_ _)); refine blk_put (cs := #[.int .u8 t284, .int .u8 t285, .int .u8 0, .int .u8 0]) ?_ 2 _ rfl; (with_reducible repeat (first | refine blk_drewN ?_ _ | refine blk_drew ?_ | refine blk_alloc ?_ _)); refine blk_put (cs := #[.int .u8 t284, .int .u8 0, .int .u8 0, .int .u8 0]) ?_ 1 _ rfl; (with_reducible repeat (first | refine blk_drewN ?_ _ | refine blk_drew ?_ | refine blk_alloc ?_ _)); refine blk_put (cs := #[.int .u8 0, .int .u8 0, .int .u8 0, .int .u8 0]) ?_ 0 _ rfl; (with_reducible repeat (first | refine blk_drewN ?_ _ | refine blk_drew ?_ | refine blk_alloc ?_ _)); exact BK288.out⟩
         have n4_ : Aside0 (Below w.heap.size w ((((w29.setCell ⟨gb288, 0, none⟩ (.int .u8 t284)).setCell ⟨gb288, 1, none⟩ (.int .u8 t285)).setCell ⟨gb288, 2, none⟩ (.int .u8 t286)).setCell ⟨gb288, 3, none⟩ (.int .u8 t287))) := ⟨by repeat (first | (with_reducible first | exact HB.out | apply below_alloc | apply pw_below_drewN | apply below_drew1 | refine below_set ?_ GE273.out | refine below_set ?_ GE274.out | refine below_set ?_ GE283.out | refine below_set ?_ GE288.out) | exact HB.out)⟩
         (try clear BK273)
         (try clear BK274)
         (try clear BK283)
         (try clear BK288)
         (try clear HB)
         generalize ((((w29.setCell ⟨gb288, 0, none⟩ (.int .u8 t284)).setCell ⟨gb288, 1, none⟩ (.int .u8 t285)).setCell ⟨gb288, 2, none⟩ (.int .u8 t286)).setCell ⟨gb288, 3, none⟩ (.int .u8 t287)) = w57 at n0_ n1_ n2_ n3_ n4_ ⊢
         have BK273 := n0_
         have BK274 := n1_
         have BK283 := n2_
         have BK288 := n3_
         have HB := n4_
         clear n0_ n1_ n2_ n3_ n4_
         replace BK273 := Aside0.mk (blk_drew BK273.out)
         replace BK274 := Aside0.mk (blk_drew BK274.out)
         replace BK283 := Aside0.mk (blk_drew BK283.out)
         replace BK288 := Aside0.mk (blk_drew BK288.out)
         replace HB := Aside0.mk (below_drew1 HB.out)
         refine start_ (n := 54) (S := fun w' => w'.cell? ⟨gb288, 0, none⟩ = some (.int .u8 t284) ∧ w'.cell? ⟨gb288, 1, none⟩ = some (.int .u8 t285) ∧ w'.cell? ⟨gb288, 2, none⟩ = some (.int .u8 t286) ∧ w'.cell? ⟨gb288, 3, none⟩ = some (.int .u8 t287) ∧ w'.cell? ⟨gb273, 0, none⟩ = some (.int .u8 t275) ∧ w'.cell? ⟨gb273, 1, none⟩ = some (.int .u8 t276) ∧ w'.cell? ⟨gb273, 2, none⟩ = some (.int .u8 t277) ∧ w'.cell? ⟨gb273, 3, none⟩ = some (.int .u8 t278) ∧ w'.cell? ⟨gb274, 0, none⟩ = some (.int .u8 t279) ∧ w'.cell? ⟨gb274, 1, none⟩ = some (.int .u8 t280) ∧ w'.cell? ⟨gb274, 2, none⟩ = some (.int .u8 t281) ∧ w'.cell? ⟨gb274, 3, none⟩ = some (.int .u8 t282)) (ds := []) zq6.q0 (by kernel_rfl) rfl rfl (a4_ BK288 (a4_ BK273 (h4_ BK274))) (fun hHeld => ?_); refine with_tabW compositorlaw08_PixelOverIdentities.tab5 compositorlaw08_PixelOverIdentities.bits5 (fun HT_ HW_ => ?_)
         generalize w57.drew = w58 at BK273 BK274 BK283 BK288 HB hHeld ⊢
         refine pv_ 0 16 zq6.q1 HT_ ?_
         refine pv_ 2 18 zq6.q2 HT_ ?_
         refine take_ (i := 1) (N := some 17) (v := ?_) (a' := ?_) zq6.q3 rfl rfl (take_ofW HT_.out HW_.out (by kernel_rfl)) (fun _ _ _ h => h) (Or.inl ⟨by rfl, ?_⟩) hHeld ?_ ?_
         rotate_left
         ·
          rintro w' ⟨s0, s1, s2, s3, s4, s5, s6, s7, s8, s9, s10, s11⟩
          go_simp
          with_reducible rfl
         rotate_left
         ·
          simp only [Act.put, List.setIfInBounds_toArray, List.set_cons_zero, List.set_cons_succ, i64_w, i32_w]
          rfl
         refine take_ (i := 3) (N := some 19) (v := ?_) (a' := ?_) zq6.q4 rfl rfl (take_ofW HT_.out HW_.out (by kernel_rfl)) (fun _ _ _ h => h) (Or.inl ⟨by rfl, ?_⟩) hHeld ?_ ?_
         rotate_left
         ·
          rintro w' ⟨s0, s1, s2, s3, s4, s5, s6, s7, s8, s9, s10, s11⟩
          go_simp
          with_reducible rfl
         rotate_left
         ·
          simp only [Act.put, List.setIfInBounds_toArray, List.set_cons_zero, List.set_cons_succ, i64_w, i32_w]
          rfl
         refine pv_ 4 20 zq6.q5 HT_ ?_
         refine pv_ 5 21 zq6.q6 HT_ ?_
         refine pv_ 6 22 zq6.q7 HT_ ?_
         refine pv_ 8 24 zq6.q55 HT_ ?_
         refine take_ (i := 7) (N := some 23) (v := ?_) (a' := ?_) zq6.q9 rfl rfl (take_ofW HT_.out HW_.out (by kernel_rfl)) (fun _ _ _ h => h) (Or.inl ⟨by rfl, ?_⟩) hHeld ?_ ?_
         rotate_left
         ·
          rintro w' ⟨s0, s1, s2, s3, s4, s5, s6, s7, s8, s9, s10, s11⟩
          go_simp
          with_reducible rfl
         rotate_left
         ·
          simp only [Act.put, List.setIfInBounds_toArray, List.set_cons_zero, List.set_cons_succ, i64_w, i32_w]
          rfl
         refine take_ (i := 9) (N := some 25) (v := ?_) (a' := ?_) zq6.q10 rfl rfl (take_ofW HT_.out HW_.out (by kernel_rfl)) (fun _ _ _ h => h) (Or.inl ⟨by rfl, ?_⟩) hHeld ?_ ?_
         rotate_left
         ·
          rintro w' ⟨s0, s1, s2, s3, s4, s5, s6, s7, s8, s9, s10, s11⟩
          go_simp
          with_reducible rfl
         rotate_left
         ·
          simp only [Act.put, List.setIfInBounds_toArray, List.set_cons_zero, List.set_cons_succ, i64_w, i32_w]
          rfl
         refine pv_ 10 26 zq6.q11 HT_ ?_
         refine pv_ 11 27 zq6.q12 HT_ ?_
         refine pv_ 12 28 zq6.q13 HT_ ?_
         refine pv_ 13 29 zq6.q14 HT_ ?_
         refine pv_ 15 31 zq6.q56 HT_ ?_
         refine take_ (i := 14) (N := some 30) (v := ?_) (a' := ?_) zq6.q16 rfl rfl (take_ofW HT_.out HW_.out (by kernel_rfl)) (fun _ _ _ h => h) (Or.inl ⟨by rfl, ?_⟩) hHeld ?_ ?_
         rotate_left
         ·
          rintro w' ⟨s0, s1, s2, s3, s4, s5, s6, s7, s8, s9, s10, s11⟩
          go_simp
          with_reducible rfl
         rotate_left
         ·
          simp only [Act.put, List.setIfInBounds_toArray, List.set_cons_zero, List.set_cons_succ, i64_w, i32_w]
          rfl
         refine take_ (i := 16) (N := some 32) (v := ?_) (a' := ?_) zq6.q17 rfl rfl (take_ofW HT_.out HW_.out (by kernel_rfl)) (fun _ _ _ h => h) (Or.inl ⟨by rfl, ?_⟩) hHeld ?_ ?_
         rotate_left
         ·
          rintro w' ⟨s0, s1, s2, s3, s4, s5, s6, s7, s8, s9, s10, s11⟩
          go_simp
          with_reducible rfl
         rotate_left
         ·
          simp only [Act.put, List.setIfInBounds_toArray, List.set_cons_zero, List.set_cons_succ, i64_w, i32_w]
          rfl
         refine pv_ 17 33 zq6.q18 HT_ ?_
         refine pv_ 18 34 zq6.q19 HT_ ?_
         refine pv_ 19 35 zq6.q20 HT_ ?_
         refine pv_ 20 36 zq6.q21 HT_ ?_
         refine pv_ 22 38 zq6.q57 HT_ ?_
         refine take_ (i := 21) (N := some 37) (v := ?_) (a' := ?_) zq6.q23 rfl rfl (take_ofW HT_.out HW_.out (by kernel_rfl)) (fun _ _ _ h => h) (Or.inl ⟨by rfl, ?_⟩) hHeld ?_ ?_
         rotate_left
         ·
          rintro w' ⟨s0, s1, s2, s3, s4, s5, s6, s7, s8, s9, s10, s11⟩
          go_simp
          with_reducible rfl
         rotate_left
         ·
          simp only [Act.put, List.setIfInBounds_toArray, List.set_cons_zero, List.set_cons_succ, i64_w, i32_w]
          rfl
         refine take_ (i := 23) (N := some 39) (v := ?_) (a' := ?_) zq6.q24 rfl rfl (take_ofW HT_.out HW_.out (by kernel_rfl)) (fun _ _ _ h => h) (Or.inl ⟨by rfl, ?_⟩) hHeld ?_ ?_
         rotate_left
         ·
          rintro w' ⟨s0, s1, s2, s3, s4, s5, s6, s7, s8, s9, s10, s11⟩
          go_simp
          with_reducible rfl
         rotate_left
         ·
          simp only [Act.put, List.setIfInBounds_toArray, List.set_cons_zero, List.set_cons_succ, i64_w, i32_w]
          rfl
         refine pv_ 24 40 zq6.q25 HT_ ?_
         refine pv_ 25 41 zq6.q26 HT_ ?_
         refine pv_ 26 42 zq6.q27 HT_ ?_
         refine pv_ 27 43 zq6.q28 HT_ ?_
         refine pv_ 29 45 zq6.q58 HT_ ?_
         refine take_ (i := 28) (N := some 44) (v := ?_) (a' := ?_) zq6.q30 rfl rfl (take_ofW HT_.out HW_.out (by kernel_rfl)) (fun _ _ _ h => h) (Or.inl ⟨by rfl, ?_⟩) hHeld ?_ ?_
         rotate_left
         ·
          rintro w' ⟨s0, s1, s2, s3, s4, s5, s6, s7, s8, s9, s10, s11⟩
          go_simp
          with_reducible rfl
         rotate_left
         ·
          simp only [Act.put, List.setIfInBounds_toArray, List.set_cons_zero, List.set_cons_succ, i64_w, i32_w]
          rfl
         refine take_ (i := 30) (N := some 46) (v := ?_) (a' := ?_) zq6.q31 rfl rfl (take_ofW HT_.out HW_.out (by kernel_rfl)) (fun _ _ _ h => h) (Or.inl ⟨by rfl, ?_⟩) hHeld ?_ ?_
         rotate_left
         ·
          rintro w' ⟨s0, s1, s2, s3, s4, s5, s6, s7, s8, s9, s10, s11⟩
          go_simp
          with_reducible rfl
         rotate_left
         ·
          simp only [Act.put, List.setIfInBounds_toArray, List.set_cons_zero, List.set_cons_succ, i64_w, i32_w]
          rfl
         refine pv_ 31 47 zq6.q32 HT_ ?_
         refine pv_ 32 48 zq6.q33 HT_ ?_
         refine pv_ 33 49 zq6.q34 HT_ ?_
         refine pv_ 36 52 zq6.q59 HT_ ?_
         refine take_ (i := 34) (N := some 50) (v := ?_) (a' := ?_) zq6.q60 rfl rfl (take_ofW HT_.out HW_.out (by kernel_rfl)) (fun _ _ _ h => h) (Or.inl ⟨by rfl, ?_⟩) hHeld ?_ ?_
         rotate_left
         ·
          rintro w' ⟨s0, s1, s2, s3, s4, s5, s6, s7, s8, s9, s10, s11⟩
          go_simp
          with_reducible rfl
         rotate_left
         ·
          simp only [Act.put, List.setIfInBounds_toArray, List.set_cons_zero, List.set_cons_succ, i64_w, i32_w]
          rfl
         refine take_ (i := 37) (N := some 53) (v := ?_) (a' := ?_) zq6.q61 rfl rfl (take_ofW HT_.out HW_.out (by kernel_rfl)) (fun _ _ _ h => h) (Or.inl ⟨by rfl, ?_⟩) hHeld ?_ ?_
         rotate_left
         ·
          rintro w' ⟨s0, s1, s2, s3, s4, s5, s6, s7, s8, s9, s10, s11⟩
          go_simp
          with_reducible rfl
         rotate_left
         ·
          simp only [Act.put, List.setIfInBounds_toArray, List.set_cons_zero, List.set_cons_succ, i64_w, i32_w]
          rfl
         refine pv_ 38 54 zq6.q62 HT_ ?_
         refine one_ (i := 35) (N := some 51) zq6.q39 rfl rfl (one_of HT_.out (by kernel_rfl)) (by decide) (fun K hK => ?_)
         refine goes_ Try.func20 (by kernel_rfl) rfl #[.agg #[.int .u8 t284, .int .u8 t285, .int .u8 t286, .int .u8 t287]] (by rfl) rfl rfl (by (try simp only [List.map_toArray, List.map_cons, List.map_nil]) <;> rfl) ?_
         with_reducible refine (pixel_Opaque.calls t284 t285 t286 t287 t289 _ A49.out).mono ?_
         rintro e w59 ⟨rfl, hb⟩
         refine ⟨_, rfl, ?_⟩
         replace BK273 := bb_ BK273 hb
         replace BK274 := bb_ BK274 hb
         replace BK283 := bb_ BK283 hb
         replace BK288 := bb_ BK288 hb
         replace HB := hb_ HB hb
         (try clear hb); (try clear hb2); (try clear hk); (try clear hi)
         refine hK.out _ _ (a4_ BK288 (a4_ BK273 (h4_ BK274))) (fun hHeld => ?_)
         clear hK K
         refine norm_ (a' := ?_) ?_ ?_
         rotate_left
         ·
          show Act.put _ (some 51) _ = _
          simp only [Act.put, List.setIfInBounds_toArray, List.set_cons_zero, List.set_cons_succ, i64_w, i32_w]
          rfl
         refine pv_ 39 55 zq6.q40 HT_ ?_
         refine pv_ 40 56 zq6.q41 HT_ ?_
         refine pv_ 41 57 zq6.q42 HT_ ?_
         refine take_ (i := 42) (N := some 58) (v := ?_) (a' := ?_) zq6.q43 rfl rfl (take_ofW HT_.out HW_.out (by kernel_rfl)) (fun _ _ _ h => h) (Or.inl ⟨by rfl, ?_⟩) hHeld ?_ ?_
         rotate_left
         ·
          rintro w' ⟨s0, s1, s2, s3, s4, s5, s6, s7, s8, s9, s10, s11⟩
          go_simp
          with_reducible rfl
         rotate_left
         ·
          simp only [Act.put, List.setIfInBounds_toArray, List.set_cons_zero, List.set_cons_succ, i64_w, i32_w]
          rfl
         refine one_ (i := 43) (N := some 59) zq6.q44 rfl rfl (one_of HT_.out (by kernel_rfl)) (by decide) (fun K hK => ?_)
         refine goes_ Try.func20 (by kernel_rfl) rfl #[.agg #[.int .u8 t275, .int .u8 t276, .int .u8 t277, .int .u8 t278]] (by rfl) rfl rfl (by (try simp only [List.map_toArray, List.map_cons, List.map_nil]) <;> rfl) ?_
         with_reducible refine (pixel_Opaque.calls t275 t276 t277 t278 true _ A54.out).mono ?_
         rintro e w60 ⟨rfl, hb⟩
         refine ⟨_, rfl, ?_⟩
         replace BK273 := bb_ BK273 hb
         replace BK274 := bb_ BK274 hb
         replace BK283 := bb_ BK283 hb
         replace BK288 := bb_ BK288 hb
         replace HB := hb_ HB hb
         (try clear hb); (try clear hb2); (try clear hk); (try clear hi)
         refine hK.out _ _ (a4_ BK288 (a4_ BK273 (h4_ BK274))) (fun hHeld => ?_)
         clear hK K
         refine norm_ (a' := ?_) ?_ ?_
         rotate_left
         ·
          show Act.put _ (some 59) _ = _
          simp only [Act.put, List.setIfInBounds_toArray, List.set_cons_zero, List.set_cons_succ, i64_w, i32_w]
          rfl
         refine pv_ 44 60 zq6.q45 HT_ ?_
         refine pu_ 45 61 zq6.q46 HT_ ?_
         refine pu_ 46 62 zq6.q47 HT_ ?_
         refine pv_ 47 63 zq6.q48 HT_ ?_
         refine pv_ 48 64 zq6.q49 HT_ ?_
         refine take_ (i := 49) (N := some 65) (v := ?_) (a' := ?_) zq6.q50 rfl rfl (take_ofW HT_.out HW_.out (by kernel_rfl)) (fun _ _ _ h => h) (Or.inl ⟨by rfl, ?_⟩) hHeld ?_ ?_
         rotate_left
         ·
          rintro w' ⟨s0, s1, s2, s3, s4, s5, s6, s7, s8, s9, s10, s11⟩
          go_simp
          with_reducible rfl
         rotate_left
         ·
          simp only [Act.put, List.setIfInBounds_toArray, List.set_cons_zero, List.set_cons_succ, i64_w, i32_w]
          rfl
         refine one_ (i := 50) (N := some 66) zq6.q51 rfl rfl (one_of HT_.out (by kernel_rfl)) (by decide) (fun K hK => ?_)
         refine goes_ Try.func20 (by kernel_rfl) rfl #[.agg #[.int .u8 t284, .int .u8 t285, .int .u8 t286, .int .u8 t287]] (by rfl) rfl rfl (by (try simp only [List.map_toArray, List.map_cons, List.map_nil]) <;> rfl) ?_
         with_reducible refine (pixel_Opaque.calls t284 t285 t286 t287 t291 _ A56.out).mono ?_
         rintro e w61 ⟨rfl, hb⟩
         refine ⟨_, rfl, ?_⟩
         replace BK273 := bb_ BK273 hb
         replace BK274 := bb_ BK274 hb
         replace BK283 := bb_ BK283 hb
         replace BK288 := bb_ BK288 hb
         replace HB := hb_ HB hb
         (try clear hb); (try clear hb2); (try clear hk); (try clear hi)
         refine hK.out _ _ (a4_ BK288 (a4_ BK273 (h4_ BK274))) (fun hHeld => ?_)
         clear hK K
         refine norm_ (a' := ?_) ?_ ?_
         rotate_left
         ·
          show Act.put _ (some 66) _ = _
          simp only [Act.put, List.setIfInBounds_toArray, List.set_cons_zero, List.set_cons_succ, i64_w, i32_w]
          rfl
         refine pv_ 51 67 zq6.q52 HT_ ?_
         refine pv_ 52 68 zq6.q53 HT_ ?_
         refine pv_ 53 69 zq6.q54 HT_ ?_
         refine done_ (done_of HT_.out (by kernel_rfl)) ?_
         try go_wp2
         go_meet
         case rel => exact ⟨_, (!t291), (by first | rfl | (simp; done) | (simp [*]; done)), H', ⟨by first | omega | exact Nat.le_refl _⟩, bf_ BK273, bf_ BK274, bf_ BK283, bf_ BK288, ⟨by repeat (first | (with_reducible first | exact HB.out | apply below_alloc | apply pw_below_drewN | apply below_drew1 | refine below_set ?_ GE273.out | refine below_set ?_ GE274.out | refine below_set ?_ GE283.out | refine below_set ?_ GE288.out) | exact HB.out)⟩⟩
        ·
         replace c55 := Bool.eq_false_iff.mpr c55
         subst c55
         have H1 : ((pixel_Opaque.f t279 t280 t281 t282).bind fun t292 => (if t292 = true then ((pixel_Opaque.f t284 t285 t286 t287).bind fun t293 => (compositorlaw08_PixelOverIdentities.j0 k (!t293) t275 t276 t277 t278 t279 t280 t281 t282 t275 t276 t277 255)) else (compositorlaw08_PixelOverIdentities.j0 k false t275 t276 t277 t278 t279 t280 t281 t282 t275 t276 t277 255))) = some true := by rw [if_neg (show ¬ (false = true) by decide)] at H; exact H
         clear H
         have H := H1
         clear H1
         replace H := Option.bind_eq_some_iff.mp H
         obtain ⟨t292, A620, H⟩ := H
         replace H : (if t292 = true then ((pixel_Opaque.f t284 t285 t286 t287).bind fun t293 => (compositorlaw08_PixelOverIdentities.j0 k (!t293) t275 t276 t277 t278 t279 t280 t281 t282 t275 t276 t277 255)) else (compositorlaw08_PixelOverIdentities.j0 k false t275 t276 t277 t278 t279 t280 t281 t282 t275 t276 t277 255)) = some true := H
         have A62 := Aside0.mk A620
         clear A620
         by_cases c63 : t292 = true
         ·
          subst c63
          have H1 : ((pixel_Opaque.f t284 t285 t286 t287).bind fun t293 => (compositorlaw08_PixelOverIdentities.j0 k (!t293) t275 t276 t277 t278 t279 t280 t281 t282 t275 t276 t277 255)) = some true := by rw [if_pos rfl] at H; exact H
          clear H
          have H := H1
          clear H1
          replace H := Option.bind_eq_some_iff.mp H
          obtain ⟨t293, A640, H⟩ := H
          replace H : (compositorlaw08_PixelOverIdentities.j0 k (!t293) t275 t276 t277 t278 t279 t280 t281 t282 t275 t276 t277 255) = some true := H
          have A64 := Aside0.mk A640
          clear A640
          have H' := Aside0.mk H
          clear H
          try go_wp2
          have n0_ : Aside0 (((((w29.setCell ⟨gb288, 0, none⟩ (.int .u8 t284)).setCell ⟨gb288, 1, none⟩ (.int .u8 t285)).setCell ⟨gb288, 2, none⟩ (.int .u8 t286)).setCell ⟨gb288, 3, none⟩ (.int .u8 t287)).heap[gb273]? = some (.cells #[.int .u8 t275, .int .u8 t276, .int .u8 t277, .int .u8 t278] 23 (0, 0))) := bf_ BK273
          have n1_ : Aside0 (((((w29.setCell ⟨gb288, 0, none⟩ (.int .u8 t284)).setCell ⟨gb288, 1, none⟩ (.int .u8 t285)).setCell ⟨gb288, 2, none⟩ (.int .u8 t286)).setCell ⟨gb288, 3, none⟩ (.int .u8 t287)).heap[gb274]? = some (.cells #[.int .u8 t279, .int .u8 t280, .int .u8 t281, .int .u8 t282] 23 (0, 0))) := bf_ BK274
          have n2_ : Aside0 (((((w29.setCell ⟨gb288, 0, none⟩ (.int .u8 t284)).setCell ⟨gb288, 1, none⟩ (.int .u8 t285)).setCell ⟨gb288, 2, none⟩ (.int .u8 t286)).setCell ⟨gb288, 3, none⟩ (.int .u8 t287)).heap[gb283]? = some (.cells #[.int .u8 t275, .int .u8 t276, .int .u8 t277, .int .u8 255] 23 (0, 0))) := bf_ BK283
          have n3_ : Aside0 (((((w29.setCell ⟨gb288, 0, none⟩ (.int .u8 t284)).setCell ⟨gb288, 1, none⟩ (.int .u8 t285)).setCell ⟨gb288, 2, none⟩ (.int .u8 t286)).setCell ⟨gb288, 3, none⟩ (.int .u8 t287)).heap[gb288]? = some (.cells #[.int .u8 t284, .int .u8 t285, .int .u8 t286, .int .u8 t287] 23 (0, 0))) := ⟨by (with_reducible repeat (first | refine blk_drewN ?_ _ | refine blk_drew ?_ | refine blk_alloc ?_ _)); refine blk_put (cs := #[.int .u8 t284, .int .u8 t285, .int .u8 t286, .int .u8 0]) ?_ 3 _ rfl; (with_reducible repeat (first | refine blk_drewN ?_ _ | refine blk_drew ?_ | refine blk_alloc ?_ _)); refine blk_put (cs := #[.int .u8 t284, .int .u8 t285, .int .u8 0, .int .u8 0]) ?_ 2 _ rfl; (with_reducible repeat (first | refine blk_drewN ?_ _ | refine blk_drew ?_ | refine blk_alloc ?_ _)); refine blk_put (cs := #[.int .u8 t284, .int .u8 0, .int .u8 0, .int .u8 0]) ?_ 1 _ rfl; (with_reducible repeat (first | refine blk_drewN ?_ _ | refine blk_drew ?_ | refine blk_alloc ?_ _)); refine blk_put (cs := #[.int .u8 0, .int .u8 0, .int .u8 0, .int .u8 0]) ?_ 0 _ rfl; (with_reducible repeat (first | refine blk_drewN ?_ _ | refine blk_drew ?_ | refine blk_alloc ?_ _)); exact BK288.out⟩
          have n4_ : Aside0 (Below w.heap.size w ((((w29.setCell ⟨gb288, 0, none⟩ (.int .u8 t284)).setCell ⟨gb288, 1, none⟩ (.int .u8 t285)).setCell ⟨gb288, 2, none⟩ (.int .u8 t286)).setCell ⟨gb288, 3, none⟩ (.int .u8 t287))) := ⟨by repeat (first | (with_reducible first | exact HB.out | apply below_alloc | apply pw_below_drewN | apply below_drew1 | refine below_set ?_ GE273.out | refine below_set ?_ GE274.out | refine below_set ?_ GE283.out | refine below_set ?_ GE288.out) | exact HB.out)⟩
          (try clear BK273)
          (try clear BK274)
          (try clear BK283)
          (try clear BK288)
          (try clear HB)
          generalize ((((w29.setCell ⟨gb288, 0, none⟩ (.int .u8 t284)).setCell ⟨gb288, 1, none⟩ (.int .u8 t285)).setCell ⟨gb288, 2, none⟩ (.int .u8 t286)).setCell ⟨gb288, 3, none⟩ (.int .u8 t287)) = w65 at n0_ n1_ n2_ n3_ n4_ ⊢
          have BK273 := n0_
          have BK274 := n1_
          have BK283 := n2_
          have BK288 := n3_
          have HB := n4_
          clear n0_ n1_ n2_ n3_ n4_
          replace BK273 := Aside0.mk (blk_drew BK273.out)
          replace BK274 := Aside0.mk (blk_drew BK274.out)
          replace BK283 := Aside0.mk (blk_drew BK283.out)
          replace BK288 := Aside0.mk (blk_drew BK288.out)
          replace HB := Aside0.mk (below_drew1 HB.out)
          refine start_ (n := 54) (S := fun w' => w'.cell? ⟨gb288, 0, none⟩ = some (.int .u8 t284) ∧ w'.cell? ⟨gb288, 1, none⟩ = some (.int .u8 t285) ∧ w'.cell? ⟨gb288, 2, none⟩ = some (.int .u8 t286) ∧ w'.cell? ⟨gb288, 3, none⟩ = some (.int .u8 t287) ∧ w'.cell? ⟨gb273, 0, none⟩ = some (.int .u8 t275) ∧ w'.cell? ⟨gb273, 1, none⟩ = some (.int .u8 t276) ∧ w'.cell? ⟨gb273, 2, none⟩ = some (.int .u8 t277) ∧ w'.cell? ⟨gb273, 3, none⟩ = some (.int .u8 t278) ∧ w'.cell? ⟨gb274, 0, none⟩ = some (.int .u8 t279) ∧ w'.cell? ⟨gb274, 1, none⟩ = some (.int .u8 t280) ∧ w'.cell? ⟨gb274, 2, none⟩ = some (.int .u8 t281) ∧ w'.cell? ⟨gb274, 3, none⟩ = some (.int .u8 t282)) (ds := []) zq6.q0 (by kernel_rfl) rfl rfl (a4_ BK288 (a4_ BK273 (h4_ BK274))) (fun hHeld => ?_); refine with_tabW compositorlaw08_PixelOverIdentities.tab5 compositorlaw08_PixelOverIdentities.bits5 (fun HT_ HW_ => ?_)
          generalize w65.drew = w66 at BK273 BK274 BK283 BK288 HB hHeld ⊢
          refine pv_ 0 16 zq6.q1 HT_ ?_
          refine pv_ 2 18 zq6.q2 HT_ ?_
          refine take_ (i := 1) (N := some 17) (v := ?_) (a' := ?_) zq6.q3 rfl rfl (take_ofW HT_.out HW_.out (by kernel_rfl)) (fun _ _ _ h => h) (Or.inl ⟨by rfl, ?_⟩) hHeld ?_ ?_
          rotate_left
          ·
           rintro w' ⟨s0, s1, s2, s3, s4, s5, s6, s7, s8, s9, s10, s11⟩
           go_simp
           with_reducible rfl
          rotate_left
          ·
           simp only [Act.put, List.setIfInBounds_toArray, List.set_cons_zero, List.set_cons_succ, i64_w, i32_w]
           rfl
          refine take_ (i := 3) (N := some 19) (v := ?_) (a' := ?_) zq6.q4 rfl rfl (take_ofW HT_.out HW_.out (by kernel_rfl)) (fun _ _ _ h => h) (Or.inl ⟨by rfl, ?_⟩) hHeld ?_ ?_
          rotate_left
          ·
           rintro w' ⟨s0, s1, s2, s3, s4, s5, s6, s7, s8, s9, s10, s11⟩
           go_simp
           with_reducible rfl
          rotate_left
          ·
           simp only [Act.put, List.setIfInBounds_toArray, List.set_cons_zero, List.set_cons_succ, i64_w, i32_w]
           rfl
          refine pv_ 4 20 zq6.q5 HT_ ?_
          refine pv_ 5 21 zq6.q6 HT_ ?_
          refine pv_ 6 22 zq6.q7 HT_ ?_
          refine pv_ 8 24 zq6.q55 HT_ ?_
          refine take_ (i := 7) (N := some 23) (v := ?_) (a' := ?_) zq6.q9 rfl rfl (take_ofW HT_.out HW_.out (by kernel_rfl)) (fun _ _ _ h => h) (Or.inl ⟨by rfl, ?_⟩) hHeld ?_ ?_
          rotate_left
          ·
           rintro w' ⟨s0, s1, s2, s3, s4, s5, s6, s7, s8, s9, s10, s11⟩
           go_simp
           with_reducible rfl
          rotate_left
          ·
           simp only [Act.put, List.setIfInBounds_toArray, List.set_cons_zero, List.set_cons_succ, i64_w, i32_w]
           rfl
          refine take_ (i := 9) (N := some 25) (v := ?_) (a' := ?_) zq6.q10 rfl rfl (take_ofW HT_.out HW_.out (by kernel_rfl)) (fun _ _ _ h => h) (Or.inl ⟨by rfl, ?_⟩) hHeld ?_ ?_
          rotate_left
          ·
           rintro w' ⟨s0, s1, s2, s3, s4, s5, s6, s7, s8, s9, s10, s11⟩
           go_simp
           with_reducible rfl
          rotate_left
          ·
           simp only [Act.put, List.setIfInBounds_toArray, List.set_cons_zero, List.set_cons_succ, i64_w, i32_w]
           rfl
          refine pv_ 10 26 zq6.q11 HT_ ?_
          refine pv_ 11 27 zq6.q12 HT_ ?_
          refine pv_ 12 28 zq6.q13 HT_ ?_
          refine pv_ 13 29 zq6.q14 HT_ ?_
          refine pv_ 15 31 zq6.q56 HT_ ?_
          refine take_ (i := 14) (N := some 30) (v := ?_) (a' := ?_) zq6.q16 rfl rfl (take_ofW HT_.out HW_.out (by kernel_rfl)) (fun _ _ _ h => h) (Or.inl ⟨by rfl, ?_⟩) hHeld ?_ ?_
          rotate_left
          ·
           rintro w' ⟨s0, s1, s2, s3, s4, s5, s6, s7, s8, s9, s10, s11⟩
           go_simp
           with_reducible rfl
          rotate_left
          ·
           simp only [Act.put, List.setIfInBounds_toArray, List.set_cons_zero, List.set_cons_succ, i64_w, i32_w]
           rfl
          refine take_ (i := 16) (N := some 32) (v := ?_) (a' := ?_) zq6.q17 rfl rfl (take_ofW HT_.out HW_.out (by kernel_rfl)) (fun _ _ _ h => h) (Or.inl ⟨by rfl, ?_⟩) hHeld ?_ ?_
          rotate_left
          ·
           rintro w' ⟨s0, s1, s2, s3, s4, s5, s6, s7, s8, s9, s10, s11⟩
           go_simp
           with_reducible rfl
          rotate_left
          ·
           simp only [Act.put, List.setIfInBounds_toArray, List.set_cons_zero, List.set_cons_succ, i64_w, i32_w]
           rfl
          refine pv_ 17 33 zq6.q18 HT_ ?_
          refine pv_ 18 34 zq6.q19 HT_ ?_
          refine pv_ 19 35 zq6.q20 HT_ ?_
          refine pv_ 20 36 zq6.q21 HT_ ?_
          refine pv_ 22 38 zq6.q57 HT_ ?_
          refine take_ (i := 21) (N := some 37) (v := ?_) (a' := ?_) zq6.q23 rfl rfl (take_ofW HT_.out HW_.out (by kernel_rfl)) (fun _ _ _ h => h) (Or.inl ⟨by rfl, ?_⟩) hHeld ?_ ?_
          rotate_left
          ·
           rintro w' ⟨s0, s1, s2, s3, s4, s5, s6, s7, s8, s9, s10, s11⟩
           go_simp
           with_reducible rfl
          rotate_left
          ·
           simp only [Act.put, List.setIfInBounds_toArray, List.set_cons_zero, List.set_cons_succ, i64_w, i32_w]
           rfl
          refine take_ (i := 23) (N := some 39) (v := ?_) (a' := ?_) zq6.q24 rfl rfl (take_ofW HT_.out HW_.out (by kernel_rfl)) (fun _ _ _ h => h) (Or.inl ⟨by rfl, ?_⟩) hHeld ?_ ?_
          rotate_left
          ·
           rintro w' ⟨s0, s1, s2, s3, s4, s5, s6, s7, s8, s9, s10, s11⟩
           go_simp
           with_reducible rfl
          rotate_left
          ·
           simp only [Act.put, List.setIfInBounds_toArray, List.set_cons_zero, List.set_cons_succ, i64_w, i32_w]
           rfl
          refine pv_ 24 40 zq6.q25 HT_ ?_
          refine pv_ 25 41 zq6.q26 HT_ ?_
          refine pv_ 26 42 zq6.q27 HT_ ?_
          refine pv_ 27 43 zq6.q28 HT_ ?_
          refine pv_ 29 45 zq6.q58 HT_ ?_
          refine take_ (i := 28) (N := some 44) (v := ?_) (a' := ?_) zq6.q30 rfl rfl (take_ofW HT_.out HW_.out (by kernel_rfl)) (fun _ _ _ h => h) (Or.inl ⟨by rfl, ?_⟩) hHeld ?_ ?_
          rotate_left
          ·
           rintro w' ⟨s0, s1, s2, s3, s4, s5, s6, s7, s8, s9, s10, s11⟩
           go_simp
           with_reducible rfl
          rotate_left
          ·
           simp only [Act.put, List.setIfInBounds_toArray, List.set_cons_zero, List.set_cons_succ, i64_w, i32_w]
           rfl
          refine take_ (i := 30) (N := some 46) (v := ?_) (a' := ?_) zq6.q31 rfl rfl (take_ofW HT_.out HW_.out (by kernel_rfl)) (fun _ _ _ h => h) (Or.inl ⟨by rfl, ?_⟩) hHeld ?_ ?_
          rotate_left
          ·
           rintro w' ⟨s0, s1, s2, s3, s4, s5, s6, s7, s8, s9, s10, s11⟩
           go_simp
           with_reducible rfl
          rotate_left
          ·
           simp only [Act.put, List.setIfInBounds_toArray, List.set_cons_zero, List.set_cons_succ, i64_w, i32_w]
           rfl
          refine pv_ 31 47 zq6.q32 HT_ ?_
          refine pv_ 32 48 zq6.q33 HT_ ?_
          refine pv_ 33 49 zq6.q34 HT_ ?_
          refine pv_ 36 52 zq6.q59 HT_ ?_
          refine take_ (i := 34) (N := some 50) (v := ?_) (a' := ?_) zq6.q60 rfl rfl (take_ofW HT_.out HW_.out (by kernel_rfl)) (fun _ _ _ h => h) (Or.inl ⟨by rfl, ?_⟩) hHeld ?_ ?_
          rotate_left
          ·
           rintro w' ⟨s0, s1, s2, s3, s4, s5, s6, s7, s8, s9, s10, s11⟩
           go_simp
           with_reducible rfl
          rotate_left
          ·
           simp only [Act.put, List.setIfInBounds_toArray, List.set_cons_zero, List.set_cons_succ, i64_w, i32_w]
           rfl
          refine take_ (i := 37) (N := some 53) (v := ?_) (a' := ?_) zq6.q61 rfl rfl (take_ofW HT_.out HW_.out (by kernel_rfl)) (fun _ _ _ h => h) (Or.inl ⟨by rfl, ?_⟩) hHeld ?_ ?_
          rotate_left
          ·
           rintro w' ⟨s0, s1, s2, s3, s4, s5, s6, s7, s8, s9, s10, s11⟩
           go_simp
           with_reducible rfl
          rotate_left
          ·
           simp only [Act.put, List.setIfInBounds_toArray, List.set_cons_zero, List.set_cons_succ, i64_w, i32_w]
           rfl
          refine pv_ 38 54 zq6.q62 HT_ ?_
          refine one_ (i := 35) (N := some 51) zq6.q39 rfl rfl (one_of HT_.out (by kernel_rfl)) (by decide) (fun K hK => ?_)
          refine goes_ Try.func20 (by kernel_rfl) rfl #[.agg #[.int .u8 t284, .int .u8 t285, .int .u8 t286, .int .u8 t287]] (by rfl) rfl rfl (by (try simp only [List.map_toArray, List.map_cons, List.map_nil]) <;> rfl) ?_
          with_reducible refine (pixel_Opaque.calls t284 t285 t286 t287 t289 _ A49.out).mono ?_
          rintro e w67 ⟨rfl, hb⟩
          refine ⟨_, rfl, ?_⟩
          replace BK273 := bb_ BK273 hb
          replace BK274 := bb_ BK274 hb
          replace BK283 := bb_ BK283 hb
          replace BK288 := bb_ BK288 hb
          replace HB := hb_ HB hb
          (try clear hb); (try clear hb2); (try clear hk); (try clear hi)
          refine hK.out _ _ (a4_ BK288 (a4_ BK273 (h4_ BK274))) (fun hHeld => ?_)
          clear hK K
          refine norm_ (a' := ?_) ?_ ?_
          rotate_left
          ·
           show Act.put _ (some 51) _ = _
           simp only [Act.put, List.setIfInBounds_toArray, List.set_cons_zero, List.set_cons_succ, i64_w, i32_w]
           rfl
          refine pv_ 39 55 zq6.q40 HT_ ?_
          refine pv_ 40 56 zq6.q41 HT_ ?_
          refine pv_ 41 57 zq6.q42 HT_ ?_
          refine take_ (i := 42) (N := some 58) (v := ?_) (a' := ?_) zq6.q43 rfl rfl (take_ofW HT_.out HW_.out (by kernel_rfl)) (fun _ _ _ h => h) (Or.inl ⟨by rfl, ?_⟩) hHeld ?_ ?_
          rotate_left
          ·
           rintro w' ⟨s0, s1, s2, s3, s4, s5, s6, s7, s8, s9, s10, s11⟩
           go_simp
           with_reducible rfl
          rotate_left
          ·
           simp only [Act.put, List.setIfInBounds_toArray, List.set_cons_zero, List.set_cons_succ, i64_w, i32_w]
           rfl
          refine one_ (i := 43) (N := some 59) zq6.q44 rfl rfl (one_of HT_.out (by kernel_rfl)) (by decide) (fun K hK => ?_)
          refine goes_ Try.func20 (by kernel_rfl) rfl #[.agg #[.int .u8 t275, .int .u8 t276, .int .u8 t277, .int .u8 t278]] (by rfl) rfl rfl (by (try simp only [List.map_toArray, List.map_cons, List.map_nil]) <;> rfl) ?_
          with_reducible refine (pixel_Opaque.calls t275 t276 t277 t278 false _ A54.out).mono ?_
          rintro e w68 ⟨rfl, hb⟩
          refine ⟨_, rfl, ?_⟩
          replace BK273 := bb_ BK273 hb
          replace BK274 := bb_ BK274 hb
          replace BK283 := bb_ BK283 hb
          replace BK288 := bb_ BK288 hb
          replace HB := hb_ HB hb
          (try clear hb); (try clear hb2); (try clear hk); (try clear hi)
          refine hK.out _ _ (a4_ BK288 (a4_ BK273 (h4_ BK274))) (fun hHeld => ?_)
          clear hK K
          refine norm_ (a' := ?_) ?_ ?_
          rotate_left
          ·
           show Act.put _ (some 59) _ = _
           simp only [Act.put, List.setIfInBounds_toArray, List.set_cons_zero, List.set_cons_succ, i64_w, i32_w]
           rfl
          refine pv_ 44 60 zq6.q45 HT_ ?_
          refine take_ (i := 45) (N := some 61) (v := ?_) (a' := ?_) zq6.q46 rfl rfl (take_ofW HT_.out HW_.out (by kernel_rfl)) (fun _ _ _ h => h) (Or.inl ⟨by rfl, ?_⟩) hHeld ?_ ?_
          rotate_left
          ·
           rintro w' ⟨s0, s1, s2, s3, s4, s5, s6, s7, s8, s9, s10, s11⟩
           go_simp
           with_reducible rfl
          rotate_left
          ·
           simp only [Act.put, List.setIfInBounds_toArray, List.set_cons_zero, List.set_cons_succ, i64_w, i32_w]
           rfl
          refine one_ (i := 46) (N := some 62) zq6.q47 rfl rfl (one_of HT_.out (by kernel_rfl)) (by decide) (fun K hK => ?_)
          refine goes_ Try.func20 (by kernel_rfl) rfl #[.agg #[.int .u8 t279, .int .u8 t280, .int .u8 t281, .int .u8 t282]] (by rfl) rfl rfl (by (try simp only [List.map_toArray, List.map_cons, List.map_nil]) <;> rfl) ?_
          with_reducible refine (pixel_Opaque.calls t279 t280 t281 t282 true _ A62.out).mono ?_
          rintro e w69 ⟨rfl, hb⟩
          refine ⟨_, rfl, ?_⟩
          replace BK273 := bb_ BK273 hb
          replace BK274 := bb_ BK274 hb
          replace BK283 := bb_ BK283 hb
          replace BK288 := bb_ BK288 hb
          replace HB := hb_ HB hb
          (try clear hb); (try clear hb2); (try clear hk); (try clear hi)
          refine hK.out _ _ (a4_ BK288 (a4_ BK273 (h4_ BK274))) (fun hHeld => ?_)
          clear hK K
          refine norm_ (a' := ?_) ?_ ?_
          rotate_left
          ·
           show Act.put _ (some 62) _ = _
           simp only [Act.put, List.setIfInBounds_toArray, List.set_cons_zero, List.set_cons_succ, i64_w, i32_w]
           rfl
          refine pv_ 47 63 zq6.q48 HT_ ?_
          refine pv_ 48 64 zq6.q49 HT_ ?_
          refine take_ (i := 49) (N := some 65) (v := ?_) (a' := ?_) zq6.q50 rfl rfl (take_ofW HT_.out HW_.out (by kernel_rfl)) (fun _ _ _ h => h) (Or.inl ⟨by rfl, ?_⟩) hHeld ?_ ?_
          rotate_left
          ·
           rintro w' ⟨s0, s1, s2, s3, s4, s5, s6, s7, s8, s9, s10, s11⟩
           go_simp
           with_reducible rfl
          rotate_left
          ·
           simp only [Act.put, List.setIfInBounds_toArray, List.set_cons_zero, List.set_cons_succ, i64_w, i32_w]
           rfl
          refine one_ (i := 50) (N := some 66) zq6.q51 rfl rfl (one_of HT_.out (by kernel_rfl)) (by decide) (fun K hK => ?_)
          refine goes_ Try.func20 (by kernel_rfl) rfl #[.agg #[.int .u8 t284, .int .u8 t285, .int .u8 t286, .int .u8 t287]] (by rfl) rfl rfl (by (try simp only [List.map_toArray, List.map_cons, List.map_nil]) <;> rfl) ?_
          with_reducible refine (pixel_Opaque.calls t284 t285 t286 t287 t293 _ A64.out).mono ?_
          rintro e w70 ⟨rfl, hb⟩
          refine ⟨_, rfl, ?_⟩
          replace BK273 := bb_ BK273 hb
          replace BK274 := bb_ BK274 hb
          replace BK283 := bb_ BK283 hb
          replace BK288 := bb_ BK288 hb
          replace HB := hb_ HB hb
          (try clear hb); (try clear hb2); (try clear hk); (try clear hi)
          refine hK.out _ _ (a4_ BK288 (a4_ BK273 (h4_ BK274))) (fun hHeld => ?_)
          clear hK K
          refine norm_ (a' := ?_) ?_ ?_
          rotate_left
          ·
           show Act.put _ (some 66) _ = _
           simp only [Act.put, List.setIfInBounds_toArray, List.set_cons_zero, List.set_cons_succ, i64_w, i32_w]
           rfl
          refine pv_ 51 67 zq6.q52 HT_ ?_
          refine pv_ 52 68 zq6.q53 HT_ ?_
          refine pv_ 53 69 zq6.q54 HT_ ?_
          refine done_ (done_of HT_.out (by kernel_rfl)) ?_
          try go_wp2
          go_meet
          case rel => exact ⟨_, (!t293), (by first | rfl | (simp; done) | (simp [*]; done)), H', ⟨by first | omega | exact Nat.le_refl _⟩, bf_ BK273, bf_ BK274, bf_ BK283, bf_ BK288, ⟨by repeat (first | (with_reducible first | exact HB.out | apply below_alloc | apply pw_below_drewN | apply below_drew1 | refine below_set ?_ GE273.out | refine below_set ?_ GE274.out | refine below_set ?_ GE283.out | refine below_set ?_ GE288.out) | exact HB.out)⟩⟩
         ·
          replace c63 := Bool.eq_false_iff.mpr c63
          subst c63
          have H1 : (compositorlaw08_PixelOverIdentities.j0 k false t275 t276 t277 t278 t279 t280 t281 t282 t275 t276 t277 255) = some true := by rw [if_neg (show ¬ (false = true) by decide)] at H; exact H
          clear H
          have H := H1
          clear H1
          have H' := Aside0.mk H
          clear H
          try go_wp2
          have n0_ : Aside0 (((((w29.setCell ⟨gb288, 0, none⟩ (.int .u8 t284)).setCell ⟨gb288, 1, none⟩ (.int .u8 t285)).setCell ⟨gb288, 2, none⟩ (.int .u8 t286)).setCell ⟨gb288, 3, none⟩ (.int .u8 t287)).heap[gb273]? = some (.cells #[.int .u8 t275, .int .u8 t276, .int .u8 t277, .int .u8 t278] 23 (0, 0))) := bf_ BK273
          have n1_ : Aside0 (((((w29.setCell ⟨gb288, 0, none⟩ (.int .u8 t284)).setCell ⟨gb288, 1, none⟩ (.int .u8 t285)).setCell ⟨gb288, 2, none⟩ (.int .u8 t286)).setCell ⟨gb288, 3, none⟩ (.int .u8 t287)).heap[gb274]? = some (.cells #[.int .u8 t279, .int .u8 t280, .int .u8 t281, .int .u8 t282] 23 (0, 0))) := bf_ BK274
          have n2_ : Aside0 (((((w29.setCell ⟨gb288, 0, none⟩ (.int .u8 t284)).setCell ⟨gb288, 1, none⟩ (.int .u8 t285)).setCell ⟨gb288, 2, none⟩ (.int .u8 t286)).setCell ⟨gb288, 3, none⟩ (.int .u8 t287)).heap[gb283]? = some (.cells #[.int .u8 t275, .int .u8 t276, .int .u8 t277, .int .u8 255] 23 (0, 0))) := bf_ BK283
          have n3_ : Aside0 (((((w29.setCell ⟨gb288, 0, none⟩ (.int .u8 t284)).setCell ⟨gb288, 1, none⟩ (.int .u8 t285)).setCell ⟨gb288, 2, none⟩ (.int .u8 t286)).setCell ⟨gb288, 3, none⟩ (.int .u8 t287)).heap[gb288]? = some (.cells #[.int .u8 t284, .int .u8 t285, .int .u8 t286, .int .u8 t287] 23 (0, 0))) := ⟨by (with_reducible repeat (first | refine blk_drewN ?_ _ | refine blk_drew ?_ | refine blk_alloc ?_ _)); refine blk_put (cs := #[.int .u8 t284, .int .u8 t285, .int .u8 t286, .int .u8 0]) ?_ 3 _ rfl; (with_reducible repeat (first | refine blk_drewN ?_ _ | refine blk_drew ?_ | refine blk_alloc ?_ _)); refine blk_put (cs := #[.int .u8 t284, .int .u8 t285, .int .u8 0, .int .u8 0]) ?_ 2 _ rfl; (with_reducible repeat (first | refine blk_drewN ?_ _ | refine blk_drew ?_ | refine blk_alloc ?_ _)); refine blk_put (cs := #[.int .u8 t284, .int .u8 0, .int .u8 0, .int .u8 0]) ?_ 1 _ rfl; (with_reducible repeat (first | refine blk_drewN ?_ _ | refine blk_drew ?_ | refine blk_alloc ?_ _)); refine blk_put (cs := #[.int .u8 0, .int .u8 0, .int .u8 0, .int .u8 0]) ?_ 0 _ rfl; (with_reducible repeat (first | refine blk_drewN ?_ _ | refine blk_drew ?_ | refine blk_alloc ?_ _)); exact BK288.out⟩
          have n4_ : Aside0 (Below w.heap.size w ((((w29.setCell ⟨gb288, 0, none⟩ (.int .u8 t284)).setCell ⟨gb288, 1, none⟩ (.int .u8 t285)).setCell ⟨gb288, 2, none⟩ (.int .u8 t286)).setCell ⟨gb288, 3, none⟩ (.int .u8 t287))) := ⟨by repeat (first | (with_reducible first | exact HB.out | apply below_alloc | apply pw_below_drewN | apply below_drew1 | refine below_set ?_ GE273.out | refine below_set ?_ GE274.out | refine below_set ?_ GE283.out | refine below_set ?_ GE288.out) | exact HB.out)⟩
          (try clear BK273)
          (try clear BK274)
          (try clear BK283)
          (try clear BK288)
          (try clear HB)
          generalize ((((w29.setCell ⟨gb288, 0, none⟩ (.int .u8 t284)).setCell ⟨gb288, 1, none⟩ (.int .u8 t285)).setCell ⟨gb288, 2, none⟩ (.int .u8 t286)).setCell ⟨gb288, 3, none⟩ (.int .u8 t287)) = w71 at n0_ n1_ n2_ n3_ n4_ ⊢
          have BK273 := n0_
          have BK274 := n1_
          have BK283 := n2_
          have BK288 := n3_
          have HB := n4_
          clear n0_ n1_ n2_ n3_ n4_
          replace BK273 := Aside0.mk (blk_drew BK273.out)
          replace BK274 := Aside0.mk (blk_drew BK274.out)
          replace BK283 := Aside0.mk (blk_drew BK283.out)
          replace BK288 := Aside0.mk (blk_drew BK288.out)
          replace HB := Aside0.mk (below_drew1 HB.out)
          refine start_ (n := 54) (S := fun w' => w'.cell? ⟨gb288, 0, none⟩ = some (.int .u8 t284) ∧ w'.cell? ⟨gb288, 1, none⟩ = some (.int .u8 t285) ∧ w'.cell? ⟨gb288, 2, none⟩ = some (.int .u8 t286) ∧ w'.cell? ⟨gb288, 3, none⟩ = some (.int .u8 t287) ∧ w'.cell? ⟨gb273, 0, none⟩ = some (.int .u8 t275) ∧ w'.cell? ⟨gb273, 1, none⟩ = some (.int .u8 t276) ∧ w'.cell? ⟨gb273, 2, none⟩ = some (.int .u8 t277) ∧ w'.cell? ⟨gb273, 3, none⟩ = some (.int .u8 t278) ∧ w'.cell? ⟨gb274, 0, none⟩ = some (.int .u8 t279) ∧ w'.cell? ⟨gb274, 1, none⟩ = some (.int .u8 t280) ∧ w'.cell? ⟨gb274, 2, none⟩ = some (.int .u8 t281) ∧ w'.cell? ⟨gb274, 3, none⟩ = some (.int .u8 t282)) (ds := []) zq6.q0 (by kernel_rfl) rfl rfl (a4_ BK288 (a4_ BK273 (h4_ BK274))) (fun hHeld => ?_); refine with_tabW compositorlaw08_PixelOverIdentities.tab5 compositorlaw08_PixelOverIdentities.bits5 (fun HT_ HW_ => ?_)
          generalize w71.drew = w72 at BK273 BK274 BK283 BK288 HB hHeld ⊢
          refine pv_ 0 16 zq6.q1 HT_ ?_
          refine pv_ 2 18 zq6.q2 HT_ ?_
          refine take_ (i := 1) (N := some 17) (v := ?_) (a' := ?_) zq6.q3 rfl rfl (take_ofW HT_.out HW_.out (by kernel_rfl)) (fun _ _ _ h => h) (Or.inl ⟨by rfl, ?_⟩) hHeld ?_ ?_
          rotate_left
          ·
           rintro w' ⟨s0, s1, s2, s3, s4, s5, s6, s7, s8, s9, s10, s11⟩
           go_simp
           with_reducible rfl
          rotate_left
          ·
           simp only [Act.put, List.setIfInBounds_toArray, List.set_cons_zero, List.set_cons_succ, i64_w, i32_w]
           rfl
          refine take_ (i := 3) (N := some 19) (v := ?_) (a' := ?_) zq6.q4 rfl rfl (take_ofW HT_.out HW_.out (by kernel_rfl)) (fun _ _ _ h => h) (Or.inl ⟨by rfl, ?_⟩) hHeld ?_ ?_
          rotate_left
          ·
           rintro w' ⟨s0, s1, s2, s3, s4, s5, s6, s7, s8, s9, s10, s11⟩
           go_simp
           with_reducible rfl
          rotate_left
          ·
           simp only [Act.put, List.setIfInBounds_toArray, List.set_cons_zero, List.set_cons_succ, i64_w, i32_w]
           rfl
          refine pv_ 4 20 zq6.q5 HT_ ?_
          refine pv_ 5 21 zq6.q6 HT_ ?_
          refine pv_ 6 22 zq6.q7 HT_ ?_
          refine pv_ 8 24 zq6.q55 HT_ ?_
          refine take_ (i := 7) (N := some 23) (v := ?_) (a' := ?_) zq6.q9 rfl rfl (take_ofW HT_.out HW_.out (by kernel_rfl)) (fun _ _ _ h => h) (Or.inl ⟨by rfl, ?_⟩) hHeld ?_ ?_
          rotate_left
          ·
           rintro w' ⟨s0, s1, s2, s3, s4, s5, s6, s7, s8, s9, s10, s11⟩
           go_simp
           with_reducible rfl
          rotate_left
          ·
           simp only [Act.put, List.setIfInBounds_toArray, List.set_cons_zero, List.set_cons_succ, i64_w, i32_w]
           rfl
          refine take_ (i := 9) (N := some 25) (v := ?_) (a' := ?_) zq6.q10 rfl rfl (take_ofW HT_.out HW_.out (by kernel_rfl)) (fun _ _ _ h => h) (Or.inl ⟨by rfl, ?_⟩) hHeld ?_ ?_
          rotate_left
          ·
           rintro w' ⟨s0, s1, s2, s3, s4, s5, s6, s7, s8, s9, s10, s11⟩
           go_simp
           with_reducible rfl
          rotate_left
          ·
           simp only [Act.put, List.setIfInBounds_toArray, List.set_cons_zero, List.set_cons_succ, i64_w, i32_w]
           rfl
          refine pv_ 10 26 zq6.q11 HT_ ?_
          refine pv_ 11 27 zq6.q12 HT_ ?_
          refine pv_ 12 28 zq6.q13 HT_ ?_
          refine pv_ 13 29 zq6.q14 HT_ ?_
          refine pv_ 15 31 zq6.q56 HT_ ?_
          refine take_ (i := 14) (N := some 30) (v := ?_) (a' := ?_) zq6.q16 rfl rfl (take_ofW HT_.out HW_.out (by kernel_rfl)) (fun _ _ _ h => h) (Or.inl ⟨by rfl, ?_⟩) hHeld ?_ ?_
          rotate_left
          ·
           rintro w' ⟨s0, s1, s2, s3, s4, s5, s6, s7, s8, s9, s10, s11⟩
           go_simp
           with_reducible rfl
          rotate_left
          ·
           simp only [Act.put, List.setIfInBounds_toArray, List.set_cons_zero, List.set_cons_succ, i64_w, i32_w]
           rfl
          refine take_ (i := 16) (N := some 32) (v := ?_) (a' := ?_) zq6.q17 rfl rfl (take_ofW HT_.out HW_.out (by kernel_rfl)) (fun _ _ _ h => h) (Or.inl ⟨by rfl, ?_⟩) hHeld ?_ ?_
          rotate_left
          ·
           rintro w' ⟨s0, s1, s2, s3, s4, s5, s6, s7, s8, s9, s10, s11⟩
           go_simp
           with_reducible rfl
          rotate_left
          ·
           simp only [Act.put, List.setIfInBounds_toArray, List.set_cons_zero, List.set_cons_succ, i64_w, i32_w]
           rfl
          refine pv_ 17 33 zq6.q18 HT_ ?_
          refine pv_ 18 34 zq6.q19 HT_ ?_
          refine pv_ 19 35 zq6.q20 HT_ ?_
          refine pv_ 20 36 zq6.q21 HT_ ?_
          refine pv_ 22 38 zq6.q57 HT_ ?_
          refine take_ (i := 21) (N := some 37) (v := ?_) (a' := ?_) zq6.q23 rfl rfl (take_ofW HT_.out HW_.out (by kernel_rfl)) (fun _ _ _ h => h) (Or.inl ⟨by rfl, ?_⟩) hHeld ?_ ?_
          rotate_left
          ·
           rintro w' ⟨s0, s1, s2, s3, s4, s5, s6, s7, s8, s9, s10, s11⟩
           go_simp
           with_reducible rfl
          rotate_left
          ·
           simp only [Act.put, List.setIfInBounds_toArray, List.set_cons_zero, List.set_cons_succ, i64_w, i32_w]
           rfl
          refine take_ (i := 23) (N := some 39) (v := ?_) (a' := ?_) zq6.q24 rfl rfl (take_ofW HT_.out HW_.out (by kernel_rfl)) (fun _ _ _ h => h) (Or.inl ⟨by rfl, ?_⟩) hHeld ?_ ?_
          rotate_left
          ·
           rintro w' ⟨s0, s1, s2, s3, s4, s5, s6, s7, s8, s9, s10, s11⟩
           go_simp
           with_reducible rfl
          rotate_left
          ·
           simp only [Act.put, List.setIfInBounds_toArray, List.set_cons_zero, List.set_cons_succ, i64_w, i32_w]
           rfl
          refine pv_ 24 40 zq6.q25 HT_ ?_
          refine pv_ 25 41 zq6.q26 HT_ ?_
          refine pv_ 26 42 zq6.q27 HT_ ?_
          refine pv_ 27 43 zq6.q28 HT_ ?_
          refine pv_ 29 45 zq6.q58 HT_ ?_
          refine take_ (i := 28) (N := some 44) (v := ?_) (a' := ?_) zq6.q30 rfl rfl (take_ofW HT_.out HW_.out (by kernel_rfl)) (fun _ _ _ h => h) (Or.inl ⟨by rfl, ?_⟩) hHeld ?_ ?_
          rotate_left
          ·
           rintro w' ⟨s0, s1, s2, s3, s4, s5, s6, s7, s8, s9, s10, s11⟩
           go_simp
           with_reducible rfl
          rotate_left
          ·
           simp only [Act.put, List.setIfInBounds_toArray, List.set_cons_zero, List.set_cons_succ, i64_w, i32_w]
           rfl
          refine take_ (i := 30) (N := some 46) (v := ?_) (a' := ?_) zq6.q31 rfl rfl (take_ofW HT_.out HW_.out (by kernel_rfl)) (fun _ _ _ h => h) (Or.inl ⟨by rfl, ?_⟩) hHeld ?_ ?_
          rotate_left
          ·
           rintro w' ⟨s0, s1, s2, s3, s4, s5, s6, s7, s8, s9, s10, s11⟩
           go_simp
           with_reducible rfl
          rotate_left
          ·
           simp only [Act.put, List.setIfInBounds_toArray, List.set_cons_zero, List.set_cons_succ, i64_w, i32_w]
           rfl
          refine pv_ 31 47 zq6.q32 HT_ ?_
          refine pv_ 32 48 zq6.q33 HT_ ?_
          refine pv_ 33 49 zq6.q34 HT_ ?_
          refine pv_ 36 52 zq6.q59 HT_ ?_
          refine take_ (i := 34) (N := some 50) (v := ?_) (a' := ?_) zq6.q60 rfl rfl (take_ofW HT_.out HW_.out (by kernel_rfl)) (fun _ _ _ h => h) (Or.inl ⟨by rfl, ?_⟩) hHeld ?_ ?_
          rotate_left
          ·
           rintro w' ⟨s0, s1, s2, s3, s4, s5, s6, s7, s8, s9, s10, s11⟩
           go_simp
           with_reducible rfl
          rotate_left
          ·
           simp only [Act.put, List.setIfInBounds_toArray, List.set_cons_zero, List.set_cons_succ, i64_w, i32_w]
           rfl
          refine take_ (i := 37) (N := some 53) (v := ?_) (a' := ?_) zq6.q61 rfl rfl (take_ofW HT_.out HW_.out (by kernel_rfl)) (fun _ _ _ h => h) (Or.inl ⟨by rfl, ?_⟩) hHeld ?_ ?_
          rotate_left
          ·
           rintro w' ⟨s0, s1, s2, s3, s4, s5, s6, s7, s8, s9, s10, s11⟩
           go_simp
           with_reducible rfl
          rotate_left
          ·
           simp only [Act.put, List.setIfInBounds_toArray, List.set_cons_zero, List.set_cons_succ, i64_w, i32_w]
           rfl
          refine pv_ 38 54 zq6.q62 HT_ ?_
          refine one_ (i := 35) (N := some 51) zq6.q39 rfl rfl (one_of HT_.out (by kernel_rfl)) (by decide) (fun K hK => ?_)
          refine goes_ Try.func20 (by kernel_rfl) rfl #[.agg #[.int .u8 t284, .int .u8 t285, .int .u8 t286, .int .u8 t287]] (by rfl) rfl rfl (by (try simp only [List.map_toArray, List.map_cons, List.map_nil]) <;> rfl) ?_
          with_reducible refine (pixel_Opaque.calls t284 t285 t286 t287 t289 _ A49.out).mono ?_
          rintro e w73 ⟨rfl, hb⟩
          refine ⟨_, rfl, ?_⟩
          replace BK273 := bb_ BK273 hb
          replace BK274 := bb_ BK274 hb
          replace BK283 := bb_ BK283 hb
          replace BK288 := bb_ BK288 hb
          replace HB := hb_ HB hb
          (try clear hb); (try clear hb2); (try clear hk); (try clear hi)
          refine hK.out _ _ (a4_ BK288 (a4_ BK273 (h4_ BK274))) (fun hHeld => ?_)
          clear hK K
          refine norm_ (a' := ?_) ?_ ?_
          rotate_left
          ·
           show Act.put _ (some 51) _ = _
           simp only [Act.put, List.setIfInBounds_toArray, List.set_cons_zero, List.set_cons_succ, i64_w, i32_w]
           rfl
          refine pv_ 39 55 zq6.q40 HT_ ?_
          refine pv_ 40 56 zq6.q41 HT_ ?_
          refine pv_ 41 57 zq6.q42 HT_ ?_
          refine take_ (i := 42) (N := some 58) (v := ?_) (a' := ?_) zq6.q43 rfl rfl (take_ofW HT_.out HW_.out (by kernel_rfl)) (fun _ _ _ h => h) (Or.inl ⟨by rfl, ?_⟩) hHeld ?_ ?_
          rotate_left
          ·
           rintro w' ⟨s0, s1, s2, s3, s4, s5, s6, s7, s8, s9, s10, s11⟩
           go_simp
           with_reducible rfl
          rotate_left
          ·
           simp only [Act.put, List.setIfInBounds_toArray, List.set_cons_zero, List.set_cons_succ, i64_w, i32_w]
           rfl
          refine one_ (i := 43) (N := some 59) zq6.q44 rfl rfl (one_of HT_.out (by kernel_rfl)) (by decide) (fun K hK => ?_)
          refine goes_ Try.func20 (by kernel_rfl) rfl #[.agg #[.int .u8 t275, .int .u8 t276, .int .u8 t277, .int .u8 t278]] (by rfl) rfl rfl (by (try simp only [List.map_toArray, List.map_cons, List.map_nil]) <;> rfl) ?_
          with_reducible refine (pixel_Opaque.calls t275 t276 t277 t278 false _ A54.out).mono ?_
          rintro e w74 ⟨rfl, hb⟩
          refine ⟨_, rfl, ?_⟩
          replace BK273 := bb_ BK273 hb
          replace BK274 := bb_ BK274 hb
          replace BK283 := bb_ BK283 hb
          replace BK288 := bb_ BK288 hb
          replace HB := hb_ HB hb
          (try clear hb); (try clear hb2); (try clear hk); (try clear hi)
          refine hK.out _ _ (a4_ BK288 (a4_ BK273 (h4_ BK274))) (fun hHeld => ?_)
          clear hK K
          refine norm_ (a' := ?_) ?_ ?_
          rotate_left
          ·
           show Act.put _ (some 59) _ = _
           simp only [Act.put, List.setIfInBounds_toArray, List.set_cons_zero, List.set_cons_succ, i64_w, i32_w]
           rfl
          refine pv_ 44 60 zq6.q45 HT_ ?_
          refine take_ (i := 45) (N := some 61) (v := ?_) (a' := ?_) zq6.q46 rfl rfl (take_ofW HT_.out HW_.out (by kernel_rfl)) (fun _ _ _ h => h) (Or.inl ⟨by rfl, ?_⟩) hHeld ?_ ?_
          rotate_left
          ·
           rintro w' ⟨s0, s1, s2, s3, s4, s5, s6, s7, s8, s9, s10, s11⟩
           go_simp
           with_reducible rfl
          rotate_left
          ·
           simp only [Act.put, List.setIfInBounds_toArray, List.set_cons_zero, List.set_cons_succ, i64_w, i32_w]
           rfl
          refine one_ (i := 46) (N := some 62) zq6.q47 rfl rfl (one_of HT_.out (by kernel_rfl)) (by decide) (fun K hK => ?_)
          refine goes_ Try.func20 (by kernel_rfl) rfl #[.agg #[.int .u8 t279, .int .u8 t280, .int .u8 t281, .int .u8 t282]] (by rfl) rfl rfl (by (try simp only [List.map_toArray, List.map_cons, List.map_nil]) <;> rfl) ?_
          with_reducible refine (pixel_Opaque.calls t279 t280 t281 t282 false _ A62.out).mono ?_
          rintro e w75 ⟨rfl, hb⟩
          refine ⟨_, rfl, ?_⟩
          replace BK273 := bb_ BK273 hb
          replace BK274 := bb_ BK274 hb
          replace BK283 := bb_ BK283 hb
          replace BK288 := bb_ BK288 hb
          replace HB := hb_ HB hb
          (try clear hb); (try clear hb2); (try clear hk); (try clear hi)
          refine hK.out _ _ (a4_ BK288 (a4_ BK273 (h4_ BK274))) (fun hHeld => ?_)
          clear hK K
          refine norm_ (a' := ?_) ?_ ?_
          rotate_left
          ·
           show Act.put _ (some 62) _ = _
           simp only [Act.put, List.setIfInBounds_toArray, List.set_cons_zero, List.set_cons_succ, i64_w, i32_w]
           rfl
          refine pv_ 47 63 zq6.q48 HT_ ?_
          refine pv_ 48 64 zq6.q49 HT_ ?_
          refine pu_ 49 65 zq6.q50 HT_ ?_
          refine pu_ 50 66 zq6.q51 HT_ ?_
          refine pu_ 51 67 zq6.q52 HT_ ?_
          refine pv_ 52 68 zq6.q53 HT_ ?_
          refine pv_ 53 69 zq6.q54 HT_ ?_
          refine done_ (done_of HT_.out (by kernel_rfl)) ?_
          try go_wp2
          go_meet
          case rel => exact ⟨_, (false), (by first | rfl | (simp; done) | (simp [*]; done)), H', ⟨by first | omega | exact Nat.le_refl _⟩, bf_ BK273, bf_ BK274, bf_ BK283, bf_ BK288, ⟨by repeat (first | (with_reducible first | exact HB.out | apply below_alloc | apply pw_below_drewN | apply below_drew1 | refine below_set ?_ GE273.out | refine below_set ?_ GE274.out | refine below_set ?_ GE283.out | refine below_set ?_ GE288.out) | exact HB.out)⟩⟩
 case rest =>
  clear HC6
  try clear c2
  try clear p2
  try clear c6
  try clear c20
  try clear c63
  obtain ⟨kq, x69_5, rfl, HA, HJ5, BK273, BK274, BK283, BK288, HB⟩ := hcut
  cases kq with
  | zero => exact absurd HA.out (by simp [compositorlaw08_PixelOverIdentities.j0])
  | succ kj5 =>
   have H := HA.out
   clear HA
   simp only [compositorlaw08_PixelOverIdentities.j0] at H
   by_cases c76 : x69_5 = true
   ·
    subst c76
    have H1 : (some false) = some true := by rw [if_pos rfl] at H; exact H
    clear H
    have H := H1
    clear H1
    exact absurd H (by simp)
   ·
    replace c76 := Bool.eq_false_iff.mpr c76
    subst c76
    have H1 : ((pixel_Over.f t275 t276 t277 255 t279 t280 t281 t282).bind fun bt294 => (if (bt294.1 == t275 && (bt294.2.1 == t276 && (bt294.2.2.1 == t277 && (bt294.2.2.2 == 255)))) = true then ((pixel_Over.f 0 0 0 0 t279 t280 t281 t282).bind fun bt298 => (if (bt298.1 == t279 && (bt298.2.1 == t280 && (bt298.2.2.1 == t281 && (bt298.2.2.2 == t282)))) = true then ((pixel_Over.f t275 t276 t277 t278 0 0 0 0).bind fun bt302 => (if (bt302.1 == t275 && (bt302.2.1 == t276 && (bt302.2.2.1 == t277 && (bt302.2.2.2 == t278)))) = true then ((pixel_Scale.f t275 t276 t277 t278 255).bind fun bt306 => (if (bt306.1 == t275 && (bt306.2.1 == t276 && (bt306.2.2.1 == t277 && (bt306.2.2.2 == t278)))) = true then ((pixel_Scale.f t275 t276 t277 t278 0).bind fun bt310 => (if (bt310.1 == 0 && (bt310.2.1 == 0 && (bt310.2.2.1 == 0 && (bt310.2.2.2 == 0)))) = true then ((compositorlaw08_exampleHolds.f).bind fun t314 => (some t314)) else (some false))) else (some false))) else (some false))) else (some false))) else (some false))) = some true := by rw [if_neg (show ¬ (false = true) by decide)] at H; exact H
    clear H
    have H := H1
    clear H1
    replace H := Option.bind_eq_some_iff.mp H
    obtain ⟨⟨t294, t295, t296, t297⟩, A770, H⟩ := H
    replace H : (if (t294 == t275 && (t295 == t276 && (t296 == t277 && (t297 == 255)))) = true then ((pixel_Over.f 0 0 0 0 t279 t280 t281 t282).bind fun bt298 => (if (bt298.1 == t279 && (bt298.2.1 == t280 && (bt298.2.2.1 == t281 && (bt298.2.2.2 == t282)))) = true then ((pixel_Over.f t275 t276 t277 t278 0 0 0 0).bind fun bt302 => (if (bt302.1 == t275 && (bt302.2.1 == t276 && (bt302.2.2.1 == t277 && (bt302.2.2.2 == t278)))) = true then ((pixel_Scale.f t275 t276 t277 t278 255).bind fun bt306 => (if (bt306.1 == t275 && (bt306.2.1 == t276 && (bt306.2.2.1 == t277 && (bt306.2.2.2 == t278)))) = true then ((pixel_Scale.f t275 t276 t277 t278 0).bind fun bt310 => (if (bt310.1 == 0 && (bt310.2.1 == 0 && (bt310.2.2.1 == 0 && (bt310.2.2.2 == 0)))) = true then ((compositorlaw08_exampleHolds.f).bind fun t314 => (some t314)) else (some false))) else (some false))) else (some false))) else (some false))) else (some false)) = some true := H
    have A77 := Aside0.mk A770
    clear A770
    by_cases c78 : (t294 == t275 && (t295 == t276 && (t296 == t277 && (t297 == 255)))) = true
    ·
     rw [if_pos c78] at H
     have c78b0 : (t294 == t275 && (t295 == t276 && (t296 == t277 && (t297 == 255)))) = true := c78
     (try (have c78b1 : decide (t294 = t275 && (t295 == t276 && (t296 == t277 && (t297 == 255)))) = true := by simpa using c78))
     (try (have c78b2 : (t294 == t275 && (t295 == t276 && (t296 == t277 && (t297 == 255)))) = true := by simpa using c78))
     clear c78
     replace H := Option.bind_eq_some_iff.mp H
     obtain ⟨⟨t298, t299, t300, t301⟩, A790, H⟩ := H
     replace H : (if (t298 == t279 && (t299 == t280 && (t300 == t281 && (t301 == t282)))) = true then ((pixel_Over.f t275 t276 t277 t278 0 0 0 0).bind fun bt302 => (if (bt302.1 == t275 && (bt302.2.1 == t276 && (bt302.2.2.1 == t277 && (bt302.2.2.2 == t278)))) = true then ((pixel_Scale.f t275 t276 t277 t278 255).bind fun bt306 => (if (bt306.1 == t275 && (bt306.2.1 == t276 && (bt306.2.2.1 == t277 && (bt306.2.2.2 == t278)))) = true then ((pixel_Scale.f t275 t276 t277 t278 0).bind fun bt310 => (if (bt310.1 == 0 && (bt310.2.1 == 0 && (bt310.2.2.1 == 0 && (bt310.2.2.2 == 0)))) = true then ((compositorlaw08_exampleHolds.f).bind fun t314 => (some t314)) else (some false))) else (some false))) else (some false))) else (some false)) = some true := H
     have A79 := Aside0.mk A790
     clear A790
     by_cases c80 : (t298 == t279 && (t299 == t280 && (t300 == t281 && (t301 == t282)))) = true
     ·
      rw [if_pos c80] at H
      have c80b0 : (t298 == t279 && (t299 == t280 && (t300 == t281 && (t301 == t282)))) = true := c80
      (try (have c80b1 : decide (t298 = t279 && (t299 == t280 && (t300 == t281 && (t301 == t282)))) = true := by simpa using c80))
      (try (have c80b2 : (t298 == t279 && (t299 == t280 && (t300 == t281 && (t301 == t282)))) = true := by simpa using c80))
      clear c80
      replace H := Option.bind_eq_some_iff.mp H
      obtain ⟨⟨t302, t303, t304, t305⟩, A810, H⟩ := H
      replace H : (if (t302 == t275 && (t303 == t276 && (t304 == t277 && (t305 == t278)))) = true then ((pixel_Scale.f t275 t276 t277 t278 255).bind fun bt306 => (if (bt306.1 == t275 && (bt306.2.1 == t276 && (bt306.2.2.1 == t277 && (bt306.2.2.2 == t278)))) = true then ((pixel_Scale.f t275 t276 t277 t278 0).bind fun bt310 => (if (bt310.1 == 0 && (bt310.2.1 == 0 && (bt310.2.2.1 == 0 && (bt310.2.2.2 == 0)))) = true then ((compositorlaw08_exampleHolds.f).bind fun t314 => (some t314)) else (some false))) else (some false))) else (some false)) = some true := H
      have A81 := Aside0.mk A810
      clear A810
      by_cases c82 : (t302 == t275 && (t303 == t276 && (t304 == t277 && (t305 == t278)))) = true
      ·
       rw [if_pos c82] at H
       have c82b0 : (t302 == t275 && (t303 == t276 && (t304 == t277 && (t305 == t278)))) = true := c82
       (try (have c82b1 : decide (t302 = t275 && (t303 == t276 && (t304 == t277 && (t305 == t278)))) = true := by simpa using c82))
       (try (have c82b2 : (t302 == t275 && (t303 == t276 && (t304 == t277 && (t305 == t278)))) = true := by simpa using c82))
       clear c82
       replace H := Option.bind_eq_some_iff.mp H
       obtain ⟨⟨t306, t307, t308, t309⟩, A830, H⟩ := H
       replace H : (if (t306 == t275 && (t307 == t276 && (t308 == t277 && (t309 == t278)))) = true then ((pixel_Scale.f t275 t276 t277 t278 0).bind fun bt310 => (if (bt310.1 == 0 && (bt310.2.1 == 0 && (bt310.2.2.1 == 0 && (bt310.2.2.2 == 0)))) = true then ((compositorlaw08_exampleHolds.f).bind fun t314 => (some t314)) else (some false))) else (some false)) = some true := H
       have A83 := Aside0.mk A830
       clear A830
       by_cases c84 : (t306 == t275 && (t307 == t276 && (t308 == t277 && (t309 == t278)))) = true
       ·
        rw [if_pos c84] at H
        have c84b0 : (t306 == t275 && (t307 == t276 && (t308 == t277 && (t309 == t278)))) = true := c84
        (try (have c84b1 : decide (t306 = t275 && (t307 == t276 && (t308 == t277 && (t309 == t278)))) = true := by simpa using c84))
        (try (have c84b2 : (t306 == t275 && (t307 == t276 && (t308 == t277 && (t309 == t278)))) = true := by simpa using c84))
        clear c84
        replace H := Option.bind_eq_some_iff.mp H
        obtain ⟨⟨t310, t311, t312, t313⟩, A850, H⟩ := H
        replace H : (if (t310 == 0 && (t311 == 0 && (t312 == 0 && (t313 == 0)))) = true then ((compositorlaw08_exampleHolds.f).bind fun t314 => (some t314)) else (some false)) = some true := H
        have A85 := Aside0.mk A850
        clear A850
        by_cases c86 : (t310 == 0 && (t311 == 0 && (t312 == 0 && (t313 == 0)))) = true
        ·
         rw [if_pos c86] at H
         have c86b0 : (t310 == 0 && (t311 == 0 && (t312 == 0 && (t313 == 0)))) = true := c86
         (try (have c86b1 : decide (t310 = 0 && (t311 == 0 && (t312 == 0 && (t313 == 0)))) = true := by simpa using c86))
         (try (have c86b2 : (t310 == 0 && (t311 == 0 && (t312 == 0 && (t313 == 0)))) = true := by simpa using c86))
         clear c86
         replace H := Option.bind_eq_some_iff.mp H
         obtain ⟨t314, A870, H⟩ := H
         replace H : (some t314) = some true := H
         have A87 := Aside0.mk A870
         clear A870
         have Hq_ := Option.some.inj H
         try go_wp2
         replace BK273 := Aside0.mk (blk_drew BK273.out)
         replace BK274 := Aside0.mk (blk_drew BK274.out)
         replace BK283 := Aside0.mk (blk_drew BK283.out)
         replace BK288 := Aside0.mk (blk_drew BK288.out)
         replace HB := Aside0.mk (below_drew1 HB.out)
         refine start_ (n := 35) (S := fun w' => w'.cell? ⟨gb283, 0, none⟩ = some (.int .u8 t275) ∧ w'.cell? ⟨gb283, 1, none⟩ = some (.int .u8 t276) ∧ w'.cell? ⟨gb283, 2, none⟩ = some (.int .u8 t277) ∧ w'.cell? ⟨gb283, 3, none⟩ = some (.int .u8 255) ∧ w'.cell? ⟨gb274, 0, none⟩ = some (.int .u8 t279) ∧ w'.cell? ⟨gb274, 1, none⟩ = some (.int .u8 t280) ∧ w'.cell? ⟨gb274, 2, none⟩ = some (.int .u8 t281) ∧ w'.cell? ⟨gb274, 3, none⟩ = some (.int .u8 t282) ∧ w'.cell? ⟨gb273, 0, none⟩ = some (.int .u8 t275) ∧ w'.cell? ⟨gb273, 1, none⟩ = some (.int .u8 t276) ∧ w'.cell? ⟨gb273, 2, none⟩ = some (.int .u8 t277) ∧ w'.cell? ⟨gb273, 3, none⟩ = some (.int .u8 t278)) (ds := []) zq6.q63 (by kernel_rfl) rfl rfl (a4_ BK283 (a4_ BK274 (h4_ BK273))) (fun hHeld => ?_); refine with_tabW compositorlaw08_PixelOverIdentities.tab7 compositorlaw08_PixelOverIdentities.bits7 (fun HT_ HW_ => ?_)
         generalize wc.drew = w88 at BK273 BK274 BK283 BK288 HB hHeld ⊢
         refine take_ (i := 0) (N := some 70) (v := ?_) (a' := ?_) zq6.q64 rfl rfl (take_ofW HT_.out HW_.out (by kernel_rfl)) (fun _ _ _ h => h) (Or.inl ⟨by rfl, ?_⟩) hHeld ?_ ?_
         rotate_left
         ·
          rintro w' ⟨s0, s1, s2, s3, s4, s5, s6, s7, s8, s9, s10, s11⟩
          go_simp
          with_reducible rfl
         rotate_left
         ·
          simp only [Act.put, List.setIfInBounds_toArray, List.set_cons_zero, List.set_cons_succ, i64_w, i32_w]
          rfl
         refine take_ (i := 1) (N := some 71) (v := ?_) (a' := ?_) zq6.q65 rfl rfl (take_ofW HT_.out HW_.out (by kernel_rfl)) (fun _ _ _ h => h) (Or.inl ⟨by rfl, ?_⟩) hHeld ?_ ?_
         rotate_left
         ·
          rintro w' ⟨s0, s1, s2, s3, s4, s5, s6, s7, s8, s9, s10, s11⟩
          go_simp
          with_reducible rfl
         rotate_left
         ·
          simp only [Act.put, List.setIfInBounds_toArray, List.set_cons_zero, List.set_cons_succ, i64_w, i32_w]
          rfl
         refine take_ (i := 3) (N := some 73) (v := ?_) (a' := ?_) zq6.q66 rfl rfl (take_ofW HT_.out HW_.out (by kernel_rfl)) (fun _ _ _ h => h) (Or.inl ⟨by rfl, ?_⟩) hHeld ?_ ?_
         rotate_left
         ·
          rintro w' ⟨s0, s1, s2, s3, s4, s5, s6, s7, s8, s9, s10, s11⟩
          go_simp
          with_reducible rfl
         rotate_left
         ·
          simp only [Act.put, List.setIfInBounds_toArray, List.set_cons_zero, List.set_cons_succ, i64_w, i32_w]
          rfl
         refine one_ (i := 2) (N := some 72) zq6.q67 rfl rfl (one_of HT_.out (by kernel_rfl)) (by decide) (fun K hK => ?_)
         refine goes_ Try.func13 (by kernel_rfl) rfl #[.agg #[.int .u8 t275, .int .u8 t276, .int .u8 t277, .int .u8 255], .agg #[.int .u8 t279, .int .u8 t280, .int .u8 t281, .int .u8 t282]] (by rfl) rfl rfl (by (try simp only [List.map_toArray, List.map_cons, List.map_nil]) <;> rfl) ?_
         with_reducible refine (pixel_Over.calls t275 t276 t277 255 t279 t280 t281 t282 t294 t295 t296 t297 _ A77.out).mono ?_
         rintro e w89 ⟨rfl, hb⟩
         refine ⟨_, rfl, ?_⟩
         replace BK273 := bb_ BK273 hb
         replace BK274 := bb_ BK274 hb
         replace BK283 := bb_ BK283 hb
         replace BK288 := bb_ BK288 hb
         replace HB := hb_ HB hb
         (try clear hb); (try clear hb2); (try clear hk); (try clear hi)
         refine hK.out _ _ (a4_ BK283 (a4_ BK274 (h4_ BK273))) (fun hHeld => ?_)
         clear hK K
         refine norm_ (a' := ?_) ?_ ?_
         rotate_left
         ·
          show Act.put _ (some 72) _ = _
          simp only [Act.put, List.setIfInBounds_toArray, List.set_cons_zero, List.set_cons_succ, i64_w, i32_w]
          rfl
         refine pv_ 4 74 zq6.q68 HT_ ?_
         refine pv_ 5 75 zq6.q69 HT_ ?_
         refine pv_ 6 76 zq6.q70 HT_ ?_
         refine take_ (i := 7) (N := some 77) (v := ?_) (a' := ?_) zq6.q71 rfl rfl (take_ofW HT_.out HW_.out (by kernel_rfl)) (fun _ _ _ h => h) (Or.inl ⟨by rfl, ?_⟩) hHeld ?_ ?_
         rotate_left
         ·
          rintro w' ⟨s0, s1, s2, s3, s4, s5, s6, s7, s8, s9, s10, s11⟩
          go_simp
          with_reducible rfl
         rotate_left
         ·
          simp only [Act.put, List.setIfInBounds_toArray, List.set_cons_zero, List.set_cons_succ, i64_w, i32_w]
          rfl
         refine take_ (i := 9) (N := some 79) (v := ?_) (a' := ?_) zq6.q72 rfl rfl (take_ofW HT_.out HW_.out (by kernel_rfl)) (fun _ _ _ h => h) (Or.inl ⟨by rfl, ?_⟩) hHeld ?_ ?_
         rotate_left
         ·
          rintro w' ⟨s0, s1, s2, s3, s4, s5, s6, s7, s8, s9, s10, s11⟩
          go_simp
          with_reducible rfl
         rotate_left
         ·
          simp only [Act.put, List.setIfInBounds_toArray, List.set_cons_zero, List.set_cons_succ, i64_w, i32_w]
          rfl
         refine one_ (i := 8) (N := some 78) zq6.q73 rfl rfl (one_of HT_.out (by kernel_rfl)) (by decide) (fun K hK => ?_)
         refine goes_ Try.func13 (by kernel_rfl) rfl #[.agg #[.int .u8 0, .int .u8 0, .int .u8 0, .int .u8 0], .agg #[.int .u8 t279, .int .u8 t280, .int .u8 t281, .int .u8 t282]] (by rfl) rfl rfl (by (try simp only [List.map_toArray, List.map_cons, List.map_nil]) <;> rfl) ?_
         with_reducible refine (pixel_Over.calls 0 0 0 0 t279 t280 t281 t282 t298 t299 t300 t301 _ A79.out).mono ?_
         rintro e w90 ⟨rfl, hb⟩
         refine ⟨_, rfl, ?_⟩
         replace BK273 := bb_ BK273 hb
         replace BK274 := bb_ BK274 hb
         replace BK283 := bb_ BK283 hb
         replace BK288 := bb_ BK288 hb
         replace HB := hb_ HB hb
         (try clear hb); (try clear hb2); (try clear hk); (try clear hi)
         refine hK.out _ _ (a4_ BK283 (a4_ BK274 (h4_ BK273))) (fun hHeld => ?_)
         clear hK K
         refine norm_ (a' := ?_) ?_ ?_
         rotate_left
         ·
          show Act.put _ (some 78) _ = _
          simp only [Act.put, List.setIfInBounds_toArray, List.set_cons_zero, List.set_cons_succ, i64_w, i32_w]
          rfl
         refine pv_ 10 80 zq6.q74 HT_ ?_
         refine pv_ 11 81 zq6.q75 HT_ ?_
         refine pv_ 12 82 zq6.q76 HT_ ?_
         refine pv_ 14 84 zq6.q77 HT_ ?_
         refine take_ (i := 13) (N := some 83) (v := ?_) (a' := ?_) zq6.q78 rfl rfl (take_ofW HT_.out HW_.out (by kernel_rfl)) (fun _ _ _ h => h) (Or.inl ⟨by rfl, ?_⟩) hHeld ?_ ?_
         rotate_left
         ·
          rintro w' ⟨s0, s1, s2, s3, s4, s5, s6, s7, s8, s9, s10, s11⟩
          go_simp
          with_reducible rfl
         rotate_left
         ·
          simp only [Act.put, List.setIfInBounds_toArray, List.set_cons_zero, List.set_cons_succ, i64_w, i32_w]
          rfl
         refine take_ (i := 16) (N := some 86) (v := ?_) (a' := ?_) zq6.q79 rfl rfl (take_ofW HT_.out HW_.out (by kernel_rfl)) (fun _ _ _ h => h) (Or.inl ⟨by rfl, ?_⟩) hHeld ?_ ?_
         rotate_left
         ·
          rintro w' ⟨s0, s1, s2, s3, s4, s5, s6, s7, s8, s9, s10, s11⟩
          go_simp
          with_reducible rfl
         rotate_left
         ·
          simp only [Act.put, List.setIfInBounds_toArray, List.set_cons_zero, List.set_cons_succ, i64_w, i32_w]
          rfl
         refine one_ (i := 15) (N := some 85) zq6.q80 rfl rfl (one_of HT_.out (by kernel_rfl)) (by decide) (fun K hK => ?_)
         refine goes_ Try.func13 (by kernel_rfl) rfl #[.agg #[.int .u8 t275, .int .u8 t276, .int .u8 t277, .int .u8 t278], .agg #[.int .u8 0, .int .u8 0, .int .u8 0, .int .u8 0]] (by rfl) rfl rfl (by (try simp only [List.map_toArray, List.map_cons, List.map_nil]) <;> rfl) ?_
         with_reducible refine (pixel_Over.calls t275 t276 t277 t278 0 0 0 0 t302 t303 t304 t305 _ A81.out).mono ?_
         rintro e w91 ⟨rfl, hb⟩
         refine ⟨_, rfl, ?_⟩
         replace BK273 := bb_ BK273 hb
         replace BK274 := bb_ BK274 hb
         replace BK283 := bb_ BK283 hb
         replace BK288 := bb_ BK288 hb
         replace HB := hb_ HB hb
         (try clear hb); (try clear hb2); (try clear hk); (try clear hi)
         refine hK.out _ _ (a4_ BK283 (a4_ BK274 (h4_ BK273))) (fun hHeld => ?_)
         clear hK K
         refine norm_ (a' := ?_) ?_ ?_
         rotate_left
         ·
          show Act.put _ (some 85) _ = _
          simp only [Act.put, List.setIfInBounds_toArray, List.set_cons_zero, List.set_cons_succ, i64_w, i32_w]
          rfl
         refine pv_ 17 87 zq6.q81 HT_ ?_
         refine pv_ 18 88 zq6.q82 HT_ ?_
         refine pv_ 19 89 zq6.q83 HT_ ?_
         refine take_ (i := 20) (N := some 90) (v := ?_) (a' := ?_) zq6.q84 rfl rfl (take_ofW HT_.out HW_.out (by kernel_rfl)) (fun _ _ _ h => h) (Or.inl ⟨by rfl, ?_⟩) hHeld ?_ ?_
         rotate_left
         ·
          rintro w' ⟨s0, s1, s2, s3, s4, s5, s6, s7, s8, s9, s10, s11⟩
          go_simp
          with_reducible rfl
         rotate_left
         ·
          simp only [Act.put, List.setIfInBounds_toArray, List.set_cons_zero, List.set_cons_succ, i64_w, i32_w]
          rfl
         refine take_ (i := 22) (N := some 92) (v := ?_) (a' := ?_) zq6.q85 rfl rfl (take_ofW HT_.out HW_.out (by kernel_rfl)) (fun _ _ _ h => h) (Or.inl ⟨by rfl, ?_⟩) hHeld ?_ ?_
         rotate_left
         ·
          rintro w' ⟨s0, s1, s2, s3, s4, s5, s6, s7, s8, s9, s10, s11⟩
          go_simp
          with_reducible rfl
         rotate_left
         ·
          simp only [Act.put, List.setIfInBounds_toArray, List.set_cons_zero, List.set_cons_succ, i64_w, i32_w]
          rfl
         refine one_ (i := 21) (N := some 91) zq6.q86 rfl rfl (one_of HT_.out (by kernel_rfl)) (by decide) (fun K hK => ?_)
         refine goes_ Try.func11 (by kernel_rfl) rfl #[.agg #[.int .u8 t275, .int .u8 t276, .int .u8 t277, .int .u8 t278], .int .u8 255] (by rfl) rfl rfl (by (try simp only [List.map_toArray, List.map_cons, List.map_nil]) <;> rfl) ?_
         with_reducible refine (pixel_Scale.calls t275 t276 t277 t278 255 t306 t307 t308 t309 _ A83.out).mono ?_
         rintro e w92 ⟨rfl, hb⟩
         refine ⟨_, rfl, ?_⟩
         replace BK273 := bb_ BK273 hb
         replace BK274 := bb_ BK274 hb
         replace BK283 := bb_ BK283 hb
         replace BK288 := bb_ BK288 hb
         replace HB := hb_ HB hb
         (try clear hb); (try clear hb2); (try clear hk); (try clear hi)
         refine hK.out _ _ (a4_ BK283 (a4_ BK274 (h4_ BK273))) (fun hHeld => ?_)
         clear hK K
         refine norm_ (a' := ?_) ?_ ?_
         rotate_left
         ·
          show Act.put _ (some 91) _ = _
          simp only [Act.put, List.setIfInBounds_toArray, List.set_cons_zero, List.set_cons_succ, i64_w, i32_w]
          rfl
         refine pv_ 23 93 zq6.q87 HT_ ?_
         refine pv_ 24 94 zq6.q88 HT_ ?_
         refine pv_ 25 95 zq6.q89 HT_ ?_
         refine pv_ 28 98 zq6.q90 HT_ ?_
         refine take_ (i := 26) (N := some 96) (v := ?_) (a' := ?_) zq6.q91 rfl rfl (take_ofW HT_.out HW_.out (by kernel_rfl)) (fun _ _ _ h => h) (Or.inl ⟨by rfl, ?_⟩) hHeld ?_ ?_
         rotate_left
         ·
          rintro w' ⟨s0, s1, s2, s3, s4, s5, s6, s7, s8, s9, s10, s11⟩
          go_simp
          with_reducible rfl
         rotate_left
         ·
          simp only [Act.put, List.setIfInBounds_toArray, List.set_cons_zero, List.set_cons_succ, i64_w, i32_w]
          rfl
         refine one_ (i := 27) (N := some 97) zq6.q92 rfl rfl (one_of HT_.out (by kernel_rfl)) (by decide) (fun K hK => ?_)
         refine goes_ Try.func11 (by kernel_rfl) rfl #[.agg #[.int .u8 t275, .int .u8 t276, .int .u8 t277, .int .u8 t278], .int .u8 0] (by rfl) rfl rfl (by (try simp only [List.map_toArray, List.map_cons, List.map_nil]) <;> rfl) ?_
         with_reducible refine (pixel_Scale.calls t275 t276 t277 t278 0 t310 t311 t312 t313 _ A85.out).mono ?_
         rintro e w93 ⟨rfl, hb⟩
         refine ⟨_, rfl, ?_⟩
         replace BK273 := bb_ BK273 hb
         replace BK274 := bb_ BK274 hb
         replace BK283 := bb_ BK283 hb
         replace BK288 := bb_ BK288 hb
         replace HB := hb_ HB hb
         (try clear hb); (try clear hb2); (try clear hk); (try clear hi)
         refine hK.out _ _ (a4_ BK283 (a4_ BK274 (h4_ BK273))) (fun hHeld => ?_)
         clear hK K
         refine norm_ (a' := ?_) ?_ ?_
         rotate_left
         ·
          show Act.put _ (some 97) _ = _
          simp only [Act.put, List.setIfInBounds_toArray, List.set_cons_zero, List.set_cons_succ, i64_w, i32_w]
          rfl
         refine pv_ 29 99 zq6.q93 HT_ ?_
         refine pv_ 30 100 zq6.q94 HT_ ?_
         refine pv_ 31 101 zq6.q95 HT_ ?_
         refine one_ (i := 32) (N := some 102) zq6.q96 rfl rfl (one_of HT_.out (by kernel_rfl)) (by decide) (fun K hK => ?_)
         refine goes_ Try.func15 (by kernel_rfl) rfl #[] (by rfl) rfl rfl (by (try simp only [List.map_toArray, List.map_cons, List.map_nil]) <;> rfl) ?_
         with_reducible refine (compositorlaw08_exampleHolds.calls  t314 _ A87.out).mono ?_
         rintro e w94 ⟨rfl, hb⟩
         refine ⟨_, rfl, ?_⟩
         replace BK273 := bb_ BK273 hb
         replace BK274 := bb_ BK274 hb
         replace BK283 := bb_ BK283 hb
         replace BK288 := bb_ BK288 hb
         replace HB := hb_ HB hb
         (try clear hb); (try clear hb2); (try clear hk); (try clear hi)
         refine hK.out _ _ (a4_ BK283 (a4_ BK274 (h4_ BK273))) (fun hHeld => ?_)
         clear hK K
         refine norm_ (a' := ?_) ?_ ?_
         rotate_left
         ·
          show Act.put _ (some 102) _ = _
          simp only [Act.put, List.setIfInBounds_toArray, List.set_cons_zero, List.set_cons_succ, i64_w, i32_w]
          rfl
         refine pv_ 33 103 zq6.q97 HT_ ?_
         refine pv_ 34 4 zq6.q98 HT_ ?_
         refine done_ (done_of HT_.out (by kernel_rfl)) ?_
         try go_wp2
         go_ret
         exact ⟨by first | rfl | (simp [errW_none, errW_some] <;> rfl) | (simp [*, errW_none, errW_some] <;> rfl), by repeat (first | (with_reducible first | exact HB.out | apply below_alloc | apply pw_below_drewN | apply below_drew1 | refine below_set ?_ GE273.out | refine below_set ?_ GE274.out | refine below_set ?_ GE283.out | refine below_set ?_ GE288.out) | exact HB.out)⟩
        ·
         rw [if_neg c86] at H
         have c86b0 : (t310 == 0 && (t311 == 0 && (t312 == 0 && (t313 == 0)))) = false := by simpa using c86
         (try (have c86b1 : decide (t310 = 0 && (t311 == 0 && (t312 == 0 && (t313 == 0)))) = false := by simpa using c86))
         (try (have c86b2 : (t310 == 0 && (t311 == 0 && (t312 == 0 && (t313 == 0)))) = false := by simpa using c86))
         (try (have c86b3 : ¬ (t310 = 0 && (t311 == 0 && (t312 == 0 && (t313 == 0)))) := by simpa using c86))
         clear c86
         exact absurd H (by simp)
       ·
        rw [if_neg c84] at H
        have c84b0 : (t306 == t275 && (t307 == t276 && (t308 == t277 && (t309 == t278)))) = false := by simpa using c84
        (try (have c84b1 : decide (t306 = t275 && (t307 == t276 && (t308 == t277 && (t309 == t278)))) = false := by simpa using c84))
        (try (have c84b2 : (t306 == t275 && (t307 == t276 && (t308 == t277 && (t309 == t278)))) = false := by simpa using c84))
        (try (have c84b3 : ¬ (t306 = t275 && (t307 == t276 && (t308 == t277 && (t309 == t278)))) := by simpa using c84))
        clear c84
        exact absurd H (by simp)
      ·
       rw [if_neg c82] at H
       have c82b0 : (t302 == t275 && (t303 == t276 && (t304 == t277 && (t305 == t278)))) = false := by simpa using c82
       (try (have c82b1 : decide (t302 = t275 && (t303 == t276 && (t304 == t277 && (t305 == t278)))) = false := by simpa using c82))
       (try (have c82b2 : (t302 == t275 && (t303 == t276 && (t304 == t277 && (t305 == t278)))) = false := by simpa using c82))
       (try (have c82b3 : ¬ (t302 = t275 && (t303 == t276 && (t304 == t277 && (t305 == t278)))) := by simpa using c82))
       clear c82
       exact absurd H (by simp)
     ·
      rw [if_neg c80] at H
      have c80b0 : (t298 == t279 && (t299 == t280 && (t300 == t281 && (t301 == t282)))) = false := by simpa using c80
      (try (have c80b1 : decide (t298 = t279 && (t299 == t280 && (t300 == t281 && (t301 == t282)))) = false := by simpa using c80))
      (try (have c80b2 : (t298 == t279 && (t299 == t280 && (t300 == t281 && (t301 == t282)))) = false := by simpa using c80))
      (try (have c80b3 : ¬ (t298 = t279 && (t299 == t280 && (t300 == t281 && (t301 == t282)))) := by simpa using c80))
      clear c80
      exact absurd H (by simp)
    ·
     rw [if_neg c78] at H
     have c78b0 : (t294 == t275 && (t295 == t276 && (t296 == t277 && (t297 == 255)))) = false := by simpa using c78
     (try (have c78b1 : decide (t294 = t275 && (t295 == t276 && (t296 == t277 && (t297 == 255)))) = false := by simpa using c78))
     (try (have c78b2 : (t294 == t275 && (t295 == t276 && (t296 == t277 && (t297 == 255)))) = false := by simpa using c78))
     (try (have c78b3 : ¬ (t294 = t275 && (t295 == t276 && (t296 == t277 && (t297 == 255)))) := by simpa using c78))
     clear c78
     exact absurd H (by simp)

end Go.Proofs.Ytdhjbdofklglgaa.All
