-- Written by a program of this session, which runs the kit's print.py and puts in functions that this session typed. Not trusted: Lean checks it.
import Derived.Test.YthpmfhfnkgbkjaaHand
import Derived.Test.YthpmfhfnkgbkjaaAllx0
import Derived.Test.YthpmfhfnkgbkjaaAllx1
import Derived.Test.YthpmfhfnkgbkjaaAllx9
import Derived.Test.YthpmfhfnkgbkjaaAllx11
import Derived.Test.YthpmfhfnkgbkjaaAllx12
import Derived.Test.YthpmfhfnkgbkjaaAllx13
import Derived.Test.YthpmfhfnkgbkjaaAllx14
import Derived.Test.YthpmfhfnkgbkjaaAllx17
import Derived.Test.YthpmfhfnkgbkjaaAllx18
namespace Go.Proofs.Ythpmfhfnkgbkjaa.All
open Go.Proofs.YthpmfhfnkgbkjaaSq
open Go.RowKit Go.Proofs.YthpmfhfnkgbkjaaW.PrintWords Go.Proofs.YthpmfhfnkgbkjaaW.PrintLast Go.Proofs.YthpmfhfnkgbkjaaW.PrintMore
attribute [local go_sem] max2_int min2_int max_two min_two max_three min_three max_four min_four   -- for this text's walks alone
set_option linter.unusedVariables false
set_option linter.unusedSimpArgs false

attribute [local go_sem high] eqA34
/-! ### compositorlaw10_exampleHolds: function 12 -/
abbrev zq12.q0 := Go.Proofs.YthpmfhfnkgbkjaaHand.bz 44 0
abbrev zq12.q1 := Go.Proofs.YthpmfhfnkgbkjaaHand.bz 44 1
abbrev zq12.q2 := Go.Proofs.YthpmfhfnkgbkjaaHand.bz 44 3
abbrev zq12.q3 := Go.Proofs.YthpmfhfnkgbkjaaHand.bz 44 7
abbrev zq12.q4 := Go.Proofs.YthpmfhfnkgbkjaaHand.bz 44 15
abbrev zq12.q5 := Go.Proofs.YthpmfhfnkgbkjaaHand.bz 44 31
abbrev zq12.q6 := Go.Proofs.YthpmfhfnkgbkjaaHand.bz 44 63
abbrev zq12.q7 := Go.Proofs.YthpmfhfnkgbkjaaHand.bz 44 127
abbrev zq12.q8 := Go.Proofs.YthpmfhfnkgbkjaaHand.bz 44 255
abbrev zq12.q9 := Go.Proofs.YthpmfhfnkgbkjaaHand.bz 44 511
abbrev zq12.q10 := Go.Proofs.YthpmfhfnkgbkjaaHand.bz 44 1023
abbrev zq12.q11 := Go.Proofs.YthpmfhfnkgbkjaaHand.bz 44 2047
abbrev zq12.q12 := Go.Proofs.YthpmfhfnkgbkjaaHand.bz 44 4095
abbrev zq12.q13 := Go.Proofs.YthpmfhfnkgbkjaaHand.bz 44 8191
abbrev zq12.q14 := Go.Proofs.YthpmfhfnkgbkjaaHand.bz 44 16383
abbrev zq12.q15 := Go.Proofs.YthpmfhfnkgbkjaaHand.bz 44 32767
abbrev zq12.q16 := Go.Proofs.YthpmfhfnkgbkjaaHand.bz 44 65535
abbrev zq12.q17 := Go.Proofs.YthpmfhfnkgbkjaaHand.bz 44 131071
abbrev zq12.q18 := Go.Proofs.YthpmfhfnkgbkjaaHand.bz 44 262143
abbrev zq12.q19 := Go.Proofs.YthpmfhfnkgbkjaaHand.bz 44 524287
abbrev zq12.q20 := Go.Proofs.YthpmfhfnkgbkjaaHand.bz 44 1048575
abbrev zq12.q21 := Go.Proofs.YthpmfhfnkgbkjaaHand.bz 44 2097151
abbrev zq12.q22 := Go.Proofs.YthpmfhfnkgbkjaaHand.bz 44 4194303
abbrev zq12.q23 := Go.Proofs.YthpmfhfnkgbkjaaHand.bz 44 8388607
abbrev zq12.q24 := Go.Proofs.YthpmfhfnkgbkjaaHand.bz 44 16777215
abbrev zq12.q25 := Go.Proofs.YthpmfhfnkgbkjaaHand.bz 44 33554431
abbrev zq12.q26 := Go.Proofs.YthpmfhfnkgbkjaaHand.bz 44 67108863
abbrev zq12.q27 := Go.Proofs.YthpmfhfnkgbkjaaHand.bz 44 134217727
abbrev zq12.q28 := Go.Proofs.YthpmfhfnkgbkjaaHand.bz 44 268435455
abbrev zq12.q29 := Go.Proofs.YthpmfhfnkgbkjaaHand.bz 44 536870911
abbrev zq12.q30 := Go.Proofs.YthpmfhfnkgbkjaaHand.bz 44 1073741823
abbrev zq12.q31 := Go.Proofs.YthpmfhfnkgbkjaaHand.bz 44 2147483647
abbrev zq12.q32 := Go.Proofs.YthpmfhfnkgbkjaaHand.bz 44 4294967295
abbrev zq12.q33 := Go.Proofs.YthpmfhfnkgbkjaaHand.bz 44 8589934591
abbrev zq12.q34 := Go.Proofs.YthpmfhfnkgbkjaaHand.bz 44 17179869183
abbrev zq12.q35 := Go.Proofs.YthpmfhfnkgbkjaaHand.bz 44 34359738367
abbrev zq12.q36 := Go.Proofs.YthpmfhfnkgbkjaaHand.bz 44 68719476735
abbrev zq12.q37 := Go.Proofs.YthpmfhfnkgbkjaaHand.bz 44 137438953471
abbrev zq12.q38 := Go.Proofs.YthpmfhfnkgbkjaaHand.bz 44 274877906943
abbrev zq12.q39 := Go.Proofs.YthpmfhfnkgbkjaaHand.bz 44 549755813887
abbrev zq12.q40 := Go.Proofs.YthpmfhfnkgbkjaaHand.bz 44 1649267441663
abbrev zq12.q41 := Go.Proofs.YthpmfhfnkgbkjaaHand.bz 44 2199023255551
abbrev zq12.q42 := Go.Proofs.YthpmfhfnkgbkjaaHand.bz 44 4398046511103
abbrev zq12.q43 := Go.Proofs.YthpmfhfnkgbkjaaHand.bz 44 8796093022207
abbrev zq12.q44 := Go.Proofs.YthpmfhfnkgbkjaaHand.bz 44 17592186044415
def compositorlaw10_exampleHolds.f (k : Nat)  : Option (Bool) := (compositorlaw10_row.f k (([10, 20, 30, 40] : List Int))).bind fun bt172 => ((scale_Nearest.f bt172.1 bt172.2.1 bt172.2.2 3 1).bind fun bt177 => ((compositorlaw10_row.f k (([10, 20, 30, 40] : List Int))).bind fun bt187 => ((scale_Box.f bt187.1 bt187.2.1 bt187.2.2 3 1).bind fun bt192 => ((compositorlaw10_row.f k (([10, 21] : List Int))).bind fun bt202 => ((scale_Shrink.f bt202.1 bt202.2.1 bt202.2.2 2).bind fun bt207 => ((compositorlaw10_row.f k (([1, 2] : List Int))).bind fun bt217 => ((scale_Enlarge.f bt217.1 bt217.2.1 bt217.2.2 2).bind fun bt222 => (if bt177.2.2.2 = 0 then ((compositorlaw10_row.f k (([10, 30, 40] : List Int))).bind fun bt232 => ((compositorlaw10_same.f k bt177.1 bt177.2.1 bt177.2.2.1 bt232.1 bt232.2.1 bt232.2.2).bind fun t237 => (if t237 = true then (if bt192.2.2.2 = 0 then ((compositorlaw10_row.f k (([13, 25, 38] : List Int))).bind fun bt241 => ((compositorlaw10_same.f k bt192.1 bt192.2.1 bt192.2.2.1 bt241.1 bt241.2.1 bt241.2.2).bind fun t246 => (if t246 = true then (if bt207.2.2.2 = 2 then (if bt222.2.2.2 = 0 then (if bt222.1 = 4 then (if (bt222.2.2.1.length : Int) = 8 then ((scale_MapRect.f k 1 0 2 1 4 4 2 8).bind fun bt247 => (some (bt247.1 == 0 && (bt247.2.1 == 0 && (bt247.2.2.1 == 1 && (bt247.2.2.2 == 2)))))) else (some false)) else (some false)) else (some false)) else (some false)) else (some false)))) else (some false)) else (some false)))) else (some false)))))))))
theorem compositorlaw10_exampleHolds.mono : ∀ k, LeO (compositorlaw10_exampleHolds.f k ) (compositorlaw10_exampleHolds.f (k + 1) ) := by
 intro  k
 unfold compositorlaw10_exampleHolds.f
 repeat' first
   | (with_reducible exact compositorlaw10_row.mono _ _)
   | (with_reducible exact compositorlaw10_same.mono _ _ _ _ _ _ _)
   | (with_reducible exact scale_MapRect.mono _ _ _ _ _ _ _ _ _)
   | (with_reducible exact LeO.refl _)
   | (with_reducible exact LeO.none _)
   | (with_reducible refine LeO.ite ?_ ?_)
   | (with_reducible refine LeO.bind ?_ (fun _ => ?_))
   | exact compositorlaw10_row.mono _ _
   | exact compositorlaw10_same.mono _ _ _ _ _ _ _
   | exact scale_MapRect.mono _ _ _ _ _ _ _ _ _
   | exact LeO.none _
   | refine LeO.ite ?_ ?_
   | refine LeO.bind ?_ (fun _ => ?_)
def compositorlaw10_exampleHolds.T5 : Bool × List (List Nat × List Nat) := (true, [([], []), ([0], [0]), ([1], [1]), ([2], [2]), ([2], [2]), ([4, 2, 2], [2, 4]), ([3, 5, 5, 2], [2, 3, 5]), ([2, 6], [2, 6]), ([7, 6], [7]), ([8], [8]), ([9, 8], [8, 9]), ([8, 10], [8, 10]), ([11, 8], [11]), ([12], [12]), ([12], [12]), ([14, 12, 12], [12, 14]), ([13, 15, 15, 12], [12, 13, 15]), ([12, 16], [12, 16]), ([17, 16], [17]), ([18], [18]), ([19, 18], [18, 19]), ([18, 20], [18, 20]), ([21, 18], [21]), ([22], [22]), ([23, 22], [22, 23]), ([22, 24], [22, 24]), ([25, 22], [25]), ([26], [26]), ([27, 26], [26, 27]), ([28, 26], [26, 28]), ([26, 29], [26, 29]), ([30, 26], [30]), ([31], [31]), ([32, 31], [31, 32]), ([33, 31], [31, 33]), ([34, 31], [31, 34]), ([31, 35], [31, 35]), ([36, 31], [36]), ([37], [37]), ([38, 37, 37], [37, 38]), ([37], [37]), ([39, 40, 37], [37, 39, 40]), ([37, 41], [37, 41]), ([42, 39, 0, 1, 2, 3, 4, 5, 6, 7, 8, 9, 10, 11, 12, 13, 14, 15, 16, 17, 18, 19, 20, 21, 22, 23, 24, 25, 26, 27, 28, 29, 30, 31, 32, 33, 34, 35, 36, 37, 38, 39, 40, 41, 42], [42])])
def compositorlaw10_exampleHolds.B5 : List Nat := [0, 1, 3, 7, 7, 23, 63, 127, 255, 511, 1023, 2047, 4095, 8191, 8191, 24575, 65535, 131071, 262143, 524287, 1048575, 2097151, 4194303, 8388607, 16777215, 33554431, 67108863, 134217727, 268435455, 536870911, 1073741823, 2147483647, 4294967295, 8589934591, 17179869183, 34359738367, 68719476735, 137438953471, 274877906943, 549755813887, 274877906943, 2199023255551, 4398046511103, 8796093022207]
theorem compositorlaw10_exampleHolds.tab5 : rtab .any (opsOf Try.f12 5) = compositorlaw10_exampleHolds.T5 := by kernel_rfl
theorem compositorlaw10_exampleHolds.bits5 : waitsOk compositorlaw10_exampleHolds.T5.2 compositorlaw10_exampleHolds.B5 = true := by kernel_rfl
set_option maxHeartbeats 8000000 in
set_option maxRecDepth 100000 in
theorem compositorlaw10_exampleHolds.callsT (k : Nat)  (w : World) (h : compositorlaw10_exampleHolds.f k  = some true) :
  Calls Try.prog 12 #[] w fun e w' => e = .returned (.bool true) ∧ Below w.heap.size w w' := by
 have hu24 := Try.underlying24
 have hu34 := Try.underlying34
 have HB := Aside0.mk (Below.refl w.heap.size w)
 have H : ((compositorlaw10_row.f k (([10, 20, 30, 40] : List Int))).bind fun bt172 => ((scale_Nearest.f bt172.1 bt172.2.1 bt172.2.2 3 1).bind fun bt177 => ((compositorlaw10_row.f k (([10, 20, 30, 40] : List Int))).bind fun bt187 => ((scale_Box.f bt187.1 bt187.2.1 bt187.2.2 3 1).bind fun bt192 => ((compositorlaw10_row.f k (([10, 21] : List Int))).bind fun bt202 => ((scale_Shrink.f bt202.1 bt202.2.1 bt202.2.2 2).bind fun bt207 => ((compositorlaw10_row.f k (([1, 2] : List Int))).bind fun bt217 => ((scale_Enlarge.f bt217.1 bt217.2.1 bt217.2.2 2).bind fun bt222 => (if bt177.2.2.2 = 0 then ((compositorlaw10_row.f k (([10, 30, 40] : List Int))).bind fun bt232 => ((compositorlaw10_same.f k bt177.1 bt177.2.1 bt177.2.2.1 bt232.1 bt232.2.1 bt232.2.2).bind fun t237 => (if t237 = true then (if bt192.2.2.2 = 0 then ((compositorlaw10_row.f k (([13, 25, 38] : List Int))).bind fun bt241 => ((compositorlaw10_same.f k bt192.1 bt192.2.1 bt192.2.2.1 bt241.1 bt241.2.1 bt241.2.2).bind fun t246 => (if t246 = true then (if bt207.2.2.2 = 2 then (if bt222.2.2.2 = 0 then (if bt222.1 = 4 then (if (bt222.2.2.1.length : Int) = 8 then ((scale_MapRect.f k 1 0 2 1 4 4 2 8).bind fun bt247 => (some (bt247.1 == 0 && (bt247.2.1 == 0 && (bt247.2.2.1 == 1 && (bt247.2.2.2 == 2)))))) else (some false)) else (some false)) else (some false)) else (some false)) else (some false)))) else (some false)) else (some false)))) else (some false)))))))))) = some true := h
 clear h
 obtain ⟨y169, hy169⟩ : ∃ y_ : List Int, y_ = (([10, 20, 30, 40] : List Int)) := ⟨_, rfl⟩
 replace H : ((compositorlaw10_row.f k y169).bind fun bt172 => ((scale_Nearest.f bt172.1 bt172.2.1 bt172.2.2 3 1).bind fun bt177 => ((compositorlaw10_row.f k (([10, 20, 30, 40] : List Int))).bind fun bt187 => ((scale_Box.f bt187.1 bt187.2.1 bt187.2.2 3 1).bind fun bt192 => ((compositorlaw10_row.f k (([10, 21] : List Int))).bind fun bt202 => ((scale_Shrink.f bt202.1 bt202.2.1 bt202.2.2 2).bind fun bt207 => ((compositorlaw10_row.f k (([1, 2] : List Int))).bind fun bt217 => ((scale_Enlarge.f bt217.1 bt217.2.1 bt217.2.2 2).bind fun bt222 => (if bt177.2.2.2 = 0 then ((compositorlaw10_row.f k (([10, 30, 40] : List Int))).bind fun bt232 => ((compositorlaw10_same.f k bt177.1 bt177.2.1 bt177.2.2.1 bt232.1 bt232.2.1 bt232.2.2).bind fun t237 => (if t237 = true then (if bt192.2.2.2 = 0 then ((compositorlaw10_row.f k (([13, 25, 38] : List Int))).bind fun bt241 => ((compositorlaw10_same.f k bt192.1 bt192.2.1 bt192.2.2.1 bt241.1 bt241.2.1 bt241.2.2).bind fun t246 => (if t246 = true then (if bt207.2.2.2 = 2 then (if bt222.2.2.2 = 0 then (if bt222.1 = 4 then (if (bt222.2.2.1.length : Int) = 8 then ((scale_MapRect.f k 1 0 2 1 4 4 2 8).bind fun bt247 => (some (bt247.1 == 0 && (bt247.2.1 == 0 && (bt247.2.2.1 == 1 && (bt247.2.2.2 == 2)))))) else (some false)) else (some false)) else (some false)) else (some false)) else (some false)))) else (some false)) else (some false)))) else (some false)))))))))) = some true := by first | (rw [hy169]; with_reducible exact H) | (have H2_ := (Option.bind_some _ _).symm.trans H; rw [hy169]; with_reducible exact H2_) | (have H2_ := (Option.bind_some _ _).symm.trans H; with_reducible exact H2_) | with_reducible exact H | (rw [hy169]; exact H) | exact H
 have Ny169 := Aside0.mk hy169
 clear hy169
 replace H := Option.bind_eq_some_iff.mp H
 obtain ⟨⟨t172, t173, t174⟩, A10, H⟩ := H
 try dsimp only at H
 have A1 := Aside0.mk A10
 clear A10
 replace H := Option.bind_eq_some_iff.mp H
 obtain ⟨⟨t177, t178, t179, t182⟩, A20, H⟩ := H
 try dsimp only at H
 have A2 := Aside0.mk A20
 clear A20
 obtain ⟨y184, hy184⟩ : ∃ y_ : List Int, y_ = (([10, 20, 30, 40] : List Int)) := ⟨_, rfl⟩
 replace H : ((compositorlaw10_row.f k y184).bind fun bt187 => ((scale_Box.f bt187.1 bt187.2.1 bt187.2.2 3 1).bind fun bt192 => ((compositorlaw10_row.f k (([10, 21] : List Int))).bind fun bt202 => ((scale_Shrink.f bt202.1 bt202.2.1 bt202.2.2 2).bind fun bt207 => ((compositorlaw10_row.f k (([1, 2] : List Int))).bind fun bt217 => ((scale_Enlarge.f bt217.1 bt217.2.1 bt217.2.2 2).bind fun bt222 => (if t182 = 0 then ((compositorlaw10_row.f k (([10, 30, 40] : List Int))).bind fun bt232 => ((compositorlaw10_same.f k t177 t178 t179 bt232.1 bt232.2.1 bt232.2.2).bind fun t237 => (if t237 = true then (if bt192.2.2.2 = 0 then ((compositorlaw10_row.f k (([13, 25, 38] : List Int))).bind fun bt241 => ((compositorlaw10_same.f k bt192.1 bt192.2.1 bt192.2.2.1 bt241.1 bt241.2.1 bt241.2.2).bind fun t246 => (if t246 = true then (if bt207.2.2.2 = 2 then (if bt222.2.2.2 = 0 then (if bt222.1 = 4 then (if (bt222.2.2.1.length : Int) = 8 then ((scale_MapRect.f k 1 0 2 1 4 4 2 8).bind fun bt247 => (some (bt247.1 == 0 && (bt247.2.1 == 0 && (bt247.2.2.1 == 1 && (bt247.2.2.2 == 2)))))) else (some false)) else (some false)) else (some false)) else (some false)) else (some false)))) else (some false)) else (some false)))) else (some false)))))))) = some true := by first | (rw [hy184]; with_reducible exact H) | (have H2_ := (Option.bind_some _ _).symm.trans H; rw [hy184]; with_reducible exact H2_) | (have H2_ := (Option.bind_some _ _).symm.trans H; with_reducible exact H2_) | with_reducible exact H | (rw [hy184]; exact H) | exact H
 have Ny184 := Aside0.mk hy184
 clear hy184
 replace H := Option.bind_eq_some_iff.mp H
 obtain ⟨⟨t187, t188, t189⟩, A30, H⟩ := H
 try dsimp only at H
 have A3 := Aside0.mk A30
 clear A30
 replace H := Option.bind_eq_some_iff.mp H
 obtain ⟨⟨t192, t193, t194, t197⟩, A40, H⟩ := H
 try dsimp only at H
 have A4 := Aside0.mk A40
 clear A40
 obtain ⟨y199, hy199⟩ : ∃ y_ : List Int, y_ = (([10, 21] : List Int)) := ⟨_, rfl⟩
 replace H : ((compositorlaw10_row.f k y199).bind fun bt202 => ((scale_Shrink.f bt202.1 bt202.2.1 bt202.2.2 2).bind fun bt207 => ((compositorlaw10_row.f k (([1, 2] : List Int))).bind fun bt217 => ((scale_Enlarge.f bt217.1 bt217.2.1 bt217.2.2 2).bind fun bt222 => (if t182 = 0 then ((compositorlaw10_row.f k (([10, 30, 40] : List Int))).bind fun bt232 => ((compositorlaw10_same.f k t177 t178 t179 bt232.1 bt232.2.1 bt232.2.2).bind fun t237 => (if t237 = true then (if t197 = 0 then ((compositorlaw10_row.f k (([13, 25, 38] : List Int))).bind fun bt241 => ((compositorlaw10_same.f k t192 t193 t194 bt241.1 bt241.2.1 bt241.2.2).bind fun t246 => (if t246 = true then (if bt207.2.2.2 = 2 then (if bt222.2.2.2 = 0 then (if bt222.1 = 4 then (if (bt222.2.2.1.length : Int) = 8 then ((scale_MapRect.f k 1 0 2 1 4 4 2 8).bind fun bt247 => (some (bt247.1 == 0 && (bt247.2.1 == 0 && (bt247.2.2.1 == 1 && (bt247.2.2.2 == 2)))))) else (some false)) else (some false)) else (some false)) else (some false)) else (some false)))) else (some false)) else (some false)))) else (some false)))))) = some true := by first | (rw [hy199]; with_reducible exact H) | (have H2_ := (Option.bind_some _ _).symm.trans H; rw [hy199]; with_reducible exact H2_) | (have H2_ := (Option.bind_some _ _).symm.trans H; with_reducible exact H2_) | with_reducible exact H | (rw [hy199]; exact H) | exact H
 have Ny199 := Aside0.mk hy199
 clear hy199
 replace H := Option.bind_eq_some_iff.mp H
 obtain ⟨⟨t202, t203, t204⟩, A50, H⟩ := H
 try dsimp only at H
 have A5 := Aside0.mk A50
 clear A50
 replace H := Option.bind_eq_some_iff.mp H
 obtain ⟨⟨t207, t208, t209, t212⟩, A60, H⟩ := H
 try dsimp only at H
 have A6 := Aside0.mk A60
 clear A60
 obtain ⟨y214, hy214⟩ : ∃ y_ : List Int, y_ = (([1, 2] : List Int)) := ⟨_, rfl⟩
 replace H : ((compositorlaw10_row.f k y214).bind fun bt217 => ((scale_Enlarge.f bt217.1 bt217.2.1 bt217.2.2 2).bind fun bt222 => (if t182 = 0 then ((compositorlaw10_row.f k (([10, 30, 40] : List Int))).bind fun bt232 => ((compositorlaw10_same.f k t177 t178 t179 bt232.1 bt232.2.1 bt232.2.2).bind fun t237 => (if t237 = true then (if t197 = 0 then ((compositorlaw10_row.f k (([13, 25, 38] : List Int))).bind fun bt241 => ((compositorlaw10_same.f k t192 t193 t194 bt241.1 bt241.2.1 bt241.2.2).bind fun t246 => (if t246 = true then (if t212 = 2 then (if bt222.2.2.2 = 0 then (if bt222.1 = 4 then (if (bt222.2.2.1.length : Int) = 8 then ((scale_MapRect.f k 1 0 2 1 4 4 2 8).bind fun bt247 => (some (bt247.1 == 0 && (bt247.2.1 == 0 && (bt247.2.2.1 == 1 && (bt247.2.2.2 == 2)))))) else (some false)) else (some false)) else (some false)) else (some false)) else (some false)))) else (some false)) else (some false)))) else (some false)))) = some true := by first | (rw [hy214]; with_reducible exact H) | (have H2_ := (Option.bind_some _ _).symm.trans H; rw [hy214]; with_reducible exact H2_) | (have H2_ := (Option.bind_some _ _).symm.trans H; with_reducible exact H2_) | with_reducible exact H | (rw [hy214]; exact H) | exact H
 have Ny214 := Aside0.mk hy214
 clear hy214
 replace H := Option.bind_eq_some_iff.mp H
 obtain ⟨⟨t217, t218, t219⟩, A70, H⟩ := H
 try dsimp only at H
 have A7 := Aside0.mk A70
 clear A70
 replace H := Option.bind_eq_some_iff.mp H
 obtain ⟨⟨t222, t223, t224, t227⟩, A80, H⟩ := H
 try dsimp only at H
 have A8 := Aside0.mk A80
 clear A80
 by_cases c9 : t182 = 0
 ·
  rw [if_pos c9] at H
  have c9b0 : (t182 == 0) = true := beq_iff_eq.mpr c9
  have c9b1 : (t182 != 0) = false := bne_eq_false_iff_eq.mpr c9
  clear c9
  obtain ⟨y229, hy229⟩ : ∃ y_ : List Int, y_ = (([10, 30, 40] : List Int)) := ⟨_, rfl⟩
  replace H : ((compositorlaw10_row.f k y229).bind fun bt232 => ((compositorlaw10_same.f k t177 t178 t179 bt232.1 bt232.2.1 bt232.2.2).bind fun t237 => (if t237 = true then (if t197 = 0 then ((compositorlaw10_row.f k (([13, 25, 38] : List Int))).bind fun bt241 => ((compositorlaw10_same.f k t192 t193 t194 bt241.1 bt241.2.1 bt241.2.2).bind fun t246 => (if t246 = true then (if t212 = 2 then (if t227 = 0 then (if t222 = 4 then (if (t224.length : Int) = 8 then ((scale_MapRect.f k 1 0 2 1 4 4 2 8).bind fun bt247 => (some (bt247.1 == 0 && (bt247.2.1 == 0 && (bt247.2.2.1 == 1 && (bt247.2.2.2 == 2)))))) else (some false)) else (some false)) else (some false)) else (some false)) else (some false)))) else (some false)) else (some false)))) = some true := by first | (rw [hy229]; with_reducible exact H) | (have H2_ := (Option.bind_some _ _).symm.trans H; rw [hy229]; with_reducible exact H2_) | (have H2_ := (Option.bind_some _ _).symm.trans H; with_reducible exact H2_) | with_reducible exact H | (rw [hy229]; exact H) | exact H
  have Ny229 := Aside0.mk hy229
  clear hy229
  replace H := Option.bind_eq_some_iff.mp H
  obtain ⟨⟨t232, t233, t234⟩, A100, H⟩ := H
  try dsimp only at H
  have A10 := Aside0.mk A100
  clear A100
  replace H := Option.bind_eq_some_iff.mp H
  obtain ⟨t237, A110, H⟩ := H
  try dsimp only at H
  have A11 := Aside0.mk A110
  clear A110
  by_cases c12 : t237 = true
  ·
   subst c12
   have H1 : (if t197 = 0 then ((compositorlaw10_row.f k (([13, 25, 38] : List Int))).bind fun bt241 => ((compositorlaw10_same.f k t192 t193 t194 bt241.1 bt241.2.1 bt241.2.2).bind fun t246 => (if t246 = true then (if t212 = 2 then (if t227 = 0 then (if t222 = 4 then (if (t224.length : Int) = 8 then ((scale_MapRect.f k 1 0 2 1 4 4 2 8).bind fun bt247 => (some (bt247.1 == 0 && (bt247.2.1 == 0 && (bt247.2.2.1 == 1 && (bt247.2.2.2 == 2)))))) else (some false)) else (some false)) else (some false)) else (some false)) else (some false)))) else (some false)) = some true := by rw [if_pos rfl] at H; exact H
   clear H
   have H := H1
   clear H1
   by_cases c13 : t197 = 0
   ·
    rw [if_pos c13] at H
    have c13b0 : (t197 == 0) = true := beq_iff_eq.mpr c13
    have c13b1 : (t197 != 0) = false := bne_eq_false_iff_eq.mpr c13
    clear c13
    obtain ⟨y238, hy238⟩ : ∃ y_ : List Int, y_ = (([13, 25, 38] : List Int)) := ⟨_, rfl⟩
    replace H : ((compositorlaw10_row.f k y238).bind fun bt241 => ((compositorlaw10_same.f k t192 t193 t194 bt241.1 bt241.2.1 bt241.2.2).bind fun t246 => (if t246 = true then (if t212 = 2 then (if t227 = 0 then (if t222 = 4 then (if (t224.length : Int) = 8 then ((scale_MapRect.f k 1 0 2 1 4 4 2 8).bind fun bt247 => (some (bt247.1 == 0 && (bt247.2.1 == 0 && (bt247.2.2.1 == 1 && (bt247.2.2.2 == 2)))))) else (some false)) else (some false)) else (some false)) else (some false)) else (some false)))) = some true := by first | (rw [hy238]; with_reducible exact H) | (have H2_ := (Option.bind_some _ _).symm.trans H; rw [hy238]; with_reducible exact H2_) | (have H2_ := (Option.bind_some _ _).symm.trans H; with_reducible exact H2_) | with_reducible exact H | (rw [hy238]; exact H) | exact H
    have Ny238 := Aside0.mk hy238
    clear hy238
    replace H := Option.bind_eq_some_iff.mp H
    obtain ⟨⟨t241, t242, t243⟩, A140, H⟩ := H
    try dsimp only at H
    have A14 := Aside0.mk A140
    clear A140
    replace H := Option.bind_eq_some_iff.mp H
    obtain ⟨t246, A150, H⟩ := H
    try dsimp only at H
    have A15 := Aside0.mk A150
    clear A150
    by_cases c16 : t246 = true
    ·
     subst c16
     have H1 : (if t212 = 2 then (if t227 = 0 then (if t222 = 4 then (if (t224.length : Int) = 8 then ((scale_MapRect.f k 1 0 2 1 4 4 2 8).bind fun bt247 => (some (bt247.1 == 0 && (bt247.2.1 == 0 && (bt247.2.2.1 == 1 && (bt247.2.2.2 == 2)))))) else (some false)) else (some false)) else (some false)) else (some false)) = some true := by rw [if_pos rfl] at H; exact H
     clear H
     have H := H1
     clear H1
     by_cases c17 : t212 = 2
     ·
      rw [if_pos c17] at H
      have c17b0 : (t212 == 2) = true := beq_iff_eq.mpr c17
      have c17b1 : (t212 != 2) = false := bne_eq_false_iff_eq.mpr c17
      clear c17
      by_cases c18 : t227 = 0
      ·
       rw [if_pos c18] at H
       have c18b0 : (t227 == 0) = true := beq_iff_eq.mpr c18
       have c18b1 : (t227 != 0) = false := bne_eq_false_iff_eq.mpr c18
       clear c18
       by_cases c19 : t222 = 4
       ·
        rw [if_pos c19] at H
        have c19b0 : (t222 == 4) = true := beq_iff_eq.mpr c19
        have c19b1 : (t222 != 4) = false := bne_eq_false_iff_eq.mpr c19
        clear c19
        by_cases c20 : (t224.length : Int) = 8
        ·
         rw [if_pos c20] at H
         have c20b0 : ((t224.length : Int) == 8) = true := beq_iff_eq.mpr c20
         have c20b1 : ((t224.length : Int) != 8) = false := bne_eq_false_iff_eq.mpr c20
         clear c20
         replace H := Option.bind_eq_some_iff.mp H
         obtain ⟨⟨t247, t248, t249, t250⟩, A210, H⟩ := H
         try dsimp only at H
         have A21 := Aside0.mk A210
         clear A210
         have Hq_ := Option.some.inj H
         go_enter Try.func12, Try.ntmps12
         try go_wp2_with (first | ((with_reducible refine gate_dst (N := 10) rfl ?_); (try (refine gate_guard (by rfl) ?_; dsimp only)); refine Kd.R_lit (Kd.int .u8) _ 5 ?hg (N := 10) ?hd (xs := ([10, 20, 30, 40] : List Int)) (inner := [.int .u8 10, .int .u8 20, .int .u8 30, .int .u8 40]) (ok := fun _ => True) (okp := fun _ => True) ?hr ?hp (fun _ hk => hk) trivial (Below.refl _ _) (Nat.le_refl _) (by simp) ?_; (case hd => rfl); (case hg => rfl); (case hr => first | (go_simp; done) | (go_simp; rfl)); (case hp => exact (Reps.one (show Kd.M (Kd.int .u8) _ _ _ 10 [.int .u8 10] from rfl) (Reps.one (show Kd.M (Kd.int .u8) _ _ _ 20 [.int .u8 20] from rfl) (Reps.one (show Kd.M (Kd.int .u8) _ _ _ 30 [.int .u8 30] from rfl) (Reps.one (show Kd.M (Kd.int .u8) _ _ _ 40 [.int .u8 40] from rfl) (Reps.none _ _)))))); intro v170 w22 ho23 hb hg_ hnew_; clear hg_ hnew_; (first | rw [← Ny169.out] at ho23 | (simp only [Int.reduceToNat] at ho23; rw [← Ny169.out] at ho23)); have n0_ := Aside0.mk (Kd.R_lower ho23 (below_size (hq_ HB))); have n1_ := hb_ HB hb; clear HB; have HO171 := n0_; have HB := n1_; clear n0_ n1_; clear hb ho23; obtain ⟨Ao24, co24, eo24⟩ := Kd.R_slice HO171.out; subst eo24) | ((with_reducible refine gate_callee (f := 31) rfl ?_); refine goesL_ (some 11) rfl rfl Try.func31 (by kernel_rfl) rfl #[.slice Ao24 y169.length co24] rfl (by (try simp only [List.map_toArray, List.map_cons, List.map_nil]) <;> rfl) ?_; (with_reducible refine (compositorlaw10_row.calls k _ _ y169 t172 t173 t174 _ ?side1 ?side2 A1.out).mono ?_); (case side1 => repeat (first | exact (Kd.R_reads' HO171.out).2.2 | (with_reducible refine Kd.C_alloc ?_ _) | (with_reducible refine Kd.C_drewN ?_ _) | (with_reducible refine Kd.C_drew ?_))); (case side2 => exact (Kd.R_reads' HO171.out).2.1); rintro e w25 ⟨v175, rfl, ho0, hb⟩; refine ⟨_, rfl, ?_⟩; have n0_ := Aside0.mk (Kd.R_below (by (with_reducible repeat (first | apply Kd.R_alloc | apply Kd.R_drewN | apply Kd.R_drew)); exact HO171.out) hb); have n1_ := Aside0.mk (Kd.R_lower ho0 (below_size (hq_ HB))); have n2_ := hb_ HB hb; clear HO171; clear HB; have HO171 := n0_; have HO176 := n1_; have HB := n2_; clear n0_ n1_ n2_; (try clear hb); (try clear hb2); (try clear hk); (try clear hi); (try clear ho0); obtain ⟨Ao26, co26, eo26⟩ := Kd.R_slice HO176.out; subst eo26) | ((with_reducible refine gate_callee (f := 13) rfl ?_); refine goesL_ (some 12) rfl rfl Try.func13 (by kernel_rfl) rfl #[.agg #[.int .i64 t172, .int .i64 t173, .slice Ao26 t174.length co26], .int .i64 3, .int .i64 1] rfl (by (try simp only [List.map_toArray, List.map_cons, List.map_nil]) <;> rfl) ?_; (with_reducible refine (scale_Nearest.calls t172 t173 _ _ t174 3 1 t177 t178 t179 t182 _ ?side1 ?side2 A2.out).mono ?_); (case side1 => repeat (first | exact (Kd.R_reads' HO176.out).2.2 | (with_reducible refine Kd.C_alloc ?_ _) | (with_reducible refine Kd.C_drewN ?_ _) | (with_reducible refine Kd.C_drew ?_))); (case side2 => exact (Kd.R_reads' HO176.out).2.1); rintro e w27 ⟨v180, rfl, ho0, hb⟩; refine ⟨_, rfl, ?_⟩; have n0_ := Aside0.mk (Kd.R_below (by (with_reducible repeat (first | apply Kd.R_alloc | apply Kd.R_drewN | apply Kd.R_drew)); exact HO171.out) hb); have n1_ := Aside0.mk (Kd.R_elder' (by (with_reducible repeat (first | apply Kd.R_alloc | apply Kd.R_drewN | apply Kd.R_drew)); exact HO176.out) (Kd.R_base ho0) hb); have n2_ := Aside0.mk (Kd.R_lower (Kd.R_new' ho0 (Kd.R_lt (by (with_reducible repeat (first | apply Kd.R_alloc | apply Kd.R_drewN | apply Kd.R_drew)); exact HO176.out))) (below_size (hq_ HB))); have n3_ := hb_ HB hb; clear HO171; clear HO176; clear HB; have HO171 := n0_; have HO176 := n1_; have HO181 := n2_; have HB := n3_; clear n0_ n1_ n2_ n3_; (try clear hb); (try clear hb2); (try clear hk); (try clear hi); (try clear ho0)) | ((with_reducible refine gate_dst (N := 1) rfl ?_); (try (refine gate_guard (by rfl) ?_; dsimp only)); refine box_event ?hg (N := 1) ?hd (cs := #[.int .i64 0, .int .i64 0, .slice none 0 0]) (t := 24) ?hr ?_; (case hd => rfl); (case hg => rfl); (case hr => first | (go_simp; done) | (go_simp; rfl)); intro gb183 hg w28 hbox hb; have n0_ := Aside0.mk (Kd.R_below (by (with_reducible repeat (first | apply Kd.R_alloc | apply Kd.R_drewN | apply Kd.R_drew)); exact HO171.out) hb); have n1_ := Aside0.mk (Kd.R_below (by (with_reducible repeat (first | apply Kd.R_alloc | apply Kd.R_drewN | apply Kd.R_drew)); exact HO176.out) hb); have n2_ := Aside0.mk (Kd.R_below (by (with_reducible repeat (first | apply Kd.R_alloc | apply Kd.R_drewN | apply Kd.R_drew)); exact HO181.out) hb); have n3_ := hb_ HB hb; have n4_ := Aside0.mk (hbox); have n5_ := Aside0.mk ((by rw [hg]; exact (below_size (hq_ HB)) : w.heap.size ≤ gb183)); have n6_ := Aside0.mk ((by rw [hg]; exact (below_size (hq_ HB)) : w.heap.size ≤ gb183)); clear HO171; clear HO176; clear HO181; clear HB; have HO171 := n0_; have HO176 := n1_; have HO181 := n2_; have HB := n3_; have BK183 := n4_; have GW183 := n5_; have GE183 := n6_; clear n0_ n1_ n2_ n3_ n4_ n5_ n6_; clear hb hbox hg; have hcz29_0 : w28.cell? ⟨gb183, 0, none⟩ = some (.int .i64 0) := (blk_cell BK183.out 0).trans rfl; have hcz29_1 : w28.cell? ⟨gb183, 1, none⟩ = some (.int .i64 0) := (blk_cell BK183.out 1).trans rfl; have hcz29_2 : w28.cell? ⟨gb183, 2, none⟩ = some (.slice none 0 0) := (blk_cell BK183.out 2).trans rfl; have hfz29_0 := blk_frozen BK183.out 0; have hfz29_1 := blk_frozen BK183.out 1; have hfz29_2 := blk_frozen BK183.out 2; obtain ⟨Ao30, co30, eo30⟩ := Kd.R_slice HO181.out; subst eo30) | ((with_reducible refine gate_dst (N := 16) rfl ?_); (try (refine gate_guard (by rfl) ?_; dsimp only)); refine Kd.R_lit (Kd.int .u8) _ 5 ?hg (N := 16) ?hd (xs := ([10, 20, 30, 40] : List Int)) (inner := [.int .u8 10, .int .u8 20, .int .u8 30, .int .u8 40]) (ok := fun _ => True) (okp := fun _ => True) ?hr ?hp (fun _ hk => hk) trivial (Below.refl _ _) (Nat.le_refl _) (by simp) ?_; (case hd => rfl); (case hg => rfl); (case hr => first | (go_simp; done) | (go_simp; rfl)); (case hp => exact (Reps.one (show Kd.M (Kd.int .u8) _ _ _ 10 [.int .u8 10] from rfl) (Reps.one (show Kd.M (Kd.int .u8) _ _ _ 20 [.int .u8 20] from rfl) (Reps.one (show Kd.M (Kd.int .u8) _ _ _ 30 [.int .u8 30] from rfl) (Reps.one (show Kd.M (Kd.int .u8) _ _ _ 40 [.int .u8 40] from rfl) (Reps.none _ _)))))); intro v185 w31 ho32 hb hg_ hnew_; clear hg_ hnew_; (first | rw [← Ny184.out] at ho32 | (simp only [Int.reduceToNat] at ho32; rw [← Ny184.out] at ho32)); have n0_ := Aside0.mk (Kd.R_elder' (by (with_reducible repeat (first | apply Kd.R_alloc | apply Kd.R_drewN | apply Kd.R_drew)); exact (Kd.R_mono (Kd.R_far (p := ⟨gb183, 2, none⟩) (Kd.R_far (p := ⟨gb183, 1, none⟩) (Kd.R_far (p := ⟨gb183, 0, none⟩) (Kd.R_types HO171.out BK183.out (by decide)) (fun _ hk => hk.2) (.int .i64 t177)) (fun _ hk => hk.2) (.int .i64 t178)) (fun _ hk => hk.2) (.slice Ao30 t179.length co30)) (fun _ h_ => h_.1))) (Kd.R_base ho32) hb); have n1_ := Aside0.mk (Kd.R_below (by (with_reducible repeat (first | apply Kd.R_alloc | apply Kd.R_drewN | apply Kd.R_drew)); exact (Kd.R_mono (Kd.R_far (p := ⟨gb183, 2, none⟩) (Kd.R_far (p := ⟨gb183, 1, none⟩) (Kd.R_far (p := ⟨gb183, 0, none⟩) (Kd.R_types HO176.out BK183.out (by decide)) (fun _ hk => hk.2) (.int .i64 t177)) (fun _ hk => hk.2) (.int .i64 t178)) (fun _ hk => hk.2) (.slice Ao30 t179.length co30)) (fun _ h_ => h_.1))) hb); have n2_ := Aside0.mk (Kd.R_below (by (with_reducible repeat (first | apply Kd.R_alloc | apply Kd.R_drewN | apply Kd.R_drew)); exact (Kd.R_mono (Kd.R_far (p := ⟨gb183, 2, none⟩) (Kd.R_far (p := ⟨gb183, 1, none⟩) (Kd.R_far (p := ⟨gb183, 0, none⟩) (Kd.R_types HO181.out BK183.out (by decide)) (fun _ hk => hk.2) (.int .i64 t177)) (fun _ hk => hk.2) (.int .i64 t178)) (fun _ hk => hk.2) (.slice Ao30 t179.length co30)) (fun _ h_ => h_.1))) hb); have n3_ := Aside0.mk (Kd.R_lower (Kd.R_new' ho32 (Kd.R_lt (by (with_reducible repeat (first | apply Kd.R_alloc | apply Kd.R_drewN | apply Kd.R_drew)); exact (Kd.R_mono (Kd.R_far (p := ⟨gb183, 2, none⟩) (Kd.R_far (p := ⟨gb183, 1, none⟩) (Kd.R_far (p := ⟨gb183, 0, none⟩) (Kd.R_types HO171.out BK183.out (by decide)) (fun _ hk => hk.2) (.int .i64 t177)) (fun _ hk => hk.2) (.int .i64 t178)) (fun _ hk => hk.2) (.slice Ao30 t179.length co30)) (fun _ h_ => h_.1))))) (below_size (hq_ HB))); have n4_ := Aside0.mk (blk_below (g := gb183) (o := .cells #[.int .i64 t177, .int .i64 t178, .slice Ao30 t179.length co30] 24 (0, 0)) (by (with_reducible repeat (first | refine blk_drewN ?_ _ | refine blk_drew ?_ | refine blk_alloc ?_ _)); refine blk_put (cs := #[.int .i64 t177, .int .i64 t178, .slice none 0 0]) ?_ 2 _ rfl; (with_reducible repeat (first | refine blk_drewN ?_ _ | refine blk_drew ?_ | refine blk_alloc ?_ _)); refine blk_put (cs := #[.int .i64 t177, .int .i64 0, .slice none 0 0]) ?_ 1 _ rfl; (with_reducible repeat (first | refine blk_drewN ?_ _ | refine blk_drew ?_ | refine blk_alloc ?_ _)); refine blk_put (cs := #[.int .i64 0, .int .i64 0, .slice none 0 0]) ?_ 0 _ rfl; (with_reducible repeat (first | refine blk_drewN ?_ _ | refine blk_drew ?_ | refine blk_alloc ?_ _)); exact BK183.out) hb); have n5_ := hb_ HB hb; clear HO171; clear HO176; clear HO181; clear BK183; clear HB; have HO171 := n0_; have HO176 := n1_; have HO181 := n2_; have HO186 := n3_; have BK183 := n4_; have HB := n5_; clear n0_ n1_ n2_ n3_ n4_ n5_; clear hb ho32; obtain ⟨Ao33, co33, eo33⟩ := Kd.R_slice HO186.out; subst eo33) | ((with_reducible refine gate_callee (f := 31) rfl ?_); refine goesL_ (some 17) rfl rfl Try.func31 (by kernel_rfl) rfl #[.slice Ao33 y184.length co33] rfl (by (try simp only [List.map_toArray, List.map_cons, List.map_nil]) <;> rfl) ?_; (with_reducible refine (compositorlaw10_row.calls k _ _ y184 t187 t188 t189 _ ?side1 ?side2 A3.out).mono ?_); (case side1 => repeat (first | exact (Kd.R_reads' HO186.out).2.2 | (with_reducible refine Kd.C_alloc ?_ _) | (with_reducible refine Kd.C_drewN ?_ _) | (with_reducible refine Kd.C_drew ?_))); (case side2 => exact (Kd.R_reads' HO186.out).2.1); rintro e w34 ⟨v190, rfl, ho0, hb⟩; refine ⟨_, rfl, ?_⟩; have n0_ := Aside0.mk (Kd.R_below (by (with_reducible repeat (first | apply Kd.R_alloc | apply Kd.R_drewN | apply Kd.R_drew)); exact HO171.out) hb); have n1_ := Aside0.mk (Kd.R_elder' (by (with_reducible repeat (first | apply Kd.R_alloc | apply Kd.R_drewN | apply Kd.R_drew)); exact HO176.out) (Kd.R_base ho0) hb); have n2_ := Aside0.mk (Kd.R_elder' (by (with_reducible repeat (first | apply Kd.R_alloc | apply Kd.R_drewN | apply Kd.R_drew)); exact HO181.out) (Kd.R_base ho0) hb); have n3_ := Aside0.mk (Kd.R_below (by (with_reducible repeat (first | apply Kd.R_alloc | apply Kd.R_drewN | apply Kd.R_drew)); exact HO186.out) hb); have n4_ := Aside0.mk (Kd.R_lower (Kd.R_new' (Kd.R_new' ho0 (Kd.R_lt (by (with_reducible repeat (first | apply Kd.R_alloc | apply Kd.R_drewN | apply Kd.R_drew)); exact HO176.out))) (Kd.R_lt (by (with_reducible repeat (first | apply Kd.R_alloc | apply Kd.R_drewN | apply Kd.R_drew)); exact HO181.out))) (below_size (hq_ HB))); have n5_ := bb_ BK183 hb; have n6_ := hb_ HB hb; clear HO171; clear HO176; clear HO181; clear HO186; clear BK183; clear HB; have HO171 := n0_; have HO176 := n1_; have HO181 := n2_; have HO186 := n3_; have HO191 := n4_; have BK183 := n5_; have HB := n6_; clear n0_ n1_ n2_ n3_ n4_ n5_ n6_; (try clear hb); (try clear hb2); (try clear hk); (try clear hi); (try clear ho0); obtain ⟨Ao35, co35, eo35⟩ := Kd.R_slice HO191.out; subst eo35) | ((with_reducible refine gate_callee (f := 16) rfl ?_); refine goesL_ (some 18) rfl rfl Try.func16 (by kernel_rfl) rfl #[.agg #[.int .i64 t187, .int .i64 t188, .slice Ao35 t189.length co35], .int .i64 3, .int .i64 1] rfl (by (try simp only [List.map_toArray, List.map_cons, List.map_nil]) <;> rfl) ?_; (with_reducible refine (scale_Box.calls t187 t188 _ _ t189 3 1 t192 t193 t194 t197 _ ?side1 ?side2 A4.out).mono ?_); (case side1 => repeat (first | exact (Kd.R_reads' HO191.out).2.2 | (with_reducible refine Kd.C_alloc ?_ _) | (with_reducible refine Kd.C_drewN ?_ _) | (with_reducible refine Kd.C_drew ?_))); (case side2 => exact (Kd.R_reads' HO191.out).2.1); rintro e w36 ⟨v195, rfl, ho0, hb⟩; refine ⟨_, rfl, ?_⟩; have n0_ := Aside0.mk (Kd.R_below (by (with_reducible repeat (first | apply Kd.R_alloc | apply Kd.R_drewN | apply Kd.R_drew)); exact HO171.out) hb); have n1_ := Aside0.mk (Kd.R_elder' (by (with_reducible repeat (first | apply Kd.R_alloc | apply Kd.R_drewN | apply Kd.R_drew)); exact HO176.out) (Kd.R_base ho0) hb); have n2_ := Aside0.mk (Kd.R_elder' (by (with_reducible repeat (first | apply Kd.R_alloc | apply Kd.R_drewN | apply Kd.R_drew)); exact HO181.out) (Kd.R_base ho0) hb); have n3_ := Aside0.mk (Kd.R_below (by (with_reducible repeat (first | apply Kd.R_alloc | apply Kd.R_drewN | apply Kd.R_drew)); exact HO186.out) hb); have n4_ := Aside0.mk (Kd.R_elder' (by (with_reducible repeat (first | apply Kd.R_alloc | apply Kd.R_drewN | apply Kd.R_drew)); exact HO191.out) (Kd.R_base ho0) hb); have n5_ := Aside0.mk (Kd.R_lower (Kd.R_new' (Kd.R_new' (Kd.R_new' ho0 (Kd.R_lt (by (with_reducible repeat (first | apply Kd.R_alloc | apply Kd.R_drewN | apply Kd.R_drew)); exact HO176.out))) (Kd.R_lt (by (with_reducible repeat (first | apply Kd.R_alloc | apply Kd.R_drewN | apply Kd.R_drew)); exact HO181.out))) (Kd.R_lt (by (with_reducible repeat (first | apply Kd.R_alloc | apply Kd.R_drewN | apply Kd.R_drew)); exact HO191.out))) (below_size (hq_ HB))); have n6_ := bb_ BK183 hb; have n7_ := hb_ HB hb; clear HO171; clear HO176; clear HO181; clear HO186; clear HO191; clear BK183; clear HB; have HO171 := n0_; have HO176 := n1_; have HO181 := n2_; have HO186 := n3_; have HO191 := n4_; have HO196 := n5_; have BK183 := n6_; have HB := n7_; clear n0_ n1_ n2_ n3_ n4_ n5_ n6_ n7_; (try clear hb); (try clear hb2); (try clear hk); (try clear hi); (try clear ho0)) | ((with_reducible refine gate_dst (N := 3) rfl ?_); (try (refine gate_guard (by rfl) ?_; dsimp only)); refine box_event ?hg (N := 3) ?hd (cs := #[.int .i64 0, .int .i64 0, .slice none 0 0]) (t := 24) ?hr ?_; (case hd => rfl); (case hg => rfl); (case hr => first | (go_simp; done) | (go_simp; rfl)); intro gb198 hg w37 hbox hb; have n0_ := Aside0.mk (Kd.R_below (by (with_reducible repeat (first | apply Kd.R_alloc | apply Kd.R_drewN | apply Kd.R_drew)); exact HO171.out) hb); have n1_ := Aside0.mk (Kd.R_below (by (with_reducible repeat (first | apply Kd.R_alloc | apply Kd.R_drewN | apply Kd.R_drew)); exact HO176.out) hb); have n2_ := Aside0.mk (Kd.R_below (by (with_reducible repeat (first | apply Kd.R_alloc | apply Kd.R_drewN | apply Kd.R_drew)); exact HO181.out) hb); have n3_ := Aside0.mk (Kd.R_below (by (with_reducible repeat (first | apply Kd.R_alloc | apply Kd.R_drewN | apply Kd.R_drew)); exact HO186.out) hb); have n4_ := Aside0.mk (Kd.R_below (by (with_reducible repeat (first | apply Kd.R_alloc | apply Kd.R_drewN | apply Kd.R_drew)); exact HO191.out) hb); have n5_ := Aside0.mk (Kd.R_below (by (with_reducible repeat (first | apply Kd.R_alloc | apply Kd.R_drewN | apply Kd.R_drew)); exact HO196.out) hb); have n6_ := bb_ BK183 hb; have n7_ := hb_ HB hb; have n8_ := Aside0.mk (hbox); have n9_ := Aside0.mk ((by rw [hg]; exact (below_size (hq_ HB)) : w.heap.size ≤ gb198)); have n10_ := Aside0.mk ((by rw [hg]; exact (below_size (hq_ HB)) : w.heap.size ≤ gb198)); have n11_ := Aside0.mk ((by rw [hg]; exact Nat.ne_of_lt (blk_lt (g := gb183) (o := .cells #[.int .i64 t177, .int .i64 t178, .slice Ao30 t179.length co30] 24 (0, 0)) (bq_ BK183)) : gb183 ≠ gb198)); have n12_ := Aside0.mk ((by rw [hg]; exact Nat.ne_of_gt (blk_lt (g := gb183) (o := .cells #[.int .i64 t177, .int .i64 t178, .slice Ao30 t179.length co30] 24 (0, 0)) (bq_ BK183)) : gb198 ≠ gb183)); clear HO171; clear HO176; clear HO181; clear HO186; clear HO191; clear HO196; clear BK183; clear HB; have HO171 := n0_; have HO176 := n1_; have HO181 := n2_; have HO186 := n3_; have HO191 := n4_; have HO196 := n5_; have BK183 := n6_; have HB := n7_; have BK198 := n8_; have GW198 := n9_; have GE198 := n10_; have NB183_198 := n11_; have NB198_183 := n12_; clear n0_ n1_ n2_ n3_ n4_ n5_ n6_ n7_ n8_ n9_ n10_ n11_ n12_; clear hb hbox hg; have hnb38 := NB198_183.out; have hnc38 := NB183_198.out; have hcz39_0 : w37.cell? ⟨gb198, 0, none⟩ = some (.int .i64 0) := (blk_cell BK198.out 0).trans rfl; have hcz39_1 : w37.cell? ⟨gb198, 1, none⟩ = some (.int .i64 0) := (blk_cell BK198.out 1).trans rfl; have hcz39_2 : w37.cell? ⟨gb198, 2, none⟩ = some (.slice none 0 0) := (blk_cell BK198.out 2).trans rfl; have hfz39_0 := blk_frozen BK198.out 0; have hfz39_1 := blk_frozen BK198.out 1; have hfz39_2 := blk_frozen BK198.out 2; obtain ⟨Ao40, co40, eo40⟩ := Kd.R_slice HO196.out; subst eo40) | ((with_reducible refine gate_dst (N := 22) rfl ?_); (try (refine gate_guard (by rfl) ?_; dsimp only)); refine Kd.R_lit (Kd.int .u8) _ 5 ?hg (N := 22) ?hd (xs := ([10, 21] : List Int)) (inner := [.int .u8 10, .int .u8 21]) (ok := fun _ => True) (okp := fun _ => True) ?hr ?hp (fun _ hk => hk) trivial (Below.refl _ _) (Nat.le_refl _) (by simp) ?_; (case hd => rfl); (case hg => rfl); (case hr => first | (go_simp; done) | (go_simp; rfl)); (case hp => exact (Reps.one (show Kd.M (Kd.int .u8) _ _ _ 10 [.int .u8 10] from rfl) (Reps.one (show Kd.M (Kd.int .u8) _ _ _ 21 [.int .u8 21] from rfl) (Reps.none _ _)))); intro v200 w41 ho42 hb hg_ hnew_; clear hg_ hnew_; (first | rw [← Ny199.out] at ho42 | (simp only [Int.reduceToNat] at ho42; rw [← Ny199.out] at ho42)); have n0_ := Aside0.mk (Kd.R_elder' (by (with_reducible repeat (first | apply Kd.R_alloc | apply Kd.R_drewN | apply Kd.R_drew)); exact (Kd.R_mono (Kd.R_far (p := ⟨gb198, 2, none⟩) (Kd.R_far (p := ⟨gb198, 1, none⟩) (Kd.R_far (p := ⟨gb198, 0, none⟩) (Kd.R_types HO171.out BK198.out (by decide)) (fun _ hk => hk.2) (.int .i64 t192)) (fun _ hk => hk.2) (.int .i64 t193)) (fun _ hk => hk.2) (.slice Ao40 t194.length co40)) (fun _ h_ => h_.1))) (Kd.R_base ho42) hb); have n1_ := Aside0.mk (Kd.R_below (by (with_reducible repeat (first | apply Kd.R_alloc | apply Kd.R_drewN | apply Kd.R_drew)); exact (Kd.R_mono (Kd.R_far (p := ⟨gb198, 2, none⟩) (Kd.R_far (p := ⟨gb198, 1, none⟩) (Kd.R_far (p := ⟨gb198, 0, none⟩) (Kd.R_types HO176.out BK198.out (by decide)) (fun _ hk => hk.2) (.int .i64 t192)) (fun _ hk => hk.2) (.int .i64 t193)) (fun _ hk => hk.2) (.slice Ao40 t194.length co40)) (fun _ h_ => h_.1))) hb); have n2_ := Aside0.mk (Kd.R_below (by (with_reducible repeat (first | apply Kd.R_alloc | apply Kd.R_drewN | apply Kd.R_drew)); exact (Kd.R_mono (Kd.R_far (p := ⟨gb198, 2, none⟩) (Kd.R_far (p := ⟨gb198, 1, none⟩) (Kd.R_far (p := ⟨gb198, 0, none⟩) (Kd.R_types HO181.out BK198.out (by decide)) (fun _ hk => hk.2) (.int .i64 t192)) (fun _ hk => hk.2) (.int .i64 t193)) (fun _ hk => hk.2) (.slice Ao40 t194.length co40)) (fun _ h_ => h_.1))) hb); have n3_ := Aside0.mk (Kd.R_elder' (by (with_reducible repeat (first | apply Kd.R_alloc | apply Kd.R_drewN | apply Kd.R_drew)); exact (Kd.R_mono (Kd.R_far (p := ⟨gb198, 2, none⟩) (Kd.R_far (p := ⟨gb198, 1, none⟩) (Kd.R_far (p := ⟨gb198, 0, none⟩) (Kd.R_types HO186.out BK198.out (by decide)) (fun _ hk => hk.2) (.int .i64 t192)) (fun _ hk => hk.2) (.int .i64 t193)) (fun _ hk => hk.2) (.slice Ao40 t194.length co40)) (fun _ h_ => h_.1))) (Kd.R_base ho42) hb); have n4_ := Aside0.mk (Kd.R_below (by (with_reducible repeat (first | apply Kd.R_alloc | apply Kd.R_drewN | apply Kd.R_drew)); exact (Kd.R_mono (Kd.R_far (p := ⟨gb198, 2, none⟩) (Kd.R_far (p := ⟨gb198, 1, none⟩) (Kd.R_far (p := ⟨gb198, 0, none⟩) (Kd.R_types HO191.out BK198.out (by decide)) (fun _ hk => hk.2) (.int .i64 t192)) (fun _ hk => hk.2) (.int .i64 t193)) (fun _ hk => hk.2) (.slice Ao40 t194.length co40)) (fun _ h_ => h_.1))) hb); have n5_ := Aside0.mk (Kd.R_below (by (with_reducible repeat (first | apply Kd.R_alloc | apply Kd.R_drewN | apply Kd.R_drew)); exact (Kd.R_mono (Kd.R_far (p := ⟨gb198, 2, none⟩) (Kd.R_far (p := ⟨gb198, 1, none⟩) (Kd.R_far (p := ⟨gb198, 0, none⟩) (Kd.R_types HO196.out BK198.out (by decide)) (fun _ hk => hk.2) (.int .i64 t192)) (fun _ hk => hk.2) (.int .i64 t193)) (fun _ hk => hk.2) (.slice Ao40 t194.length co40)) (fun _ h_ => h_.1))) hb); have n6_ := Aside0.mk (Kd.R_lower (Kd.R_new' (Kd.R_new' ho42 (Kd.R_lt (by (with_reducible repeat (first | apply Kd.R_alloc | apply Kd.R_drewN | apply Kd.R_drew)); exact (Kd.R_mono (Kd.R_far (p := ⟨gb198, 2, none⟩) (Kd.R_far (p := ⟨gb198, 1, none⟩) (Kd.R_far (p := ⟨gb198, 0, none⟩) (Kd.R_types HO171.out BK198.out (by decide)) (fun _ hk => hk.2) (.int .i64 t192)) (fun _ hk => hk.2) (.int .i64 t193)) (fun _ hk => hk.2) (.slice Ao40 t194.length co40)) (fun _ h_ => h_.1))))) (Kd.R_lt (by (with_reducible repeat (first | apply Kd.R_alloc | apply Kd.R_drewN | apply Kd.R_drew)); exact (Kd.R_mono (Kd.R_far (p := ⟨gb198, 2, none⟩) (Kd.R_far (p := ⟨gb198, 1, none⟩) (Kd.R_far (p := ⟨gb198, 0, none⟩) (Kd.R_types HO186.out BK198.out (by decide)) (fun _ hk => hk.2) (.int .i64 t192)) (fun _ hk => hk.2) (.int .i64 t193)) (fun _ hk => hk.2) (.slice Ao40 t194.length co40)) (fun _ h_ => h_.1))))) (below_size (hq_ HB))); have n7_ := Aside0.mk (blk_below (g := gb183) (o := .cells #[.int .i64 t177, .int .i64 t178, .slice Ao30 t179.length co30] 24 (0, 0)) (by (with_reducible repeat (first | refine blk_drewN ?_ _ | refine blk_drew ?_ | refine blk_alloc ?_ _)); refine blk_far ?_ NB183_198.out _; (with_reducible repeat (first | refine blk_drewN ?_ _ | refine blk_drew ?_ | refine blk_alloc ?_ _)); refine blk_far ?_ NB183_198.out _; (with_reducible repeat (first | refine blk_drewN ?_ _ | refine blk_drew ?_ | refine blk_alloc ?_ _)); refine blk_far ?_ NB183_198.out _; (with_reducible repeat (first | refine blk_drewN ?_ _ | refine blk_drew ?_ | refine blk_alloc ?_ _)); exact BK183.out) hb); have n8_ := Aside0.mk (blk_below (g := gb198) (o := .cells #[.int .i64 t192, .int .i64 t193, .slice Ao40 t194.length co40] 24 (0, 0)) (by (with_reducible repeat (first | refine blk_drewN ?_ _ | refine blk_drew ?_ | refine blk_alloc ?_ _)); refine blk_put (cs := #[.int .i64 t192, .int .i64 t193, .slice none 0 0]) ?_ 2 _ rfl; (with_reducible repeat (first | refine blk_drewN ?_ _ | refine blk_drew ?_ | refine blk_alloc ?_ _)); refine blk_put (cs := #[.int .i64 t192, .int .i64 0, .slice none 0 0]) ?_ 1 _ rfl; (with_reducible repeat (first | refine blk_drewN ?_ _ | refine blk_drew ?_ | refine blk_alloc ?_ _)); refine blk_put (cs := #[.int .i64 0, .int .i64 0, .slice none 0 0]) ?_ 0 _ rfl; (with_reducible repeat (first | refine blk_drewN ?_ _ | refine blk_drew ?_ | refine blk_alloc ?_ _)); exact BK198.out) hb); have n9_ := hb_ HB hb; clear HO171; clear HO176; clear HO181; clear HO186; clear HO191; clear HO196; clear BK183; clear BK198; clear HB; have HO171 := n0_; have HO176 := n1_; have HO181 := n2_; have HO186 := n3_; have HO191 := n4_; have HO196 := n5_; have HO201 := n6_; have BK183 := n7_; have BK198 := n8_; have HB := n9_; clear n0_ n1_ n2_ n3_ n4_ n5_ n6_ n7_ n8_ n9_; clear hb ho42; obtain ⟨Ao43, co43, eo43⟩ := Kd.R_slice HO201.out; subst eo43) | ((with_reducible refine gate_callee (f := 31) rfl ?_); refine goesL_ (some 23) rfl rfl Try.func31 (by kernel_rfl) rfl #[.slice Ao43 y199.length co43] rfl (by (try simp only [List.map_toArray, List.map_cons, List.map_nil]) <;> rfl) ?_; (with_reducible refine (compositorlaw10_row.calls k _ _ y199 t202 t203 t204 _ ?side1 ?side2 A5.out).mono ?_); (case side1 => repeat (first | exact (Kd.R_reads' HO201.out).2.2 | (with_reducible refine Kd.C_alloc ?_ _) | (with_reducible refine Kd.C_drewN ?_ _) | (with_reducible refine Kd.C_drew ?_))); (case side2 => exact (Kd.R_reads' HO201.out).2.1); rintro e w44 ⟨v205, rfl, ho0, hb⟩; refine ⟨_, rfl, ?_⟩; have n0_ := Aside0.mk (Kd.R_below (by (with_reducible repeat (first | apply Kd.R_alloc | apply Kd.R_drewN | apply Kd.R_drew)); exact HO171.out) hb); have n1_ := Aside0.mk (Kd.R_elder' (by (with_reducible repeat (first | apply Kd.R_alloc | apply Kd.R_drewN | apply Kd.R_drew)); exact HO176.out) (Kd.R_base ho0) hb); have n2_ := Aside0.mk (Kd.R_elder' (by (with_reducible repeat (first | apply Kd.R_alloc | apply Kd.R_drewN | apply Kd.R_drew)); exact HO181.out) (Kd.R_base ho0) hb); have n3_ := Aside0.mk (Kd.R_below (by (with_reducible repeat (first | apply Kd.R_alloc | apply Kd.R_drewN | apply Kd.R_drew)); exact HO186.out) hb); have n4_ := Aside0.mk (Kd.R_elder' (by (with_reducible repeat (first | apply Kd.R_alloc | apply Kd.R_drewN | apply Kd.R_drew)); exact HO191.out) (Kd.R_base ho0) hb); have n5_ := Aside0.mk (Kd.R_elder' (by (with_reducible repeat (first | apply Kd.R_alloc | apply Kd.R_drewN | apply Kd.R_drew)); exact HO196.out) (Kd.R_base ho0) hb); have n6_ := Aside0.mk (Kd.R_below (by (with_reducible repeat (first | apply Kd.R_alloc | apply Kd.R_drewN | apply Kd.R_drew)); exact HO201.out) hb); have n7_ := Aside0.mk (Kd.R_lower (Kd.R_new' (Kd.R_new' (Kd.R_new' (Kd.R_new' ho0 (Kd.R_lt (by (with_reducible repeat (first | apply Kd.R_alloc | apply Kd.R_drewN | apply Kd.R_drew)); exact HO176.out))) (Kd.R_lt (by (with_reducible repeat (first | apply Kd.R_alloc | apply Kd.R_drewN | apply Kd.R_drew)); exact HO181.out))) (Kd.R_lt (by (with_reducible repeat (first | apply Kd.R_alloc | apply Kd.R_drewN | apply Kd.R_drew)); exact HO191.out))) (Kd.R_lt (by (with_reducible repeat (first | apply Kd.R_alloc | apply Kd.R_drewN | apply Kd.R_drew)); exact HO196.out))) (below_size (hq_ HB))); have n8_ := bb_ BK183 hb; have n9_ := bb_ BK198 hb; have n10_ := hb_ HB hb; clear HO171; clear HO176; clear HO181; clear HO186; clear HO191; clear HO196; clear HO201; clear BK183; clear BK198; clear HB; have HO171 := n0_; have HO176 := n1_; have HO181 := n2_; have HO186 := n3_; have HO191 := n4_; have HO196 := n5_; have HO201 := n6_; have HO206 := n7_; have BK183 := n8_; have BK198 := n9_; have HB := n10_; clear n0_ n1_ n2_ n3_ n4_ n5_ n6_ n7_ n8_ n9_ n10_; (try clear hb); (try clear hb2); (try clear hk); (try clear hi); (try clear ho0); obtain ⟨Ao45, co45, eo45⟩ := Kd.R_slice HO206.out; subst eo45) | ((with_reducible refine gate_callee (f := 18) rfl ?_); refine goesL_ (some 24) rfl rfl Try.func18 (by kernel_rfl) rfl #[.agg #[.int .i64 t202, .int .i64 t203, .slice Ao45 t204.length co45], .int .i64 2] rfl (by (try simp only [List.map_toArray, List.map_cons, List.map_nil]) <;> rfl) ?_; (with_reducible refine (scale_Shrink.calls t202 t203 _ _ t204 2 t207 t208 t209 t212 _ ?side1 ?side2 A6.out).mono ?_); (case side1 => repeat (first | exact (Kd.R_reads' HO206.out).2.2 | (with_reducible refine Kd.C_alloc ?_ _) | (with_reducible refine Kd.C_drewN ?_ _) | (with_reducible refine Kd.C_drew ?_))); (case side2 => exact (Kd.R_reads' HO206.out).2.1); rintro e w46 ⟨v210, rfl, ho0, hb⟩; refine ⟨_, rfl, ?_⟩; have n0_ := Aside0.mk (Kd.R_below (by (with_reducible repeat (first | apply Kd.R_alloc | apply Kd.R_drewN | apply Kd.R_drew)); exact HO171.out) hb); have n1_ := Aside0.mk (Kd.R_elder' (by (with_reducible repeat (first | apply Kd.R_alloc | apply Kd.R_drewN | apply Kd.R_drew)); exact HO176.out) (Kd.R_base ho0) hb); have n2_ := Aside0.mk (Kd.R_elder' (by (with_reducible repeat (first | apply Kd.R_alloc | apply Kd.R_drewN | apply Kd.R_drew)); exact HO181.out) (Kd.R_base ho0) hb); have n3_ := Aside0.mk (Kd.R_below (by (with_reducible repeat (first | apply Kd.R_alloc | apply Kd.R_drewN | apply Kd.R_drew)); exact HO186.out) hb); have n4_ := Aside0.mk (Kd.R_elder' (by (with_reducible repeat (first | apply Kd.R_alloc | apply Kd.R_drewN | apply Kd.R_drew)); exact HO191.out) (Kd.R_base ho0) hb); have n5_ := Aside0.mk (Kd.R_elder' (by (with_reducible repeat (first | apply Kd.R_alloc | apply Kd.R_drewN | apply Kd.R_drew)); exact HO196.out) (Kd.R_base ho0) hb); have n6_ := Aside0.mk (Kd.R_below (by (with_reducible repeat (first | apply Kd.R_alloc | apply Kd.R_drewN | apply Kd.R_drew)); exact HO201.out) hb); have n7_ := Aside0.mk (Kd.R_elder' (by (with_reducible repeat (first | apply Kd.R_alloc | apply Kd.R_drewN | apply Kd.R_drew)); exact HO206.out) (Kd.R_base ho0) hb); have n8_ := Aside0.mk (Kd.R_lower (Kd.R_new' (Kd.R_new' (Kd.R_new' (Kd.R_new' (Kd.R_new' ho0 (Kd.R_lt (by (with_reducible repeat (first | apply Kd.R_alloc | apply Kd.R_drewN | apply Kd.R_drew)); exact HO176.out))) (Kd.R_lt (by (with_reducible repeat (first | apply Kd.R_alloc | apply Kd.R_drewN | apply Kd.R_drew)); exact HO181.out))) (Kd.R_lt (by (with_reducible repeat (first | apply Kd.R_alloc | apply Kd.R_drewN | apply Kd.R_drew)); exact HO191.out))) (Kd.R_lt (by (with_reducible repeat (first | apply Kd.R_alloc | apply Kd.R_drewN | apply Kd.R_drew)); exact HO196.out))) (Kd.R_lt (by (with_reducible repeat (first | apply Kd.R_alloc | apply Kd.R_drewN | apply Kd.R_drew)); exact HO206.out))) (below_size (hq_ HB))); have n9_ := bb_ BK183 hb; have n10_ := bb_ BK198 hb; have n11_ := hb_ HB hb; clear HO171; clear HO176; clear HO181; clear HO186; clear HO191; clear HO196; clear HO201; clear HO206; clear BK183; clear BK198; clear HB; have HO171 := n0_; have HO176 := n1_; have HO181 := n2_; have HO186 := n3_; have HO191 := n4_; have HO196 := n5_; have HO201 := n6_; have HO206 := n7_; have HO211 := n8_; have BK183 := n9_; have BK198 := n10_; have HB := n11_; clear n0_ n1_ n2_ n3_ n4_ n5_ n6_ n7_ n8_ n9_ n10_ n11_; (try clear hb); (try clear hb2); (try clear hk); (try clear hi); (try clear ho0)) | ((with_reducible refine gate_dst (N := 5) rfl ?_); (try (refine gate_guard (by rfl) ?_; dsimp only)); refine box_event ?hg (N := 5) ?hd (cs := #[.int .i64 0, .int .i64 0, .slice none 0 0]) (t := 24) ?hr ?_; (case hd => rfl); (case hg => rfl); (case hr => first | (go_simp; done) | (go_simp; rfl)); intro gb213 hg w47 hbox hb; have n0_ := Aside0.mk (Kd.R_below (by (with_reducible repeat (first | apply Kd.R_alloc | apply Kd.R_drewN | apply Kd.R_drew)); exact HO171.out) hb); have n1_ := Aside0.mk (Kd.R_below (by (with_reducible repeat (first | apply Kd.R_alloc | apply Kd.R_drewN | apply Kd.R_drew)); exact HO176.out) hb); have n2_ := Aside0.mk (Kd.R_below (by (with_reducible repeat (first | apply Kd.R_alloc | apply Kd.R_drewN | apply Kd.R_drew)); exact HO181.out) hb); have n3_ := Aside0.mk (Kd.R_below (by (with_reducible repeat (first | apply Kd.R_alloc | apply Kd.R_drewN | apply Kd.R_drew)); exact HO186.out) hb); have n4_ := Aside0.mk (Kd.R_below (by (with_reducible repeat (first | apply Kd.R_alloc | apply Kd.R_drewN | apply Kd.R_drew)); exact HO191.out) hb); have n5_ := Aside0.mk (Kd.R_below (by (with_reducible repeat (first | apply Kd.R_alloc | apply Kd.R_drewN | apply Kd.R_drew)); exact HO196.out) hb); have n6_ := Aside0.mk (Kd.R_below (by (with_reducible repeat (first | apply Kd.R_alloc | apply Kd.R_drewN | apply Kd.R_drew)); exact HO201.out) hb); have n7_ := Aside0.mk (Kd.R_below (by (with_reducible repeat (first | apply Kd.R_alloc | apply Kd.R_drewN | apply Kd.R_drew)); exact HO206.out) hb); have n8_ := Aside0.mk (Kd.R_below (by (with_reducible repeat (first | apply Kd.R_alloc | apply Kd.R_drewN | apply Kd.R_drew)); exact HO211.out) hb); have n9_ := bb_ BK183 hb; have n10_ := bb_ BK198 hb; have n11_ := hb_ HB hb; have n12_ := Aside0.mk (hbox); have n13_ := Aside0.mk ((by rw [hg]; exact (below_size (hq_ HB)) : w.heap.size ≤ gb213)); have n14_ := Aside0.mk ((by rw [hg]; exact (below_size (hq_ HB)) : w.heap.size ≤ gb213)); have n15_ := Aside0.mk ((by rw [hg]; exact Nat.ne_of_lt (blk_lt (g := gb183) (o := .cells #[.int .i64 t177, .int .i64 t178, .slice Ao30 t179.length co30] 24 (0, 0)) (bq_ BK183)) : gb183 ≠ gb213)); have n16_ := Aside0.mk ((by rw [hg]; exact Nat.ne_of_gt (blk_lt (g := gb183) (o := .cells #[.int .i64 t177, .int .i64 t178, .slice Ao30 t179.length co30] 24 (0, 0)) (bq_ BK183)) : gb213 ≠ gb183)); have n17_ := Aside0.mk ((by rw [hg]; exact Nat.ne_of_lt (blk_lt (g := gb198) (o := .cells #[.int .i64 t192, .int .i64 t193, .slice Ao40 t194.length co40] 24 (0, 0)) (bq_ BK198)) : gb198 ≠ gb213)); have n18_ := Aside0.mk ((by rw [hg]; exact Nat.ne_of_gt (blk_lt (g := gb198) (o := .cells #[.int .i64 t192, .int .i64 t193, .slice Ao40 t194.length co40] 24 (0, 0)) (bq_ BK198)) : gb213 ≠ gb198)); clear HO171; clear HO176; clear HO181; clear HO186; clear HO191; clear HO196; clear HO201; clear HO206; clear HO211; clear BK183; clear BK198; clear HB; have HO171 := n0_; have HO176 := n1_; have HO181 := n2_; have HO186 := n3_; have HO191 := n4_; have HO196 := n5_; have HO201 := n6_; have HO206 := n7_; have HO211 := n8_; have BK183 := n9_; have BK198 := n10_; have HB := n11_; have BK213 := n12_; have GW213 := n13_; have GE213 := n14_; have NB183_213 := n15_; have NB213_183 := n16_; have NB198_213 := n17_; have NB213_198 := n18_; clear n0_ n1_ n2_ n3_ n4_ n5_ n6_ n7_ n8_ n9_ n10_ n11_ n12_ n13_ n14_ n15_ n16_ n17_ n18_; clear hb hbox hg; have hnb48 := NB213_183.out; have hnc48 := NB183_213.out; have hnb49 := NB213_198.out; have hnc49 := NB198_213.out; have hcz50_0 : w47.cell? ⟨gb213, 0, none⟩ = some (.int .i64 0) := (blk_cell BK213.out 0).trans rfl; have hcz50_1 : w47.cell? ⟨gb213, 1, none⟩ = some (.int .i64 0) := (blk_cell BK213.out 1).trans rfl; have hcz50_2 : w47.cell? ⟨gb213, 2, none⟩ = some (.slice none 0 0) := (blk_cell BK213.out 2).trans rfl; have hfz50_0 := blk_frozen BK213.out 0; have hfz50_1 := blk_frozen BK213.out 1; have hfz50_2 := blk_frozen BK213.out 2; obtain ⟨Ao51, co51, eo51⟩ := Kd.R_slice HO211.out; subst eo51) | ((with_reducible refine gate_dst (N := 28) rfl ?_); (try (refine gate_guard (by rfl) ?_; dsimp only)); refine Kd.R_lit (Kd.int .u8) _ 5 ?hg (N := 28) ?hd (xs := ([1, 2] : List Int)) (inner := [.int .u8 1, .int .u8 2]) (ok := fun _ => True) (okp := fun _ => True) ?hr ?hp (fun _ hk => hk) trivial (Below.refl _ _) (Nat.le_refl _) (by simp) ?_; (case hd => rfl); (case hg => rfl); (case hr => first | (go_simp; done) | (go_simp; rfl)); (case hp => exact (Reps.one (show Kd.M (Kd.int .u8) _ _ _ 1 [.int .u8 1] from rfl) (Reps.one (show Kd.M (Kd.int .u8) _ _ _ 2 [.int .u8 2] from rfl) (Reps.none _ _)))); intro v215 w52 ho53 hb hg_ hnew_; clear hg_ hnew_; (first | rw [← Ny214.out] at ho53 | (simp only [Int.reduceToNat] at ho53; rw [← Ny214.out] at ho53)); have n0_ := Aside0.mk (Kd.R_elder' (by (with_reducible repeat (first | apply Kd.R_alloc | apply Kd.R_drewN | apply Kd.R_drew)); exact (Kd.R_mono (Kd.R_far (p := ⟨gb213, 2, none⟩) (Kd.R_far (p := ⟨gb213, 1, none⟩) (Kd.R_far (p := ⟨gb213, 0, none⟩) (Kd.R_types HO171.out BK213.out (by decide)) (fun _ hk => hk.2) (.int .i64 t207)) (fun _ hk => hk.2) (.int .i64 t208)) (fun _ hk => hk.2) (.slice Ao51 t209.length co51)) (fun _ h_ => h_.1))) (Kd.R_base ho53) hb); have n1_ := Aside0.mk (Kd.R_below (by (with_reducible repeat (first | apply Kd.R_alloc | apply Kd.R_drewN | apply Kd.R_drew)); exact (Kd.R_mono (Kd.R_far (p := ⟨gb213, 2, none⟩) (Kd.R_far (p := ⟨gb213, 1, none⟩) (Kd.R_far (p := ⟨gb213, 0, none⟩) (Kd.R_types HO176.out BK213.out (by decide)) (fun _ hk => hk.2) (.int .i64 t207)) (fun _ hk => hk.2) (.int .i64 t208)) (fun _ hk => hk.2) (.slice Ao51 t209.length co51)) (fun _ h_ => h_.1))) hb); have n2_ := Aside0.mk (Kd.R_below (by (with_reducible repeat (first | apply Kd.R_alloc | apply Kd.R_drewN | apply Kd.R_drew)); exact (Kd.R_mono (Kd.R_far (p := ⟨gb213, 2, none⟩) (Kd.R_far (p := ⟨gb213, 1, none⟩) (Kd.R_far (p := ⟨gb213, 0, none⟩) (Kd.R_types HO181.out BK213.out (by decide)) (fun _ hk => hk.2) (.int .i64 t207)) (fun _ hk => hk.2) (.int .i64 t208)) (fun _ hk => hk.2) (.slice Ao51 t209.length co51)) (fun _ h_ => h_.1))) hb); have n3_ := Aside0.mk (Kd.R_elder' (by (with_reducible repeat (first | apply Kd.R_alloc | apply Kd.R_drewN | apply Kd.R_drew)); exact (Kd.R_mono (Kd.R_far (p := ⟨gb213, 2, none⟩) (Kd.R_far (p := ⟨gb213, 1, none⟩) (Kd.R_far (p := ⟨gb213, 0, none⟩) (Kd.R_types HO186.out BK213.out (by decide)) (fun _ hk => hk.2) (.int .i64 t207)) (fun _ hk => hk.2) (.int .i64 t208)) (fun _ hk => hk.2) (.slice Ao51 t209.length co51)) (fun _ h_ => h_.1))) (Kd.R_base ho53) hb); have n4_ := Aside0.mk (Kd.R_below (by (with_reducible repeat (first | apply Kd.R_alloc | apply Kd.R_drewN | apply Kd.R_drew)); exact (Kd.R_mono (Kd.R_far (p := ⟨gb213, 2, none⟩) (Kd.R_far (p := ⟨gb213, 1, none⟩) (Kd.R_far (p := ⟨gb213, 0, none⟩) (Kd.R_types HO191.out BK213.out (by decide)) (fun _ hk => hk.2) (.int .i64 t207)) (fun _ hk => hk.2) (.int .i64 t208)) (fun _ hk => hk.2) (.slice Ao51 t209.length co51)) (fun _ h_ => h_.1))) hb); have n5_ := Aside0.mk (Kd.R_below (by (with_reducible repeat (first | apply Kd.R_alloc | apply Kd.R_drewN | apply Kd.R_drew)); exact (Kd.R_mono (Kd.R_far (p := ⟨gb213, 2, none⟩) (Kd.R_far (p := ⟨gb213, 1, none⟩) (Kd.R_far (p := ⟨gb213, 0, none⟩) (Kd.R_types HO196.out BK213.out (by decide)) (fun _ hk => hk.2) (.int .i64 t207)) (fun _ hk => hk.2) (.int .i64 t208)) (fun _ hk => hk.2) (.slice Ao51 t209.length co51)) (fun _ h_ => h_.1))) hb); have n6_ := Aside0.mk (Kd.R_elder' (by (with_reducible repeat (first | apply Kd.R_alloc | apply Kd.R_drewN | apply Kd.R_drew)); exact (Kd.R_mono (Kd.R_far (p := ⟨gb213, 2, none⟩) (Kd.R_far (p := ⟨gb213, 1, none⟩) (Kd.R_far (p := ⟨gb213, 0, none⟩) (Kd.R_types HO201.out BK213.out (by decide)) (fun _ hk => hk.2) (.int .i64 t207)) (fun _ hk => hk.2) (.int .i64 t208)) (fun _ hk => hk.2) (.slice Ao51 t209.length co51)) (fun _ h_ => h_.1))) (Kd.R_base ho53) hb); have n7_ := Aside0.mk (Kd.R_below (by (with_reducible repeat (first | apply Kd.R_alloc | apply Kd.R_drewN | apply Kd.R_drew)); exact (Kd.R_mono (Kd.R_far (p := ⟨gb213, 2, none⟩) (Kd.R_far (p := ⟨gb213, 1, none⟩) (Kd.R_far (p := ⟨gb213, 0, none⟩) (Kd.R_types HO206.out BK213.out (by decide)) (fun _ hk => hk.2) (.int .i64 t207)) (fun _ hk => hk.2) (.int .i64 t208)) (fun _ hk => hk.2) (.slice Ao51 t209.length co51)) (fun _ h_ => h_.1))) hb); have n8_ := Aside0.mk (Kd.R_below (by (with_reducible repeat (first | apply Kd.R_alloc | apply Kd.R_drewN | apply Kd.R_drew)); exact (Kd.R_mono (Kd.R_far (p := ⟨gb213, 2, none⟩) (Kd.R_far (p := ⟨gb213, 1, none⟩) (Kd.R_far (p := ⟨gb213, 0, none⟩) (Kd.R_types HO211.out BK213.out (by decide)) (fun _ hk => hk.2) (.int .i64 t207)) (fun _ hk => hk.2) (.int .i64 t208)) (fun _ hk => hk.2) (.slice Ao51 t209.length co51)) (fun _ h_ => h_.1))) hb); have n9_ := Aside0.mk (Kd.R_lower (Kd.R_new' (Kd.R_new' (Kd.R_new' ho53 (Kd.R_lt (by (with_reducible repeat (first | apply Kd.R_alloc | apply Kd.R_drewN | apply Kd.R_drew)); exact (Kd.R_mono (Kd.R_far (p := ⟨gb213, 2, none⟩) (Kd.R_far (p := ⟨gb213, 1, none⟩) (Kd.R_far (p := ⟨gb213, 0, none⟩) (Kd.R_types HO171.out BK213.out (by decide)) (fun _ hk => hk.2) (.int .i64 t207)) (fun _ hk => hk.2) (.int .i64 t208)) (fun _ hk => hk.2) (.slice Ao51 t209.length co51)) (fun _ h_ => h_.1))))) (Kd.R_lt (by (with_reducible repeat (first | apply Kd.R_alloc | apply Kd.R_drewN | apply Kd.R_drew)); exact (Kd.R_mono (Kd.R_far (p := ⟨gb213, 2, none⟩) (Kd.R_far (p := ⟨gb213, 1, none⟩) (Kd.R_far (p := ⟨gb213, 0, none⟩) (Kd.R_types HO186.out BK213.out (by decide)) (fun _ hk => hk.2) (.int .i64 t207)) (fun _ hk => hk.2) (.int .i64 t208)) (fun _ hk => hk.2) (.slice Ao51 t209.length co51)) (fun _ h_ => h_.1))))) (Kd.R_lt (by (with_reducible repeat (first | apply Kd.R_alloc | apply Kd.R_drewN | apply Kd.R_drew)); exact (Kd.R_mono (Kd.R_far (p := ⟨gb213, 2, none⟩) (Kd.R_far (p := ⟨gb213, 1, none⟩) (Kd.R_far (p := ⟨gb213, 0, none⟩) (Kd.R_types HO201.out BK213.out (by decide)) (fun _ hk => hk.2) (.int .i64 t207)) (fun _ hk => hk.2) (.int .i64 t208)) (fun _ hk => hk.2) (.slice Ao51 t209.length co51)) (fun _ h_ => h_.1))))) (below_size (hq_ HB))); have n10_ := Aside0.mk (blk_below (g := gb183) (o := .cells #[.int .i64 t177, .int .i64 t178, .slice Ao30 t179.length co30] 24 (0, 0)) (by (with_reducible repeat (first | refine blk_drewN ?_ _ | refine blk_drew ?_ | refine blk_alloc ?_ _)); refine blk_far ?_ NB183_213.out _; (with_reducible repeat (first | refine blk_drewN ?_ _ | refine blk_drew ?_ | refine blk_alloc ?_ _)); refine blk_far ?_ NB183_213.out _; (with_reducible repeat (first | refine blk_drewN ?_ _ | refine blk_drew ?_ | refine blk_alloc ?_ _)); refine blk_far ?_ NB183_213.out _; (with_reducible repeat (first | refine blk_drewN ?_ _ | refine blk_drew ?_ | refine blk_alloc ?_ _)); exact BK183.out) hb); have n11_ := Aside0.mk (blk_below (g := gb198) (o := .cells #[.int .i64 t192, .int .i64 t193, .slice Ao40 t194.length co40] 24 (0, 0)) (by (with_reducible repeat (first | refine blk_drewN ?_ _ | refine blk_drew ?_ | refine blk_alloc ?_ _)); refine blk_far ?_ NB198_213.out _; (with_reducible repeat (first | refine blk_drewN ?_ _ | refine blk_drew ?_ | refine blk_alloc ?_ _)); refine blk_far ?_ NB198_213.out _; (with_reducible repeat (first | refine blk_drewN ?_ _ | refine blk_drew ?_ | refine blk_alloc ?_ _)); refine blk_far ?_ NB198_213.out _; (with_reducible repeat (first | refine blk_drewN ?_ _ | refine blk_drew ?_ | refine blk_alloc ?_ _)); exact BK198.out) hb); have n12_ := Aside0.mk (blk_below (g := gb213) (o := .cells #[.int .i64 t207, .int .i64 t208, .slice Ao51 t209.length co51] 24 (0, 0)) (by (with_reducible repeat (first | refine blk_drewN ?_ _ | refine blk_drew ?_ | refine blk_alloc ?_ _)); refine blk_put (cs := #[.int .i64 t207, .int .i64 t208, .slice none 0 0]) ?_ 2 _ rfl; (with_reducible repeat (first | refine blk_drewN ?_ _ | refine blk_drew ?_ | refine blk_alloc ?_ _)); refine blk_put (cs := #[.int .i64 t207, .int .i64 0, .slice none 0 0]) ?_ 1 _ rfl; (with_reducible repeat (first | refine blk_drewN ?_ _ | refine blk_drew ?_ | refine blk_alloc ?_ _)); refine blk_put (cs := #[.int .i64 0, .int .i64 0, .slice none 0 0]) ?_ 0 _ rfl; (with_reducible repeat (first | refine blk_drewN ?_ _ | refine blk_drew ?_ | refine blk_alloc ?_ _)); exact BK213.out) hb); have n13_ := hb_ HB hb; clear HO171; clear HO176; clear HO181; clear HO186; clear HO191; clear HO196; clear HO201; clear HO206; clear HO211; clear BK183; clear BK198; clear BK213; clear HB; have HO171 := n0_; have HO176 := n1_; have HO181 := n2_; have HO186 := n3_; have HO191 := n4_; have HO196 := n5_; have HO201 := n6_; have HO206 := n7_; have HO211 := n8_; have HO216 := n9_; have BK183 := n10_; have BK198 := n11_; have BK213 := n12_; have HB := n13_; clear n0_ n1_ n2_ n3_ n4_ n5_ n6_ n7_ n8_ n9_ n10_ n11_ n12_ n13_; clear hb ho53; obtain ⟨Ao54, co54, eo54⟩ := Kd.R_slice HO216.out; subst eo54) | ((with_reducible refine gate_callee (f := 31) rfl ?_); refine goesL_ (some 29) rfl rfl Try.func31 (by kernel_rfl) rfl #[.slice Ao54 y214.length co54] rfl (by (try simp only [List.map_toArray, List.map_cons, List.map_nil]) <;> rfl) ?_; (with_reducible refine (compositorlaw10_row.calls k _ _ y214 t217 t218 t219 _ ?side1 ?side2 A7.out).mono ?_); (case side1 => repeat (first | exact (Kd.R_reads' HO216.out).2.2 | (with_reducible refine Kd.C_alloc ?_ _) | (with_reducible refine Kd.C_drewN ?_ _) | (with_reducible refine Kd.C_drew ?_))); (case side2 => exact (Kd.R_reads' HO216.out).2.1); rintro e w55 ⟨v220, rfl, ho0, hb⟩; refine ⟨_, rfl, ?_⟩; have n0_ := Aside0.mk (Kd.R_below (by (with_reducible repeat (first | apply Kd.R_alloc | apply Kd.R_drewN | apply Kd.R_drew)); exact HO171.out) hb); have n1_ := Aside0.mk (Kd.R_elder' (by (with_reducible repeat (first | apply Kd.R_alloc | apply Kd.R_drewN | apply Kd.R_drew)); exact HO176.out) (Kd.R_base ho0) hb); have n2_ := Aside0.mk (Kd.R_elder' (by (with_reducible repeat (first | apply Kd.R_alloc | apply Kd.R_drewN | apply Kd.R_drew)); exact HO181.out) (Kd.R_base ho0) hb); have n3_ := Aside0.mk (Kd.R_below (by (with_reducible repeat (first | apply Kd.R_alloc | apply Kd.R_drewN | apply Kd.R_drew)); exact HO186.out) hb); have n4_ := Aside0.mk (Kd.R_elder' (by (with_reducible repeat (first | apply Kd.R_alloc | apply Kd.R_drewN | apply Kd.R_drew)); exact HO191.out) (Kd.R_base ho0) hb); have n5_ := Aside0.mk (Kd.R_elder' (by (with_reducible repeat (first | apply Kd.R_alloc | apply Kd.R_drewN | apply Kd.R_drew)); exact HO196.out) (Kd.R_base ho0) hb); have n6_ := Aside0.mk (Kd.R_below (by (with_reducible repeat (first | apply Kd.R_alloc | apply Kd.R_drewN | apply Kd.R_drew)); exact HO201.out) hb); have n7_ := Aside0.mk (Kd.R_elder' (by (with_reducible repeat (first | apply Kd.R_alloc | apply Kd.R_drewN | apply Kd.R_drew)); exact HO206.out) (Kd.R_base ho0) hb); have n8_ := Aside0.mk (Kd.R_elder' (by (with_reducible repeat (first | apply Kd.R_alloc | apply Kd.R_drewN | apply Kd.R_drew)); exact HO211.out) (Kd.R_base ho0) hb); have n9_ := Aside0.mk (Kd.R_below (by (with_reducible repeat (first | apply Kd.R_alloc | apply Kd.R_drewN | apply Kd.R_drew)); exact HO216.out) hb); have n10_ := Aside0.mk (Kd.R_lower (Kd.R_new' (Kd.R_new' (Kd.R_new' (Kd.R_new' (Kd.R_new' (Kd.R_new' ho0 (Kd.R_lt (by (with_reducible repeat (first | apply Kd.R_alloc | apply Kd.R_drewN | apply Kd.R_drew)); exact HO176.out))) (Kd.R_lt (by (with_reducible repeat (first | apply Kd.R_alloc | apply Kd.R_drewN | apply Kd.R_drew)); exact HO181.out))) (Kd.R_lt (by (with_reducible repeat (first | apply Kd.R_alloc | apply Kd.R_drewN | apply Kd.R_drew)); exact HO191.out))) (Kd.R_lt (by (with_reducible repeat (first | apply Kd.R_alloc | apply Kd.R_drewN | apply Kd.R_drew)); exact HO196.out))) (Kd.R_lt (by (with_reducible repeat (first | apply Kd.R_alloc | apply Kd.R_drewN | apply Kd.R_drew)); exact HO206.out))) (Kd.R_lt (by (with_reducible repeat (first | apply Kd.R_alloc | apply Kd.R_drewN | apply Kd.R_drew)); exact HO211.out))) (below_size (hq_ HB))); have n11_ := bb_ BK183 hb; have n12_ := bb_ BK198 hb; have n13_ := bb_ BK213 hb; have n14_ := hb_ HB hb; clear HO171; clear HO176; clear HO181; clear HO186; clear HO191; clear HO196; clear HO201; clear HO206; clear HO211; clear HO216; clear BK183; clear BK198; clear BK213; clear HB; have HO171 := n0_; have HO176 := n1_; have HO181 := n2_; have HO186 := n3_; have HO191 := n4_; have HO196 := n5_; have HO201 := n6_; have HO206 := n7_; have HO211 := n8_; have HO216 := n9_; have HO221 := n10_; have BK183 := n11_; have BK198 := n12_; have BK213 := n13_; have HB := n14_; clear n0_ n1_ n2_ n3_ n4_ n5_ n6_ n7_ n8_ n9_ n10_ n11_ n12_ n13_ n14_; (try clear hb); (try clear hb2); (try clear hk); (try clear hi); (try clear ho0); obtain ⟨Ao56, co56, eo56⟩ := Kd.R_slice HO221.out; subst eo56) | ((with_reducible refine gate_callee (f := 20) rfl ?_); refine goesL_ (some 30) rfl rfl Try.func20 (by kernel_rfl) rfl #[.agg #[.int .i64 t217, .int .i64 t218, .slice Ao56 t219.length co56], .int .i64 2] rfl (by (try simp only [List.map_toArray, List.map_cons, List.map_nil]) <;> rfl) ?_; (with_reducible refine (scale_Enlarge.calls t217 t218 _ _ t219 2 t222 t223 t224 t227 _ ?side1 ?side2 A8.out).mono ?_); (case side1 => repeat (first | exact (Kd.R_reads' HO221.out).2.2 | (with_reducible refine Kd.C_alloc ?_ _) | (with_reducible refine Kd.C_drewN ?_ _) | (with_reducible refine Kd.C_drew ?_))); (case side2 => exact (Kd.R_reads' HO221.out).2.1); rintro e w57 ⟨v225, rfl, ho0, hb⟩; refine ⟨_, rfl, ?_⟩; have n0_ := Aside0.mk (Kd.R_below (by (with_reducible repeat (first | apply Kd.R_alloc | apply Kd.R_drewN | apply Kd.R_drew)); exact HO171.out) hb); have n1_ := Aside0.mk (Kd.R_elder' (by (with_reducible repeat (first | apply Kd.R_alloc | apply Kd.R_drewN | apply Kd.R_drew)); exact HO176.out) (Kd.R_base ho0) hb); have n2_ := Aside0.mk (Kd.R_elder' (by (with_reducible repeat (first | apply Kd.R_alloc | apply Kd.R_drewN | apply Kd.R_drew)); exact HO181.out) (Kd.R_base ho0) hb); have n3_ := Aside0.mk (Kd.R_below (by (with_reducible repeat (first | apply Kd.R_alloc | apply Kd.R_drewN | apply Kd.R_drew)); exact HO186.out) hb); have n4_ := Aside0.mk (Kd.R_elder' (by (with_reducible repeat (first | apply Kd.R_alloc | apply Kd.R_drewN | apply Kd.R_drew)); exact HO191.out) (Kd.R_base ho0) hb); have n5_ := Aside0.mk (Kd.R_elder' (by (with_reducible repeat (first | apply Kd.R_alloc | apply Kd.R_drewN | apply Kd.R_drew)); exact HO196.out) (Kd.R_base ho0) hb); have n6_ := Aside0.mk (Kd.R_below (by (with_reducible repeat (first | apply Kd.R_alloc | apply Kd.R_drewN | apply Kd.R_drew)); exact HO201.out) hb); have n7_ := Aside0.mk (Kd.R_elder' (by (with_reducible repeat (first | apply Kd.R_alloc | apply Kd.R_drewN | apply Kd.R_drew)); exact HO206.out) (Kd.R_base ho0) hb); have n8_ := Aside0.mk (Kd.R_elder' (by (with_reducible repeat (first | apply Kd.R_alloc | apply Kd.R_drewN | apply Kd.R_drew)); exact HO211.out) (Kd.R_base ho0) hb); have n9_ := Aside0.mk (Kd.R_below (by (with_reducible repeat (first | apply Kd.R_alloc | apply Kd.R_drewN | apply Kd.R_drew)); exact HO216.out) hb); have n10_ := Aside0.mk (Kd.R_elder' (by (with_reducible repeat (first | apply Kd.R_alloc | apply Kd.R_drewN | apply Kd.R_drew)); exact HO221.out) (Kd.R_base ho0) hb); have n11_ := Aside0.mk (Kd.R_lower (Kd.R_new' (Kd.R_new' (Kd.R_new' (Kd.R_new' (Kd.R_new' (Kd.R_new' (Kd.R_new' ho0 (Kd.R_lt (by (with_reducible repeat (first | apply Kd.R_alloc | apply Kd.R_drewN | apply Kd.R_drew)); exact HO176.out))) (Kd.R_lt (by (with_reducible repeat (first | apply Kd.R_alloc | apply Kd.R_drewN | apply Kd.R_drew)); exact HO181.out))) (Kd.R_lt (by (with_reducible repeat (first | apply Kd.R_alloc | apply Kd.R_drewN | apply Kd.R_drew)); exact HO191.out))) (Kd.R_lt (by (with_reducible repeat (first | apply Kd.R_alloc | apply Kd.R_drewN | apply Kd.R_drew)); exact HO196.out))) (Kd.R_lt (by (with_reducible repeat (first | apply Kd.R_alloc | apply Kd.R_drewN | apply Kd.R_drew)); exact HO206.out))) (Kd.R_lt (by (with_reducible repeat (first | apply Kd.R_alloc | apply Kd.R_drewN | apply Kd.R_drew)); exact HO211.out))) (Kd.R_lt (by (with_reducible repeat (first | apply Kd.R_alloc | apply Kd.R_drewN | apply Kd.R_drew)); exact HO221.out))) (below_size (hq_ HB))); have n12_ := bb_ BK183 hb; have n13_ := bb_ BK198 hb; have n14_ := bb_ BK213 hb; have n15_ := hb_ HB hb; clear HO171; clear HO176; clear HO181; clear HO186; clear HO191; clear HO196; clear HO201; clear HO206; clear HO211; clear HO216; clear HO221; clear BK183; clear BK198; clear BK213; clear HB; have HO171 := n0_; have HO176 := n1_; have HO181 := n2_; have HO186 := n3_; have HO191 := n4_; have HO196 := n5_; have HO201 := n6_; have HO206 := n7_; have HO211 := n8_; have HO216 := n9_; have HO221 := n10_; have HO226 := n11_; have BK183 := n12_; have BK198 := n13_; have BK213 := n14_; have HB := n15_; clear n0_ n1_ n2_ n3_ n4_ n5_ n6_ n7_ n8_ n9_ n10_ n11_ n12_ n13_ n14_ n15_; (try clear hb); (try clear hb2); (try clear hk); (try clear hi); (try clear ho0)) | ((with_reducible refine gate_dst (N := 7) rfl ?_); (try (refine gate_guard (by rfl) ?_; dsimp only)); refine box_event ?hg (N := 7) ?hd (cs := #[.int .i64 0, .int .i64 0, .slice none 0 0]) (t := 24) ?hr ?_; (case hd => rfl); (case hg => rfl); (case hr => first | (go_simp; done) | (go_simp; rfl)); intro gb228 hg w58 hbox hb; have n0_ := Aside0.mk (Kd.R_below (by (with_reducible repeat (first | apply Kd.R_alloc | apply Kd.R_drewN | apply Kd.R_drew)); exact HO171.out) hb); have n1_ := Aside0.mk (Kd.R_below (by (with_reducible repeat (first | apply Kd.R_alloc | apply Kd.R_drewN | apply Kd.R_drew)); exact HO176.out) hb); have n2_ := Aside0.mk (Kd.R_below (by (with_reducible repeat (first | apply Kd.R_alloc | apply Kd.R_drewN | apply Kd.R_drew)); exact HO181.out) hb); have n3_ := Aside0.mk (Kd.R_below (by (with_reducible repeat (first | apply Kd.R_alloc | apply Kd.R_drewN | apply Kd.R_drew)); exact HO186.out) hb); have n4_ := Aside0.mk (Kd.R_below (by (with_reducible repeat (first | apply Kd.R_alloc | apply Kd.R_drewN | apply Kd.R_drew)); exact HO191.out) hb); have n5_ := Aside0.mk (Kd.R_below (by (with_reducible repeat (first | apply Kd.R_alloc | apply Kd.R_drewN | apply Kd.R_drew)); exact HO196.out) hb); have n6_ := Aside0.mk (Kd.R_below (by (with_reducible repeat (first | apply Kd.R_alloc | apply Kd.R_drewN | apply Kd.R_drew)); exact HO201.out) hb); have n7_ := Aside0.mk (Kd.R_below (by (with_reducible repeat (first | apply Kd.R_alloc | apply Kd.R_drewN | apply Kd.R_drew)); exact HO206.out) hb); have n8_ := Aside0.mk (Kd.R_below (by (with_reducible repeat (first | apply Kd.R_alloc | apply Kd.R_drewN | apply Kd.R_drew)); exact HO211.out) hb); have n9_ := Aside0.mk (Kd.R_below (by (with_reducible repeat (first | apply Kd.R_alloc | apply Kd.R_drewN | apply Kd.R_drew)); exact HO216.out) hb); have n10_ := Aside0.mk (Kd.R_below (by (with_reducible repeat (first | apply Kd.R_alloc | apply Kd.R_drewN | apply Kd.R_drew)); exact HO221.out) hb); have n11_ := Aside0.mk (Kd.R_below (by (with_reducible repeat (first | apply Kd.R_alloc | apply Kd.R_drewN | apply Kd.R_drew)); exact HO226.out) hb); have n12_ := bb_ BK183 hb; have n13_ := bb_ BK198 hb; have n14_ := bb_ BK213 hb; have n15_ := hb_ HB hb; have n16_ := Aside0.mk (hbox); have n17_ := Aside0.mk ((by rw [hg]; exact (below_size (hq_ HB)) : w.heap.size ≤ gb228)); have n18_ := Aside0.mk ((by rw [hg]; exact (below_size (hq_ HB)) : w.heap.size ≤ gb228)); have n19_ := Aside0.mk ((by rw [hg]; exact Nat.ne_of_lt (blk_lt (g := gb183) (o := .cells #[.int .i64 t177, .int .i64 t178, .slice Ao30 t179.length co30] 24 (0, 0)) (bq_ BK183)) : gb183 ≠ gb228)); have n20_ := Aside0.mk ((by rw [hg]; exact Nat.ne_of_gt (blk_lt (g := gb183) (o := .cells #[.int .i64 t177, .int .i64 t178, .slice Ao30 t179.length co30] 24 (0, 0)) (bq_ BK183)) : gb228 ≠ gb183)); have n21_ := Aside0.mk ((by rw [hg]; exact Nat.ne_of_lt (blk_lt (g := gb198) (o := .cells #[.int .i64 t192, .int .i64 t193, .slice Ao40 t194.length co40] 24 (0, 0)) (bq_ BK198)) : gb198 ≠ gb228)); have n22_ := Aside0.mk ((by rw [hg]; exact Nat.ne_of_gt (blk_lt (g := gb198) (o := .cells #[.int .i64 t192, .int .i64 t193, .slice Ao40 t194.length co40] 24 (0, 0)) (bq_ BK198)) : gb228 ≠ gb198)); have n23_ := Aside0.mk ((by rw [hg]; exact Nat.ne_of_lt (blk_lt (g := gb213) (o := .cells #[.int .i64 t207, .int .i64 t208, .slice Ao51 t209.length co51] 24 (0, 0)) (bq_ BK213)) : gb213 ≠ gb228)); have n24_ := Aside0.mk ((by rw [hg]; exact Nat.ne_of_gt (blk_lt (g := gb213) (o := .cells #[.int .i64 t207, .int .i64 t208, .slice Ao51 t209.length co51] 24 (0, 0)) (bq_ BK213)) : gb228 ≠ gb213)); clear HO171; clear HO176; clear HO181; clear HO186; clear HO191; clear HO196; clear HO201; clear HO206; clear HO211; clear HO216; clear HO221; clear HO226; clear BK183; clear BK198; clear BK213; clear HB; have HO171 := n0_; have HO176 := n1_; have HO181 := n2_; have HO186 := n3_; have HO191 := n4_; have HO196 := n5_; have HO201 := n6_; have HO206 := n7_; have HO211 := n8_; have HO216 := n9_; have HO221 := n10_; have HO226 := n11_; have BK183 := n12_; have BK198 := n13_; have BK213 := n14_; have HB := n15_; have BK228 := n16_; have GW228 := n17_; have GE228 := n18_; have NB183_228 := n19_; have NB228_183 := n20_; have NB198_228 := n21_; have NB228_198 := n22_; have NB213_228 := n23_; have NB228_213 := n24_; clear n0_ n1_ n2_ n3_ n4_ n5_ n6_ n7_ n8_ n9_ n10_ n11_ n12_ n13_ n14_ n15_ n16_ n17_ n18_ n19_ n20_ n21_ n22_ n23_ n24_; clear hb hbox hg; have hnb59 := NB228_183.out; have hnc59 := NB183_228.out; have hnb60 := NB228_198.out; have hnc60 := NB198_228.out; have hnb61 := NB228_213.out; have hnc61 := NB213_228.out; have hcz62_0 : w58.cell? ⟨gb228, 0, none⟩ = some (.int .i64 0) := (blk_cell BK228.out 0).trans rfl; have hcz62_1 : w58.cell? ⟨gb228, 1, none⟩ = some (.int .i64 0) := (blk_cell BK228.out 1).trans rfl; have hcz62_2 : w58.cell? ⟨gb228, 2, none⟩ = some (.slice none 0 0) := (blk_cell BK228.out 2).trans rfl; have hfz62_0 := blk_frozen BK228.out 0; have hfz62_1 := blk_frozen BK228.out 1; have hfz62_2 := blk_frozen BK228.out 2; obtain ⟨Ao63, co63, eo63⟩ := Kd.R_slice HO226.out; subst eo63))
         have n0_ : Aside0 (Kd.R (Kd.int .u8) 5 (((w58.setCell ⟨gb228, 0, none⟩ (.int .i64 t222)).setCell ⟨gb228, 1, none⟩ (.int .i64 t223)).setCell ⟨gb228, 2, none⟩ (.slice Ao63 t224.length co63)) w.heap.size (fun k_ => some k_ ≠ (.slice Ao33 y184.length co33 : Value).ownBlock ∧ some k_ ≠ (.slice Ao43 y199.length co43 : Value).ownBlock ∧ some k_ ≠ (.slice Ao54 y214.length co54 : Value).ownBlock) (.slice Ao24 y169.length co24) y169) := ⟨by (with_reducible repeat (first | apply Kd.R_alloc | apply Kd.R_drewN | apply Kd.R_drew)); exact Kd.R_mono (Kd.R_far (p := ⟨gb228, 2, none⟩) (Kd.R_far (p := ⟨gb228, 1, none⟩) (Kd.R_far (p := ⟨gb228, 0, none⟩) (Kd.R_types HO171.out BK228.out (by decide)) (fun _ hk => hk.2) (.int .i64 t222)) (fun _ hk => hk.2) (.int .i64 t223)) (fun _ hk => hk.2) (.slice Ao63 t224.length co63)) (fun _ hk => ⟨hk.1.1.1.2, ⟨hk.1.1.2, hk.1.2⟩⟩)⟩
         have n1_ : Aside0 (Kd.R k43 43 (((w58.setCell ⟨gb228, 0, none⟩ (.int .i64 t222)).setCell ⟨gb228, 1, none⟩ (.int .i64 t223)).setCell ⟨gb228, 2, none⟩ (.slice Ao63 t224.length co63)) w.heap.size (fun k_ => some k_ ≠ (.slice Ao30 t179.length co30 : Value).ownBlock ∧ some k_ ≠ (.slice Ao35 t189.length co35 : Value).ownBlock ∧ some k_ ≠ (.slice Ao40 t194.length co40 : Value).ownBlock ∧ some k_ ≠ (.slice Ao45 t204.length co45 : Value).ownBlock ∧ some k_ ≠ (.slice Ao51 t209.length co51 : Value).ownBlock ∧ some k_ ≠ (.slice Ao56 t219.length co56 : Value).ownBlock ∧ some k_ ≠ (.slice Ao63 t224.length co63 : Value).ownBlock) (.slice Ao26 t174.length co26) t174) := ⟨by (with_reducible repeat (first | apply Kd.R_alloc | apply Kd.R_drewN | apply Kd.R_drew)); exact Kd.R_mono (Kd.R_far (p := ⟨gb228, 2, none⟩) (Kd.R_far (p := ⟨gb228, 1, none⟩) (Kd.R_far (p := ⟨gb228, 0, none⟩) (Kd.R_types HO176.out BK228.out (by decide)) (fun _ hk => hk.2) (.int .i64 t222)) (fun _ hk => hk.2) (.int .i64 t223)) (fun _ hk => hk.2) (.slice Ao63 t224.length co63)) (fun _ hk => ⟨hk.1.1.1.1.1.1.1.2, ⟨hk.1.1.1.1.1.1.2, ⟨hk.1.1.1.1.1.2, ⟨hk.1.1.1.1.2, ⟨hk.1.1.1.2, ⟨hk.1.1.2, hk.1.2⟩⟩⟩⟩⟩⟩)⟩
         have n2_ : Aside0 (Kd.R k43 43 (((w58.setCell ⟨gb228, 0, none⟩ (.int .i64 t222)).setCell ⟨gb228, 1, none⟩ (.int .i64 t223)).setCell ⟨gb228, 2, none⟩ (.slice Ao63 t224.length co63)) w.heap.size (fun k_ => some k_ ≠ (.slice Ao26 t174.length co26 : Value).ownBlock ∧ some k_ ≠ (.slice Ao35 t189.length co35 : Value).ownBlock ∧ some k_ ≠ (.slice Ao40 t194.length co40 : Value).ownBlock ∧ some k_ ≠ (.slice Ao45 t204.length co45 : Value).ownBlock ∧ some k_ ≠ (.slice Ao51 t209.length co51 : Value).ownBlock ∧ some k_ ≠ (.slice Ao56 t219.length co56 : Value).ownBlock ∧ some k_ ≠ (.slice Ao63 t224.length co63 : Value).ownBlock) (.slice Ao30 t179.length co30) t179) := ⟨by (with_reducible repeat (first | apply Kd.R_alloc | apply Kd.R_drewN | apply Kd.R_drew)); exact Kd.R_mono (Kd.R_far (p := ⟨gb228, 2, none⟩) (Kd.R_far (p := ⟨gb228, 1, none⟩) (Kd.R_far (p := ⟨gb228, 0, none⟩) (Kd.R_types HO181.out BK228.out (by decide)) (fun _ hk => hk.2) (.int .i64 t222)) (fun _ hk => hk.2) (.int .i64 t223)) (fun _ hk => hk.2) (.slice Ao63 t224.length co63)) (fun _ hk => ⟨hk.1.1.1.1.1.1.1.2, ⟨hk.1.1.1.1.1.1.2, ⟨hk.1.1.1.1.1.2, ⟨hk.1.1.1.1.2, ⟨hk.1.1.1.2, ⟨hk.1.1.2, hk.1.2⟩⟩⟩⟩⟩⟩)⟩
         have n3_ : Aside0 (Kd.R (Kd.int .u8) 5 (((w58.setCell ⟨gb228, 0, none⟩ (.int .i64 t222)).setCell ⟨gb228, 1, none⟩ (.int .i64 t223)).setCell ⟨gb228, 2, none⟩ (.slice Ao63 t224.length co63)) w.heap.size (fun k_ => some k_ ≠ (.slice Ao24 y169.length co24 : Value).ownBlock ∧ some k_ ≠ (.slice Ao43 y199.length co43 : Value).ownBlock ∧ some k_ ≠ (.slice Ao54 y214.length co54 : Value).ownBlock) (.slice Ao33 y184.length co33) y184) := ⟨by (with_reducible repeat (first | apply Kd.R_alloc | apply Kd.R_drewN | apply Kd.R_drew)); exact Kd.R_mono (Kd.R_far (p := ⟨gb228, 2, none⟩) (Kd.R_far (p := ⟨gb228, 1, none⟩) (Kd.R_far (p := ⟨gb228, 0, none⟩) (Kd.R_types HO186.out BK228.out (by decide)) (fun _ hk => hk.2) (.int .i64 t222)) (fun _ hk => hk.2) (.int .i64 t223)) (fun _ hk => hk.2) (.slice Ao63 t224.length co63)) (fun _ hk => ⟨hk.1.1.1.2, ⟨hk.1.1.2, hk.1.2⟩⟩)⟩
         have n4_ : Aside0 (Kd.R k43 43 (((w58.setCell ⟨gb228, 0, none⟩ (.int .i64 t222)).setCell ⟨gb228, 1, none⟩ (.int .i64 t223)).setCell ⟨gb228, 2, none⟩ (.slice Ao63 t224.length co63)) w.heap.size (fun k_ => some k_ ≠ (.slice Ao26 t174.length co26 : Value).ownBlock ∧ some k_ ≠ (.slice Ao30 t179.length co30 : Value).ownBlock ∧ some k_ ≠ (.slice Ao40 t194.length co40 : Value).ownBlock ∧ some k_ ≠ (.slice Ao45 t204.length co45 : Value).ownBlock ∧ some k_ ≠ (.slice Ao51 t209.length co51 : Value).ownBlock ∧ some k_ ≠ (.slice Ao56 t219.length co56 : Value).ownBlock ∧ some k_ ≠ (.slice Ao63 t224.length co63 : Value).ownBlock) (.slice Ao35 t189.length co35) t189) := ⟨by (with_reducible repeat (first | apply Kd.R_alloc | apply Kd.R_drewN | apply Kd.R_drew)); exact Kd.R_mono (Kd.R_far (p := ⟨gb228, 2, none⟩) (Kd.R_far (p := ⟨gb228, 1, none⟩) (Kd.R_far (p := ⟨gb228, 0, none⟩) (Kd.R_types HO191.out BK228.out (by decide)) (fun _ hk => hk.2) (.int .i64 t222)) (fun _ hk => hk.2) (.int .i64 t223)) (fun _ hk => hk.2) (.slice Ao63 t224.length co63)) (fun _ hk => ⟨hk.1.1.1.1.1.1.1.2, ⟨hk.1.1.1.1.1.1.2, ⟨hk.1.1.1.1.1.2, ⟨hk.1.1.1.1.2, ⟨hk.1.1.1.2, ⟨hk.1.1.2, hk.1.2⟩⟩⟩⟩⟩⟩)⟩
         have n5_ : Aside0 (Kd.R k43 43 (((w58.setCell ⟨gb228, 0, none⟩ (.int .i64 t222)).setCell ⟨gb228, 1, none⟩ (.int .i64 t223)).setCell ⟨gb228, 2, none⟩ (.slice Ao63 t224.length co63)) w.heap.size (fun k_ => some k_ ≠ (.slice Ao26 t174.length co26 : Value).ownBlock ∧ some k_ ≠ (.slice Ao30 t179.length co30 : Value).ownBlock ∧ some k_ ≠ (.slice Ao35 t189.length co35 : Value).ownBlock ∧ some k_ ≠ (.slice Ao45 t204.length co45 : Value).ownBlock ∧ some k_ ≠ (.slice Ao51 t209.length co51 : Value).ownBlock ∧ some k_ ≠ (.slice Ao56 t219.length co56 : Value).ownBlock ∧ some k_ ≠ (.slice Ao63 t224.length co63 : Value).ownBlock) (.slice Ao40 t194.length co40) t194) := ⟨by (with_reducible repeat (first | apply Kd.R_alloc | apply Kd.R_drewN | apply Kd.R_drew)); exact Kd.R_mono (Kd.R_far (p := ⟨gb228, 2, none⟩) (Kd.R_far (p := ⟨gb228, 1, none⟩) (Kd.R_far (p := ⟨gb228, 0, none⟩) (Kd.R_types HO196.out BK228.out (by decide)) (fun _ hk => hk.2) (.int .i64 t222)) (fun _ hk => hk.2) (.int .i64 t223)) (fun _ hk => hk.2) (.slice Ao63 t224.length co63)) (fun _ hk => ⟨hk.1.1.1.1.1.1.1.2, ⟨hk.1.1.1.1.1.1.2, ⟨hk.1.1.1.1.1.2, ⟨hk.1.1.1.1.2, ⟨hk.1.1.1.2, ⟨hk.1.1.2, hk.1.2⟩⟩⟩⟩⟩⟩)⟩
         have n6_ : Aside0 (Kd.R (Kd.int .u8) 5 (((w58.setCell ⟨gb228, 0, none⟩ (.int .i64 t222)).setCell ⟨gb228, 1, none⟩ (.int .i64 t223)).setCell ⟨gb228, 2, none⟩ (.slice Ao63 t224.length co63)) w.heap.size (fun k_ => some k_ ≠ (.slice Ao24 y169.length co24 : Value).ownBlock ∧ some k_ ≠ (.slice Ao33 y184.length co33 : Value).ownBlock ∧ some k_ ≠ (.slice Ao54 y214.length co54 : Value).ownBlock) (.slice Ao43 y199.length co43) y199) := ⟨by (with_reducible repeat (first | apply Kd.R_alloc | apply Kd.R_drewN | apply Kd.R_drew)); exact Kd.R_mono (Kd.R_far (p := ⟨gb228, 2, none⟩) (Kd.R_far (p := ⟨gb228, 1, none⟩) (Kd.R_far (p := ⟨gb228, 0, none⟩) (Kd.R_types HO201.out BK228.out (by decide)) (fun _ hk => hk.2) (.int .i64 t222)) (fun _ hk => hk.2) (.int .i64 t223)) (fun _ hk => hk.2) (.slice Ao63 t224.length co63)) (fun _ hk => ⟨hk.1.1.1.2, ⟨hk.1.1.2, hk.1.2⟩⟩)⟩
         have n7_ : Aside0 (Kd.R k43 43 (((w58.setCell ⟨gb228, 0, none⟩ (.int .i64 t222)).setCell ⟨gb228, 1, none⟩ (.int .i64 t223)).setCell ⟨gb228, 2, none⟩ (.slice Ao63 t224.length co63)) w.heap.size (fun k_ => some k_ ≠ (.slice Ao26 t174.length co26 : Value).ownBlock ∧ some k_ ≠ (.slice Ao30 t179.length co30 : Value).ownBlock ∧ some k_ ≠ (.slice Ao35 t189.length co35 : Value).ownBlock ∧ some k_ ≠ (.slice Ao40 t194.length co40 : Value).ownBlock ∧ some k_ ≠ (.slice Ao51 t209.length co51 : Value).ownBlock ∧ some k_ ≠ (.slice Ao56 t219.length co56 : Value).ownBlock ∧ some k_ ≠ (.slice Ao63 t224.length co63 : Value).ownBlock) (.slice Ao45 t204.length co45) t204) := ⟨by (with_reducible repeat (first | apply Kd.R_alloc | apply Kd.R_drewN | apply Kd.R_drew)); exact Kd.R_mono (Kd.R_far (p := ⟨gb228, 2, none⟩) (Kd.R_far (p := ⟨gb228, 1, none⟩) (Kd.R_far (p := ⟨gb228, 0, none⟩) (Kd.R_types HO206.out BK228.out (by decide)) (fun _ hk => hk.2) (.int .i64 t222)) (fun _ hk => hk.2) (.int .i64 t223)) (fun _ hk => hk.2) (.slice Ao63 t224.length co63)) (fun _ hk => ⟨hk.1.1.1.1.1.1.1.2, ⟨hk.1.1.1.1.1.1.2, ⟨hk.1.1.1.1.1.2, ⟨hk.1.1.1.1.2, ⟨hk.1.1.1.2, ⟨hk.1.1.2, hk.1.2⟩⟩⟩⟩⟩⟩)⟩
         have n8_ : Aside0 (Kd.R k43 43 (((w58.setCell ⟨gb228, 0, none⟩ (.int .i64 t222)).setCell ⟨gb228, 1, none⟩ (.int .i64 t223)).setCell ⟨gb228, 2, none⟩ (.slice Ao63 t224.length co63)) w.heap.size (fun k_ => some k_ ≠ (.slice Ao26 t174.length co26 : Value).ownBlock ∧ some k_ ≠ (.slice Ao30 t179.length co30 : Value).ownBlock ∧ some k_ ≠ (.slice Ao35 t189.length co35 : Value).ownBlock ∧ some k_ ≠ (.slice Ao40 t194.length co40 : Value).ownBlock ∧ some k_ ≠ (.slice Ao45 t204.length co45 : Value).ownBlock ∧ some k_ ≠ (.slice Ao56 t219.length co56 : Value).ownBlock ∧ some k_ ≠ (.slice Ao63 t224.length co63 : Value).ownBlock) (.slice Ao51 t209.length co51) t209) := ⟨by (with_reducible repeat (first | apply Kd.R_alloc | apply Kd.R_drewN | apply Kd.R_drew)); exact Kd.R_mono (Kd.R_far (p := ⟨gb228, 2, none⟩) (Kd.R_far (p := ⟨gb228, 1, none⟩) (Kd.R_far (p := ⟨gb228, 0, none⟩) (Kd.R_types HO211.out BK228.out (by decide)) (fun _ hk => hk.2) (.int .i64 t222)) (fun _ hk => hk.2) (.int .i64 t223)) (fun _ hk => hk.2) (.slice Ao63 t224.length co63)) (fun _ hk => ⟨hk.1.1.1.1.1.1.1.2, ⟨hk.1.1.1.1.1.1.2, ⟨hk.1.1.1.1.1.2, ⟨hk.1.1.1.1.2, ⟨hk.1.1.1.2, ⟨hk.1.1.2, hk.1.2⟩⟩⟩⟩⟩⟩)⟩
         have n9_ : Aside0 (Kd.R (Kd.int .u8) 5 (((w58.setCell ⟨gb228, 0, none⟩ (.int .i64 t222)).setCell ⟨gb228, 1, none⟩ (.int .i64 t223)).setCell ⟨gb228, 2, none⟩ (.slice Ao63 t224.length co63)) w.heap.size (fun k_ => some k_ ≠ (.slice Ao24 y169.length co24 : Value).ownBlock ∧ some k_ ≠ (.slice Ao33 y184.length co33 : Value).ownBlock ∧ some k_ ≠ (.slice Ao43 y199.length co43 : Value).ownBlock) (.slice Ao54 y214.length co54) y214) := ⟨by (with_reducible repeat (first | apply Kd.R_alloc | apply Kd.R_drewN | apply Kd.R_drew)); exact Kd.R_mono (Kd.R_far (p := ⟨gb228, 2, none⟩) (Kd.R_far (p := ⟨gb228, 1, none⟩) (Kd.R_far (p := ⟨gb228, 0, none⟩) (Kd.R_types HO216.out BK228.out (by decide)) (fun _ hk => hk.2) (.int .i64 t222)) (fun _ hk => hk.2) (.int .i64 t223)) (fun _ hk => hk.2) (.slice Ao63 t224.length co63)) (fun _ hk => ⟨hk.1.1.1.2, ⟨hk.1.1.2, hk.1.2⟩⟩)⟩
         have n10_ : Aside0 (Kd.R k43 43 (((w58.setCell ⟨gb228, 0, none⟩ (.int .i64 t222)).setCell ⟨gb228, 1, none⟩ (.int .i64 t223)).setCell ⟨gb228, 2, none⟩ (.slice Ao63 t224.length co63)) w.heap.size (fun k_ => some k_ ≠ (.slice Ao26 t174.length co26 : Value).ownBlock ∧ some k_ ≠ (.slice Ao30 t179.length co30 : Value).ownBlock ∧ some k_ ≠ (.slice Ao35 t189.length co35 : Value).ownBlock ∧ some k_ ≠ (.slice Ao40 t194.length co40 : Value).ownBlock ∧ some k_ ≠ (.slice Ao45 t204.length co45 : Value).ownBlock ∧ some k_ ≠ (.slice Ao51 t209.length co51 : Value).ownBlock ∧ some k_ ≠ (.slice Ao63 t224.length co63 : Value).ownBlock) (.slice Ao56 t219.length co56) t219) := ⟨by (with_reducible repeat (first | apply Kd.R_alloc | apply Kd.R_drewN | apply Kd.R_drew)); exact Kd.R_mono (Kd.R_far (p := ⟨gb228, 2, none⟩) (Kd.R_far (p := ⟨gb228, 1, none⟩) (Kd.R_far (p := ⟨gb228, 0, none⟩) (Kd.R_types HO221.out BK228.out (by decide)) (fun _ hk => hk.2) (.int .i64 t222)) (fun _ hk => hk.2) (.int .i64 t223)) (fun _ hk => hk.2) (.slice Ao63 t224.length co63)) (fun _ hk => ⟨hk.1.1.1.1.1.1.1.2, ⟨hk.1.1.1.1.1.1.2, ⟨hk.1.1.1.1.1.2, ⟨hk.1.1.1.1.2, ⟨hk.1.1.1.2, ⟨hk.1.1.2, hk.1.2⟩⟩⟩⟩⟩⟩)⟩
         have n11_ : Aside0 (Kd.R k43 43 (((w58.setCell ⟨gb228, 0, none⟩ (.int .i64 t222)).setCell ⟨gb228, 1, none⟩ (.int .i64 t223)).setCell ⟨gb228, 2, none⟩ (.slice Ao63 t224.length co63)) w.heap.size (fun k_ => some k_ ≠ (.slice Ao26 t174.length co26 : Value).ownBlock ∧ some k_ ≠ (.slice Ao30 t179.length co30 : Value).ownBlock ∧ some k_ ≠ (.slice Ao35 t189.length co35 : Value).ownBlock ∧ some k_ ≠ (.slice Ao40 t194.length co40 : Value).ownBlock ∧ some k_ ≠ (.slice Ao45 t204.length co45 : Value).ownBlock ∧ some k_ ≠ (.slice Ao51 t209.length co51 : Value).ownBlock ∧ some k_ ≠ (.slice Ao56 t219.length co56 : Value).ownBlock) (.slice Ao63 t224.length co63) t224) := ⟨by (with_reducible repeat (first | apply Kd.R_alloc | apply Kd.R_drewN | apply Kd.R_drew)); exact Kd.R_mono (Kd.R_far (p := ⟨gb228, 2, none⟩) (Kd.R_far (p := ⟨gb228, 1, none⟩) (Kd.R_far (p := ⟨gb228, 0, none⟩) (Kd.R_types HO226.out BK228.out (by decide)) (fun _ hk => hk.2) (.int .i64 t222)) (fun _ hk => hk.2) (.int .i64 t223)) (fun _ hk => hk.2) (.slice Ao63 t224.length co63)) (fun _ hk => ⟨hk.1.1.1.1.1.1.1.2, ⟨hk.1.1.1.1.1.1.2, ⟨hk.1.1.1.1.1.2, ⟨hk.1.1.1.1.2, ⟨hk.1.1.1.2, ⟨hk.1.1.2, hk.1.2⟩⟩⟩⟩⟩⟩)⟩
         have n12_ : Aside0 ((((w58.setCell ⟨gb228, 0, none⟩ (.int .i64 t222)).setCell ⟨gb228, 1, none⟩ (.int .i64 t223)).setCell ⟨gb228, 2, none⟩ (.slice Ao63 t224.length co63)).heap[gb183]? = some (.cells #[.int .i64 t177, .int .i64 t178, .slice Ao30 t179.length co30] 24 (0, 0))) := bf_ BK183
         have n13_ : Aside0 ((((w58.setCell ⟨gb228, 0, none⟩ (.int .i64 t222)).setCell ⟨gb228, 1, none⟩ (.int .i64 t223)).setCell ⟨gb228, 2, none⟩ (.slice Ao63 t224.length co63)).heap[gb198]? = some (.cells #[.int .i64 t192, .int .i64 t193, .slice Ao40 t194.length co40] 24 (0, 0))) := bf_ BK198
         have n14_ : Aside0 ((((w58.setCell ⟨gb228, 0, none⟩ (.int .i64 t222)).setCell ⟨gb228, 1, none⟩ (.int .i64 t223)).setCell ⟨gb228, 2, none⟩ (.slice Ao63 t224.length co63)).heap[gb213]? = some (.cells #[.int .i64 t207, .int .i64 t208, .slice Ao51 t209.length co51] 24 (0, 0))) := bf_ BK213
         have n15_ : Aside0 ((((w58.setCell ⟨gb228, 0, none⟩ (.int .i64 t222)).setCell ⟨gb228, 1, none⟩ (.int .i64 t223)).setCell ⟨gb228, 2, none⟩ (.slice Ao63 t224.length co63)).heap[gb228]? = some (.cells #[.int .i64 t222, .int .i64 t223, .slice Ao63 t224.length co63] 24 (0, 0))) := ⟨by (with_reducible repeat (first | refine blk_drewN ?_ _ | refine blk_drew ?_ | refine blk_alloc ?_ _)); refine blk_put (cs := #[.int .i64 t222, .int .i64 t223, .slice none 0 0]) ?_ 2 _ rfl; (with_reducible repeat (first | refine blk_drewN ?_ _ | refine blk_drew ?_ | refine blk_alloc ?_ _)); refine blk_put (cs := #[.int .i64 t222, .int .i64 0, .slice none 0 0]) ?_ 1 _ rfl; (with_reducible repeat (first | refine blk_drewN ?_ _ | refine blk_drew ?_ | refine blk_alloc ?_ _)); refine blk_put (cs := #[.int .i64 0, .int .i64 0, .slice none 0 0]) ?_ 0 _ rfl; (with_reducible repeat (first | refine blk_drewN ?_ _ | refine blk_drew ?_ | refine blk_alloc ?_ _)); exact BK228.out⟩
         have n16_ : Aside0 (Below w.heap.size w (((w58.setCell ⟨gb228, 0, none⟩ (.int .i64 t222)).setCell ⟨gb228, 1, none⟩ (.int .i64 t223)).setCell ⟨gb228, 2, none⟩ (.slice Ao63 t224.length co63))) := ⟨by repeat (first | (with_reducible first | exact HB.out | apply below_alloc | apply pw_below_drewN | apply below_drew1 | refine below_set ?_ GE183.out | refine below_set ?_ GE198.out | refine below_set ?_ GE213.out | refine below_set ?_ GE228.out) | exact HB.out)⟩
         (try clear HO171)
         (try clear HO176)
         (try clear HO181)
         (try clear HO186)
         (try clear HO191)
         (try clear HO196)
         (try clear HO201)
         (try clear HO206)
         (try clear HO211)
         (try clear HO216)
         (try clear HO221)
         (try clear HO226)
         (try clear BK183)
         (try clear BK198)
         (try clear BK213)
         (try clear BK228)
         (try clear HB)
         generalize (((w58.setCell ⟨gb228, 0, none⟩ (.int .i64 t222)).setCell ⟨gb228, 1, none⟩ (.int .i64 t223)).setCell ⟨gb228, 2, none⟩ (.slice Ao63 t224.length co63)) = w64 at n0_ n1_ n2_ n3_ n4_ n5_ n6_ n7_ n8_ n9_ n10_ n11_ n12_ n13_ n14_ n15_ n16_ ⊢
         have HO171 := n0_
         have HO176 := n1_
         have HO181 := n2_
         have HO186 := n3_
         have HO191 := n4_
         have HO196 := n5_
         have HO201 := n6_
         have HO206 := n7_
         have HO211 := n8_
         have HO216 := n9_
         have HO221 := n10_
         have HO226 := n11_
         have BK183 := n12_
         have BK198 := n13_
         have BK213 := n14_
         have BK228 := n15_
         have HB := n16_
         clear n0_ n1_ n2_ n3_ n4_ n5_ n6_ n7_ n8_ n9_ n10_ n11_ n12_ n13_ n14_ n15_ n16_
         replace HO171 := Aside0.mk (Kd.R_drew HO171.out)
         replace HO176 := Aside0.mk (Kd.R_drew HO176.out)
         replace HO181 := Aside0.mk (Kd.R_drew HO181.out)
         replace HO186 := Aside0.mk (Kd.R_drew HO186.out)
         replace HO191 := Aside0.mk (Kd.R_drew HO191.out)
         replace HO196 := Aside0.mk (Kd.R_drew HO196.out)
         replace HO201 := Aside0.mk (Kd.R_drew HO201.out)
         replace HO206 := Aside0.mk (Kd.R_drew HO206.out)
         replace HO211 := Aside0.mk (Kd.R_drew HO211.out)
         replace HO216 := Aside0.mk (Kd.R_drew HO216.out)
         replace HO221 := Aside0.mk (Kd.R_drew HO221.out)
         replace HO226 := Aside0.mk (Kd.R_drew HO226.out)
         replace BK183 := Aside0.mk (blk_drew BK183.out)
         replace BK198 := Aside0.mk (blk_drew BK198.out)
         replace BK213 := Aside0.mk (blk_drew BK213.out)
         replace BK228 := Aside0.mk (blk_drew BK228.out)
         replace HB := Aside0.mk (below_drew1 HB.out)
         refine start_ (n := 44) (S := fun w' => w'.cell? ⟨gb183, 0, none⟩ = some (.int .i64 t177) ∧ w'.cell? ⟨gb183, 1, none⟩ = some (.int .i64 t178) ∧ w'.cell? ⟨gb183, 2, none⟩ = some (.slice Ao30 t179.length co30) ∧ w'.cell? ⟨gb198, 0, none⟩ = some (.int .i64 t192) ∧ w'.cell? ⟨gb198, 1, none⟩ = some (.int .i64 t193) ∧ w'.cell? ⟨gb198, 2, none⟩ = some (.slice Ao40 t194.length co40) ∧ w'.cell? ⟨gb228, 0, none⟩ = some (.int .i64 t222) ∧ w'.cell? ⟨gb228, 1, none⟩ = some (.int .i64 t223) ∧ w'.cell? ⟨gb228, 2, none⟩ = some (.slice Ao63 t224.length co63)) (ds := []) zq12.q0 (by kernel_rfl) rfl rfl ⟨c_ BK183 0, ⟨c_ BK183 1, ⟨c_ BK183 2, ⟨c_ BK198 0, ⟨c_ BK198 1, ⟨c_ BK198 2, ⟨c_ BK228 0, ⟨c_ BK228 1, (c_ BK228 2)⟩⟩⟩⟩⟩⟩⟩⟩ (fun hHeld => ?_); refine with_tabW compositorlaw10_exampleHolds.tab5 compositorlaw10_exampleHolds.bits5 (fun HT_ HW_ => ?_)
         generalize w64.drew = w65 at HO171 HO176 HO181 HO186 HO191 HO196 HO201 HO206 HO211 HO216 HO221 HO226 BK183 BK198 BK213 BK228 HB hHeld ⊢
         refine pv_ 0 33 zq12.q1 HT_ ?_
         refine pv_ 1 34 zq12.q2 HT_ ?_
         refine pv_ 2 35 zq12.q3 HT_ ?_
         refine take_ (i := 3) (N := some 36) (v := ?_) (a' := ?_) zq12.q4 rfl rfl (take_ofW HT_.out HW_.out (by kernel_rfl)) (fun _ _ _ h => h) (Or.inl ⟨by rfl, ?_⟩) hHeld ?_ ?_
         rotate_left
         ·
          rintro w' ⟨s0, s1, s2, s3, s4, s5, s6, s7, s8⟩
          go_simp
          with_reducible rfl
         rotate_left
         ·
          simp only [Act.put, List.setIfInBounds_toArray, List.set_cons_zero, List.set_cons_succ, i64_w, i32_w]
          rfl
         refine one_ (i := 4) (N := some 37) zq12.q5 rfl rfl (one_of HT_.out (by kernel_rfl)) (by decide) (fun K hK => ?_)
         refine Kd.R_lit_step (Kd.int .u8) _ 5 ?hg (N := 37) ?hd (xs := ([10, 30, 40] : List Int)) (inner := [.int .u8 10, .int .u8 30, .int .u8 40]) (ok := fun _ => True) (okp := fun _ => True) ?hr ?hp (fun _ hk => hk) trivial (Below.refl _ _) (Nat.le_refl _) (by simp) ?_; (case hd => rfl); (case hg => rfl); (case hr => first | (go_simp; done) | (go_simp; rfl)); (case hp => exact (Reps.one (show Kd.M (Kd.int .u8) _ _ _ 10 [.int .u8 10] from rfl) (Reps.one (show Kd.M (Kd.int .u8) _ _ _ 30 [.int .u8 30] from rfl) (Reps.one (show Kd.M (Kd.int .u8) _ _ _ 40 [.int .u8 40] from rfl) (Reps.none _ _)))))
         intro v230 w66 ho67 hb hg_ hnew_
         clear hg_ hnew_
         (first | rw [← Ny229.out] at ho67 | (simp only [Int.reduceToNat] at ho67; rw [← Ny229.out] at ho67))
         replace HO176 := Aside0.mk (Kd.R_below (by (with_reducible repeat (first | apply Kd.R_alloc | apply Kd.R_drewN | apply Kd.R_drew)); exact HO176.out) hb)
         replace HO181 := Aside0.mk (Kd.R_below (by (with_reducible repeat (first | apply Kd.R_alloc | apply Kd.R_drewN | apply Kd.R_drew)); exact HO181.out) hb)
         replace HO191 := Aside0.mk (Kd.R_below (by (with_reducible repeat (first | apply Kd.R_alloc | apply Kd.R_drewN | apply Kd.R_drew)); exact HO191.out) hb)
         replace HO196 := Aside0.mk (Kd.R_below (by (with_reducible repeat (first | apply Kd.R_alloc | apply Kd.R_drewN | apply Kd.R_drew)); exact HO196.out) hb)
         replace HO206 := Aside0.mk (Kd.R_below (by (with_reducible repeat (first | apply Kd.R_alloc | apply Kd.R_drewN | apply Kd.R_drew)); exact HO206.out) hb)
         replace HO211 := Aside0.mk (Kd.R_below (by (with_reducible repeat (first | apply Kd.R_alloc | apply Kd.R_drewN | apply Kd.R_drew)); exact HO211.out) hb)
         replace HO221 := Aside0.mk (Kd.R_below (by (with_reducible repeat (first | apply Kd.R_alloc | apply Kd.R_drewN | apply Kd.R_drew)); exact HO221.out) hb)
         replace HO226 := Aside0.mk (Kd.R_below (by (with_reducible repeat (first | apply Kd.R_alloc | apply Kd.R_drewN | apply Kd.R_drew)); exact HO226.out) hb)
         have HO231 := Aside0.mk (Kd.R_lower (Kd.R_new' (Kd.R_new' (Kd.R_new' (Kd.R_new' ho67 (Kd.R_lt (by (with_reducible repeat (first | apply Kd.R_alloc | apply Kd.R_drewN | apply Kd.R_drew)); exact HO171.out))) (Kd.R_lt (by (with_reducible repeat (first | apply Kd.R_alloc | apply Kd.R_drewN | apply Kd.R_drew)); exact HO186.out))) (Kd.R_lt (by (with_reducible repeat (first | apply Kd.R_alloc | apply Kd.R_drewN | apply Kd.R_drew)); exact HO201.out))) (Kd.R_lt (by (with_reducible repeat (first | apply Kd.R_alloc | apply Kd.R_drewN | apply Kd.R_drew)); exact HO216.out))) (below_size (hq_ HB)))
         replace HO171 := Aside0.mk (Kd.R_elder' (by (with_reducible repeat (first | apply Kd.R_alloc | apply Kd.R_drewN | apply Kd.R_drew)); exact HO171.out) (Kd.R_base ho67) hb)
         replace HO186 := Aside0.mk (Kd.R_elder' (by (with_reducible repeat (first | apply Kd.R_alloc | apply Kd.R_drewN | apply Kd.R_drew)); exact HO186.out) (Kd.R_base ho67) hb)
         replace HO201 := Aside0.mk (Kd.R_elder' (by (with_reducible repeat (first | apply Kd.R_alloc | apply Kd.R_drewN | apply Kd.R_drew)); exact HO201.out) (Kd.R_base ho67) hb)
         replace HO216 := Aside0.mk (Kd.R_elder' (by (with_reducible repeat (first | apply Kd.R_alloc | apply Kd.R_drewN | apply Kd.R_drew)); exact HO216.out) (Kd.R_base ho67) hb)
         replace BK183 := bb_ BK183 hb
         replace BK198 := bb_ BK198 hb
         replace BK213 := bb_ BK213 hb
         replace BK228 := bb_ BK228 hb
         replace HB := hb_ HB hb
         clear hb ho67
         obtain ⟨Ao68, co68, eo68⟩ := Kd.R_slice HO231.out
         (first | subst eo68 | (injection eo68 with f1_ f2_ f3_; have f4_ := f1_.symm; have f5_ := f3_.symm; clear f1_ f2_ f3_; subst f4_; subst f5_))
         refine hK.out _ _ ⟨c_ BK183 0, ⟨c_ BK183 1, ⟨c_ BK183 2, ⟨c_ BK198 0, ⟨c_ BK198 1, ⟨c_ BK198 2, ⟨c_ BK228 0, ⟨c_ BK228 1, (c_ BK228 2)⟩⟩⟩⟩⟩⟩⟩⟩ (fun hHeld => ?_)
         clear hK K
         refine norm_ (a' := ?_) ?_ ?_
         rotate_left
         ·
          show Act.put _ (some 37) _ = _
          simp only [Act.put, List.setIfInBounds_toArray, List.set_cons_zero, List.set_cons_succ, i64_w, i32_w]
          rfl
         refine one_ (i := 5) (N := some 38) zq12.q6 rfl rfl (one_of HT_.out (by kernel_rfl)) (by decide) (fun K hK => ?_)
         refine gs_ Try.func31 #[.slice Ao68 y229.length co68] ?_
         with_reducible refine (compositorlaw10_row.calls k _ _ y229 t232 t233 t234 _ ?side1 ?side2 A10.out).mono ?_
         (case side1 => repeat (first | exact (Kd.R_reads' HO231.out).2.2 | (with_reducible refine Kd.C_alloc ?_ _) | (with_reducible refine Kd.C_drewN ?_ _) | (with_reducible refine Kd.C_drew ?_)))
         (case side2 => exact (Kd.R_reads' HO231.out).2.1)
         rintro e w69 ⟨v235, rfl, ho0, hb⟩
         refine ⟨_, rfl, ?_⟩
         replace HO171 := Aside0.mk (Kd.R_below (by (with_reducible repeat (first | apply Kd.R_alloc | apply Kd.R_drewN | apply Kd.R_drew)); exact HO171.out) hb)
         replace HO186 := Aside0.mk (Kd.R_below (by (with_reducible repeat (first | apply Kd.R_alloc | apply Kd.R_drewN | apply Kd.R_drew)); exact HO186.out) hb)
         replace HO201 := Aside0.mk (Kd.R_below (by (with_reducible repeat (first | apply Kd.R_alloc | apply Kd.R_drewN | apply Kd.R_drew)); exact HO201.out) hb)
         replace HO216 := Aside0.mk (Kd.R_below (by (with_reducible repeat (first | apply Kd.R_alloc | apply Kd.R_drewN | apply Kd.R_drew)); exact HO216.out) hb)
         replace HO231 := Aside0.mk (Kd.R_below (by (with_reducible repeat (first | apply Kd.R_alloc | apply Kd.R_drewN | apply Kd.R_drew)); exact HO231.out) hb)
         have HO236 := Aside0.mk (Kd.R_lower (Kd.R_new' (Kd.R_new' (Kd.R_new' (Kd.R_new' (Kd.R_new' (Kd.R_new' (Kd.R_new' (Kd.R_new' ho0 (Kd.R_lt (by (with_reducible repeat (first | apply Kd.R_alloc | apply Kd.R_drewN | apply Kd.R_drew)); exact HO176.out))) (Kd.R_lt (by (with_reducible repeat (first | apply Kd.R_alloc | apply Kd.R_drewN | apply Kd.R_drew)); exact HO181.out))) (Kd.R_lt (by (with_reducible repeat (first | apply Kd.R_alloc | apply Kd.R_drewN | apply Kd.R_drew)); exact HO191.out))) (Kd.R_lt (by (with_reducible repeat (first | apply Kd.R_alloc | apply Kd.R_drewN | apply Kd.R_drew)); exact HO196.out))) (Kd.R_lt (by (with_reducible repeat (first | apply Kd.R_alloc | apply Kd.R_drewN | apply Kd.R_drew)); exact HO206.out))) (Kd.R_lt (by (with_reducible repeat (first | apply Kd.R_alloc | apply Kd.R_drewN | apply Kd.R_drew)); exact HO211.out))) (Kd.R_lt (by (with_reducible repeat (first | apply Kd.R_alloc | apply Kd.R_drewN | apply Kd.R_drew)); exact HO221.out))) (Kd.R_lt (by (with_reducible repeat (first | apply Kd.R_alloc | apply Kd.R_drewN | apply Kd.R_drew)); exact HO226.out))) (below_size (hq_ HB)))
         replace HO176 := Aside0.mk (Kd.R_elder' (by (with_reducible repeat (first | apply Kd.R_alloc | apply Kd.R_drewN | apply Kd.R_drew)); exact HO176.out) (Kd.R_base ho0) hb)
         replace HO181 := Aside0.mk (Kd.R_elder' (by (with_reducible repeat (first | apply Kd.R_alloc | apply Kd.R_drewN | apply Kd.R_drew)); exact HO181.out) (Kd.R_base ho0) hb)
         replace HO191 := Aside0.mk (Kd.R_elder' (by (with_reducible repeat (first | apply Kd.R_alloc | apply Kd.R_drewN | apply Kd.R_drew)); exact HO191.out) (Kd.R_base ho0) hb)
         replace HO196 := Aside0.mk (Kd.R_elder' (by (with_reducible repeat (first | apply Kd.R_alloc | apply Kd.R_drewN | apply Kd.R_drew)); exact HO196.out) (Kd.R_base ho0) hb)
         replace HO206 := Aside0.mk (Kd.R_elder' (by (with_reducible repeat (first | apply Kd.R_alloc | apply Kd.R_drewN | apply Kd.R_drew)); exact HO206.out) (Kd.R_base ho0) hb)
         replace HO211 := Aside0.mk (Kd.R_elder' (by (with_reducible repeat (first | apply Kd.R_alloc | apply Kd.R_drewN | apply Kd.R_drew)); exact HO211.out) (Kd.R_base ho0) hb)
         replace HO221 := Aside0.mk (Kd.R_elder' (by (with_reducible repeat (first | apply Kd.R_alloc | apply Kd.R_drewN | apply Kd.R_drew)); exact HO221.out) (Kd.R_base ho0) hb)
         replace HO226 := Aside0.mk (Kd.R_elder' (by (with_reducible repeat (first | apply Kd.R_alloc | apply Kd.R_drewN | apply Kd.R_drew)); exact HO226.out) (Kd.R_base ho0) hb)
         replace BK183 := bb_ BK183 hb
         replace BK198 := bb_ BK198 hb
         replace BK213 := bb_ BK213 hb
         replace BK228 := bb_ BK228 hb
         replace HB := hb_ HB hb
         (try clear hb); (try clear hb2); (try clear hk); (try clear hi)
         (try clear ho0)
         obtain ⟨Ao70, co70, eo70⟩ := Kd.R_slice HO236.out
         (first | subst eo70 | (injection eo70 with f1_ f2_ f3_; have f4_ := f1_.symm; have f5_ := f3_.symm; clear f1_ f2_ f3_; subst f4_; subst f5_))
         refine hK.out _ _ ⟨c_ BK183 0, ⟨c_ BK183 1, ⟨c_ BK183 2, ⟨c_ BK198 0, ⟨c_ BK198 1, ⟨c_ BK198 2, ⟨c_ BK228 0, ⟨c_ BK228 1, (c_ BK228 2)⟩⟩⟩⟩⟩⟩⟩⟩ (fun hHeld => ?_)
         clear hK K
         refine norm_ (a' := ?_) ?_ ?_
         rotate_left
         ·
          show Act.put _ (some 38) _ = _
          simp only [Act.put, List.setIfInBounds_toArray, List.set_cons_zero, List.set_cons_succ, i64_w, i32_w]
          rfl
         refine one_ (i := 6) (N := some 39) zq12.q7 rfl rfl (one_of HT_.out (by kernel_rfl)) (by decide) (fun K hK => ?_)
         refine gs_ Try.func15 #[.agg #[.int .i64 t177, .int .i64 t178, .slice Ao30 t179.length co30], .agg #[.int .i64 t232, .int .i64 t233, .slice Ao70 t234.length co70]] ?_
         with_reducible refine (compositorlaw10_same.calls k t177 t178 _ _ t179 t232 t233 _ _ t234 true _ ?side1 ?side2 ?side3 ?side4 A11.out).mono ?_
         (case side1 => repeat (first | exact (Kd.R_reads' HO181.out).2.2 | (with_reducible refine Kd.C_alloc ?_ _) | (with_reducible refine Kd.C_drewN ?_ _) | (with_reducible refine Kd.C_drew ?_)))
         (case side2 => exact (Kd.R_reads' HO181.out).2.1)
         (case side3 => repeat (first | exact (Kd.R_reads' HO236.out).2.2 | (with_reducible refine Kd.C_alloc ?_ _) | (with_reducible refine Kd.C_drewN ?_ _) | (with_reducible refine Kd.C_drew ?_)))
         (case side4 => exact (Kd.R_reads' HO236.out).2.1)
         rintro e w71 ⟨rfl, hb⟩
         refine ⟨_, rfl, ?_⟩
         replace HO171 := Aside0.mk (Kd.R_below (by (with_reducible repeat (first | apply Kd.R_alloc | apply Kd.R_drewN | apply Kd.R_drew)); exact HO171.out) hb)
         replace HO176 := Aside0.mk (Kd.R_below (by (with_reducible repeat (first | apply Kd.R_alloc | apply Kd.R_drewN | apply Kd.R_drew)); exact HO176.out) hb)
         replace HO181 := Aside0.mk (Kd.R_below (by (with_reducible repeat (first | apply Kd.R_alloc | apply Kd.R_drewN | apply Kd.R_drew)); exact HO181.out) hb)
         replace HO186 := Aside0.mk (Kd.R_below (by (with_reducible repeat (first | apply Kd.R_alloc | apply Kd.R_drewN | apply Kd.R_drew)); exact HO186.out) hb)
         replace HO191 := Aside0.mk (Kd.R_below (by (with_reducible repeat (first | apply Kd.R_alloc | apply Kd.R_drewN | apply Kd.R_drew)); exact HO191.out) hb)
         replace HO196 := Aside0.mk (Kd.R_below (by (with_reducible repeat (first | apply Kd.R_alloc | apply Kd.R_drewN | apply Kd.R_drew)); exact HO196.out) hb)
         replace HO201 := Aside0.mk (Kd.R_below (by (with_reducible repeat (first | apply Kd.R_alloc | apply Kd.R_drewN | apply Kd.R_drew)); exact HO201.out) hb)
         replace HO206 := Aside0.mk (Kd.R_below (by (with_reducible repeat (first | apply Kd.R_alloc | apply Kd.R_drewN | apply Kd.R_drew)); exact HO206.out) hb)
         replace HO211 := Aside0.mk (Kd.R_below (by (with_reducible repeat (first | apply Kd.R_alloc | apply Kd.R_drewN | apply Kd.R_drew)); exact HO211.out) hb)
         replace HO216 := Aside0.mk (Kd.R_below (by (with_reducible repeat (first | apply Kd.R_alloc | apply Kd.R_drewN | apply Kd.R_drew)); exact HO216.out) hb)
         replace HO221 := Aside0.mk (Kd.R_below (by (with_reducible repeat (first | apply Kd.R_alloc | apply Kd.R_drewN | apply Kd.R_drew)); exact HO221.out) hb)
         replace HO226 := Aside0.mk (Kd.R_below (by (with_reducible repeat (first | apply Kd.R_alloc | apply Kd.R_drewN | apply Kd.R_drew)); exact HO226.out) hb)
         replace HO231 := Aside0.mk (Kd.R_below (by (with_reducible repeat (first | apply Kd.R_alloc | apply Kd.R_drewN | apply Kd.R_drew)); exact HO231.out) hb)
         replace HO236 := Aside0.mk (Kd.R_below (by (with_reducible repeat (first | apply Kd.R_alloc | apply Kd.R_drewN | apply Kd.R_drew)); exact HO236.out) hb)
         replace BK183 := bb_ BK183 hb
         replace BK198 := bb_ BK198 hb
         replace BK213 := bb_ BK213 hb
         replace BK228 := bb_ BK228 hb
         replace HB := hb_ HB hb
         (try clear hb); (try clear hb2); (try clear hk); (try clear hi)
         refine hK.out _ _ ⟨c_ BK183 0, ⟨c_ BK183 1, ⟨c_ BK183 2, ⟨c_ BK198 0, ⟨c_ BK198 1, ⟨c_ BK198 2, ⟨c_ BK228 0, ⟨c_ BK228 1, (c_ BK228 2)⟩⟩⟩⟩⟩⟩⟩⟩ (fun hHeld => ?_)
         clear hK K
         refine norm_ (a' := ?_) ?_ ?_
         rotate_left
         ·
          show Act.put _ (some 39) _ = _
          simp only [Act.put, List.setIfInBounds_toArray, List.set_cons_zero, List.set_cons_succ, i64_w, i32_w]
          rfl
         refine pv_ 7 40 zq12.q8 HT_ ?_
         refine pv_ 8 41 zq12.q9 HT_ ?_
         refine pv_ 9 42 zq12.q10 HT_ ?_
         refine pv_ 10 43 zq12.q11 HT_ ?_
         refine pv_ 11 44 zq12.q12 HT_ ?_
         refine pv_ 12 45 zq12.q13 HT_ ?_
         refine take_ (i := 13) (N := some 46) (v := ?_) (a' := ?_) zq12.q14 rfl rfl (take_ofW HT_.out HW_.out (by kernel_rfl)) (fun _ _ _ h => h) (Or.inl ⟨by rfl, ?_⟩) hHeld ?_ ?_
         rotate_left
         ·
          rintro w' ⟨s0, s1, s2, s3, s4, s5, s6, s7, s8⟩
          go_simp
          with_reducible rfl
         rotate_left
         ·
          simp only [Act.put, List.setIfInBounds_toArray, List.set_cons_zero, List.set_cons_succ, i64_w, i32_w]
          rfl
         refine one_ (i := 14) (N := some 47) zq12.q15 rfl rfl (one_of HT_.out (by kernel_rfl)) (by decide) (fun K hK => ?_)
         refine Kd.R_lit_step (Kd.int .u8) _ 5 ?hg (N := 47) ?hd (xs := ([13, 25, 38] : List Int)) (inner := [.int .u8 13, .int .u8 25, .int .u8 38]) (ok := fun _ => True) (okp := fun _ => True) ?hr ?hp (fun _ hk => hk) trivial (Below.refl _ _) (Nat.le_refl _) (by simp) ?_; (case hd => rfl); (case hg => rfl); (case hr => first | (go_simp; done) | (go_simp; rfl)); (case hp => exact (Reps.one (show Kd.M (Kd.int .u8) _ _ _ 13 [.int .u8 13] from rfl) (Reps.one (show Kd.M (Kd.int .u8) _ _ _ 25 [.int .u8 25] from rfl) (Reps.one (show Kd.M (Kd.int .u8) _ _ _ 38 [.int .u8 38] from rfl) (Reps.none _ _)))))
         intro v239 w72 ho73 hb hg_ hnew_
         clear hg_ hnew_
         (first | rw [← Ny238.out] at ho73 | (simp only [Int.reduceToNat] at ho73; rw [← Ny238.out] at ho73))
         replace HO176 := Aside0.mk (Kd.R_below (by (with_reducible repeat (first | apply Kd.R_alloc | apply Kd.R_drewN | apply Kd.R_drew)); exact HO176.out) hb)
         replace HO181 := Aside0.mk (Kd.R_below (by (with_reducible repeat (first | apply Kd.R_alloc | apply Kd.R_drewN | apply Kd.R_drew)); exact HO181.out) hb)
         replace HO191 := Aside0.mk (Kd.R_below (by (with_reducible repeat (first | apply Kd.R_alloc | apply Kd.R_drewN | apply Kd.R_drew)); exact HO191.out) hb)
         replace HO196 := Aside0.mk (Kd.R_below (by (with_reducible repeat (first | apply Kd.R_alloc | apply Kd.R_drewN | apply Kd.R_drew)); exact HO196.out) hb)
         replace HO206 := Aside0.mk (Kd.R_below (by (with_reducible repeat (first | apply Kd.R_alloc | apply Kd.R_drewN | apply Kd.R_drew)); exact HO206.out) hb)
         replace HO211 := Aside0.mk (Kd.R_below (by (with_reducible repeat (first | apply Kd.R_alloc | apply Kd.R_drewN | apply Kd.R_drew)); exact HO211.out) hb)
         replace HO221 := Aside0.mk (Kd.R_below (by (with_reducible repeat (first | apply Kd.R_alloc | apply Kd.R_drewN | apply Kd.R_drew)); exact HO221.out) hb)
         replace HO226 := Aside0.mk (Kd.R_below (by (with_reducible repeat (first | apply Kd.R_alloc | apply Kd.R_drewN | apply Kd.R_drew)); exact HO226.out) hb)
         replace HO236 := Aside0.mk (Kd.R_below (by (with_reducible repeat (first | apply Kd.R_alloc | apply Kd.R_drewN | apply Kd.R_drew)); exact HO236.out) hb)
         have HO240 := Aside0.mk (Kd.R_lower (Kd.R_new' (Kd.R_new' (Kd.R_new' (Kd.R_new' (Kd.R_new' ho73 (Kd.R_lt (by (with_reducible repeat (first | apply Kd.R_alloc | apply Kd.R_drewN | apply Kd.R_drew)); exact HO171.out))) (Kd.R_lt (by (with_reducible repeat (first | apply Kd.R_alloc | apply Kd.R_drewN | apply Kd.R_drew)); exact HO186.out))) (Kd.R_lt (by (with_reducible repeat (first | apply Kd.R_alloc | apply Kd.R_drewN | apply Kd.R_drew)); exact HO201.out))) (Kd.R_lt (by (with_reducible repeat (first | apply Kd.R_alloc | apply Kd.R_drewN | apply Kd.R_drew)); exact HO216.out))) (Kd.R_lt (by (with_reducible repeat (first | apply Kd.R_alloc | apply Kd.R_drewN | apply Kd.R_drew)); exact HO231.out))) (below_size (hq_ HB)))
         replace HO171 := Aside0.mk (Kd.R_elder' (by (with_reducible repeat (first | apply Kd.R_alloc | apply Kd.R_drewN | apply Kd.R_drew)); exact HO171.out) (Kd.R_base ho73) hb)
         replace HO186 := Aside0.mk (Kd.R_elder' (by (with_reducible repeat (first | apply Kd.R_alloc | apply Kd.R_drewN | apply Kd.R_drew)); exact HO186.out) (Kd.R_base ho73) hb)
         replace HO201 := Aside0.mk (Kd.R_elder' (by (with_reducible repeat (first | apply Kd.R_alloc | apply Kd.R_drewN | apply Kd.R_drew)); exact HO201.out) (Kd.R_base ho73) hb)
         replace HO216 := Aside0.mk (Kd.R_elder' (by (with_reducible repeat (first | apply Kd.R_alloc | apply Kd.R_drewN | apply Kd.R_drew)); exact HO216.out) (Kd.R_base ho73) hb)
         replace HO231 := Aside0.mk (Kd.R_elder' (by (with_reducible repeat (first | apply Kd.R_alloc | apply Kd.R_drewN | apply Kd.R_drew)); exact HO231.out) (Kd.R_base ho73) hb)
         replace BK183 := bb_ BK183 hb
         replace BK198 := bb_ BK198 hb
         replace BK213 := bb_ BK213 hb
         replace BK228 := bb_ BK228 hb
         replace HB := hb_ HB hb
         clear hb ho73
         obtain ⟨Ao74, co74, eo74⟩ := Kd.R_slice HO240.out
         (first | subst eo74 | (injection eo74 with f1_ f2_ f3_; have f4_ := f1_.symm; have f5_ := f3_.symm; clear f1_ f2_ f3_; subst f4_; subst f5_))
         refine hK.out _ _ ⟨c_ BK183 0, ⟨c_ BK183 1, ⟨c_ BK183 2, ⟨c_ BK198 0, ⟨c_ BK198 1, ⟨c_ BK198 2, ⟨c_ BK228 0, ⟨c_ BK228 1, (c_ BK228 2)⟩⟩⟩⟩⟩⟩⟩⟩ (fun hHeld => ?_)
         clear hK K
         refine norm_ (a' := ?_) ?_ ?_
         rotate_left
         ·
          show Act.put _ (some 47) _ = _
          simp only [Act.put, List.setIfInBounds_toArray, List.set_cons_zero, List.set_cons_succ, i64_w, i32_w]
          rfl
         refine one_ (i := 15) (N := some 48) zq12.q16 rfl rfl (one_of HT_.out (by kernel_rfl)) (by decide) (fun K hK => ?_)
         refine gs_ Try.func31 #[.slice Ao74 y238.length co74] ?_
         with_reducible refine (compositorlaw10_row.calls k _ _ y238 t241 t242 t243 _ ?side1 ?side2 A14.out).mono ?_
         (case side1 => repeat (first | exact (Kd.R_reads' HO240.out).2.2 | (with_reducible refine Kd.C_alloc ?_ _) | (with_reducible refine Kd.C_drewN ?_ _) | (with_reducible refine Kd.C_drew ?_)))
         (case side2 => exact (Kd.R_reads' HO240.out).2.1)
         rintro e w75 ⟨v244, rfl, ho0, hb⟩
         refine ⟨_, rfl, ?_⟩
         replace HO171 := Aside0.mk (Kd.R_below (by (with_reducible repeat (first | apply Kd.R_alloc | apply Kd.R_drewN | apply Kd.R_drew)); exact HO171.out) hb)
         replace HO186 := Aside0.mk (Kd.R_below (by (with_reducible repeat (first | apply Kd.R_alloc | apply Kd.R_drewN | apply Kd.R_drew)); exact HO186.out) hb)
         replace HO201 := Aside0.mk (Kd.R_below (by (with_reducible repeat (first | apply Kd.R_alloc | apply Kd.R_drewN | apply Kd.R_drew)); exact HO201.out) hb)
         replace HO216 := Aside0.mk (Kd.R_below (by (with_reducible repeat (first | apply Kd.R_alloc | apply Kd.R_drewN | apply Kd.R_drew)); exact HO216.out) hb)
         replace HO231 := Aside0.mk (Kd.R_below (by (with_reducible repeat (first | apply Kd.R_alloc | apply Kd.R_drewN | apply Kd.R_drew)); exact HO231.out) hb)
         replace HO240 := Aside0.mk (Kd.R_below (by (with_reducible repeat (first | apply Kd.R_alloc | apply Kd.R_drewN | apply Kd.R_drew)); exact HO240.out) hb)
         have HO245 := Aside0.mk (Kd.R_lower (Kd.R_new' (Kd.R_new' (Kd.R_new' (Kd.R_new' (Kd.R_new' (Kd.R_new' (Kd.R_new' (Kd.R_new' (Kd.R_new' ho0 (Kd.R_lt (by (with_reducible repeat (first | apply Kd.R_alloc | apply Kd.R_drewN | apply Kd.R_drew)); exact HO176.out))) (Kd.R_lt (by (with_reducible repeat (first | apply Kd.R_alloc | apply Kd.R_drewN | apply Kd.R_drew)); exact HO181.out))) (Kd.R_lt (by (with_reducible repeat (first | apply Kd.R_alloc | apply Kd.R_drewN | apply Kd.R_drew)); exact HO191.out))) (Kd.R_lt (by (with_reducible repeat (first | apply Kd.R_alloc | apply Kd.R_drewN | apply Kd.R_drew)); exact HO196.out))) (Kd.R_lt (by (with_reducible repeat (first | apply Kd.R_alloc | apply Kd.R_drewN | apply Kd.R_drew)); exact HO206.out))) (Kd.R_lt (by (with_reducible repeat (first | apply Kd.R_alloc | apply Kd.R_drewN | apply Kd.R_drew)); exact HO211.out))) (Kd.R_lt (by (with_reducible repeat (first | apply Kd.R_alloc | apply Kd.R_drewN | apply Kd.R_drew)); exact HO221.out))) (Kd.R_lt (by (with_reducible repeat (first | apply Kd.R_alloc | apply Kd.R_drewN | apply Kd.R_drew)); exact HO226.out))) (Kd.R_lt (by (with_reducible repeat (first | apply Kd.R_alloc | apply Kd.R_drewN | apply Kd.R_drew)); exact HO236.out))) (below_size (hq_ HB)))
         replace HO176 := Aside0.mk (Kd.R_elder' (by (with_reducible repeat (first | apply Kd.R_alloc | apply Kd.R_drewN | apply Kd.R_drew)); exact HO176.out) (Kd.R_base ho0) hb)
         replace HO181 := Aside0.mk (Kd.R_elder' (by (with_reducible repeat (first | apply Kd.R_alloc | apply Kd.R_drewN | apply Kd.R_drew)); exact HO181.out) (Kd.R_base ho0) hb)
         replace HO191 := Aside0.mk (Kd.R_elder' (by (with_reducible repeat (first | apply Kd.R_alloc | apply Kd.R_drewN | apply Kd.R_drew)); exact HO191.out) (Kd.R_base ho0) hb)
         replace HO196 := Aside0.mk (Kd.R_elder' (by (with_reducible repeat (first | apply Kd.R_alloc | apply Kd.R_drewN | apply Kd.R_drew)); exact HO196.out) (Kd.R_base ho0) hb)
         replace HO206 := Aside0.mk (Kd.R_elder' (by (with_reducible repeat (first | apply Kd.R_alloc | apply Kd.R_drewN | apply Kd.R_drew)); exact HO206.out) (Kd.R_base ho0) hb)
         replace HO211 := Aside0.mk (Kd.R_elder' (by (with_reducible repeat (first | apply Kd.R_alloc | apply Kd.R_drewN | apply Kd.R_drew)); exact HO211.out) (Kd.R_base ho0) hb)
         replace HO221 := Aside0.mk (Kd.R_elder' (by (with_reducible repeat (first | apply Kd.R_alloc | apply Kd.R_drewN | apply Kd.R_drew)); exact HO221.out) (Kd.R_base ho0) hb)
         replace HO226 := Aside0.mk (Kd.R_elder' (by (with_reducible repeat (first | apply Kd.R_alloc | apply Kd.R_drewN | apply Kd.R_drew)); exact HO226.out) (Kd.R_base ho0) hb)
         replace HO236 := Aside0.mk (Kd.R_elder' (by (with_reducible repeat (first | apply Kd.R_alloc | apply Kd.R_drewN | apply Kd.R_drew)); exact HO236.out) (Kd.R_base ho0) hb)
         replace BK183 := bb_ BK183 hb
         replace BK198 := bb_ BK198 hb
         replace BK213 := bb_ BK213 hb
         replace BK228 := bb_ BK228 hb
         replace HB := hb_ HB hb
         (try clear hb); (try clear hb2); (try clear hk); (try clear hi)
         (try clear ho0)
         obtain ⟨Ao76, co76, eo76⟩ := Kd.R_slice HO245.out
         (first | subst eo76 | (injection eo76 with f1_ f2_ f3_; have f4_ := f1_.symm; have f5_ := f3_.symm; clear f1_ f2_ f3_; subst f4_; subst f5_))
         refine hK.out _ _ ⟨c_ BK183 0, ⟨c_ BK183 1, ⟨c_ BK183 2, ⟨c_ BK198 0, ⟨c_ BK198 1, ⟨c_ BK198 2, ⟨c_ BK228 0, ⟨c_ BK228 1, (c_ BK228 2)⟩⟩⟩⟩⟩⟩⟩⟩ (fun hHeld => ?_)
         clear hK K
         refine norm_ (a' := ?_) ?_ ?_
         rotate_left
         ·
          show Act.put _ (some 48) _ = _
          simp only [Act.put, List.setIfInBounds_toArray, List.set_cons_zero, List.set_cons_succ, i64_w, i32_w]
          rfl
         refine one_ (i := 16) (N := some 49) zq12.q17 rfl rfl (one_of HT_.out (by kernel_rfl)) (by decide) (fun K hK => ?_)
         refine gs_ Try.func15 #[.agg #[.int .i64 t192, .int .i64 t193, .slice Ao40 t194.length co40], .agg #[.int .i64 t241, .int .i64 t242, .slice Ao76 t243.length co76]] ?_
         with_reducible refine (compositorlaw10_same.calls k t192 t193 _ _ t194 t241 t242 _ _ t243 true _ ?side1 ?side2 ?side3 ?side4 A15.out).mono ?_
         (case side1 => repeat (first | exact (Kd.R_reads' HO196.out).2.2 | (with_reducible refine Kd.C_alloc ?_ _) | (with_reducible refine Kd.C_drewN ?_ _) | (with_reducible refine Kd.C_drew ?_)))
         (case side2 => exact (Kd.R_reads' HO196.out).2.1)
         (case side3 => repeat (first | exact (Kd.R_reads' HO245.out).2.2 | (with_reducible refine Kd.C_alloc ?_ _) | (with_reducible refine Kd.C_drewN ?_ _) | (with_reducible refine Kd.C_drew ?_)))
         (case side4 => exact (Kd.R_reads' HO245.out).2.1)
         rintro e w77 ⟨rfl, hb⟩
         refine ⟨_, rfl, ?_⟩
         replace HO171 := Aside0.mk (Kd.R_below (by (with_reducible repeat (first | apply Kd.R_alloc | apply Kd.R_drewN | apply Kd.R_drew)); exact HO171.out) hb)
         replace HO176 := Aside0.mk (Kd.R_below (by (with_reducible repeat (first | apply Kd.R_alloc | apply Kd.R_drewN | apply Kd.R_drew)); exact HO176.out) hb)
         replace HO181 := Aside0.mk (Kd.R_below (by (with_reducible repeat (first | apply Kd.R_alloc | apply Kd.R_drewN | apply Kd.R_drew)); exact HO181.out) hb)
         replace HO186 := Aside0.mk (Kd.R_below (by (with_reducible repeat (first | apply Kd.R_alloc | apply Kd.R_drewN | apply Kd.R_drew)); exact HO186.out) hb)
         replace HO191 := Aside0.mk (Kd.R_below (by (with_reducible repeat (first | apply Kd.R_alloc | apply Kd.R_drewN | apply Kd.R_drew)); exact HO191.out) hb)
         replace HO196 := Aside0.mk (Kd.R_below (by (with_reducible repeat (first | apply Kd.R_alloc | apply Kd.R_drewN | apply Kd.R_drew)); exact HO196.out) hb)
         replace HO201 := Aside0.mk (Kd.R_below (by (with_reducible repeat (first | apply Kd.R_alloc | apply Kd.R_drewN | apply Kd.R_drew)); exact HO201.out) hb)
         replace HO206 := Aside0.mk (Kd.R_below (by (with_reducible repeat (first | apply Kd.R_alloc | apply Kd.R_drewN | apply Kd.R_drew)); exact HO206.out) hb)
         replace HO211 := Aside0.mk (Kd.R_below (by (with_reducible repeat (first | apply Kd.R_alloc | apply Kd.R_drewN | apply Kd.R_drew)); exact HO211.out) hb)
         replace HO216 := Aside0.mk (Kd.R_below (by (with_reducible repeat (first | apply Kd.R_alloc | apply Kd.R_drewN | apply Kd.R_drew)); exact HO216.out) hb)
         replace HO221 := Aside0.mk (Kd.R_below (by (with_reducible repeat (first | apply Kd.R_alloc | apply Kd.R_drewN | apply Kd.R_drew)); exact HO221.out) hb)
         replace HO226 := Aside0.mk (Kd.R_below (by (with_reducible repeat (first | apply Kd.R_alloc | apply Kd.R_drewN | apply Kd.R_drew)); exact HO226.out) hb)
         replace HO231 := Aside0.mk (Kd.R_below (by (with_reducible repeat (first | apply Kd.R_alloc | apply Kd.R_drewN | apply Kd.R_drew)); exact HO231.out) hb)
         replace HO236 := Aside0.mk (Kd.R_below (by (with_reducible repeat (first | apply Kd.R_alloc | apply Kd.R_drewN | apply Kd.R_drew)); exact HO236.out) hb)
         replace HO240 := Aside0.mk (Kd.R_below (by (with_reducible repeat (first | apply Kd.R_alloc | apply Kd.R_drewN | apply Kd.R_drew)); exact HO240.out) hb)
         replace HO245 := Aside0.mk (Kd.R_below (by (with_reducible repeat (first | apply Kd.R_alloc | apply Kd.R_drewN | apply Kd.R_drew)); exact HO245.out) hb)
         replace BK183 := bb_ BK183 hb
         replace BK198 := bb_ BK198 hb
         replace BK213 := bb_ BK213 hb
         replace BK228 := bb_ BK228 hb
         replace HB := hb_ HB hb
         (try clear hb); (try clear hb2); (try clear hk); (try clear hi)
         refine hK.out _ _ ⟨c_ BK183 0, ⟨c_ BK183 1, ⟨c_ BK183 2, ⟨c_ BK198 0, ⟨c_ BK198 1, ⟨c_ BK198 2, ⟨c_ BK228 0, ⟨c_ BK228 1, (c_ BK228 2)⟩⟩⟩⟩⟩⟩⟩⟩ (fun hHeld => ?_)
         clear hK K
         refine norm_ (a' := ?_) ?_ ?_
         rotate_left
         ·
          show Act.put _ (some 49) _ = _
          simp only [Act.put, List.setIfInBounds_toArray, List.set_cons_zero, List.set_cons_succ, i64_w, i32_w]
          rfl
         refine pv_ 17 50 zq12.q18 HT_ ?_
         refine pv_ 18 51 zq12.q19 HT_ ?_
         refine pv_ 19 52 zq12.q20 HT_ ?_
         refine pv_ 20 53 zq12.q21 HT_ ?_
         refine pv_ 21 54 zq12.q22 HT_ ?_
         refine pv_ 22 55 zq12.q23 HT_ ?_
         refine pv_ 23 56 zq12.q24 HT_ ?_
         refine pv_ 24 57 zq12.q25 HT_ ?_
         refine pv_ 25 58 zq12.q26 HT_ ?_
         refine pv_ 26 59 zq12.q27 HT_ ?_
         refine pv_ 27 60 zq12.q28 HT_ ?_
         refine take_ (i := 28) (N := some 61) (v := ?_) (a' := ?_) zq12.q29 rfl rfl (take_ofW HT_.out HW_.out (by kernel_rfl)) (fun _ _ _ h => h) (Or.inl ⟨by rfl, ?_⟩) hHeld ?_ ?_
         rotate_left
         ·
          rintro w' ⟨s0, s1, s2, s3, s4, s5, s6, s7, s8⟩
          go_simp
          with_reducible rfl
         rotate_left
         ·
          simp only [Act.put, List.setIfInBounds_toArray, List.set_cons_zero, List.set_cons_succ, i64_w, i32_w]
          rfl
         refine pv_ 29 62 zq12.q30 HT_ ?_
         refine pv_ 30 63 zq12.q31 HT_ ?_
         refine pv_ 31 64 zq12.q32 HT_ ?_
         refine pv_ 32 65 zq12.q33 HT_ ?_
         refine take_ (i := 33) (N := some 66) (v := ?_) (a' := ?_) zq12.q34 rfl rfl (take_ofW HT_.out HW_.out (by kernel_rfl)) (fun _ _ _ h => h) (Or.inl ⟨by rfl, ?_⟩) hHeld ?_ ?_
         rotate_left
         ·
          rintro w' ⟨s0, s1, s2, s3, s4, s5, s6, s7, s8⟩
          go_simp
          with_reducible rfl
         rotate_left
         ·
          simp only [Act.put, List.setIfInBounds_toArray, List.set_cons_zero, List.set_cons_succ, i64_w, i32_w]
          rfl
         refine pv_ 34 67 zq12.q35 HT_ ?_
         refine pv_ 35 68 zq12.q36 HT_ ?_
         refine pv_ 36 69 zq12.q37 HT_ ?_
         refine pv_ 37 70 zq12.q38 HT_ ?_
         refine pv_ 38 71 zq12.q39 HT_ ?_
         refine pv_ 40 73 zq12.q40 HT_ ?_
         refine one_ (i := 39) (N := some 72) zq12.q41 rfl rfl (one_of HT_.out (by kernel_rfl)) (by decide) (fun K hK => ?_)
         refine gs_ Try.func22 #[.agg #[.int .i64 1, .int .i64 0, .int .i64 2, .int .i64 1], .int .i64 4, .int .i64 4, .int .i64 2, .int .i64 8] ?_
         with_reducible refine (scale_MapRect.calls k 1 0 2 1 4 4 2 8 t247 t248 t249 t250 _ A21.out).mono ?_
         rintro e w78 ⟨rfl, hb⟩
         refine ⟨_, rfl, ?_⟩
         replace HO171 := Aside0.mk (Kd.R_below (by (with_reducible repeat (first | apply Kd.R_alloc | apply Kd.R_drewN | apply Kd.R_drew)); exact HO171.out) hb)
         replace HO176 := Aside0.mk (Kd.R_below (by (with_reducible repeat (first | apply Kd.R_alloc | apply Kd.R_drewN | apply Kd.R_drew)); exact HO176.out) hb)
         replace HO181 := Aside0.mk (Kd.R_below (by (with_reducible repeat (first | apply Kd.R_alloc | apply Kd.R_drewN | apply Kd.R_drew)); exact HO181.out) hb)
         replace HO186 := Aside0.mk (Kd.R_below (by (with_reducible repeat (first | apply Kd.R_alloc | apply Kd.R_drewN | apply Kd.R_drew)); exact HO186.out) hb)
         replace HO191 := Aside0.mk (Kd.R_below (by (with_reducible repeat (first | apply Kd.R_alloc | apply Kd.R_drewN | apply Kd.R_drew)); exact HO191.out) hb)
         replace HO196 := Aside0.mk (Kd.R_below (by (with_reducible repeat (first | apply Kd.R_alloc | apply Kd.R_drewN | apply Kd.R_drew)); exact HO196.out) hb)
         replace HO201 := Aside0.mk (Kd.R_below (by (with_reducible repeat (first | apply Kd.R_alloc | apply Kd.R_drewN | apply Kd.R_drew)); exact HO201.out) hb)
         replace HO206 := Aside0.mk (Kd.R_below (by (with_reducible repeat (first | apply Kd.R_alloc | apply Kd.R_drewN | apply Kd.R_drew)); exact HO206.out) hb)
         replace HO211 := Aside0.mk (Kd.R_below (by (with_reducible repeat (first | apply Kd.R_alloc | apply Kd.R_drewN | apply Kd.R_drew)); exact HO211.out) hb)
         replace HO216 := Aside0.mk (Kd.R_below (by (with_reducible repeat (first | apply Kd.R_alloc | apply Kd.R_drewN | apply Kd.R_drew)); exact HO216.out) hb)
         replace HO221 := Aside0.mk (Kd.R_below (by (with_reducible repeat (first | apply Kd.R_alloc | apply Kd.R_drewN | apply Kd.R_drew)); exact HO221.out) hb)
         replace HO226 := Aside0.mk (Kd.R_below (by (with_reducible repeat (first | apply Kd.R_alloc | apply Kd.R_drewN | apply Kd.R_drew)); exact HO226.out) hb)
         replace HO231 := Aside0.mk (Kd.R_below (by (with_reducible repeat (first | apply Kd.R_alloc | apply Kd.R_drewN | apply Kd.R_drew)); exact HO231.out) hb)
         replace HO236 := Aside0.mk (Kd.R_below (by (with_reducible repeat (first | apply Kd.R_alloc | apply Kd.R_drewN | apply Kd.R_drew)); exact HO236.out) hb)
         replace HO240 := Aside0.mk (Kd.R_below (by (with_reducible repeat (first | apply Kd.R_alloc | apply Kd.R_drewN | apply Kd.R_drew)); exact HO240.out) hb)
         replace HO245 := Aside0.mk (Kd.R_below (by (with_reducible repeat (first | apply Kd.R_alloc | apply Kd.R_drewN | apply Kd.R_drew)); exact HO245.out) hb)
         replace BK183 := bb_ BK183 hb
         replace BK198 := bb_ BK198 hb
         replace BK213 := bb_ BK213 hb
         replace BK228 := bb_ BK228 hb
         replace HB := hb_ HB hb
         (try clear hb); (try clear hb2); (try clear hk); (try clear hi)
         refine hK.out _ _ ⟨c_ BK183 0, ⟨c_ BK183 1, ⟨c_ BK183 2, ⟨c_ BK198 0, ⟨c_ BK198 1, ⟨c_ BK198 2, ⟨c_ BK228 0, ⟨c_ BK228 1, (c_ BK228 2)⟩⟩⟩⟩⟩⟩⟩⟩ (fun hHeld => ?_)
         clear hK K
         refine norm_ (a' := ?_) ?_ ?_
         rotate_left
         ·
          show Act.put _ (some 72) _ = _
          simp only [Act.put, List.setIfInBounds_toArray, List.set_cons_zero, List.set_cons_succ, i64_w, i32_w]
          rfl
         refine pv_ 41 74 zq12.q42 HT_ ?_
         refine pv_ 42 75 zq12.q43 HT_ ?_
         refine pv_ 43 0 zq12.q44 HT_ ?_
         refine done_ (done_of HT_.out (by kernel_rfl)) ?_
         try go_wp2
         go_ret
         exact ⟨by first | rfl | (simp [errW_none, errW_some] <;> rfl) | (simp [*, errW_none, errW_some] <;> rfl), by repeat (first | (with_reducible first | exact HB.out | apply below_alloc | apply pw_below_drewN | apply below_drew1 | refine below_set ?_ GE183.out | refine below_set ?_ GE198.out | refine below_set ?_ GE213.out | refine below_set ?_ GE228.out) | exact HB.out)⟩
        ·
         rw [if_neg c20] at H
         have c20b0 : ((t224.length : Int) == 8) = false := beq_eq_false_iff_ne.mpr c20
         have c20b1 : ((t224.length : Int) != 8) = true := bne_iff_ne.mpr c20
         exact absurd H (by simp)
       ·
        rw [if_neg c19] at H
        have c19b0 : (t222 == 4) = false := beq_eq_false_iff_ne.mpr c19
        have c19b1 : (t222 != 4) = true := bne_iff_ne.mpr c19
        exact absurd H (by simp)
      ·
       rw [if_neg c18] at H
       have c18b0 : (t227 == 0) = false := beq_eq_false_iff_ne.mpr c18
       have c18b1 : (t227 != 0) = true := bne_iff_ne.mpr c18
       exact absurd H (by simp)
     ·
      rw [if_neg c17] at H
      have c17b0 : (t212 == 2) = false := beq_eq_false_iff_ne.mpr c17
      have c17b1 : (t212 != 2) = true := bne_iff_ne.mpr c17
      exact absurd H (by simp)
    ·
     replace c16 := Bool.eq_false_iff.mpr c16
     subst c16
     have H1 : (some false) = some true := by rw [if_neg (show ¬ (false = true) by decide)] at H; exact H
     clear H
     have H := H1
     clear H1
     exact absurd H (by simp)
   ·
    rw [if_neg c13] at H
    have c13b0 : (t197 == 0) = false := beq_eq_false_iff_ne.mpr c13
    have c13b1 : (t197 != 0) = true := bne_iff_ne.mpr c13
    exact absurd H (by simp)
  ·
   replace c12 := Bool.eq_false_iff.mpr c12
   subst c12
   have H1 : (some false) = some true := by rw [if_neg (show ¬ (false = true) by decide)] at H; exact H
   clear H
   have H := H1
   clear H1
   exact absurd H (by simp)
 ·
  rw [if_neg c9] at H
  have c9b0 : (t182 == 0) = false := beq_eq_false_iff_ne.mpr c9
  have c9b1 : (t182 != 0) = true := bne_iff_ne.mpr c9
  exact absurd H (by simp)
theorem compositorlaw10_exampleHolds.always {k : Nat} {r : Bool} (h : compositorlaw10_exampleHolds.f k = some r) : r = true := by
 have up : ∀ j, compositorlaw10_exampleHolds.f (k + j) = some r := by
  intro j
  induction j with
  | zero => exact h
  | succ j ih => exact compositorlaw10_exampleHolds.mono _ _ ih
 have e : compositorlaw10_exampleHolds.f 200 = some true := by decide +kernel
 have up2 : ∀ j, compositorlaw10_exampleHolds.f (200 + j) = some true := by
  intro j
  induction j with
  | zero => exact e
  | succ j ih => exact compositorlaw10_exampleHolds.mono _ _ ih
 have h1 := up 200
 rw [Nat.add_comm, up2] at h1
 exact (Option.some.inj h1).symm
theorem compositorlaw10_exampleHolds.calls (k : Nat) (r : Bool) (w : World) (h : compositorlaw10_exampleHolds.f k = some r) :
  Calls Try.prog 12 #[] w fun e w' => e = .returned (.bool r) ∧ Below w.heap.size w w' := by
 obtain rfl := compositorlaw10_exampleHolds.always h
 exact compositorlaw10_exampleHolds.callsT (k := k) (w := w) (h := h)


end Go.Proofs.Ythpmfhfnkgbkjaa.All
