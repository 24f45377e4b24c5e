-- The texts behind this claim's law, put together by a program of this session (shake.py): what no text uses is left out. Its words are print.sh's.
import Derived.SizedLaws
import Derived.ChangeSlices
import Derived.OpenShut
import Derived.Test.YtdhjbdofklglgaaSPixelOverAssociativity13
section
namespace Go.Proofs.Ytdhjbdofklglgaa.All
open Go.Proofs.YtdhjbdofklglgaaSq
open Go.RowKit Go.Proofs.YtdhjbdofklglgaaW.PrintWords Go.Proofs.YtdhjbdofklglgaaW.PrintLast Go.Proofs.YtdhjbdofklglgaaW.PrintMore
attribute [local go_sem] max2_int min2_int max_two min_two max_three min_three max_four min_four
set_option linter.unusedVariables false
set_option linter.unusedSimpArgs false
attribute [local go_sem high] eqA23
abbrev zq5.q0 := Go.Proofs.YtdhjbdofklglgaaHand.bz 9 0
abbrev zq5.q1 := Go.Proofs.YtdhjbdofklglgaaHand.bz 9 1
abbrev zq5.q2 := Go.Proofs.YtdhjbdofklglgaaHand.bz 9 5
abbrev zq5.q3 := Go.Proofs.YtdhjbdofklglgaaHand.bz 9 21
abbrev zq5.q4 := Go.Proofs.YtdhjbdofklglgaaHand.bz 9 23
abbrev zq5.q5 := Go.Proofs.YtdhjbdofklglgaaHand.bz 9 31
abbrev zq5.q6 := Go.Proofs.YtdhjbdofklglgaaHand.bz 9 63
abbrev zq5.q7 := Go.Proofs.YtdhjbdofklglgaaHand.bz 9 127
abbrev zq5.q8 := Go.Proofs.YtdhjbdofklglgaaHand.bz 9 255
abbrev zq5.q9 := Go.Proofs.YtdhjbdofklglgaaHand.bz 9 511
abbrev zq5.q10 := Go.Proofs.YtdhjbdofklglgaaHand.bz 14 0
abbrev zq5.q11 := Go.Proofs.YtdhjbdofklglgaaHand.bz 14 1
abbrev zq5.q12 := Go.Proofs.YtdhjbdofklglgaaHand.bz 14 3
abbrev zq5.q13 := Go.Proofs.YtdhjbdofklglgaaHand.bz 14 7
abbrev zq5.q14 := Go.Proofs.YtdhjbdofklglgaaHand.bz 14 39
abbrev zq5.q15 := Go.Proofs.YtdhjbdofklglgaaHand.bz 14 103
abbrev zq5.q16 := Go.Proofs.YtdhjbdofklglgaaHand.bz 14 359
abbrev zq5.q17 := Go.Proofs.YtdhjbdofklglgaaHand.bz 14 4095
abbrev zq5.q18 := Go.Proofs.YtdhjbdofklglgaaHand.bz 14 2047
abbrev zq5.q19 := Go.Proofs.YtdhjbdofklglgaaHand.bz 14 3071
abbrev zq5.q20 := Go.Proofs.YtdhjbdofklglgaaHand.bz 14 3583
abbrev zq5.q21 := Go.Proofs.YtdhjbdofklglgaaHand.bz 14 1023
abbrev zq5.q22 := Go.Proofs.YtdhjbdofklglgaaHand.bz 14 1535
abbrev zq5.q23 := Go.Proofs.YtdhjbdofklglgaaHand.bz 14 2559
abbrev zq5.q24 := Go.Proofs.YtdhjbdofklglgaaHand.bz 14 3455
abbrev zq5.q25 := Go.Proofs.YtdhjbdofklglgaaHand.bz 14 511
abbrev zq5.q26 := Go.Proofs.YtdhjbdofklglgaaHand.bz 14 1407
abbrev zq5.q27 := Go.Proofs.YtdhjbdofklglgaaHand.bz 14 2431
abbrev zq5.q28 := Go.Proofs.YtdhjbdofklglgaaHand.bz 14 3439
abbrev zq5.q29 := Go.Proofs.YtdhjbdofklglgaaHand.bz 14 383
abbrev zq5.q30 := Go.Proofs.YtdhjbdofklglgaaHand.bz 14 1391
abbrev zq5.q31 := Go.Proofs.YtdhjbdofklglgaaHand.bz 14 2415
abbrev zq5.q32 := Go.Proofs.YtdhjbdofklglgaaHand.bz 14 3431
abbrev zq5.q33 := Go.Proofs.YtdhjbdofklglgaaHand.bz 14 367
abbrev zq5.q34 := Go.Proofs.YtdhjbdofklglgaaHand.bz 14 1383
abbrev zq5.q35 := Go.Proofs.YtdhjbdofklglgaaHand.bz 14 2407
abbrev zq5.q36 := Go.Proofs.YtdhjbdofklglgaaHand.bz 14 8191
abbrev zq5.q37 := Go.Proofs.YtdhjbdofklglgaaHand.bz 14 16383
def compositorlaw08_PixelOverAssociativity.j0 : Nat → Bool → Int → Int → Int → Int → Int → Int → Int → Int → Option (Bool)
 | 0, _, _, _, _, _, _, _, _, _ => none
 | k + 1, x54, x265000, x265001, x265002, x265003, x266000, x266001, x266002, x266003 => if x54 = true then (some false) else ((compositorlaw08_near.f x265000 x266000).bind fun t267 => (if t267 = true then ((compositorlaw08_near.f x265001 x266001).bind fun t268 => (if t268 = true then ((compositorlaw08_near.f x265002 x266002).bind fun t269 => (if t269 = true then ((compositorlaw08_near.f x265003 x266003).bind fun t270 => (if t270 = true then ((compositorlaw08_exampleHolds.f).bind fun t271 => (some t271)) else (some false))) else (some false))) else (some false))) else (some false)))
def compositorlaw08_PixelOverAssociativity.f (k : Nat) (a0_0 : Int) (a0_1 : Int) (a0_2 : Int) (a0_3 : Int) (a1_0 : Int) (a1_1 : Int) (a1_2 : Int) (a1_3 : Int) (a2_0 : Int) (a2_1 : Int) (a2_2 : Int) (a2_3 : Int) : Option (Bool) := (pixel_Clamp.f a0_0 a0_1 a0_2 a0_3).bind fun bt236 => ((pixel_Clamp.f a1_0 a1_1 a1_2 a1_3).bind fun bt240 => ((pixel_Clamp.f a2_0 a2_1 a2_2 a2_3).bind fun bt244 => ((pixel_Over.f bt240.1 bt240.2.1 bt240.2.2.1 bt240.2.2.2 bt244.1 bt244.2.1 bt244.2.2.1 bt244.2.2.2).bind fun bt248 => ((pixel_Over.f bt236.1 bt236.2.1 bt236.2.2.1 bt236.2.2.2 bt248.1 bt248.2.1 bt248.2.2.1 bt248.2.2.2).bind fun bt252 => ((pixel_Over.f bt236.1 bt236.2.1 bt236.2.2.1 bt236.2.2.2 bt240.1 bt240.2.1 bt240.2.2.1 bt240.2.2.2).bind fun bt256 => ((pixel_Over.f bt256.1 bt256.2.1 bt256.2.2.1 bt256.2.2.2 bt244.1 bt244.2.1 bt244.2.2.1 bt244.2.2.2).bind fun bt260 => (if bt236.2.2.2 = 255 then (compositorlaw08_PixelOverAssociativity.j0 k (!(bt252.1 == bt260.1) || (!(bt252.2.1 == bt260.2.1) || (!(bt252.2.2.1 == bt260.2.2.1) || (!(bt252.2.2.2 == bt260.2.2.2))))) bt252.1 bt252.2.1 bt252.2.2.1 bt252.2.2.2 bt260.1 bt260.2.1 bt260.2.2.1 bt260.2.2.2) else (if bt240.2.2.2 = 255 then (compositorlaw08_PixelOverAssociativity.j0 k (!(bt252.1 == bt260.1) || (!(bt252.2.1 == bt260.2.1) || (!(bt252.2.2.1 == bt260.2.2.1) || (!(bt252.2.2.2 == bt260.2.2.2))))) bt252.1 bt252.2.1 bt252.2.2.1 bt252.2.2.2 bt260.1 bt260.2.1 bt260.2.2.1 bt260.2.2.2) else (if (bt236.1 == 0 && (bt236.2.1 == 0 && (bt236.2.2.1 == 0 && (bt236.2.2.2 == 0)))) = true then (compositorlaw08_PixelOverAssociativity.j0 k (!(bt252.1 == bt260.1) || (!(bt252.2.1 == bt260.2.1) || (!(bt252.2.2.1 == bt260.2.2.1) || (!(bt252.2.2.2 == bt260.2.2.2))))) bt252.1 bt252.2.1 bt252.2.2.1 bt252.2.2.2 bt260.1 bt260.2.1 bt260.2.2.1 bt260.2.2.2) else (if (bt240.1 == 0 && (bt240.2.1 == 0 && (bt240.2.2.1 == 0 && (bt240.2.2.2 == 0)))) = true then (compositorlaw08_PixelOverAssociativity.j0 k (!(bt252.1 == bt260.1) || (!(bt252.2.1 == bt260.2.1) || (!(bt252.2.2.1 == bt260.2.2.1) || (!(bt252.2.2.2 == bt260.2.2.2))))) bt252.1 bt252.2.1 bt252.2.2.1 bt252.2.2.2 bt260.1 bt260.2.1 bt260.2.2.1 bt260.2.2.2) else (if (bt244.1 == 0 && (bt244.2.1 == 0 && (bt244.2.2.1 == 0 && (bt244.2.2.2 == 0)))) = true then (compositorlaw08_PixelOverAssociativity.j0 k (!(bt252.1 == bt260.1) || (!(bt252.2.1 == bt260.2.1) || (!(bt252.2.2.1 == bt260.2.2.1) || (!(bt252.2.2.2 == bt260.2.2.2))))) bt252.1 bt252.2.1 bt252.2.2.1 bt252.2.2.2 bt260.1 bt260.2.1 bt260.2.2.1 bt260.2.2.2) else (compositorlaw08_PixelOverAssociativity.j0 k false bt252.1 bt252.2.1 bt252.2.2.1 bt252.2.2.2 bt260.1 bt260.2.1 bt260.2.2.1 bt260.2.2.2))))))))))))
def compositorlaw08_PixelOverAssociativity.T1 : Bool × List (List Nat × List Nat) := (true, [([], []), ([0], [0]), ([], []), ([2, 1], [2]), ([], []), ([4, 3], [4]), ([1, 5, 0, 1], [1]), ([3, 6, 0, 1, 2, 3, 6], [3]), ([5, 7, 0, 1, 2, 3, 4, 5, 6, 7], [5])])
def compositorlaw08_PixelOverAssociativity.B1 : List Nat := [0, 1, 0, 7, 0, 31, 63, 127, 255]
theorem compositorlaw08_PixelOverAssociativity.tab1 : rtab .any (opsOf Try.f5 1) = compositorlaw08_PixelOverAssociativity.T1 := by kernel_rfl
theorem compositorlaw08_PixelOverAssociativity.bits1 : waitsOk compositorlaw08_PixelOverAssociativity.T1.2 compositorlaw08_PixelOverAssociativity.B1 = true := by kernel_rfl
def compositorlaw08_PixelOverAssociativity.T2 : Bool × List (List Nat × List Nat) := (true, [([], []), ([], []), ([], []), ([1, 2], [1, 2]), ([0, 3, 3], [0, 3]), ([], []), ([], []), ([5, 6, 4], [5, 6]), ([], []), ([7, 8, 7], [7, 8]), ([], []), ([], []), ([10, 4, 9, 0, 1, 2, 3, 4, 10, 11], [4, 10]), ([11, 9, 12, 0, 1, 2, 3, 4, 5, 6, 7, 8, 9, 10, 11, 12], [9, 11])])
def compositorlaw08_PixelOverAssociativity.B2 : List Nat := [0, 0, 0, 6, 15, 0, 0, 127, 0, 511, 0, 0, 4095, 8191]
theorem compositorlaw08_PixelOverAssociativity.tab2 : rtab .any (opsOf Try.f5 2) = compositorlaw08_PixelOverAssociativity.T2 := by kernel_rfl
theorem compositorlaw08_PixelOverAssociativity.bits2 : waitsOk compositorlaw08_PixelOverAssociativity.T2.2 compositorlaw08_PixelOverAssociativity.B2 = true := by kernel_rfl
theorem blk_put4 {w : World} {g t : Nat} {a0 a1 a2 a3 : Value} (h : w.heap[g]? = some (.cells #[a0, a1, a2, a3] t (0, 0))) (b0 b1 b2 b3 : Value) : ((((w.setCell ⟨g, 0, none⟩ b0).setCell ⟨g, 1, none⟩ b1).setCell ⟨g, 2, none⟩ b2).setCell ⟨g, 3, none⟩ b3).heap[g]? = some (.cells #[b0, b1, b2, b3] t (0, 0)) :=
  blk_put (cs := #[b0, b1, b2, a3]) (blk_put (cs := #[b0, b1, a2, a3]) (blk_put (cs := #[b0, a1, a2, a3]) (blk_put (cs := #[a0, a1, a2, a3]) h 0 _ rfl) 1 _ rfl) 2 _ rfl) 3 _ rfl
theorem kept_put4 (w : World) (g : Nat) (b0 b1 b2 b3 : Value) : Kept w ((((w.setCell ⟨g, 0, none⟩ b0).setCell ⟨g, 1, none⟩ b1).setCell ⟨g, 2, none⟩ b2).setCell ⟨g, 3, none⟩ b3) (fun k => k = g) :=
  Kept.setCell (S := fun k => k = g) (Kept.setCell (S := fun k => k = g) (Kept.setCell (S := fun k => k = g) (Kept.setCell (S := fun k => k = g) (Kept.refl _ _) (p := ⟨g, 0, none⟩) (.inl rfl) _) (p := ⟨g, 1, none⟩) (.inl rfl) _) (p := ⟨g, 2, none⟩) (.inl rfl) _) (p := ⟨g, 3, none⟩) (.inl rfl) _
theorem below_put4 {w w1 : World} {g : Nat} (h : Below w.heap.size w w1) (hg : w.heap.size ≤ g) (b0 b1 b2 b3 : Value) : Below w.heap.size w ((((w1.setCell ⟨g, 0, none⟩ b0).setCell ⟨g, 1, none⟩ b1).setCell ⟨g, 2, none⟩ b2).setCell ⟨g, 3, none⟩ b3) :=
  below_set (below_set (below_set (below_set h hg) hg) hg) hg
set_option maxHeartbeats 40000000 in
set_option maxRecDepth 100000 in
theorem compositorlaw08_PixelOverAssociativity.calls (k : Nat) (a0_0 : Int) (a0_1 : Int) (a0_2 : Int) (a0_3 : Int) (a1_0 : Int) (a1_1 : Int) (a1_2 : Int) (a1_3 : Int) (a2_0 : Int) (a2_1 : Int) (a2_2 : Int) (a2_3 : Int) (w : World) (h : compositorlaw08_PixelOverAssociativity.f k a0_0 a0_1 a0_2 a0_3 a1_0 a1_1 a1_2 a1_3 a2_0 a2_1 a2_2 a2_3 = some true) :
  Calls Try.prog 5 #[.agg #[.int .u8 a0_0, .int .u8 a0_1, .int .u8 a0_2, .int .u8 a0_3], .agg #[.int .u8 a1_0, .int .u8 a1_1, .int .u8 a1_2, .int .u8 a1_3], .agg #[.int .u8 a2_0, .int .u8 a2_1, .int .u8 a2_2, .int .u8 a2_3]] w fun e w' => e = .returned (.bool true) ∧ Below w.heap.size w w' := by
 have hu23 := Try.underlying23
 have HB := Aside0.mk (Below.refl w.heap.size w)
 have H : ((pixel_Clamp.f a0_0 a0_1 a0_2 a0_3).bind fun bt236 => ((pixel_Clamp.f a1_0 a1_1 a1_2 a1_3).bind fun bt240 => ((pixel_Clamp.f a2_0 a2_1 a2_2 a2_3).bind fun bt244 => ((pixel_Over.f bt240.1 bt240.2.1 bt240.2.2.1 bt240.2.2.2 bt244.1 bt244.2.1 bt244.2.2.1 bt244.2.2.2).bind fun bt248 => ((pixel_Over.f bt236.1 bt236.2.1 bt236.2.2.1 bt236.2.2.2 bt248.1 bt248.2.1 bt248.2.2.1 bt248.2.2.2).bind fun bt252 => ((pixel_Over.f bt236.1 bt236.2.1 bt236.2.2.1 bt236.2.2.2 bt240.1 bt240.2.1 bt240.2.2.1 bt240.2.2.2).bind fun bt256 => ((pixel_Over.f bt256.1 bt256.2.1 bt256.2.2.1 bt256.2.2.2 bt244.1 bt244.2.1 bt244.2.2.1 bt244.2.2.2).bind fun bt260 => (if bt236.2.2.2 = 255 then (compositorlaw08_PixelOverAssociativity.j0 k (!(bt252.1 == bt260.1) || (!(bt252.2.1 == bt260.2.1) || (!(bt252.2.2.1 == bt260.2.2.1) || (!(bt252.2.2.2 == bt260.2.2.2))))) bt252.1 bt252.2.1 bt252.2.2.1 bt252.2.2.2 bt260.1 bt260.2.1 bt260.2.2.1 bt260.2.2.2) else (if bt240.2.2.2 = 255 then (compositorlaw08_PixelOverAssociativity.j0 k (!(bt252.1 == bt260.1) || (!(bt252.2.1 == bt260.2.1) || (!(bt252.2.2.1 == bt260.2.2.1) || (!(bt252.2.2.2 == bt260.2.2.2))))) bt252.1 bt252.2.1 bt252.2.2.1 bt252.2.2.2 bt260.1 bt260.2.1 bt260.2.2.1 bt260.2.2.2) else (if (bt236.1 == 0 && (bt236.2.1 == 0 && (bt236.2.2.1 == 0 && (bt236.2.2.2 == 0)))) = true then (compositorlaw08_PixelOverAssociativity.j0 k (!(bt252.1 == bt260.1) || (!(bt252.2.1 == bt260.2.1) || (!(bt252.2.2.1 == bt260.2.2.1) || (!(bt252.2.2.2 == bt260.2.2.2))))) bt252.1 bt252.2.1 bt252.2.2.1 bt252.2.2.2 bt260.1 bt260.2.1 bt260.2.2.1 bt260.2.2.2) else (if (bt240.1 == 0 && (bt240.2.1 == 0 && (bt240.2.2.1 == 0 && (bt240.2.2.2 == 0)))) = true then (compositorlaw08_PixelOverAssociativity.j0 k (!(bt252.1 == bt260.1) || (!(bt252.2.1 == bt260.2.1) || (!(bt252.2.2.1 == bt260.2.2.1) || (!(bt252.2.2.2 == bt260.2.2.2))))) bt252.1 bt252.2.1 bt252.2.2.1 bt252.2.2.2 bt260.1 bt260.2.1 bt260.2.2.1 bt260.2.2.2) else (if (bt244.1 == 0 && (bt244.2.1 == 0 && (bt244.2.2.1 == 0 && (bt244.2.2.2 == 0)))) = true then (compositorlaw08_PixelOverAssociativity.j0 k (!(bt252.1 == bt260.1) || (!(bt252.2.1 == bt260.2.1) || (!(bt252.2.2.1 == bt260.2.2.1) || (!(bt252.2.2.2 == bt260.2.2.2))))) bt252.1 bt252.2.1 bt252.2.2.1 bt252.2.2.2 bt260.1 bt260.2.1 bt260.2.2.1 bt260.2.2.2) else (compositorlaw08_PixelOverAssociativity.j0 k false bt252.1 bt252.2.1 bt252.2.2.1 bt252.2.2.2 bt260.1 bt260.2.1 bt260.2.2.1 bt260.2.2.2))))))))))))) = some true := h
 clear h
 replace H := Option.bind_eq_some_iff.mp H
 obtain ⟨⟨t236, t237, t238, t239⟩, A40, H⟩ := H
 try dsimp only at H
 have A4 := Aside0.mk A40
 clear A40
 replace H := Option.bind_eq_some_iff.mp H
 obtain ⟨⟨t240, t241, t242, t243⟩, A50, H⟩ := H
 try dsimp only at H
 have A5 := Aside0.mk A50
 clear A50
 replace H := Option.bind_eq_some_iff.mp H
 obtain ⟨⟨t244, t245, t246, t247⟩, A60, H⟩ := H
 try dsimp only at H
 have A6 := Aside0.mk A60
 clear A60
 replace H := Option.bind_eq_some_iff.mp H
 obtain ⟨⟨t248, t249, t250, t251⟩, A70, H⟩ := H
 try dsimp only at H
 have A7 := Aside0.mk A70
 clear A70
 replace H := Option.bind_eq_some_iff.mp H
 obtain ⟨⟨t252, t253, t254, t255⟩, A80, H⟩ := H
 try dsimp only at H
 have A8 := Aside0.mk A80
 clear A80
 replace H := Option.bind_eq_some_iff.mp H
 obtain ⟨⟨t256, t257, t258, t259⟩, A90, H⟩ := H
 try dsimp only at H
 have A9 := Aside0.mk A90
 clear A90
 replace H := Option.bind_eq_some_iff.mp H
 obtain ⟨⟨t260, t261, t262, t263⟩, A100, H⟩ := H
 try dsimp only at H
 have A10 := Aside0.mk A100
 clear A100
 have HC11 := Aside0.mk H
 clear H
 go_enter Try.func5, Try.ntmps5
 try go_wp2_with (first | ((with_reducible refine gate_dst (N := 3) rfl ?_); refine box_event ?hg (N := 3) ?hd (cs := #[.int .u8 a0_0, .int .u8 a0_1, .int .u8 a0_2, .int .u8 a0_3]) (t := 23) ?hr ?_; (case hd => rfl); (case hg => rfl); (case hr => first | (go_simp; done) | (go_simp; rfl)); intro gb233 hg w12 hbox hb; have n0_ := hb_ HB hb; have n1_ := Aside0.mk (hbox); have n2_ := Aside0.mk ((by rw [hg]; exact (below_size (hq_ HB)) : w.heap.size ≤ gb233)); have n3_ := Aside0.mk ((by rw [hg]; exact (below_size (hq_ HB)) : w.heap.size ≤ gb233)); clear HB; have HB := n0_; have BK233 := n1_; have GW233 := n2_; have GE233 := n3_; clear n0_ n1_ n2_ n3_; clear hb hbox hg) | ((with_reducible refine gate_dst (N := 4) rfl ?_); refine box_event ?hg (N := 4) ?hd (cs := #[.int .u8 a1_0, .int .u8 a1_1, .int .u8 a1_2, .int .u8 a1_3]) (t := 23) ?hr ?_; (case hd => rfl); (case hg => rfl); (case hr => first | (go_simp; done) | (go_simp; rfl)); intro gb234 hg w13 hbox hb; have n0_ := bb_ BK233 hb; have n1_ := hb_ HB hb; have n2_ := Aside0.mk (hbox); have n3_ := Aside0.mk ((by rw [hg]; exact (below_size (hq_ HB)) : w.heap.size ≤ gb234)); have n4_ := Aside0.mk ((by rw [hg]; exact (below_size (hq_ HB)) : w.heap.size ≤ gb234)); have n5_ := Aside0.mk ((by rw [hg]; exact Nat.ne_of_lt (blk_lt (g := gb233) (o := .cells #[.int .u8 a0_0, .int .u8 a0_1, .int .u8 a0_2, .int .u8 a0_3] 23 (0, 0)) (bq_ BK233)) : gb233 ≠ gb234)); have n6_ := Aside0.mk ((by rw [hg]; exact Nat.ne_of_gt (blk_lt (g := gb233) (o := .cells #[.int .u8 a0_0, .int .u8 a0_1, .int .u8 a0_2, .int .u8 a0_3] 23 (0, 0)) (bq_ BK233)) : gb234 ≠ gb233)); clear BK233; clear HB; have BK233 := n0_; have HB := n1_; have BK234 := n2_; have GW234 := n3_; have GE234 := n4_; have NB233_234 := n5_; have NB234_233 := n6_; clear n0_ n1_ n2_ n3_ n4_ n5_ n6_; clear hb hbox hg) | ((with_reducible refine gate_dst (N := 5) rfl ?_); refine box_event ?hg (N := 5) ?hd (cs := #[.int .u8 a2_0, .int .u8 a2_1, .int .u8 a2_2, .int .u8 a2_3]) (t := 23) ?hr ?_; (case hd => rfl); (case hg => rfl); (case hr => first | (go_simp; done) | (go_simp; rfl)); intro gb235 hg w14 hbox hb; have n0_ := bb_ BK233 hb; have n1_ := bb_ BK234 hb; have n2_ := hb_ HB hb; have n3_ := Aside0.mk (hbox); have n4_ := Aside0.mk ((by rw [hg]; exact (below_size (hq_ HB)) : w.heap.size ≤ gb235)); have n5_ := Aside0.mk ((by rw [hg]; exact (below_size (hq_ HB)) : w.heap.size ≤ gb235)); have n6_ := Aside0.mk ((by rw [hg]; exact Nat.ne_of_lt (blk_lt (g := gb233) (o := .cells #[.int .u8 a0_0, .int .u8 a0_1, .int .u8 a0_2, .int .u8 a0_3] 23 (0, 0)) (bq_ BK233)) : gb233 ≠ gb235)); have n7_ := Aside0.mk ((by rw [hg]; exact Nat.ne_of_gt (blk_lt (g := gb233) (o := .cells #[.int .u8 a0_0, .int .u8 a0_1, .int .u8 a0_2, .int .u8 a0_3] 23 (0, 0)) (bq_ BK233)) : gb235 ≠ gb233)); have n8_ := Aside0.mk ((by rw [hg]; exact Nat.ne_of_lt (blk_lt (g := gb234) (o := .cells #[.int .u8 a1_0, .int .u8 a1_1, .int .u8 a1_2, .int .u8 a1_3] 23 (0, 0)) (bq_ BK234)) : gb234 ≠ gb235)); have n9_ := Aside0.mk ((by rw [hg]; exact Nat.ne_of_gt (blk_lt (g := gb234) (o := .cells #[.int .u8 a1_0, .int .u8 a1_1, .int .u8 a1_2, .int .u8 a1_3] 23 (0, 0)) (bq_ BK234)) : gb235 ≠ gb234)); clear BK233; clear BK234; clear HB; have BK233 := n0_; have BK234 := n1_; have HB := n2_; have BK235 := n3_; have GW235 := n4_; have GE235 := n5_; have NB233_235 := n6_; have NB235_233 := n7_; have NB234_235 := n8_; have NB235_234 := n9_; clear n0_ n1_ n2_ n3_ n4_ n5_ n6_ n7_ n8_ n9_; clear hb hbox hg))
 replace BK233 := Aside0.mk (blk_drew BK233.out)
 replace BK234 := Aside0.mk (blk_drew BK234.out)
 replace BK235 := Aside0.mk (blk_drew BK235.out)
 replace HB := Aside0.mk (below_drew1 HB.out)
 refine start_ (n := 9) (S := fun w' => w'.cell? ⟨gb233, 0, none⟩ = some (.int .u8 a0_0) ∧ w'.cell? ⟨gb233, 1, none⟩ = some (.int .u8 a0_1) ∧ w'.cell? ⟨gb233, 2, none⟩ = some (.int .u8 a0_2) ∧ w'.cell? ⟨gb233, 3, none⟩ = some (.int .u8 a0_3) ∧ w'.cell? ⟨gb234, 0, none⟩ = some (.int .u8 a1_0) ∧ w'.cell? ⟨gb234, 1, none⟩ = some (.int .u8 a1_1) ∧ w'.cell? ⟨gb234, 2, none⟩ = some (.int .u8 a1_2) ∧ w'.cell? ⟨gb234, 3, none⟩ = some (.int .u8 a1_3) ∧ w'.cell? ⟨gb235, 0, none⟩ = some (.int .u8 a2_0) ∧ w'.cell? ⟨gb235, 1, none⟩ = some (.int .u8 a2_1) ∧ w'.cell? ⟨gb235, 2, none⟩ = some (.int .u8 a2_2) ∧ w'.cell? ⟨gb235, 3, none⟩ = some (.int .u8 a2_3)) (ds := [6, 7, 8]) zq5.q0 (by kernel_rfl) rfl rfl (a4_ BK233 (a4_ BK234 (h4_ BK235))) (fun hHeld => ?_); refine with_tabW compositorlaw08_PixelOverAssociativity.tab1 compositorlaw08_PixelOverAssociativity.bits1 (fun HT_ HW_ => ?_)
 generalize w14.drew = w15 at BK233 BK234 BK235 HB hHeld ⊢
 refine tk12_ 0 10 zq5.q1 HT_ HW_ hHeld ?_
 refine tk12_ 2 12 zq5.q2 HT_ HW_ hHeld ?_
 refine tk12_ 4 14 zq5.q3 HT_ HW_ hHeld ?_
 refine one_ (i := 1) (N := some 11) zq5.q4 rfl rfl (one_of HT_.out (by kernel_rfl)) (by decide) (fun K hK => ?_)
 refine gs_ Try.func18 #[.agg #[.int .u8 a0_0, .int .u8 a0_1, .int .u8 a0_2, .int .u8 a0_3]] ?_
 with_reducible refine (pixel_Clamp.calls a0_0 a0_1 a0_2 a0_3 t236 t237 t238 t239 _ A4.out).mono ?_
 rintro e w16 ⟨rfl, hb⟩
 refine ⟨_, rfl, ?_⟩
 replace BK233 := bb_ BK233 hb
 replace BK234 := bb_ BK234 hb
 replace BK235 := bb_ BK235 hb
 replace HB := hb_ HB hb
 (try clear hb); (try clear hb2); (try clear hk); (try clear hi)
 refine hK.out _ _ (a4_ BK233 (a4_ BK234 (h4_ BK235))) (fun hHeld => ?_)
 clear hK K
 refine norm_ (a' := ?_) ?_ ?_
 rotate_left
 ·
  show Act.put _ (some 11) _ = _
  simp only [Act.put, List.setIfInBounds_toArray, List.set_cons_zero, List.set_cons_succ, i64_w, i32_w]
  rfl
 refine one_ (i := 3) (N := some 13) zq5.q5 rfl rfl (one_of HT_.out (by kernel_rfl)) (by decide) (fun K hK => ?_)
 refine gs_ Try.func18 #[.agg #[.int .u8 a1_0, .int .u8 a1_1, .int .u8 a1_2, .int .u8 a1_3]] ?_
 with_reducible refine (pixel_Clamp.calls a1_0 a1_1 a1_2 a1_3 t240 t241 t242 t243 _ A5.out).mono ?_
 rintro e w17 ⟨rfl, hb⟩
 refine ⟨_, rfl, ?_⟩
 replace BK233 := bb_ BK233 hb
 replace BK234 := bb_ BK234 hb
 replace BK235 := bb_ BK235 hb
 replace HB := hb_ HB hb
 (try clear hb); (try clear hb2); (try clear hk); (try clear hi)
 refine hK.out _ _ (a4_ BK233 (a4_ BK234 (h4_ BK235))) (fun hHeld => ?_)
 clear hK K
 refine norm_ (a' := ?_) ?_ ?_
 rotate_left
 ·
  show Act.put _ (some 13) _ = _
  simp only [Act.put, List.setIfInBounds_toArray, List.set_cons_zero, List.set_cons_succ, i64_w, i32_w]
  rfl
 refine one_ (i := 5) (N := some 15) zq5.q6 rfl rfl (one_of HT_.out (by kernel_rfl)) (by decide) (fun K hK => ?_)
 refine gs_ Try.func18 #[.agg #[.int .u8 a2_0, .int .u8 a2_1, .int .u8 a2_2, .int .u8 a2_3]] ?_
 with_reducible refine (pixel_Clamp.calls a2_0 a2_1 a2_2 a2_3 t244 t245 t246 t247 _ A6.out).mono ?_
 rintro e w18 ⟨rfl, hb⟩
 refine ⟨_, rfl, ?_⟩
 replace BK233 := bb_ BK233 hb
 replace BK234 := bb_ BK234 hb
 replace BK235 := bb_ BK235 hb
 replace HB := hb_ HB hb
 (try clear hb); (try clear hb2); (try clear hk); (try clear hi)
 refine hK.out _ _ (a4_ BK233 (a4_ BK234 (h4_ BK235))) (fun hHeld => ?_)
 clear hK K
 refine norm_ (a' := ?_) ?_ ?_
 rotate_left
 ·
  show Act.put _ (some 15) _ = _
  simp only [Act.put, List.setIfInBounds_toArray, List.set_cons_zero, List.set_cons_succ, i64_w, i32_w]
  rfl
 refine last_ (i := 6) (N := none) zq5.q7 rfl rfl (one_of HT_.out (by kernel_rfl)) (by decide) (fun K hK => ?_)
 have hs19 : w18.cell? ⟨gb233, 0, none⟩ = some (.int .u8 a0_0) := (blk_cell BK233.out 0).trans rfl
 have hfs19 := blk_frozen BK233.out 0
 have hns19_1 := NB234_233.out
 have hns19_2 := NB235_233.out
 have hms19_1 := NB233_234.out
 have hms19_2 := NB233_235.out
 have hs20 : w18.cell? ⟨gb233, 1, none⟩ = some (.int .u8 a0_1) := (blk_cell BK233.out 1).trans rfl
 have hfs20 := blk_frozen BK233.out 1
 have hns20_1 := NB234_233.out
 have hns20_2 := NB235_233.out
 have hms20_1 := NB233_234.out
 have hms20_2 := NB233_235.out
 have hs21 : w18.cell? ⟨gb233, 2, none⟩ = some (.int .u8 a0_2) := (blk_cell BK233.out 2).trans rfl
 have hfs21 := blk_frozen BK233.out 2
 have hns21_1 := NB234_233.out
 have hns21_2 := NB235_233.out
 have hms21_1 := NB233_234.out
 have hms21_2 := NB233_235.out
 have hs22 : w18.cell? ⟨gb233, 3, none⟩ = some (.int .u8 a0_3) := (blk_cell BK233.out 3).trans rfl
 have hfs22 := blk_frozen BK233.out 3
 have hns22_1 := NB234_233.out
 have hns22_2 := NB235_233.out
 have hms22_1 := NB233_234.out
 have hms22_2 := NB233_235.out
 refine skip_ (w1 := ?_) (by rfl) rfl ?_ ?_
 rotate_left
 ·
  go_simp
  rfl
 refine hK.out _ _ ?_
 clear hK K
 (try clear hs19 hs20 hs21 hs22)
 have P4_ := kept_put4 w18 gb233 (.int .u8 t236) (.int .u8 t237) (.int .u8 t238) (.int .u8 t239)
 replace BK233 := Aside0.mk (blk_put4 BK233.out (.int .u8 t236) (.int .u8 t237) (.int .u8 t238) (.int .u8 t239))
 replace BK234 := Aside0.mk (blk_kept BK234.out P4_ NB234_233.out)
 replace BK235 := Aside0.mk (blk_kept BK235.out P4_ NB235_233.out)
 replace HB := Aside0.mk (below_put4 HB.out GE233.out (.int .u8 t236) (.int .u8 t237) (.int .u8 t238) (.int .u8 t239))
 clear P4_
 generalize (World.setCell (World.setCell (World.setCell (World.setCell w18 ⟨gb233, 0, none⟩ (.int .u8 t236)) ⟨gb233, 1, none⟩ (.int .u8 t237)) ⟨gb233, 2, none⟩ (.int .u8 t238)) ⟨gb233, 3, none⟩ (.int .u8 t239)) = w18b at BK233 BK234 BK235 HB ⊢
 refine last_ (i := 7) (N := none) zq5.q8 rfl rfl (one_of HT_.out (by kernel_rfl)) (by decide) (fun K hK => ?_)
 have hs23 : w18b.cell? ⟨gb234, 0, none⟩ = some (.int .u8 a1_0) := (blk_cell BK234.out 0).trans rfl
 have hfs23 := blk_frozen BK234.out 0
 have hns23_0 := NB233_234.out
 have hns23_2 := NB235_234.out
 have hms23_0 := NB234_233.out
 have hms23_2 := NB234_235.out
 have hs24 : w18b.cell? ⟨gb234, 1, none⟩ = some (.int .u8 a1_1) := (blk_cell BK234.out 1).trans rfl
 have hfs24 := blk_frozen BK234.out 1
 have hns24_0 := NB233_234.out
 have hns24_2 := NB235_234.out
 have hms24_0 := NB234_233.out
 have hms24_2 := NB234_235.out
 have hs25 : w18b.cell? ⟨gb234, 2, none⟩ = some (.int .u8 a1_2) := (blk_cell BK234.out 2).trans rfl
 have hfs25 := blk_frozen BK234.out 2
 have hns25_0 := NB233_234.out
 have hns25_2 := NB235_234.out
 have hms25_0 := NB234_233.out
 have hms25_2 := NB234_235.out
 have hs26 : w18b.cell? ⟨gb234, 3, none⟩ = some (.int .u8 a1_3) := (blk_cell BK234.out 3).trans rfl
 have hfs26 := blk_frozen BK234.out 3
 have hns26_0 := NB233_234.out
 have hns26_2 := NB235_234.out
 have hms26_0 := NB234_233.out
 have hms26_2 := NB234_235.out
 refine skip_ (w1 := ?_) (by rfl) rfl ?_ ?_
 rotate_left
 ·
  go_simp
  rfl
 refine hK.out _ _ ?_
 clear hK K
 (try clear hs23 hs24 hs25 hs26)
 have P4_ := kept_put4 w18b gb234 (.int .u8 t240) (.int .u8 t241) (.int .u8 t242) (.int .u8 t243)
 replace BK234 := Aside0.mk (blk_put4 BK234.out (.int .u8 t240) (.int .u8 t241) (.int .u8 t242) (.int .u8 t243))
 replace BK233 := Aside0.mk (blk_kept BK233.out P4_ NB233_234.out)
 replace BK235 := Aside0.mk (blk_kept BK235.out P4_ NB235_234.out)
 replace HB := Aside0.mk (below_put4 HB.out GE234.out (.int .u8 t240) (.int .u8 t241) (.int .u8 t242) (.int .u8 t243))
 clear P4_
 generalize (World.setCell (World.setCell (World.setCell (World.setCell w18b ⟨gb234, 0, none⟩ (.int .u8 t240)) ⟨gb234, 1, none⟩ (.int .u8 t241)) ⟨gb234, 2, none⟩ (.int .u8 t242)) ⟨gb234, 3, none⟩ (.int .u8 t243)) = w18c at BK233 BK234 BK235 HB ⊢
 refine last_ (i := 8) (N := none) zq5.q9 rfl rfl (one_of HT_.out (by kernel_rfl)) (by decide) (fun K hK => ?_)
 have hs27 : w18c.cell? ⟨gb235, 0, none⟩ = some (.int .u8 a2_0) := (blk_cell BK235.out 0).trans rfl
 have hfs27 := blk_frozen BK235.out 0
 have hns27_0 := NB233_235.out
 have hns27_1 := NB234_235.out
 have hms27_0 := NB235_233.out
 have hms27_1 := NB235_234.out
 have hs28 : w18c.cell? ⟨gb235, 1, none⟩ = some (.int .u8 a2_1) := (blk_cell BK235.out 1).trans rfl
 have hfs28 := blk_frozen BK235.out 1
 have hns28_0 := NB233_235.out
 have hns28_1 := NB234_235.out
 have hms28_0 := NB235_233.out
 have hms28_1 := NB235_234.out
 have hs29 : w18c.cell? ⟨gb235, 2, none⟩ = some (.int .u8 a2_2) := (blk_cell BK235.out 2).trans rfl
 have hfs29 := blk_frozen BK235.out 2
 have hns29_0 := NB233_235.out
 have hns29_1 := NB234_235.out
 have hms29_0 := NB235_233.out
 have hms29_1 := NB235_234.out
 have hs30 : w18c.cell? ⟨gb235, 3, none⟩ = some (.int .u8 a2_3) := (blk_cell BK235.out 3).trans rfl
 have hfs30 := blk_frozen BK235.out 3
 have hns30_0 := NB233_235.out
 have hns30_1 := NB234_235.out
 have hms30_0 := NB235_233.out
 have hms30_1 := NB235_234.out
 refine skip_ (w1 := ?_) (by rfl) rfl ?_ ?_
 rotate_left
 ·
  go_simp
  rfl
 refine hK.out _ _ ?_
 clear hK K
 (try clear hs27 hs28 hs29 hs30)
 have P4_ := kept_put4 w18c gb235 (.int .u8 t244) (.int .u8 t245) (.int .u8 t246) (.int .u8 t247)
 replace BK235 := Aside0.mk (blk_put4 BK235.out (.int .u8 t244) (.int .u8 t245) (.int .u8 t246) (.int .u8 t247))
 replace BK233 := Aside0.mk (blk_kept BK233.out P4_ NB233_235.out)
 replace BK234 := Aside0.mk (blk_kept BK234.out P4_ NB234_235.out)
 replace HB := Aside0.mk (below_put4 HB.out GE235.out (.int .u8 t244) (.int .u8 t245) (.int .u8 t246) (.int .u8 t247))
 clear P4_
 generalize (World.setCell (World.setCell (World.setCell (World.setCell w18c ⟨gb235, 0, none⟩ (.int .u8 t244)) ⟨gb235, 1, none⟩ (.int .u8 t245)) ⟨gb235, 2, none⟩ (.int .u8 t246)) ⟨gb235, 3, none⟩ (.int .u8 t247)) = w31 at BK233 BK234 BK235 HB ⊢
 refine done_ (done_of HT_.out (by kernel_rfl)) ?_
 try go_wp2
 replace BK233 := Aside0.mk (blk_drew BK233.out)
 replace BK234 := Aside0.mk (blk_drew BK234.out)
 replace BK235 := Aside0.mk (blk_drew BK235.out)
 replace HB := Aside0.mk (below_drew1 HB.out)
 refine start_ (n := 14) (S := fun w' => w'.cell? ⟨gb233, 0, none⟩ = some (.int .u8 t236) ∧ w'.cell? ⟨gb233, 1, none⟩ = some (.int .u8 t237) ∧ w'.cell? ⟨gb233, 2, none⟩ = some (.int .u8 t238) ∧ w'.cell? ⟨gb233, 3, none⟩ = some (.int .u8 t239) ∧ w'.cell? ⟨gb234, 0, none⟩ = some (.int .u8 t240) ∧ w'.cell? ⟨gb234, 1, none⟩ = some (.int .u8 t241) ∧ w'.cell? ⟨gb234, 2, none⟩ = some (.int .u8 t242) ∧ w'.cell? ⟨gb234, 3, none⟩ = some (.int .u8 t243) ∧ w'.cell? ⟨gb235, 0, none⟩ = some (.int .u8 t244) ∧ w'.cell? ⟨gb235, 1, none⟩ = some (.int .u8 t245) ∧ w'.cell? ⟨gb235, 2, none⟩ = some (.int .u8 t246) ∧ w'.cell? ⟨gb235, 3, none⟩ = some (.int .u8 t247)) (ds := []) zq5.q10 (by kernel_rfl) rfl rfl (a4_ BK233 (a4_ BK234 (h4_ BK235))) (fun hHeld => ?_); refine with_tabW compositorlaw08_PixelOverAssociativity.tab2 compositorlaw08_PixelOverAssociativity.bits2 (fun HT_ HW_ => ?_)
 generalize w31.drew = w32 at BK233 BK234 BK235 HB hHeld ⊢
 refine tk12_ 0 16 zq5.q11 HT_ HW_ hHeld ?_
 refine tk12_ 1 17 zq5.q12 HT_ HW_ hHeld ?_
 refine tk12_ 2 18 zq5.q13 HT_ HW_ hHeld ?_
 refine tk12_ 5 21 zq5.q14 HT_ HW_ hHeld ?_
 refine tk12_ 6 22 zq5.q15 HT_ HW_ hHeld ?_
 refine tk12_ 8 24 zq5.q16 HT_ HW_ hHeld ?_
 refine join_ (σ := Nat × Nat) 2 zq5.q17 (fun s_ => [(19, .agg #[.int .u8 t248, .int .u8 t249, .int .u8 t250, .int .u8 t251]), (20, .agg #[.int .u8 t252, .int .u8 t253, .int .u8 t254, .int .u8 t255]), (23, .agg #[.int .u8 t256, .int .u8 t257, .int .u8 t258, .int .u8 t259]), (25, .agg #[.int .u8 t260, .int .u8 t261, .int .u8 t262, .int .u8 t263]), (7, .pointer (some ⟨s_.1, 0, none⟩)), (8, .pointer (some ⟨s_.2, 0, none⟩))]) (fun s_ w' => (w'.cell? ⟨gb233, 0, none⟩ = some (.int .u8 t236) ∧ w'.cell? ⟨gb233, 1, none⟩ = some (.int .u8 t237) ∧ w'.cell? ⟨gb233, 2, none⟩ = some (.int .u8 t238) ∧ w'.cell? ⟨gb233, 3, none⟩ = some (.int .u8 t239) ∧ w'.cell? ⟨gb234, 0, none⟩ = some (.int .u8 t240) ∧ w'.cell? ⟨gb234, 1, none⟩ = some (.int .u8 t241) ∧ w'.cell? ⟨gb234, 2, none⟩ = some (.int .u8 t242) ∧ w'.cell? ⟨gb234, 3, none⟩ = some (.int .u8 t243) ∧ w'.cell? ⟨gb235, 0, none⟩ = some (.int .u8 t244) ∧ w'.cell? ⟨gb235, 1, none⟩ = some (.int .u8 t245) ∧ w'.cell? ⟨gb235, 2, none⟩ = some (.int .u8 t246) ∧ w'.cell? ⟨gb235, 3, none⟩ = some (.int .u8 t247)) ∧ (w'.heap[gb233]? = some (.cells #[.int .u8 t236, .int .u8 t237, .int .u8 t238, .int .u8 t239] 23 (0, 0))) ∧ (w'.heap[gb234]? = some (.cells #[.int .u8 t240, .int .u8 t241, .int .u8 t242, .int .u8 t243] 23 (0, 0))) ∧ (w'.heap[gb235]? = some (.cells #[.int .u8 t244, .int .u8 t245, .int .u8 t246, .int .u8 t247] 23 (0, 0))) ∧ (w'.heap[s_.1]? = some (.cells #[.int .u8 0, .int .u8 0, .int .u8 0, .int .u8 0] 23 (0, 0))) ∧ (w'.heap[s_.2]? = some (.cells #[.int .u8 0, .int .u8 0, .int .u8 0, .int .u8 0] 23 (0, 0))) ∧ (w.heap.size ≤ s_.1) ∧ (w.heap.size ≤ s_.1) ∧ (gb233 ≠ s_.1) ∧ (s_.1 ≠ gb233) ∧ (gb234 ≠ s_.1) ∧ (s_.1 ≠ gb234) ∧ (gb235 ≠ s_.1) ∧ (s_.1 ≠ gb235) ∧ (s_.2 ≠ s_.1) ∧ (s_.1 ≠ s_.2) ∧ (w.heap.size ≤ s_.2) ∧ (w.heap.size ≤ s_.2) ∧ (gb233 ≠ s_.2) ∧ (s_.2 ≠ gb233) ∧ (gb234 ≠ s_.2) ∧ (s_.2 ≠ gb234) ∧ (gb235 ≠ s_.2) ∧ (s_.2 ≠ gb235) ∧ (Below w.heap.size w w')) ?_ ?_
 rotate_left
 ·
  intro hJ3_4_7_9_10_11
  refine join_ (σ := Nat) 3 zq5.q18 (fun s_ => [(19, .agg #[.int .u8 t248, .int .u8 t249, .int .u8 t250, .int .u8 t251]), (20, .agg #[.int .u8 t252, .int .u8 t253, .int .u8 t254, .int .u8 t255]), (23, .agg #[.int .u8 t256, .int .u8 t257, .int .u8 t258, .int .u8 t259]), (25, .agg #[.int .u8 t260, .int .u8 t261, .int .u8 t262, .int .u8 t263]), (7, .pointer (some ⟨s_, 0, none⟩))]) (fun s_ w' => (w'.cell? ⟨gb233, 0, none⟩ = some (.int .u8 t236) ∧ w'.cell? ⟨gb233, 1, none⟩ = some (.int .u8 t237) ∧ w'.cell? ⟨gb233, 2, none⟩ = some (.int .u8 t238) ∧ w'.cell? ⟨gb233, 3, none⟩ = some (.int .u8 t239) ∧ w'.cell? ⟨gb234, 0, none⟩ = some (.int .u8 t240) ∧ w'.cell? ⟨gb234, 1, none⟩ = some (.int .u8 t241) ∧ w'.cell? ⟨gb234, 2, none⟩ = some (.int .u8 t242) ∧ w'.cell? ⟨gb234, 3, none⟩ = some (.int .u8 t243) ∧ w'.cell? ⟨gb235, 0, none⟩ = some (.int .u8 t244) ∧ w'.cell? ⟨gb235, 1, none⟩ = some (.int .u8 t245) ∧ w'.cell? ⟨gb235, 2, none⟩ = some (.int .u8 t246) ∧ w'.cell? ⟨gb235, 3, none⟩ = some (.int .u8 t247)) ∧ (w'.heap[gb233]? = some (.cells #[.int .u8 t236, .int .u8 t237, .int .u8 t238, .int .u8 t239] 23 (0, 0))) ∧ (w'.heap[gb234]? = some (.cells #[.int .u8 t240, .int .u8 t241, .int .u8 t242, .int .u8 t243] 23 (0, 0))) ∧ (w'.heap[gb235]? = some (.cells #[.int .u8 t244, .int .u8 t245, .int .u8 t246, .int .u8 t247] 23 (0, 0))) ∧ (w'.heap[s_]? = some (.cells #[.int .u8 0, .int .u8 0, .int .u8 0, .int .u8 0] 23 (0, 0))) ∧ (w.heap.size ≤ s_) ∧ (w.heap.size ≤ s_) ∧ (gb233 ≠ s_) ∧ (s_ ≠ gb233) ∧ (gb234 ≠ s_) ∧ (s_ ≠ gb234) ∧ (gb235 ≠ s_) ∧ (s_ ≠ gb235) ∧ (Below w.heap.size w w')) ?_ ?_
  rotate_left
  ·
   intro hJ3_4_7_9_10
   refine join_ (σ := Nat) 3 zq5.q19 (fun s_ => [(19, .agg #[.int .u8 t248, .int .u8 t249, .int .u8 t250, .int .u8 t251]), (20, .agg #[.int .u8 t252, .int .u8 t253, .int .u8 t254, .int .u8 t255]), (23, .agg #[.int .u8 t256, .int .u8 t257, .int .u8 t258, .int .u8 t259]), (25, .agg #[.int .u8 t260, .int .u8 t261, .int .u8 t262, .int .u8 t263]), (8, .pointer (some ⟨s_, 0, none⟩))]) (fun s_ w' => (w'.cell? ⟨gb233, 0, none⟩ = some (.int .u8 t236) ∧ w'.cell? ⟨gb233, 1, none⟩ = some (.int .u8 t237) ∧ w'.cell? ⟨gb233, 2, none⟩ = some (.int .u8 t238) ∧ w'.cell? ⟨gb233, 3, none⟩ = some (.int .u8 t239) ∧ w'.cell? ⟨gb234, 0, none⟩ = some (.int .u8 t240) ∧ w'.cell? ⟨gb234, 1, none⟩ = some (.int .u8 t241) ∧ w'.cell? ⟨gb234, 2, none⟩ = some (.int .u8 t242) ∧ w'.cell? ⟨gb234, 3, none⟩ = some (.int .u8 t243) ∧ w'.cell? ⟨gb235, 0, none⟩ = some (.int .u8 t244) ∧ w'.cell? ⟨gb235, 1, none⟩ = some (.int .u8 t245) ∧ w'.cell? ⟨gb235, 2, none⟩ = some (.int .u8 t246) ∧ w'.cell? ⟨gb235, 3, none⟩ = some (.int .u8 t247)) ∧ (w'.heap[gb233]? = some (.cells #[.int .u8 t236, .int .u8 t237, .int .u8 t238, .int .u8 t239] 23 (0, 0))) ∧ (w'.heap[gb234]? = some (.cells #[.int .u8 t240, .int .u8 t241, .int .u8 t242, .int .u8 t243] 23 (0, 0))) ∧ (w'.heap[gb235]? = some (.cells #[.int .u8 t244, .int .u8 t245, .int .u8 t246, .int .u8 t247] 23 (0, 0))) ∧ (w'.heap[s_]? = some (.cells #[.int .u8 0, .int .u8 0, .int .u8 0, .int .u8 0] 23 (0, 0))) ∧ (w.heap.size ≤ s_) ∧ (w.heap.size ≤ s_) ∧ (gb233 ≠ s_) ∧ (s_ ≠ gb233) ∧ (gb234 ≠ s_) ∧ (s_ ≠ gb234) ∧ (gb235 ≠ s_) ∧ (s_ ≠ gb235) ∧ (Below w.heap.size w w')) ?_ ?_
   rotate_left
   ·
    intro hJ3_4_7_9_11
    refine join_ (σ := Nat × Nat) 3 zq5.q20 (fun s_ => [(19, .agg #[.int .u8 t248, .int .u8 t249, .int .u8 t250, .int .u8 t251]), (20, .agg #[.int .u8 t252, .int .u8 t253, .int .u8 t254, .int .u8 t255]), (23, .agg #[.int .u8 t256, .int .u8 t257, .int .u8 t258, .int .u8 t259]), (7, .pointer (some ⟨s_.1, 0, none⟩)), (8, .pointer (some ⟨s_.2, 0, none⟩))]) (fun s_ w' => (w'.cell? ⟨gb233, 0, none⟩ = some (.int .u8 t236) ∧ w'.cell? ⟨gb233, 1, none⟩ = some (.int .u8 t237) ∧ w'.cell? ⟨gb233, 2, none⟩ = some (.int .u8 t238) ∧ w'.cell? ⟨gb233, 3, none⟩ = some (.int .u8 t239) ∧ w'.cell? ⟨gb234, 0, none⟩ = some (.int .u8 t240) ∧ w'.cell? ⟨gb234, 1, none⟩ = some (.int .u8 t241) ∧ w'.cell? ⟨gb234, 2, none⟩ = some (.int .u8 t242) ∧ w'.cell? ⟨gb234, 3, none⟩ = some (.int .u8 t243) ∧ w'.cell? ⟨gb235, 0, none⟩ = some (.int .u8 t244) ∧ w'.cell? ⟨gb235, 1, none⟩ = some (.int .u8 t245) ∧ w'.cell? ⟨gb235, 2, none⟩ = some (.int .u8 t246) ∧ w'.cell? ⟨gb235, 3, none⟩ = some (.int .u8 t247)) ∧ (w'.heap[gb233]? = some (.cells #[.int .u8 t236, .int .u8 t237, .int .u8 t238, .int .u8 t239] 23 (0, 0))) ∧ (w'.heap[gb234]? = some (.cells #[.int .u8 t240, .int .u8 t241, .int .u8 t242, .int .u8 t243] 23 (0, 0))) ∧ (w'.heap[gb235]? = some (.cells #[.int .u8 t244, .int .u8 t245, .int .u8 t246, .int .u8 t247] 23 (0, 0))) ∧ (w'.heap[s_.1]? = some (.cells #[.int .u8 0, .int .u8 0, .int .u8 0, .int .u8 0] 23 (0, 0))) ∧ (w'.heap[s_.2]? = some (.cells #[.int .u8 0, .int .u8 0, .int .u8 0, .int .u8 0] 23 (0, 0))) ∧ (w.heap.size ≤ s_.1) ∧ (w.heap.size ≤ s_.1) ∧ (gb233 ≠ s_.1) ∧ (s_.1 ≠ gb233) ∧ (gb234 ≠ s_.1) ∧ (s_.1 ≠ gb234) ∧ (gb235 ≠ s_.1) ∧ (s_.1 ≠ gb235) ∧ (s_.2 ≠ s_.1) ∧ (s_.1 ≠ s_.2) ∧ (w.heap.size ≤ s_.2) ∧ (w.heap.size ≤ s_.2) ∧ (gb233 ≠ s_.2) ∧ (s_.2 ≠ gb233) ∧ (gb234 ≠ s_.2) ∧ (s_.2 ≠ gb234) ∧ (gb235 ≠ s_.2) ∧ (s_.2 ≠ gb235) ∧ (Below w.heap.size w w')) ?_ ?_
    rotate_left
    ·
     intro hJ3_4_7_10_11
     refine join_ (σ := Unit) 4 zq5.q21 (fun s_ => [(19, .agg #[.int .u8 t248, .int .u8 t249, .int .u8 t250, .int .u8 t251]), (20, .agg #[.int .u8 t252, .int .u8 t253, .int .u8 t254, .int .u8 t255]), (23, .agg #[.int .u8 t256, .int .u8 t257, .int .u8 t258, .int .u8 t259]), (25, .agg #[.int .u8 t260, .int .u8 t261, .int .u8 t262, .int .u8 t263])]) (fun s_ w' => (w'.cell? ⟨gb233, 0, none⟩ = some (.int .u8 t236) ∧ w'.cell? ⟨gb233, 1, none⟩ = some (.int .u8 t237) ∧ w'.cell? ⟨gb233, 2, none⟩ = some (.int .u8 t238) ∧ w'.cell? ⟨gb233, 3, none⟩ = some (.int .u8 t239) ∧ w'.cell? ⟨gb234, 0, none⟩ = some (.int .u8 t240) ∧ w'.cell? ⟨gb234, 1, none⟩ = some (.int .u8 t241) ∧ w'.cell? ⟨gb234, 2, none⟩ = some (.int .u8 t242) ∧ w'.cell? ⟨gb234, 3, none⟩ = some (.int .u8 t243) ∧ w'.cell? ⟨gb235, 0, none⟩ = some (.int .u8 t244) ∧ w'.cell? ⟨gb235, 1, none⟩ = some (.int .u8 t245) ∧ w'.cell? ⟨gb235, 2, none⟩ = some (.int .u8 t246) ∧ w'.cell? ⟨gb235, 3, none⟩ = some (.int .u8 t247)) ∧ (w'.heap[gb233]? = some (.cells #[.int .u8 t236, .int .u8 t237, .int .u8 t238, .int .u8 t239] 23 (0, 0))) ∧ (w'.heap[gb234]? = some (.cells #[.int .u8 t240, .int .u8 t241, .int .u8 t242, .int .u8 t243] 23 (0, 0))) ∧ (w'.heap[gb235]? = some (.cells #[.int .u8 t244, .int .u8 t245, .int .u8 t246, .int .u8 t247] 23 (0, 0))) ∧ (Below w.heap.size w w')) ?_ ?_
     rotate_left
     ·
      intro hJ3_4_7_9
      refine join_ (σ := Nat) 4 zq5.q22 (fun s_ => [(19, .agg #[.int .u8 t248, .int .u8 t249, .int .u8 t250, .int .u8 t251]), (20, .agg #[.int .u8 t252, .int .u8 t253, .int .u8 t254, .int .u8 t255]), (23, .agg #[.int .u8 t256, .int .u8 t257, .int .u8 t258, .int .u8 t259]), (7, .pointer (some ⟨s_, 0, none⟩))]) (fun s_ w' => (w'.cell? ⟨gb233, 0, none⟩ = some (.int .u8 t236) ∧ w'.cell? ⟨gb233, 1, none⟩ = some (.int .u8 t237) ∧ w'.cell? ⟨gb233, 2, none⟩ = some (.int .u8 t238) ∧ w'.cell? ⟨gb233, 3, none⟩ = some (.int .u8 t239) ∧ w'.cell? ⟨gb234, 0, none⟩ = some (.int .u8 t240) ∧ w'.cell? ⟨gb234, 1, none⟩ = some (.int .u8 t241) ∧ w'.cell? ⟨gb234, 2, none⟩ = some (.int .u8 t242) ∧ w'.cell? ⟨gb234, 3, none⟩ = some (.int .u8 t243) ∧ w'.cell? ⟨gb235, 0, none⟩ = some (.int .u8 t244) ∧ w'.cell? ⟨gb235, 1, none⟩ = some (.int .u8 t245) ∧ w'.cell? ⟨gb235, 2, none⟩ = some (.int .u8 t246) ∧ w'.cell? ⟨gb235, 3, none⟩ = some (.int .u8 t247)) ∧ (w'.heap[gb233]? = some (.cells #[.int .u8 t236, .int .u8 t237, .int .u8 t238, .int .u8 t239] 23 (0, 0))) ∧ (w'.heap[gb234]? = some (.cells #[.int .u8 t240, .int .u8 t241, .int .u8 t242, .int .u8 t243] 23 (0, 0))) ∧ (w'.heap[gb235]? = some (.cells #[.int .u8 t244, .int .u8 t245, .int .u8 t246, .int .u8 t247] 23 (0, 0))) ∧ (w'.heap[s_]? = some (.cells #[.int .u8 0, .int .u8 0, .int .u8 0, .int .u8 0] 23 (0, 0))) ∧ (w.heap.size ≤ s_) ∧ (w.heap.size ≤ s_) ∧ (gb233 ≠ s_) ∧ (s_ ≠ gb233) ∧ (gb234 ≠ s_) ∧ (s_ ≠ gb234) ∧ (gb235 ≠ s_) ∧ (s_ ≠ gb235) ∧ (Below w.heap.size w w')) ?_ ?_
      rotate_left
      ·
       intro hJ3_4_7_10
       refine join_ (σ := Nat) 4 zq5.q23 (fun s_ => [(19, .agg #[.int .u8 t248, .int .u8 t249, .int .u8 t250, .int .u8 t251]), (20, .agg #[.int .u8 t252, .int .u8 t253, .int .u8 t254, .int .u8 t255]), (23, .agg #[.int .u8 t256, .int .u8 t257, .int .u8 t258, .int .u8 t259]), (8, .pointer (some ⟨s_, 0, none⟩))]) (fun s_ w' => (w'.cell? ⟨gb233, 0, none⟩ = some (.int .u8 t236) ∧ w'.cell? ⟨gb233, 1, none⟩ = some (.int .u8 t237) ∧ w'.cell? ⟨gb233, 2, none⟩ = some (.int .u8 t238) ∧ w'.cell? ⟨gb233, 3, none⟩ = some (.int .u8 t239) ∧ w'.cell? ⟨gb234, 0, none⟩ = some (.int .u8 t240) ∧ w'.cell? ⟨gb234, 1, none⟩ = some (.int .u8 t241) ∧ w'.cell? ⟨gb234, 2, none⟩ = some (.int .u8 t242) ∧ w'.cell? ⟨gb234, 3, none⟩ = some (.int .u8 t243) ∧ w'.cell? ⟨gb235, 0, none⟩ = some (.int .u8 t244) ∧ w'.cell? ⟨gb235, 1, none⟩ = some (.int .u8 t245) ∧ w'.cell? ⟨gb235, 2, none⟩ = some (.int .u8 t246) ∧ w'.cell? ⟨gb235, 3, none⟩ = some (.int .u8 t247)) ∧ (w'.heap[gb233]? = some (.cells #[.int .u8 t236, .int .u8 t237, .int .u8 t238, .int .u8 t239] 23 (0, 0))) ∧ (w'.heap[gb234]? = some (.cells #[.int .u8 t240, .int .u8 t241, .int .u8 t242, .int .u8 t243] 23 (0, 0))) ∧ (w'.heap[gb235]? = some (.cells #[.int .u8 t244, .int .u8 t245, .int .u8 t246, .int .u8 t247] 23 (0, 0))) ∧ (w'.heap[s_]? = some (.cells #[.int .u8 0, .int .u8 0, .int .u8 0, .int .u8 0] 23 (0, 0))) ∧ (w.heap.size ≤ s_) ∧ (w.heap.size ≤ s_) ∧ (gb233 ≠ s_) ∧ (s_ ≠ gb233) ∧ (gb234 ≠ s_) ∧ (s_ ≠ gb234) ∧ (gb235 ≠ s_) ∧ (s_ ≠ gb235) ∧ (Below w.heap.size w w')) ?_ ?_
       rotate_left
       ·
        intro hJ3_4_7_11
        refine join_ (σ := Nat × Nat) 4 zq5.q24 (fun s_ => [(19, .agg #[.int .u8 t248, .int .u8 t249, .int .u8 t250, .int .u8 t251]), (20, .agg #[.int .u8 t252, .int .u8 t253, .int .u8 t254, .int .u8 t255]), (7, .pointer (some ⟨s_.1, 0, none⟩)), (8, .pointer (some ⟨s_.2, 0, none⟩))]) (fun s_ w' => (w'.cell? ⟨gb233, 0, none⟩ = some (.int .u8 t236) ∧ w'.cell? ⟨gb233, 1, none⟩ = some (.int .u8 t237) ∧ w'.cell? ⟨gb233, 2, none⟩ = some (.int .u8 t238) ∧ w'.cell? ⟨gb233, 3, none⟩ = some (.int .u8 t239) ∧ w'.cell? ⟨gb234, 0, none⟩ = some (.int .u8 t240) ∧ w'.cell? ⟨gb234, 1, none⟩ = some (.int .u8 t241) ∧ w'.cell? ⟨gb234, 2, none⟩ = some (.int .u8 t242) ∧ w'.cell? ⟨gb234, 3, none⟩ = some (.int .u8 t243) ∧ w'.cell? ⟨gb235, 0, none⟩ = some (.int .u8 t244) ∧ w'.cell? ⟨gb235, 1, none⟩ = some (.int .u8 t245) ∧ w'.cell? ⟨gb235, 2, none⟩ = some (.int .u8 t246) ∧ w'.cell? ⟨gb235, 3, none⟩ = some (.int .u8 t247)) ∧ (w'.heap[gb233]? = some (.cells #[.int .u8 t236, .int .u8 t237, .int .u8 t238, .int .u8 t239] 23 (0, 0))) ∧ (w'.heap[gb234]? = some (.cells #[.int .u8 t240, .int .u8 t241, .int .u8 t242, .int .u8 t243] 23 (0, 0))) ∧ (w'.heap[gb235]? = some (.cells #[.int .u8 t244, .int .u8 t245, .int .u8 t246, .int .u8 t247] 23 (0, 0))) ∧ (w'.heap[s_.1]? = some (.cells #[.int .u8 0, .int .u8 0, .int .u8 0, .int .u8 0] 23 (0, 0))) ∧ (w'.heap[s_.2]? = some (.cells #[.int .u8 0, .int .u8 0, .int .u8 0, .int .u8 0] 23 (0, 0))) ∧ (w.heap.size ≤ s_.1) ∧ (w.heap.size ≤ s_.1) ∧ (gb233 ≠ s_.1) ∧ (s_.1 ≠ gb233) ∧ (gb234 ≠ s_.1) ∧ (s_.1 ≠ gb234) ∧ (gb235 ≠ s_.1) ∧ (s_.1 ≠ gb235) ∧ (s_.2 ≠ s_.1) ∧ (s_.1 ≠ s_.2) ∧ (w.heap.size ≤ s_.2) ∧ (w.heap.size ≤ s_.2) ∧ (gb233 ≠ s_.2) ∧ (s_.2 ≠ gb233) ∧ (gb234 ≠ s_.2) ∧ (s_.2 ≠ gb234) ∧ (gb235 ≠ s_.2) ∧ (s_.2 ≠ gb235) ∧ (Below w.heap.size w w')) ?_ ?_
        rotate_left
        ·
         intro hJ3_4_10_11
         refine join_ (σ := Unit) 5 zq5.q25 (fun s_ => [(19, .agg #[.int .u8 t248, .int .u8 t249, .int .u8 t250, .int .u8 t251]), (20, .agg #[.int .u8 t252, .int .u8 t253, .int .u8 t254, .int .u8 t255]), (23, .agg #[.int .u8 t256, .int .u8 t257, .int .u8 t258, .int .u8 t259])]) (fun s_ w' => (w'.cell? ⟨gb233, 0, none⟩ = some (.int .u8 t236) ∧ w'.cell? ⟨gb233, 1, none⟩ = some (.int .u8 t237) ∧ w'.cell? ⟨gb233, 2, none⟩ = some (.int .u8 t238) ∧ w'.cell? ⟨gb233, 3, none⟩ = some (.int .u8 t239) ∧ w'.cell? ⟨gb234, 0, none⟩ = some (.int .u8 t240) ∧ w'.cell? ⟨gb234, 1, none⟩ = some (.int .u8 t241) ∧ w'.cell? ⟨gb234, 2, none⟩ = some (.int .u8 t242) ∧ w'.cell? ⟨gb234, 3, none⟩ = some (.int .u8 t243) ∧ w'.cell? ⟨gb235, 0, none⟩ = some (.int .u8 t244) ∧ w'.cell? ⟨gb235, 1, none⟩ = some (.int .u8 t245) ∧ w'.cell? ⟨gb235, 2, none⟩ = some (.int .u8 t246) ∧ w'.cell? ⟨gb235, 3, none⟩ = some (.int .u8 t247)) ∧ (w'.heap[gb233]? = some (.cells #[.int .u8 t236, .int .u8 t237, .int .u8 t238, .int .u8 t239] 23 (0, 0))) ∧ (w'.heap[gb234]? = some (.cells #[.int .u8 t240, .int .u8 t241, .int .u8 t242, .int .u8 t243] 23 (0, 0))) ∧ (w'.heap[gb235]? = some (.cells #[.int .u8 t244, .int .u8 t245, .int .u8 t246, .int .u8 t247] 23 (0, 0))) ∧ (Below w.heap.size w w')) ?_ ?_
         rotate_left
         ·
          intro hJ3_4_7
          refine join_ (σ := Nat) 5 zq5.q26 (fun s_ => [(19, .agg #[.int .u8 t248, .int .u8 t249, .int .u8 t250, .int .u8 t251]), (20, .agg #[.int .u8 t252, .int .u8 t253, .int .u8 t254, .int .u8 t255]), (7, .pointer (some ⟨s_, 0, none⟩))]) (fun s_ w' => (w'.cell? ⟨gb233, 0, none⟩ = some (.int .u8 t236) ∧ w'.cell? ⟨gb233, 1, none⟩ = some (.int .u8 t237) ∧ w'.cell? ⟨gb233, 2, none⟩ = some (.int .u8 t238) ∧ w'.cell? ⟨gb233, 3, none⟩ = some (.int .u8 t239) ∧ w'.cell? ⟨gb234, 0, none⟩ = some (.int .u8 t240) ∧ w'.cell? ⟨gb234, 1, none⟩ = some (.int .u8 t241) ∧ w'.cell? ⟨gb234, 2, none⟩ = some (.int .u8 t242) ∧ w'.cell? ⟨gb234, 3, none⟩ = some (.int .u8 t243) ∧ w'.cell? ⟨gb235, 0, none⟩ = some (.int .u8 t244) ∧ w'.cell? ⟨gb235, 1, none⟩ = some (.int .u8 t245) ∧ w'.cell? ⟨gb235, 2, none⟩ = some (.int .u8 t246) ∧ w'.cell? ⟨gb235, 3, none⟩ = some (.int .u8 t247)) ∧ (w'.heap[gb233]? = some (.cells #[.int .u8 t236, .int .u8 t237, .int .u8 t238, .int .u8 t239] 23 (0, 0))) ∧ (w'.heap[gb234]? = some (.cells #[.int .u8 t240, .int .u8 t241, .int .u8 t242, .int .u8 t243] 23 (0, 0))) ∧ (w'.heap[gb235]? = some (.cells #[.int .u8 t244, .int .u8 t245, .int .u8 t246, .int .u8 t247] 23 (0, 0))) ∧ (w'.heap[s_]? = some (.cells #[.int .u8 0, .int .u8 0, .int .u8 0, .int .u8 0] 23 (0, 0))) ∧ (w.heap.size ≤ s_) ∧ (w.heap.size ≤ s_) ∧ (gb233 ≠ s_) ∧ (s_ ≠ gb233) ∧ (gb234 ≠ s_) ∧ (s_ ≠ gb234) ∧ (gb235 ≠ s_) ∧ (s_ ≠ gb235) ∧ (Below w.heap.size w w')) ?_ ?_
          rotate_left
          ·
           intro hJ3_4_10
           refine join_ (σ := Nat) 5 zq5.q27 (fun s_ => [(19, .agg #[.int .u8 t248, .int .u8 t249, .int .u8 t250, .int .u8 t251]), (20, .agg #[.int .u8 t252, .int .u8 t253, .int .u8 t254, .int .u8 t255]), (8, .pointer (some ⟨s_, 0, none⟩))]) (fun s_ w' => (w'.cell? ⟨gb233, 0, none⟩ = some (.int .u8 t236) ∧ w'.cell? ⟨gb233, 1, none⟩ = some (.int .u8 t237) ∧ w'.cell? ⟨gb233, 2, none⟩ = some (.int .u8 t238) ∧ w'.cell? ⟨gb233, 3, none⟩ = some (.int .u8 t239) ∧ w'.cell? ⟨gb234, 0, none⟩ = some (.int .u8 t240) ∧ w'.cell? ⟨gb234, 1, none⟩ = some (.int .u8 t241) ∧ w'.cell? ⟨gb234, 2, none⟩ = some (.int .u8 t242) ∧ w'.cell? ⟨gb234, 3, none⟩ = some (.int .u8 t243) ∧ w'.cell? ⟨gb235, 0, none⟩ = some (.int .u8 t244) ∧ w'.cell? ⟨gb235, 1, none⟩ = some (.int .u8 t245) ∧ w'.cell? ⟨gb235, 2, none⟩ = some (.int .u8 t246) ∧ w'.cell? ⟨gb235, 3, none⟩ = some (.int .u8 t247)) ∧ (w'.heap[gb233]? = some (.cells #[.int .u8 t236, .int .u8 t237, .int .u8 t238, .int .u8 t239] 23 (0, 0))) ∧ (w'.heap[gb234]? = some (.cells #[.int .u8 t240, .int .u8 t241, .int .u8 t242, .int .u8 t243] 23 (0, 0))) ∧ (w'.heap[gb235]? = some (.cells #[.int .u8 t244, .int .u8 t245, .int .u8 t246, .int .u8 t247] 23 (0, 0))) ∧ (w'.heap[s_]? = some (.cells #[.int .u8 0, .int .u8 0, .int .u8 0, .int .u8 0] 23 (0, 0))) ∧ (w.heap.size ≤ s_) ∧ (w.heap.size ≤ s_) ∧ (gb233 ≠ s_) ∧ (s_ ≠ gb233) ∧ (gb234 ≠ s_) ∧ (s_ ≠ gb234) ∧ (gb235 ≠ s_) ∧ (s_ ≠ gb235) ∧ (Below w.heap.size w w')) ?_ ?_
           rotate_left
           ·
            intro hJ3_4_11
            refine join_ (σ := Nat × Nat) 5 zq5.q28 (fun s_ => [(19, .agg #[.int .u8 t248, .int .u8 t249, .int .u8 t250, .int .u8 t251]), (7, .pointer (some ⟨s_.1, 0, none⟩)), (8, .pointer (some ⟨s_.2, 0, none⟩))]) (fun s_ w' => (w'.cell? ⟨gb233, 0, none⟩ = some (.int .u8 t236) ∧ w'.cell? ⟨gb233, 1, none⟩ = some (.int .u8 t237) ∧ w'.cell? ⟨gb233, 2, none⟩ = some (.int .u8 t238) ∧ w'.cell? ⟨gb233, 3, none⟩ = some (.int .u8 t239) ∧ w'.cell? ⟨gb234, 0, none⟩ = some (.int .u8 t240) ∧ w'.cell? ⟨gb234, 1, none⟩ = some (.int .u8 t241) ∧ w'.cell? ⟨gb234, 2, none⟩ = some (.int .u8 t242) ∧ w'.cell? ⟨gb234, 3, none⟩ = some (.int .u8 t243) ∧ w'.cell? ⟨gb235, 0, none⟩ = some (.int .u8 t244) ∧ w'.cell? ⟨gb235, 1, none⟩ = some (.int .u8 t245) ∧ w'.cell? ⟨gb235, 2, none⟩ = some (.int .u8 t246) ∧ w'.cell? ⟨gb235, 3, none⟩ = some (.int .u8 t247)) ∧ (w'.heap[gb233]? = some (.cells #[.int .u8 t236, .int .u8 t237, .int .u8 t238, .int .u8 t239] 23 (0, 0))) ∧ (w'.heap[gb234]? = some (.cells #[.int .u8 t240, .int .u8 t241, .int .u8 t242, .int .u8 t243] 23 (0, 0))) ∧ (w'.heap[gb235]? = some (.cells #[.int .u8 t244, .int .u8 t245, .int .u8 t246, .int .u8 t247] 23 (0, 0))) ∧ (w'.heap[s_.1]? = some (.cells #[.int .u8 0, .int .u8 0, .int .u8 0, .int .u8 0] 23 (0, 0))) ∧ (w'.heap[s_.2]? = some (.cells #[.int .u8 0, .int .u8 0, .int .u8 0, .int .u8 0] 23 (0, 0))) ∧ (w.heap.size ≤ s_.1) ∧ (w.heap.size ≤ s_.1) ∧ (gb233 ≠ s_.1) ∧ (s_.1 ≠ gb233) ∧ (gb234 ≠ s_.1) ∧ (s_.1 ≠ gb234) ∧ (gb235 ≠ s_.1) ∧ (s_.1 ≠ gb235) ∧ (s_.2 ≠ s_.1) ∧ (s_.1 ≠ s_.2) ∧ (w.heap.size ≤ s_.2) ∧ (w.heap.size ≤ s_.2) ∧ (gb233 ≠ s_.2) ∧ (s_.2 ≠ gb233) ∧ (gb234 ≠ s_.2) ∧ (s_.2 ≠ gb234) ∧ (gb235 ≠ s_.2) ∧ (s_.2 ≠ gb235) ∧ (Below w.heap.size w w')) ?_ ?_
            rotate_left
            ·
             intro hJ3_10_11
             refine join_ (σ := Unit) 6 zq5.q29 (fun s_ => [(19, .agg #[.int .u8 t248, .int .u8 t249, .int .u8 t250, .int .u8 t251]), (20, .agg #[.int .u8 t252, .int .u8 t253, .int .u8 t254, .int .u8 t255])]) (fun s_ w' => (w'.cell? ⟨gb233, 0, none⟩ = some (.int .u8 t236) ∧ w'.cell? ⟨gb233, 1, none⟩ = some (.int .u8 t237) ∧ w'.cell? ⟨gb233, 2, none⟩ = some (.int .u8 t238) ∧ w'.cell? ⟨gb233, 3, none⟩ = some (.int .u8 t239) ∧ w'.cell? ⟨gb234, 0, none⟩ = some (.int .u8 t240) ∧ w'.cell? ⟨gb234, 1, none⟩ = some (.int .u8 t241) ∧ w'.cell? ⟨gb234, 2, none⟩ = some (.int .u8 t242) ∧ w'.cell? ⟨gb234, 3, none⟩ = some (.int .u8 t243) ∧ w'.cell? ⟨gb235, 0, none⟩ = some (.int .u8 t244) ∧ w'.cell? ⟨gb235, 1, none⟩ = some (.int .u8 t245) ∧ w'.cell? ⟨gb235, 2, none⟩ = some (.int .u8 t246) ∧ w'.cell? ⟨gb235, 3, none⟩ = some (.int .u8 t247)) ∧ (w'.heap[gb233]? = some (.cells #[.int .u8 t236, .int .u8 t237, .int .u8 t238, .int .u8 t239] 23 (0, 0))) ∧ (w'.heap[gb234]? = some (.cells #[.int .u8 t240, .int .u8 t241, .int .u8 t242, .int .u8 t243] 23 (0, 0))) ∧ (w'.heap[gb235]? = some (.cells #[.int .u8 t244, .int .u8 t245, .int .u8 t246, .int .u8 t247] 23 (0, 0))) ∧ (Below w.heap.size w w')) ?_ ?_
             rotate_left
             ·
              intro hJ3_4
              refine join_ (σ := Nat) 6 zq5.q30 (fun s_ => [(19, .agg #[.int .u8 t248, .int .u8 t249, .int .u8 t250, .int .u8 t251]), (7, .pointer (some ⟨s_, 0, none⟩))]) (fun s_ w' => (w'.cell? ⟨gb233, 0, none⟩ = some (.int .u8 t236) ∧ w'.cell? ⟨gb233, 1, none⟩ = some (.int .u8 t237) ∧ w'.cell? ⟨gb233, 2, none⟩ = some (.int .u8 t238) ∧ w'.cell? ⟨gb233, 3, none⟩ = some (.int .u8 t239) ∧ w'.cell? ⟨gb234, 0, none⟩ = some (.int .u8 t240) ∧ w'.cell? ⟨gb234, 1, none⟩ = some (.int .u8 t241) ∧ w'.cell? ⟨gb234, 2, none⟩ = some (.int .u8 t242) ∧ w'.cell? ⟨gb234, 3, none⟩ = some (.int .u8 t243) ∧ w'.cell? ⟨gb235, 0, none⟩ = some (.int .u8 t244) ∧ w'.cell? ⟨gb235, 1, none⟩ = some (.int .u8 t245) ∧ w'.cell? ⟨gb235, 2, none⟩ = some (.int .u8 t246) ∧ w'.cell? ⟨gb235, 3, none⟩ = some (.int .u8 t247)) ∧ (w'.heap[gb233]? = some (.cells #[.int .u8 t236, .int .u8 t237, .int .u8 t238, .int .u8 t239] 23 (0, 0))) ∧ (w'.heap[gb234]? = some (.cells #[.int .u8 t240, .int .u8 t241, .int .u8 t242, .int .u8 t243] 23 (0, 0))) ∧ (w'.heap[gb235]? = some (.cells #[.int .u8 t244, .int .u8 t245, .int .u8 t246, .int .u8 t247] 23 (0, 0))) ∧ (w'.heap[s_]? = some (.cells #[.int .u8 0, .int .u8 0, .int .u8 0, .int .u8 0] 23 (0, 0))) ∧ (w.heap.size ≤ s_) ∧ (w.heap.size ≤ s_) ∧ (gb233 ≠ s_) ∧ (s_ ≠ gb233) ∧ (gb234 ≠ s_) ∧ (s_ ≠ gb234) ∧ (gb235 ≠ s_) ∧ (s_ ≠ gb235) ∧ (Below w.heap.size w w')) ?_ ?_
              rotate_left
              ·
               intro hJ3_10
               refine join_ (σ := Nat) 6 zq5.q31 (fun s_ => [(19, .agg #[.int .u8 t248, .int .u8 t249, .int .u8 t250, .int .u8 t251]), (8, .pointer (some ⟨s_, 0, none⟩))]) (fun s_ w' => (w'.cell? ⟨gb233, 0, none⟩ = some (.int .u8 t236) ∧ w'.cell? ⟨gb233, 1, none⟩ = some (.int .u8 t237) ∧ w'.cell? ⟨gb233, 2, none⟩ = some (.int .u8 t238) ∧ w'.cell? ⟨gb233, 3, none⟩ = some (.int .u8 t239) ∧ w'.cell? ⟨gb234, 0, none⟩ = some (.int .u8 t240) ∧ w'.cell? ⟨gb234, 1, none⟩ = some (.int .u8 t241) ∧ w'.cell? ⟨gb234, 2, none⟩ = some (.int .u8 t242) ∧ w'.cell? ⟨gb234, 3, none⟩ = some (.int .u8 t243) ∧ w'.cell? ⟨gb235, 0, none⟩ = some (.int .u8 t244) ∧ w'.cell? ⟨gb235, 1, none⟩ = some (.int .u8 t245) ∧ w'.cell? ⟨gb235, 2, none⟩ = some (.int .u8 t246) ∧ w'.cell? ⟨gb235, 3, none⟩ = some (.int .u8 t247)) ∧ (w'.heap[gb233]? = some (.cells #[.int .u8 t236, .int .u8 t237, .int .u8 t238, .int .u8 t239] 23 (0, 0))) ∧ (w'.heap[gb234]? = some (.cells #[.int .u8 t240, .int .u8 t241, .int .u8 t242, .int .u8 t243] 23 (0, 0))) ∧ (w'.heap[gb235]? = some (.cells #[.int .u8 t244, .int .u8 t245, .int .u8 t246, .int .u8 t247] 23 (0, 0))) ∧ (w'.heap[s_]? = some (.cells #[.int .u8 0, .int .u8 0, .int .u8 0, .int .u8 0] 23 (0, 0))) ∧ (w.heap.size ≤ s_) ∧ (w.heap.size ≤ s_) ∧ (gb233 ≠ s_) ∧ (s_ ≠ gb233) ∧ (gb234 ≠ s_) ∧ (s_ ≠ gb234) ∧ (gb235 ≠ s_) ∧ (s_ ≠ gb235) ∧ (Below w.heap.size w w')) ?_ ?_
               rotate_left
               ·
                intro hJ3_11
                refine join_ (σ := Nat × Nat) 6 zq5.q32 (fun s_ => [(7, .pointer (some ⟨s_.1, 0, none⟩)), (8, .pointer (some ⟨s_.2, 0, none⟩))]) (fun s_ w' => (w'.cell? ⟨gb233, 0, none⟩ = some (.int .u8 t236) ∧ w'.cell? ⟨gb233, 1, none⟩ = some (.int .u8 t237) ∧ w'.cell? ⟨gb233, 2, none⟩ = some (.int .u8 t238) ∧ w'.cell? ⟨gb233, 3, none⟩ = some (.int .u8 t239) ∧ w'.cell? ⟨gb234, 0, none⟩ = some (.int .u8 t240) ∧ w'.cell? ⟨gb234, 1, none⟩ = some (.int .u8 t241) ∧ w'.cell? ⟨gb234, 2, none⟩ = some (.int .u8 t242) ∧ w'.cell? ⟨gb234, 3, none⟩ = some (.int .u8 t243) ∧ w'.cell? ⟨gb235, 0, none⟩ = some (.int .u8 t244) ∧ w'.cell? ⟨gb235, 1, none⟩ = some (.int .u8 t245) ∧ w'.cell? ⟨gb235, 2, none⟩ = some (.int .u8 t246) ∧ w'.cell? ⟨gb235, 3, none⟩ = some (.int .u8 t247)) ∧ (w'.heap[gb233]? = some (.cells #[.int .u8 t236, .int .u8 t237, .int .u8 t238, .int .u8 t239] 23 (0, 0))) ∧ (w'.heap[gb234]? = some (.cells #[.int .u8 t240, .int .u8 t241, .int .u8 t242, .int .u8 t243] 23 (0, 0))) ∧ (w'.heap[gb235]? = some (.cells #[.int .u8 t244, .int .u8 t245, .int .u8 t246, .int .u8 t247] 23 (0, 0))) ∧ (w'.heap[s_.1]? = some (.cells #[.int .u8 0, .int .u8 0, .int .u8 0, .int .u8 0] 23 (0, 0))) ∧ (w'.heap[s_.2]? = some (.cells #[.int .u8 0, .int .u8 0, .int .u8 0, .int .u8 0] 23 (0, 0))) ∧ (w.heap.size ≤ s_.1) ∧ (w.heap.size ≤ s_.1) ∧ (gb233 ≠ s_.1) ∧ (s_.1 ≠ gb233) ∧ (gb234 ≠ s_.1) ∧ (s_.1 ≠ gb234) ∧ (gb235 ≠ s_.1) ∧ (s_.1 ≠ gb235) ∧ (s_.2 ≠ s_.1) ∧ (s_.1 ≠ s_.2) ∧ (w.heap.size ≤ s_.2) ∧ (w.heap.size ≤ s_.2) ∧ (gb233 ≠ s_.2) ∧ (s_.2 ≠ gb233) ∧ (gb234 ≠ s_.2) ∧ (s_.2 ≠ gb234) ∧ (gb235 ≠ s_.2) ∧ (s_.2 ≠ gb235) ∧ (Below w.heap.size w w')) ?_ ?_
                rotate_left
                ·
                 intro hJ10_11
                 refine join_ (σ := Unit) 7 zq5.q33 (fun s_ => [(19, .agg #[.int .u8 t248, .int .u8 t249, .int .u8 t250, .int .u8 t251])]) (fun s_ w' => (w'.cell? ⟨gb233, 0, none⟩ = some (.int .u8 t236) ∧ w'.cell? ⟨gb233, 1, none⟩ = some (.int .u8 t237) ∧ w'.cell? ⟨gb233, 2, none⟩ = some (.int .u8 t238) ∧ w'.cell? ⟨gb233, 3, none⟩ = some (.int .u8 t239) ∧ w'.cell? ⟨gb234, 0, none⟩ = some (.int .u8 t240) ∧ w'.cell? ⟨gb234, 1, none⟩ = some (.int .u8 t241) ∧ w'.cell? ⟨gb234, 2, none⟩ = some (.int .u8 t242) ∧ w'.cell? ⟨gb234, 3, none⟩ = some (.int .u8 t243) ∧ w'.cell? ⟨gb235, 0, none⟩ = some (.int .u8 t244) ∧ w'.cell? ⟨gb235, 1, none⟩ = some (.int .u8 t245) ∧ w'.cell? ⟨gb235, 2, none⟩ = some (.int .u8 t246) ∧ w'.cell? ⟨gb235, 3, none⟩ = some (.int .u8 t247)) ∧ (w'.heap[gb233]? = some (.cells #[.int .u8 t236, .int .u8 t237, .int .u8 t238, .int .u8 t239] 23 (0, 0))) ∧ (w'.heap[gb234]? = some (.cells #[.int .u8 t240, .int .u8 t241, .int .u8 t242, .int .u8 t243] 23 (0, 0))) ∧ (w'.heap[gb235]? = some (.cells #[.int .u8 t244, .int .u8 t245, .int .u8 t246, .int .u8 t247] 23 (0, 0))) ∧ (Below w.heap.size w w')) ?_ ?_
                 rotate_left
                 ·
                  intro hJ3
                  refine join_ (σ := Nat) 7 zq5.q34 (fun s_ => [(7, .pointer (some ⟨s_, 0, none⟩))]) (fun s_ w' => (w'.cell? ⟨gb233, 0, none⟩ = some (.int .u8 t236) ∧ w'.cell? ⟨gb233, 1, none⟩ = some (.int .u8 t237) ∧ w'.cell? ⟨gb233, 2, none⟩ = some (.int .u8 t238) ∧ w'.cell? ⟨gb233, 3, none⟩ = some (.int .u8 t239) ∧ w'.cell? ⟨gb234, 0, none⟩ = some (.int .u8 t240) ∧ w'.cell? ⟨gb234, 1, none⟩ = some (.int .u8 t241) ∧ w'.cell? ⟨gb234, 2, none⟩ = some (.int .u8 t242) ∧ w'.cell? ⟨gb234, 3, none⟩ = some (.int .u8 t243) ∧ w'.cell? ⟨gb235, 0, none⟩ = some (.int .u8 t244) ∧ w'.cell? ⟨gb235, 1, none⟩ = some (.int .u8 t245) ∧ w'.cell? ⟨gb235, 2, none⟩ = some (.int .u8 t246) ∧ w'.cell? ⟨gb235, 3, none⟩ = some (.int .u8 t247)) ∧ (w'.heap[gb233]? = some (.cells #[.int .u8 t236, .int .u8 t237, .int .u8 t238, .int .u8 t239] 23 (0, 0))) ∧ (w'.heap[gb234]? = some (.cells #[.int .u8 t240, .int .u8 t241, .int .u8 t242, .int .u8 t243] 23 (0, 0))) ∧ (w'.heap[gb235]? = some (.cells #[.int .u8 t244, .int .u8 t245, .int .u8 t246, .int .u8 t247] 23 (0, 0))) ∧ (w'.heap[s_]? = some (.cells #[.int .u8 0, .int .u8 0, .int .u8 0, .int .u8 0] 23 (0, 0))) ∧ (w.heap.size ≤ s_) ∧ (w.heap.size ≤ s_) ∧ (gb233 ≠ s_) ∧ (s_ ≠ gb233) ∧ (gb234 ≠ s_) ∧ (s_ ≠ gb234) ∧ (gb235 ≠ s_) ∧ (s_ ≠ gb235) ∧ (Below w.heap.size w w')) ?_ ?_
                  rotate_left
                  ·
                   intro hJ10
                   refine join_ (σ := Nat) 7 zq5.q35 (fun s_ => [(8, .pointer (some ⟨s_, 0, none⟩))]) (fun s_ w' => (w'.cell? ⟨gb233, 0, none⟩ = some (.int .u8 t236) ∧ w'.cell? ⟨gb233, 1, none⟩ = some (.int .u8 t237) ∧ w'.cell? ⟨gb233, 2, none⟩ = some (.int .u8 t238) ∧ w'.cell? ⟨gb233, 3, none⟩ = some (.int .u8 t239) ∧ w'.cell? ⟨gb234, 0, none⟩ = some (.int .u8 t240) ∧ w'.cell? ⟨gb234, 1, none⟩ = some (.int .u8 t241) ∧ w'.cell? ⟨gb234, 2, none⟩ = some (.int .u8 t242) ∧ w'.cell? ⟨gb234, 3, none⟩ = some (.int .u8 t243) ∧ w'.cell? ⟨gb235, 0, none⟩ = some (.int .u8 t244) ∧ w'.cell? ⟨gb235, 1, none⟩ = some (.int .u8 t245) ∧ w'.cell? ⟨gb235, 2, none⟩ = some (.int .u8 t246) ∧ w'.cell? ⟨gb235, 3, none⟩ = some (.int .u8 t247)) ∧ (w'.heap[gb233]? = some (.cells #[.int .u8 t236, .int .u8 t237, .int .u8 t238, .int .u8 t239] 23 (0, 0))) ∧ (w'.heap[gb234]? = some (.cells #[.int .u8 t240, .int .u8 t241, .int .u8 t242, .int .u8 t243] 23 (0, 0))) ∧ (w'.heap[gb235]? = some (.cells #[.int .u8 t244, .int .u8 t245, .int .u8 t246, .int .u8 t247] 23 (0, 0))) ∧ (w'.heap[s_]? = some (.cells #[.int .u8 0, .int .u8 0, .int .u8 0, .int .u8 0] 23 (0, 0))) ∧ (w.heap.size ≤ s_) ∧ (w.heap.size ≤ s_) ∧ (gb233 ≠ s_) ∧ (s_ ≠ gb233) ∧ (gb234 ≠ s_) ∧ (s_ ≠ gb234) ∧ (gb235 ≠ s_) ∧ (s_ ≠ gb235) ∧ (Below w.heap.size w w')) ?_ ?_
                   rotate_left
                   ·
                    intro hJ11
                    refine three_ (i := 3) (j := 10) (k := 11) (Ni := some 19) (Nj := some 7) (Nk := some 8) zq5.q33 zq5.q34 zq5.q35 rfl rfl rfl rfl rfl rfl (three_of HT_.out (by kernel_rfl)) (by decide) (by decide) (by decide) (fun K hK => ?_) (fun K hK => ?_) (fun K hK => ?_)
                    ·
                     refine gs_ Try.func13 #[.agg #[.int .u8 t240, .int .u8 t241, .int .u8 t242, .int .u8 t243], .agg #[.int .u8 t244, .int .u8 t245, .int .u8 t246, .int .u8 t247]] ?_
                     with_reducible refine (pixel_Over.calls t240 t241 t242 t243 t244 t245 t246 t247 t248 t249 t250 t251 _ A7.out).mono ?_
                     rintro e w33 ⟨rfl, hb⟩
                     refine ⟨_, rfl, ?_⟩
                     replace BK233 := bb_ BK233 hb
                     replace BK234 := bb_ BK234 hb
                     replace BK235 := bb_ BK235 hb
                     replace HB := hb_ HB hb
                     (try clear hb); (try clear hb2); (try clear hk); (try clear hi)
                     refine hK.out _ _ (a4_ BK233 (a4_ BK234 (h4_ BK235))) (fun hHeld => ?_)
                     clear hK K
                     refine norm_ (a' := ?_) ?_ ?_
                     rotate_left
                     ·
                      show Act.put _ (some 19) _ = _
                      simp only [Act.put, List.setIfInBounds_toArray, List.set_cons_zero, List.set_cons_succ, i64_w, i32_w]
                      rfl
                     exact norm_ (by simp only [putAll, Act.put, List.setIfInBounds_toArray, List.set_cons_zero, List.set_cons_succ] <;> rfl) (hJ3 () _ ⟨hHeld, (bq_ BK233), (bq_ BK234), (bq_ BK235), (hq_ HB)⟩)
                    ·
                     refine box_step ?hg (N := 7) ?hd (cs := #[.int .u8 0, .int .u8 0, .int .u8 0, .int .u8 0]) (t := 23) ?hr ?_; (case hd => rfl); (case hg => rfl); (case hr => first | (go_simp; done) | (go_simp; rfl))
                     intro gb264 hg w33 hbox hb
                     have BK264 := Aside0.mk (hbox)
                     have GW264 := Aside0.mk ((by rw [hg]; exact (below_size (hq_ HB)) : w.heap.size ≤ gb264))
                     have GE264 := Aside0.mk ((by rw [hg]; exact (below_size (hq_ HB)) : w.heap.size ≤ gb264))
                     replace HB := hb_ HB hb
                     have NB233_264 := Aside0.mk ((by rw [hg]; exact Nat.ne_of_lt (blk_lt (g := gb233) (o := .cells #[.int .u8 t236, .int .u8 t237, .int .u8 t238, .int .u8 t239] 23 (0, 0)) (bq_ BK233)) : gb233 ≠ gb264))
                     have NB264_233 := Aside0.mk ((by rw [hg]; exact Nat.ne_of_gt (blk_lt (g := gb233) (o := .cells #[.int .u8 t236, .int .u8 t237, .int .u8 t238, .int .u8 t239] 23 (0, 0)) (bq_ BK233)) : gb264 ≠ gb233))
                     replace BK233 := bb_ BK233 hb
                     have NB234_264 := Aside0.mk ((by rw [hg]; exact Nat.ne_of_lt (blk_lt (g := gb234) (o := .cells #[.int .u8 t240, .int .u8 t241, .int .u8 t242, .int .u8 t243] 23 (0, 0)) (bq_ BK234)) : gb234 ≠ gb264))
                     have NB264_234 := Aside0.mk ((by rw [hg]; exact Nat.ne_of_gt (blk_lt (g := gb234) (o := .cells #[.int .u8 t240, .int .u8 t241, .int .u8 t242, .int .u8 t243] 23 (0, 0)) (bq_ BK234)) : gb264 ≠ gb234))
                     replace BK234 := bb_ BK234 hb
                     have NB235_264 := Aside0.mk ((by rw [hg]; exact Nat.ne_of_lt (blk_lt (g := gb235) (o := .cells #[.int .u8 t244, .int .u8 t245, .int .u8 t246, .int .u8 t247] 23 (0, 0)) (bq_ BK235)) : gb235 ≠ gb264))
                     have NB264_235 := Aside0.mk ((by rw [hg]; exact Nat.ne_of_gt (blk_lt (g := gb235) (o := .cells #[.int .u8 t244, .int .u8 t245, .int .u8 t246, .int .u8 t247] 23 (0, 0)) (bq_ BK235)) : gb264 ≠ gb235))
                     replace BK235 := bb_ BK235 hb
                     clear hb hbox hg
                     refine hK.out _ _ (a4_ BK233 (a4_ BK234 (h4_ BK235))) (fun hHeld => ?_)
                     clear hK K
                     refine norm_ (a' := ?_) ?_ ?_
                     rotate_left
                     ·
                      show Act.put _ (some 7) _ = _
                      simp only [Act.put, List.setIfInBounds_toArray, List.set_cons_zero, List.set_cons_succ, i64_w, i32_w]
                      rfl
                     exact norm_ (by simp only [putAll, Act.put, List.setIfInBounds_toArray, List.set_cons_zero, List.set_cons_succ] <;> rfl) (hJ10 (gb264) _ ⟨hHeld, (bq_ BK233), (bq_ BK234), (bq_ BK235), (bq_ BK264), GW264.out, GE264.out, NB233_264.out, NB264_233.out, NB234_264.out, NB264_234.out, NB235_264.out, NB264_235.out, (hq_ HB)⟩)
                    ·
                     refine box_step ?hg (N := 8) ?hd (cs := #[.int .u8 0, .int .u8 0, .int .u8 0, .int .u8 0]) (t := 23) ?hr ?_; (case hd => rfl); (case hg => rfl); (case hr => first | (go_simp; done) | (go_simp; rfl))
                     intro gb265 hg w33 hbox hb
                     have BK265 := Aside0.mk (hbox)
                     have GW265 := Aside0.mk ((by rw [hg]; exact (below_size (hq_ HB)) : w.heap.size ≤ gb265))
                     have GE265 := Aside0.mk ((by rw [hg]; exact (below_size (hq_ HB)) : w.heap.size ≤ gb265))
                     replace HB := hb_ HB hb
                     have NB233_265 := Aside0.mk ((by rw [hg]; exact Nat.ne_of_lt (blk_lt (g := gb233) (o := .cells #[.int .u8 t236, .int .u8 t237, .int .u8 t238, .int .u8 t239] 23 (0, 0)) (bq_ BK233)) : gb233 ≠ gb265))
                     have NB265_233 := Aside0.mk ((by rw [hg]; exact Nat.ne_of_gt (blk_lt (g := gb233) (o := .cells #[.int .u8 t236, .int .u8 t237, .int .u8 t238, .int .u8 t239] 23 (0, 0)) (bq_ BK233)) : gb265 ≠ gb233))
                     replace BK233 := bb_ BK233 hb
                     have NB234_265 := Aside0.mk ((by rw [hg]; exact Nat.ne_of_lt (blk_lt (g := gb234) (o := .cells #[.int .u8 t240, .int .u8 t241, .int .u8 t242, .int .u8 t243] 23 (0, 0)) (bq_ BK234)) : gb234 ≠ gb265))
                     have NB265_234 := Aside0.mk ((by rw [hg]; exact Nat.ne_of_gt (blk_lt (g := gb234) (o := .cells #[.int .u8 t240, .int .u8 t241, .int .u8 t242, .int .u8 t243] 23 (0, 0)) (bq_ BK234)) : gb265 ≠ gb234))
                     replace BK234 := bb_ BK234 hb
                     have NB235_265 := Aside0.mk ((by rw [hg]; exact Nat.ne_of_lt (blk_lt (g := gb235) (o := .cells #[.int .u8 t244, .int .u8 t245, .int .u8 t246, .int .u8 t247] 23 (0, 0)) (bq_ BK235)) : gb235 ≠ gb265))
                     have NB265_235 := Aside0.mk ((by rw [hg]; exact Nat.ne_of_gt (blk_lt (g := gb235) (o := .cells #[.int .u8 t244, .int .u8 t245, .int .u8 t246, .int .u8 t247] 23 (0, 0)) (bq_ BK235)) : gb265 ≠ gb235))
                     replace BK235 := bb_ BK235 hb
                     clear hb hbox hg
                     refine hK.out _ _ (a4_ BK233 (a4_ BK234 (h4_ BK235))) (fun hHeld => ?_)
                     clear hK K
                     refine norm_ (a' := ?_) ?_ ?_
                     rotate_left
                     ·
                      show Act.put _ (some 8) _ = _
                      simp only [Act.put, List.setIfInBounds_toArray, List.set_cons_zero, List.set_cons_succ, i64_w, i32_w]
                      rfl
                     exact norm_ (by simp only [putAll, Act.put, List.setIfInBounds_toArray, List.set_cons_zero, List.set_cons_succ] <;> rfl) (hJ11 (gb265) _ ⟨hHeld, (bq_ BK233), (bq_ BK234), (bq_ BK235), (bq_ BK265), GW265.out, GE265.out, NB233_265.out, NB265_233.out, NB234_265.out, NB265_234.out, NB235_265.out, NB265_235.out, (hq_ HB)⟩)
                   ·
                    rintro gb265 w34 ⟨hS_, h0_, h1_, h2_, h3_, h4_, h5_, h6_, h7_, h8_, h9_, h10_, h11_, h12_⟩
                    replace BK233 := Aside0.mk h0_
                    replace BK234 := Aside0.mk h1_
                    replace BK235 := Aside0.mk h2_
                    have BK265 := Aside0.mk h3_
                    have GW265 := Aside0.mk h4_
                    have GE265 := Aside0.mk h5_
                    have NB233_265 := Aside0.mk h6_
                    have NB265_233 := Aside0.mk h7_
                    have NB234_265 := Aside0.mk h8_
                    have NB265_234 := Aside0.mk h9_
                    have NB235_265 := Aside0.mk h10_
                    have NB265_235 := Aside0.mk h11_
                    replace HB := Aside0.mk h12_
                    clear h0_ h1_ h2_ h3_ h4_ h5_ h6_ h7_ h8_ h9_ h10_ h11_ h12_
                    have hHeld := hS_
                    refine norm_ (a' := ?_) ?_ ?_
                    rotate_left
                    ·
                     simp only [putAll, Act.put, List.setIfInBounds_toArray, List.set_cons_zero, List.set_cons_succ]
                     rfl
                    refine two_ (i := 3) (j := 10) (Ni := some 19) (Nj := some 7) zq5.q31 zq5.q32 rfl rfl rfl rfl (two_of HT_.out (by kernel_rfl)) (by decide) (by decide) (fun K hK => ?_) (fun K hK => ?_)
                    ·
                     refine gs_ Try.func13 #[.agg #[.int .u8 t240, .int .u8 t241, .int .u8 t242, .int .u8 t243], .agg #[.int .u8 t244, .int .u8 t245, .int .u8 t246, .int .u8 t247]] ?_
                     with_reducible refine (pixel_Over.calls t240 t241 t242 t243 t244 t245 t246 t247 t248 t249 t250 t251 _ A7.out).mono ?_
                     rintro e w35 ⟨rfl, hb⟩
                     refine ⟨_, rfl, ?_⟩
                     replace BK233 := bb_ BK233 hb
                     replace BK234 := bb_ BK234 hb
                     replace BK235 := bb_ BK235 hb
                     replace BK265 := bb_ BK265 hb
                     replace HB := hb_ HB hb
                     (try clear hb); (try clear hb2); (try clear hk); (try clear hi)
                     refine hK.out _ _ (a4_ BK233 (a4_ BK234 (h4_ BK235))) (fun hHeld => ?_)
                     clear hK K
                     refine norm_ (a' := ?_) ?_ ?_
                     rotate_left
                     ·
                      show Act.put _ (some 19) _ = _
                      simp only [Act.put, List.setIfInBounds_toArray, List.set_cons_zero, List.set_cons_succ, i64_w, i32_w]
                      rfl
                     exact norm_ (by simp only [putAll, Act.put, List.setIfInBounds_toArray, List.set_cons_zero, List.set_cons_succ] <;> rfl) (hJ3_11 (gb265) _ ⟨hHeld, (bq_ BK233), (bq_ BK234), (bq_ BK235), (bq_ BK265), GW265.out, GE265.out, NB233_265.out, NB265_233.out, NB234_265.out, NB265_234.out, NB235_265.out, NB265_235.out, (hq_ HB)⟩)
                    ·
                     refine box_step ?hg (N := 7) ?hd (cs := #[.int .u8 0, .int .u8 0, .int .u8 0, .int .u8 0]) (t := 23) ?hr ?_; (case hd => rfl); (case hg => rfl); (case hr => first | (go_simp; done) | (go_simp; rfl))
                     intro gb264 hg w35 hbox hb
                     have BK264 := Aside0.mk (hbox)
                     have GW264 := Aside0.mk ((by rw [hg]; exact (below_size (hq_ HB)) : w.heap.size ≤ gb264))
                     have GE264 := Aside0.mk ((by rw [hg]; exact (below_size (hq_ HB)) : w.heap.size ≤ gb264))
                     replace HB := hb_ HB hb
                     have NB233_264 := Aside0.mk ((by rw [hg]; exact Nat.ne_of_lt (blk_lt (g := gb233) (o := .cells #[.int .u8 t236, .int .u8 t237, .int .u8 t238, .int .u8 t239] 23 (0, 0)) (bq_ BK233)) : gb233 ≠ gb264))
                     have NB264_233 := Aside0.mk ((by rw [hg]; exact Nat.ne_of_gt (blk_lt (g := gb233) (o := .cells #[.int .u8 t236, .int .u8 t237, .int .u8 t238, .int .u8 t239] 23 (0, 0)) (bq_ BK233)) : gb264 ≠ gb233))
                     replace BK233 := bb_ BK233 hb
                     have NB234_264 := Aside0.mk ((by rw [hg]; exact Nat.ne_of_lt (blk_lt (g := gb234) (o := .cells #[.int .u8 t240, .int .u8 t241, .int .u8 t242, .int .u8 t243] 23 (0, 0)) (bq_ BK234)) : gb234 ≠ gb264))
                     have NB264_234 := Aside0.mk ((by rw [hg]; exact Nat.ne_of_gt (blk_lt (g := gb234) (o := .cells #[.int .u8 t240, .int .u8 t241, .int .u8 t242, .int .u8 t243] 23 (0, 0)) (bq_ BK234)) : gb264 ≠ gb234))
                     replace BK234 := bb_ BK234 hb
                     have NB235_264 := Aside0.mk ((by rw [hg]; exact Nat.ne_of_lt (blk_lt (g := gb235) (o := .cells #[.int .u8 t244, .int .u8 t245, .int .u8 t246, .int .u8 t247] 23 (0, 0)) (bq_ BK235)) : gb235 ≠ gb264))
                     have NB264_235 := Aside0.mk ((by rw [hg]; exact Nat.ne_of_gt (blk_lt (g := gb235) (o := .cells #[.int .u8 t244, .int .u8 t245, .int .u8 t246, .int .u8 t247] 23 (0, 0)) (bq_ BK235)) : gb264 ≠ gb235))
                     replace BK235 := bb_ BK235 hb
                     have NB265_264 := Aside0.mk ((by rw [hg]; exact Nat.ne_of_lt (blk_lt (g := gb265) (o := .cells #[.int .u8 0, .int .u8 0, .int .u8 0, .int .u8 0] 23 (0, 0)) (bq_ BK265)) : gb265 ≠ gb264))
                     have NB264_265 := Aside0.mk ((by rw [hg]; exact Nat.ne_of_gt (blk_lt (g := gb265) (o := .cells #[.int .u8 0, .int .u8 0, .int .u8 0, .int .u8 0] 23 (0, 0)) (bq_ BK265)) : gb264 ≠ gb265))
                     replace BK265 := bb_ BK265 hb
                     clear hb hbox hg
                     refine hK.out _ _ (a4_ BK233 (a4_ BK234 (h4_ BK235))) (fun hHeld => ?_)
                     clear hK K
                     refine norm_ (a' := ?_) ?_ ?_
                     rotate_left
                     ·
                      show Act.put _ (some 7) _ = _
                      simp only [Act.put, List.setIfInBounds_toArray, List.set_cons_zero, List.set_cons_succ, i64_w, i32_w]
                      rfl
                     exact norm_ (by simp only [putAll, Act.put, List.setIfInBounds_toArray, List.set_cons_zero, List.set_cons_succ] <;> rfl) (hJ10_11 (gb264, gb265) _ ⟨hHeld, (bq_ BK233), (bq_ BK234), (bq_ BK235), (bq_ BK264), (bq_ BK265), GW264.out, GE264.out, NB233_264.out, NB264_233.out, NB234_264.out, NB264_234.out, NB235_264.out, NB264_235.out, NB265_264.out, NB264_265.out, GW265.out, GE265.out, NB233_265.out, NB265_233.out, NB234_265.out, NB265_234.out, NB235_265.out, NB265_235.out, (hq_ HB)⟩)
                  ·
                   rintro gb264 w34 ⟨hS_, h0_, h1_, h2_, h3_, h4_, h5_, h6_, h7_, h8_, h9_, h10_, h11_, h12_⟩
                   replace BK233 := Aside0.mk h0_
                   replace BK234 := Aside0.mk h1_
                   replace BK235 := Aside0.mk h2_
                   have BK264 := Aside0.mk h3_
                   have GW264 := Aside0.mk h4_
                   have GE264 := Aside0.mk h5_
                   have NB233_264 := Aside0.mk h6_
                   have NB264_233 := Aside0.mk h7_
                   have NB234_264 := Aside0.mk h8_
                   have NB264_234 := Aside0.mk h9_
                   have NB235_264 := Aside0.mk h10_
                   have NB264_235 := Aside0.mk h11_
                   replace HB := Aside0.mk h12_
                   clear h0_ h1_ h2_ h3_ h4_ h5_ h6_ h7_ h8_ h9_ h10_ h11_ h12_
                   have hHeld := hS_
                   refine norm_ (a' := ?_) ?_ ?_
                   rotate_left
                   ·
                    simp only [putAll, Act.put, List.setIfInBounds_toArray, List.set_cons_zero, List.set_cons_succ]
                    rfl
                   refine two_ (i := 3) (j := 11) (Ni := some 19) (Nj := some 8) zq5.q30 zq5.q32 rfl rfl rfl rfl (two_of HT_.out (by kernel_rfl)) (by decide) (by decide) (fun K hK => ?_) (fun K hK => ?_)
                   ·
                    refine gs_ Try.func13 #[.agg #[.int .u8 t240, .int .u8 t241, .int .u8 t242, .int .u8 t243], .agg #[.int .u8 t244, .int .u8 t245, .int .u8 t246, .int .u8 t247]] ?_
                    with_reducible refine (pixel_Over.calls t240 t241 t242 t243 t244 t245 t246 t247 t248 t249 t250 t251 _ A7.out).mono ?_
                    rintro e w35 ⟨rfl, hb⟩
                    refine ⟨_, rfl, ?_⟩
                    replace BK233 := bb_ BK233 hb
                    replace BK234 := bb_ BK234 hb
                    replace BK235 := bb_ BK235 hb
                    replace BK264 := bb_ BK264 hb
                    replace HB := hb_ HB hb
                    (try clear hb); (try clear hb2); (try clear hk); (try clear hi)
                    refine hK.out _ _ (a4_ BK233 (a4_ BK234 (h4_ BK235))) (fun hHeld => ?_)
                    clear hK K
                    refine norm_ (a' := ?_) ?_ ?_
                    rotate_left
                    ·
                     show Act.put _ (some 19) _ = _
                     simp only [Act.put, List.setIfInBounds_toArray, List.set_cons_zero, List.set_cons_succ, i64_w, i32_w]
                     rfl
                    exact norm_ (by simp only [putAll, Act.put, List.setIfInBounds_toArray, List.set_cons_zero, List.set_cons_succ] <;> rfl) (hJ3_10 (gb264) _ ⟨hHeld, (bq_ BK233), (bq_ BK234), (bq_ BK235), (bq_ BK264), GW264.out, GE264.out, NB233_264.out, NB264_233.out, NB234_264.out, NB264_234.out, NB235_264.out, NB264_235.out, (hq_ HB)⟩)
                   ·
                    refine box_step ?hg (N := 8) ?hd (cs := #[.int .u8 0, .int .u8 0, .int .u8 0, .int .u8 0]) (t := 23) ?hr ?_; (case hd => rfl); (case hg => rfl); (case hr => first | (go_simp; done) | (go_simp; rfl))
                    intro gb265 hg w35 hbox hb
                    have BK265 := Aside0.mk (hbox)
                    have GW265 := Aside0.mk ((by rw [hg]; exact (below_size (hq_ HB)) : w.heap.size ≤ gb265))
                    have GE265 := Aside0.mk ((by rw [hg]; exact (below_size (hq_ HB)) : w.heap.size ≤ gb265))
                    replace HB := hb_ HB hb
                    have NB233_265 := Aside0.mk ((by rw [hg]; exact Nat.ne_of_lt (blk_lt (g := gb233) (o := .cells #[.int .u8 t236, .int .u8 t237, .int .u8 t238, .int .u8 t239] 23 (0, 0)) (bq_ BK233)) : gb233 ≠ gb265))
                    have NB265_233 := Aside0.mk ((by rw [hg]; exact Nat.ne_of_gt (blk_lt (g := gb233) (o := .cells #[.int .u8 t236, .int .u8 t237, .int .u8 t238, .int .u8 t239] 23 (0, 0)) (bq_ BK233)) : gb265 ≠ gb233))
                    replace BK233 := bb_ BK233 hb
                    have NB234_265 := Aside0.mk ((by rw [hg]; exact Nat.ne_of_lt (blk_lt (g := gb234) (o := .cells #[.int .u8 t240, .int .u8 t241, .int .u8 t242, .int .u8 t243] 23 (0, 0)) (bq_ BK234)) : gb234 ≠ gb265))
                    have NB265_234 := Aside0.mk ((by rw [hg]; exact Nat.ne_of_gt (blk_lt (g := gb234) (o := .cells #[.int .u8 t240, .int .u8 t241, .int .u8 t242, .int .u8 t243] 23 (0, 0)) (bq_ BK234)) : gb265 ≠ gb234))
                    replace BK234 := bb_ BK234 hb
                    have NB235_265 := Aside0.mk ((by rw [hg]; exact Nat.ne_of_lt (blk_lt (g := gb235) (o := .cells #[.int .u8 t244, .int .u8 t245, .int .u8 t246, .int .u8 t247] 23 (0, 0)) (bq_ BK235)) : gb235 ≠ gb265))
                    have NB265_235 := Aside0.mk ((by rw [hg]; exact Nat.ne_of_gt (blk_lt (g := gb235) (o := .cells #[.int .u8 t244, .int .u8 t245, .int .u8 t246, .int .u8 t247] 23 (0, 0)) (bq_ BK235)) : gb265 ≠ gb235))
                    replace BK235 := bb_ BK235 hb
                    have NB264_265 := Aside0.mk ((by rw [hg]; exact Nat.ne_of_lt (blk_lt (g := gb264) (o := .cells #[.int .u8 0, .int .u8 0, .int .u8 0, .int .u8 0] 23 (0, 0)) (bq_ BK264)) : gb264 ≠ gb265))
                    have NB265_264 := Aside0.mk ((by rw [hg]; exact Nat.ne_of_gt (blk_lt (g := gb264) (o := .cells #[.int .u8 0, .int .u8 0, .int .u8 0, .int .u8 0] 23 (0, 0)) (bq_ BK264)) : gb265 ≠ gb264))
                    replace BK264 := bb_ BK264 hb
                    clear hb hbox hg
                    refine hK.out _ _ (a4_ BK233 (a4_ BK234 (h4_ BK235))) (fun hHeld => ?_)
                    clear hK K
                    refine norm_ (a' := ?_) ?_ ?_
                    rotate_left
                    ·
                     show Act.put _ (some 8) _ = _
                     simp only [Act.put, List.setIfInBounds_toArray, List.set_cons_zero, List.set_cons_succ, i64_w, i32_w]
                     rfl
                    exact norm_ (by simp only [putAll, Act.put, List.setIfInBounds_toArray, List.set_cons_zero, List.set_cons_succ] <;> rfl) (hJ10_11 (gb264, gb265) _ ⟨hHeld, (bq_ BK233), (bq_ BK234), (bq_ BK235), (bq_ BK264), (bq_ BK265), GW264.out, GE264.out, NB233_264.out, NB264_233.out, NB234_264.out, NB264_234.out, NB235_264.out, NB264_235.out, NB265_264.out, NB264_265.out, GW265.out, GE265.out, NB233_265.out, NB265_233.out, NB234_265.out, NB265_234.out, NB235_265.out, NB265_235.out, (hq_ HB)⟩)
                 ·
                  rintro _ w34 ⟨hS_, h0_, h1_, h2_, h3_⟩
                  replace BK233 := Aside0.mk h0_
                  replace BK234 := Aside0.mk h1_
                  replace BK235 := Aside0.mk h2_
                  replace HB := Aside0.mk h3_
                  clear h0_ h1_ h2_ h3_
                  have hHeld := hS_
                  refine norm_ (a' := ?_) ?_ ?_
                  rotate_left
                  ·
                   simp only [putAll, Act.put, List.setIfInBounds_toArray, List.set_cons_zero, List.set_cons_succ]
                   rfl
                  refine three_ (i := 4) (j := 10) (k := 11) (Ni := some 20) (Nj := some 7) (Nk := some 8) zq5.q29 zq5.q30 zq5.q31 rfl rfl rfl rfl rfl rfl (three_of HT_.out (by kernel_rfl)) (by decide) (by decide) (by decide) (fun K hK => ?_) (fun K hK => ?_) (fun K hK => ?_)
                  ·
                   refine gs_ Try.func13 #[.agg #[.int .u8 t236, .int .u8 t237, .int .u8 t238, .int .u8 t239], .agg #[.int .u8 t248, .int .u8 t249, .int .u8 t250, .int .u8 t251]] ?_
                   with_reducible refine (pixel_Over.calls t236 t237 t238 t239 t248 t249 t250 t251 t252 t253 t254 t255 _ A8.out).mono ?_
                   rintro e w35 ⟨rfl, hb⟩
                   refine ⟨_, rfl, ?_⟩
                   replace BK233 := bb_ BK233 hb
                   replace BK234 := bb_ BK234 hb
                   replace BK235 := bb_ BK235 hb
                   replace HB := hb_ HB hb
                   (try clear hb); (try clear hb2); (try clear hk); (try clear hi)
                   refine hK.out _ _ (a4_ BK233 (a4_ BK234 (h4_ BK235))) (fun hHeld => ?_)
                   clear hK K
                   refine norm_ (a' := ?_) ?_ ?_
                   rotate_left
                   ·
                    show Act.put _ (some 20) _ = _
                    simp only [Act.put, List.setIfInBounds_toArray, List.set_cons_zero, List.set_cons_succ, i64_w, i32_w]
                    rfl
                   exact norm_ (by simp only [putAll, Act.put, List.setIfInBounds_toArray, List.set_cons_zero, List.set_cons_succ] <;> rfl) (hJ3_4 () _ ⟨hHeld, (bq_ BK233), (bq_ BK234), (bq_ BK235), (hq_ HB)⟩)
                  ·
                   refine box_step ?hg (N := 7) ?hd (cs := #[.int .u8 0, .int .u8 0, .int .u8 0, .int .u8 0]) (t := 23) ?hr ?_; (case hd => rfl); (case hg => rfl); (case hr => first | (go_simp; done) | (go_simp; rfl))
                   intro gb264 hg w35 hbox hb
                   have BK264 := Aside0.mk (hbox)
                   have GW264 := Aside0.mk ((by rw [hg]; exact (below_size (hq_ HB)) : w.heap.size ≤ gb264))
                   have GE264 := Aside0.mk ((by rw [hg]; exact (below_size (hq_ HB)) : w.heap.size ≤ gb264))
                   replace HB := hb_ HB hb
                   have NB233_264 := Aside0.mk ((by rw [hg]; exact Nat.ne_of_lt (blk_lt (g := gb233) (o := .cells #[.int .u8 t236, .int .u8 t237, .int .u8 t238, .int .u8 t239] 23 (0, 0)) (bq_ BK233)) : gb233 ≠ gb264))
                   have NB264_233 := Aside0.mk ((by rw [hg]; exact Nat.ne_of_gt (blk_lt (g := gb233) (o := .cells #[.int .u8 t236, .int .u8 t237, .int .u8 t238, .int .u8 t239] 23 (0, 0)) (bq_ BK233)) : gb264 ≠ gb233))
                   replace BK233 := bb_ BK233 hb
                   have NB234_264 := Aside0.mk ((by rw [hg]; exact Nat.ne_of_lt (blk_lt (g := gb234) (o := .cells #[.int .u8 t240, .int .u8 t241, .int .u8 t242, .int .u8 t243] 23 (0, 0)) (bq_ BK234)) : gb234 ≠ gb264))
                   have NB264_234 := Aside0.mk ((by rw [hg]; exact Nat.ne_of_gt (blk_lt (g := gb234) (o := .cells #[.int .u8 t240, .int .u8 t241, .int .u8 t242, .int .u8 t243] 23 (0, 0)) (bq_ BK234)) : gb264 ≠ gb234))
                   replace BK234 := bb_ BK234 hb
                   have NB235_264 := Aside0.mk ((by rw [hg]; exact Nat.ne_of_lt (blk_lt (g := gb235) (o := .cells #[.int .u8 t244, .int .u8 t245, .int .u8 t246, .int .u8 t247] 23 (0, 0)) (bq_ BK235)) : gb235 ≠ gb264))
                   have NB264_235 := Aside0.mk ((by rw [hg]; exact Nat.ne_of_gt (blk_lt (g := gb235) (o := .cells #[.int .u8 t244, .int .u8 t245, .int .u8 t246, .int .u8 t247] 23 (0, 0)) (bq_ BK235)) : gb264 ≠ gb235))
                   replace BK235 := bb_ BK235 hb
                   clear hb hbox hg
                   refine hK.out _ _ (a4_ BK233 (a4_ BK234 (h4_ BK235))) (fun hHeld => ?_)
                   clear hK K
                   refine norm_ (a' := ?_) ?_ ?_
                   rotate_left
                   ·
                    show Act.put _ (some 7) _ = _
                    simp only [Act.put, List.setIfInBounds_toArray, List.set_cons_zero, List.set_cons_succ, i64_w, i32_w]
                    rfl
                   exact norm_ (by simp only [putAll, Act.put, List.setIfInBounds_toArray, List.set_cons_zero, List.set_cons_succ] <;> rfl) (hJ3_10 (gb264) _ ⟨hHeld, (bq_ BK233), (bq_ BK234), (bq_ BK235), (bq_ BK264), GW264.out, GE264.out, NB233_264.out, NB264_233.out, NB234_264.out, NB264_234.out, NB235_264.out, NB264_235.out, (hq_ HB)⟩)
                  ·
                   refine box_step ?hg (N := 8) ?hd (cs := #[.int .u8 0, .int .u8 0, .int .u8 0, .int .u8 0]) (t := 23) ?hr ?_; (case hd => rfl); (case hg => rfl); (case hr => first | (go_simp; done) | (go_simp; rfl))
                   intro gb265 hg w35 hbox hb
                   have BK265 := Aside0.mk (hbox)
                   have GW265 := Aside0.mk ((by rw [hg]; exact (below_size (hq_ HB)) : w.heap.size ≤ gb265))
                   have GE265 := Aside0.mk ((by rw [hg]; exact (below_size (hq_ HB)) : w.heap.size ≤ gb265))
                   replace HB := hb_ HB hb
                   have NB233_265 := Aside0.mk ((by rw [hg]; exact Nat.ne_of_lt (blk_lt (g := gb233) (o := .cells #[.int .u8 t236, .int .u8 t237, .int .u8 t238, .int .u8 t239] 23 (0, 0)) (bq_ BK233)) : gb233 ≠ gb265))
                   have NB265_233 := Aside0.mk ((by rw [hg]; exact Nat.ne_of_gt (blk_lt (g := gb233) (o := .cells #[.int .u8 t236, .int .u8 t237, .int .u8 t238, .int .u8 t239] 23 (0, 0)) (bq_ BK233)) : gb265 ≠ gb233))
                   replace BK233 := bb_ BK233 hb
                   have NB234_265 := Aside0.mk ((by rw [hg]; exact Nat.ne_of_lt (blk_lt (g := gb234) (o := .cells #[.int .u8 t240, .int .u8 t241, .int .u8 t242, .int .u8 t243] 23 (0, 0)) (bq_ BK234)) : gb234 ≠ gb265))
                   have NB265_234 := Aside0.mk ((by rw [hg]; exact Nat.ne_of_gt (blk_lt (g := gb234) (o := .cells #[.int .u8 t240, .int .u8 t241, .int .u8 t242, .int .u8 t243] 23 (0, 0)) (bq_ BK234)) : gb265 ≠ gb234))
                   replace BK234 := bb_ BK234 hb
                   have NB235_265 := Aside0.mk ((by rw [hg]; exact Nat.ne_of_lt (blk_lt (g := gb235) (o := .cells #[.int .u8 t244, .int .u8 t245, .int .u8 t246, .int .u8 t247] 23 (0, 0)) (bq_ BK235)) : gb235 ≠ gb265))
                   have NB265_235 := Aside0.mk ((by rw [hg]; exact Nat.ne_of_gt (blk_lt (g := gb235) (o := .cells #[.int .u8 t244, .int .u8 t245, .int .u8 t246, .int .u8 t247] 23 (0, 0)) (bq_ BK235)) : gb265 ≠ gb235))
                   replace BK235 := bb_ BK235 hb
                   clear hb hbox hg
                   refine hK.out _ _ (a4_ BK233 (a4_ BK234 (h4_ BK235))) (fun hHeld => ?_)
                   clear hK K
                   refine norm_ (a' := ?_) ?_ ?_
                   rotate_left
                   ·
                    show Act.put _ (some 8) _ = _
                    simp only [Act.put, List.setIfInBounds_toArray, List.set_cons_zero, List.set_cons_succ, i64_w, i32_w]
                    rfl
                   exact norm_ (by simp only [putAll, Act.put, List.setIfInBounds_toArray, List.set_cons_zero, List.set_cons_succ] <;> rfl) (hJ3_11 (gb265) _ ⟨hHeld, (bq_ BK233), (bq_ BK234), (bq_ BK235), (bq_ BK265), GW265.out, GE265.out, NB233_265.out, NB265_233.out, NB234_265.out, NB265_234.out, NB235_265.out, NB265_235.out, (hq_ HB)⟩)
                ·
                 rintro ⟨gb264, gb265⟩ w35 ⟨hS_, h0_, h1_, h2_, h3_, h4_, h5_, h6_, h7_, h8_, h9_, h10_, h11_, h12_, h13_, h14_, h15_, h16_, h17_, h18_, h19_, h20_, h21_, h22_, h23_⟩
                 replace BK233 := Aside0.mk h0_
                 replace BK234 := Aside0.mk h1_
                 replace BK235 := Aside0.mk h2_
                 have BK264 := Aside0.mk h3_
                 have BK265 := Aside0.mk h4_
                 have GW264 := Aside0.mk h5_
                 have GE264 := Aside0.mk h6_
                 have NB233_264 := Aside0.mk h7_
                 have NB264_233 := Aside0.mk h8_
                 have NB234_264 := Aside0.mk h9_
                 have NB264_234 := Aside0.mk h10_
                 have NB235_264 := Aside0.mk h11_
                 have NB264_235 := Aside0.mk h12_
                 have NB265_264 := Aside0.mk h13_
                 have NB264_265 := Aside0.mk h14_
                 have GW265 := Aside0.mk h15_
                 have GE265 := Aside0.mk h16_
                 have NB233_265 := Aside0.mk h17_
                 have NB265_233 := Aside0.mk h18_
                 have NB234_265 := Aside0.mk h19_
                 have NB265_234 := Aside0.mk h20_
                 have NB235_265 := Aside0.mk h21_
                 have NB265_235 := Aside0.mk h22_
                 replace HB := Aside0.mk h23_
                 clear h0_ h1_ h2_ h3_ h4_ h5_ h6_ h7_ h8_ h9_ h10_ h11_ h12_ h13_ h14_ h15_ h16_ h17_ h18_ h19_ h20_ h21_ h22_ h23_
                 have hHeld := hS_
                 refine norm_ (a' := ?_) ?_ ?_
                 rotate_left
                 ·
                  simp only [putAll, Act.put, List.setIfInBounds_toArray, List.set_cons_zero, List.set_cons_succ]
                  rfl
                 refine one_ (i := 3) (N := some 19) zq5.q28 rfl rfl (one_of HT_.out (by kernel_rfl)) (by decide) (fun K hK => ?_)
                 refine gs_ Try.func13 #[.agg #[.int .u8 t240, .int .u8 t241, .int .u8 t242, .int .u8 t243], .agg #[.int .u8 t244, .int .u8 t245, .int .u8 t246, .int .u8 t247]] ?_
                 with_reducible refine (pixel_Over.calls t240 t241 t242 t243 t244 t245 t246 t247 t248 t249 t250 t251 _ A7.out).mono ?_
                 rintro e w36 ⟨rfl, hb⟩
                 refine ⟨_, rfl, ?_⟩
                 replace BK233 := bb_ BK233 hb
                 replace BK234 := bb_ BK234 hb
                 replace BK235 := bb_ BK235 hb
                 replace BK264 := bb_ BK264 hb
                 replace BK265 := bb_ BK265 hb
                 replace HB := hb_ HB hb
                 (try clear hb); (try clear hb2); (try clear hk); (try clear hi)
                 refine hK.out _ _ (a4_ BK233 (a4_ BK234 (h4_ BK235))) (fun hHeld => ?_)
                 clear hK K
                 refine norm_ (a' := ?_) ?_ ?_
                 rotate_left
                 ·
                  show Act.put _ (some 19) _ = _
                  simp only [Act.put, List.setIfInBounds_toArray, List.set_cons_zero, List.set_cons_succ, i64_w, i32_w]
                  rfl
                 exact norm_ (by simp only [putAll, Act.put, List.setIfInBounds_toArray, List.set_cons_zero, List.set_cons_succ] <;> rfl) (hJ3_10_11 (gb264, gb265) _ ⟨hHeld, (bq_ BK233), (bq_ BK234), (bq_ BK235), (bq_ BK264), (bq_ BK265), GW264.out, GE264.out, NB233_264.out, NB264_233.out, NB234_264.out, NB264_234.out, NB235_264.out, NB264_235.out, NB265_264.out, NB264_265.out, GW265.out, GE265.out, NB233_265.out, NB265_233.out, NB234_265.out, NB265_234.out, NB235_265.out, NB265_235.out, (hq_ HB)⟩)
               ·
                rintro gb265 w35 ⟨hS_, h0_, h1_, h2_, h3_, h4_, h5_, h6_, h7_, h8_, h9_, h10_, h11_, h12_⟩
                replace BK233 := Aside0.mk h0_
                replace BK234 := Aside0.mk h1_
                replace BK235 := Aside0.mk h2_
                have BK265 := Aside0.mk h3_
                have GW265 := Aside0.mk h4_
                have GE265 := Aside0.mk h5_
                have NB233_265 := Aside0.mk h6_
                have NB265_233 := Aside0.mk h7_
                have NB234_265 := Aside0.mk h8_
                have NB265_234 := Aside0.mk h9_
                have NB235_265 := Aside0.mk h10_
                have NB265_235 := Aside0.mk h11_
                replace HB := Aside0.mk h12_
                clear h0_ h1_ h2_ h3_ h4_ h5_ h6_ h7_ h8_ h9_ h10_ h11_ h12_
                have hHeld := hS_
                refine norm_ (a' := ?_) ?_ ?_
                rotate_left
                ·
                 simp only [putAll, Act.put, List.setIfInBounds_toArray, List.set_cons_zero, List.set_cons_succ]
                 rfl
                refine two_ (i := 4) (j := 10) (Ni := some 20) (Nj := some 7) zq5.q27 zq5.q28 rfl rfl rfl rfl (two_of HT_.out (by kernel_rfl)) (by decide) (by decide) (fun K hK => ?_) (fun K hK => ?_)
                ·
                 refine gs_ Try.func13 #[.agg #[.int .u8 t236, .int .u8 t237, .int .u8 t238, .int .u8 t239], .agg #[.int .u8 t248, .int .u8 t249, .int .u8 t250, .int .u8 t251]] ?_
                 with_reducible refine (pixel_Over.calls t236 t237 t238 t239 t248 t249 t250 t251 t252 t253 t254 t255 _ A8.out).mono ?_
                 rintro e w36 ⟨rfl, hb⟩
                 refine ⟨_, rfl, ?_⟩
                 replace BK233 := bb_ BK233 hb
                 replace BK234 := bb_ BK234 hb
                 replace BK235 := bb_ BK235 hb
                 replace BK265 := bb_ BK265 hb
                 replace HB := hb_ HB hb
                 (try clear hb); (try clear hb2); (try clear hk); (try clear hi)
                 refine hK.out _ _ (a4_ BK233 (a4_ BK234 (h4_ BK235))) (fun hHeld => ?_)
                 clear hK K
                 refine norm_ (a' := ?_) ?_ ?_
                 rotate_left
                 ·
                  show Act.put _ (some 20) _ = _
                  simp only [Act.put, List.setIfInBounds_toArray, List.set_cons_zero, List.set_cons_succ, i64_w, i32_w]
                  rfl
                 exact norm_ (by simp only [putAll, Act.put, List.setIfInBounds_toArray, List.set_cons_zero, List.set_cons_succ] <;> rfl) (hJ3_4_11 (gb265) _ ⟨hHeld, (bq_ BK233), (bq_ BK234), (bq_ BK235), (bq_ BK265), GW265.out, GE265.out, NB233_265.out, NB265_233.out, NB234_265.out, NB265_234.out, NB235_265.out, NB265_235.out, (hq_ HB)⟩)
                ·
                 refine box_step ?hg (N := 7) ?hd (cs := #[.int .u8 0, .int .u8 0, .int .u8 0, .int .u8 0]) (t := 23) ?hr ?_; (case hd => rfl); (case hg => rfl); (case hr => first | (go_simp; done) | (go_simp; rfl))
                 intro gb264 hg w36 hbox hb
                 have BK264 := Aside0.mk (hbox)
                 have GW264 := Aside0.mk ((by rw [hg]; exact (below_size (hq_ HB)) : w.heap.size ≤ gb264))
                 have GE264 := Aside0.mk ((by rw [hg]; exact (below_size (hq_ HB)) : w.heap.size ≤ gb264))
                 replace HB := hb_ HB hb
                 have NB233_264 := Aside0.mk ((by rw [hg]; exact Nat.ne_of_lt (blk_lt (g := gb233) (o := .cells #[.int .u8 t236, .int .u8 t237, .int .u8 t238, .int .u8 t239] 23 (0, 0)) (bq_ BK233)) : gb233 ≠ gb264))
                 have NB264_233 := Aside0.mk ((by rw [hg]; exact Nat.ne_of_gt (blk_lt (g := gb233) (o := .cells #[.int .u8 t236, .int .u8 t237, .int .u8 t238, .int .u8 t239] 23 (0, 0)) (bq_ BK233)) : gb264 ≠ gb233))
                 replace BK233 := bb_ BK233 hb
                 have NB234_264 := Aside0.mk ((by rw [hg]; exact Nat.ne_of_lt (blk_lt (g := gb234) (o := .cells #[.int .u8 t240, .int .u8 t241, .int .u8 t242, .int .u8 t243] 23 (0, 0)) (bq_ BK234)) : gb234 ≠ gb264))
                 have NB264_234 := Aside0.mk ((by rw [hg]; exact Nat.ne_of_gt (blk_lt (g := gb234) (o := .cells #[.int .u8 t240, .int .u8 t241, .int .u8 t242, .int .u8 t243] 23 (0, 0)) (bq_ BK234)) : gb264 ≠ gb234))
                 replace BK234 := bb_ BK234 hb
                 have NB235_264 := Aside0.mk ((by rw [hg]; exact Nat.ne_of_lt (blk_lt (g := gb235) (o := .cells #[.int .u8 t244, .int .u8 t245, .int .u8 t246, .int .u8 t247] 23 (0, 0)) (bq_ BK235)) : gb235 ≠ gb264))
                 have NB264_235 := Aside0.mk ((by rw [hg]; exact Nat.ne_of_gt (blk_lt (g := gb235) (o := .cells #[.int .u8 t244, .int .u8 t245, .int .u8 t246, .int .u8 t247] 23 (0, 0)) (bq_ BK235)) : gb264 ≠ gb235))
                 replace BK235 := bb_ BK235 hb
                 have NB265_264 := Aside0.mk ((by rw [hg]; exact Nat.ne_of_lt (blk_lt (g := gb265) (o := .cells #[.int .u8 0, .int .u8 0, .int .u8 0, .int .u8 0] 23 (0, 0)) (bq_ BK265)) : gb265 ≠ gb264))
                 have NB264_265 := Aside0.mk ((by rw [hg]; exact Nat.ne_of_gt (blk_lt (g := gb265) (o := .cells #[.int .u8 0, .int .u8 0, .int .u8 0, .int .u8 0] 23 (0, 0)) (bq_ BK265)) : gb264 ≠ gb265))
                 replace BK265 := bb_ BK265 hb
                 clear hb hbox hg
                 refine hK.out _ _ (a4_ BK233 (a4_ BK234 (h4_ BK235))) (fun hHeld => ?_)
                 clear hK K
                 refine norm_ (a' := ?_) ?_ ?_
                 rotate_left
                 ·
                  show Act.put _ (some 7) _ = _
                  simp only [Act.put, List.setIfInBounds_toArray, List.set_cons_zero, List.set_cons_succ, i64_w, i32_w]
                  rfl
                 exact norm_ (by simp only [putAll, Act.put, List.setIfInBounds_toArray, List.set_cons_zero, List.set_cons_succ] <;> rfl) (hJ3_10_11 (gb264, gb265) _ ⟨hHeld, (bq_ BK233), (bq_ BK234), (bq_ BK235), (bq_ BK264), (bq_ BK265), GW264.out, GE264.out, NB233_264.out, NB264_233.out, NB234_264.out, NB264_234.out, NB235_264.out, NB264_235.out, NB265_264.out, NB264_265.out, GW265.out, GE265.out, NB233_265.out, NB265_233.out, NB234_265.out, NB265_234.out, NB235_265.out, NB265_235.out, (hq_ HB)⟩)
              ·
               rintro gb264 w35 ⟨hS_, h0_, h1_, h2_, h3_, h4_, h5_, h6_, h7_, h8_, h9_, h10_, h11_, h12_⟩
               replace BK233 := Aside0.mk h0_
               replace BK234 := Aside0.mk h1_
               replace BK235 := Aside0.mk h2_
               have BK264 := Aside0.mk h3_
               have GW264 := Aside0.mk h4_
               have GE264 := Aside0.mk h5_
               have NB233_264 := Aside0.mk h6_
               have NB264_233 := Aside0.mk h7_
               have NB234_264 := Aside0.mk h8_
               have NB264_234 := Aside0.mk h9_
               have NB235_264 := Aside0.mk h10_
               have NB264_235 := Aside0.mk h11_
               replace HB := Aside0.mk h12_
               clear h0_ h1_ h2_ h3_ h4_ h5_ h6_ h7_ h8_ h9_ h10_ h11_ h12_
               have hHeld := hS_
               refine norm_ (a' := ?_) ?_ ?_
               rotate_left
               ·
                simp only [putAll, Act.put, List.setIfInBounds_toArray, List.set_cons_zero, List.set_cons_succ]
                rfl
               refine two_ (i := 4) (j := 11) (Ni := some 20) (Nj := some 8) zq5.q26 zq5.q28 rfl rfl rfl rfl (two_of HT_.out (by kernel_rfl)) (by decide) (by decide) (fun K hK => ?_) (fun K hK => ?_)
               ·
                refine gs_ Try.func13 #[.agg #[.int .u8 t236, .int .u8 t237, .int .u8 t238, .int .u8 t239], .agg #[.int .u8 t248, .int .u8 t249, .int .u8 t250, .int .u8 t251]] ?_
                with_reducible refine (pixel_Over.calls t236 t237 t238 t239 t248 t249 t250 t251 t252 t253 t254 t255 _ A8.out).mono ?_
                rintro e w36 ⟨rfl, hb⟩
                refine ⟨_, rfl, ?_⟩
                replace BK233 := bb_ BK233 hb
                replace BK234 := bb_ BK234 hb
                replace BK235 := bb_ BK235 hb
                replace BK264 := bb_ BK264 hb
                replace HB := hb_ HB hb
                (try clear hb); (try clear hb2); (try clear hk); (try clear hi)
                refine hK.out _ _ (a4_ BK233 (a4_ BK234 (h4_ BK235))) (fun hHeld => ?_)
                clear hK K
                refine norm_ (a' := ?_) ?_ ?_
                rotate_left
                ·
                 show Act.put _ (some 20) _ = _
                 simp only [Act.put, List.setIfInBounds_toArray, List.set_cons_zero, List.set_cons_succ, i64_w, i32_w]
                 rfl
                exact norm_ (by simp only [putAll, Act.put, List.setIfInBounds_toArray, List.set_cons_zero, List.set_cons_succ] <;> rfl) (hJ3_4_10 (gb264) _ ⟨hHeld, (bq_ BK233), (bq_ BK234), (bq_ BK235), (bq_ BK264), GW264.out, GE264.out, NB233_264.out, NB264_233.out, NB234_264.out, NB264_234.out, NB235_264.out, NB264_235.out, (hq_ HB)⟩)
               ·
                refine box_step ?hg (N := 8) ?hd (cs := #[.int .u8 0, .int .u8 0, .int .u8 0, .int .u8 0]) (t := 23) ?hr ?_; (case hd => rfl); (case hg => rfl); (case hr => first | (go_simp; done) | (go_simp; rfl))
                intro gb265 hg w36 hbox hb
                have BK265 := Aside0.mk (hbox)
                have GW265 := Aside0.mk ((by rw [hg]; exact (below_size (hq_ HB)) : w.heap.size ≤ gb265))
                have GE265 := Aside0.mk ((by rw [hg]; exact (below_size (hq_ HB)) : w.heap.size ≤ gb265))
                replace HB := hb_ HB hb
                have NB233_265 := Aside0.mk ((by rw [hg]; exact Nat.ne_of_lt (blk_lt (g := gb233) (o := .cells #[.int .u8 t236, .int .u8 t237, .int .u8 t238, .int .u8 t239] 23 (0, 0)) (bq_ BK233)) : gb233 ≠ gb265))
                have NB265_233 := Aside0.mk ((by rw [hg]; exact Nat.ne_of_gt (blk_lt (g := gb233) (o := .cells #[.int .u8 t236, .int .u8 t237, .int .u8 t238, .int .u8 t239] 23 (0, 0)) (bq_ BK233)) : gb265 ≠ gb233))
                replace BK233 := bb_ BK233 hb
                have NB234_265 := Aside0.mk ((by rw [hg]; exact Nat.ne_of_lt (blk_lt (g := gb234) (o := .cells #[.int .u8 t240, .int .u8 t241, .int .u8 t242, .int .u8 t243] 23 (0, 0)) (bq_ BK234)) : gb234 ≠ gb265))
                have NB265_234 := Aside0.mk ((by rw [hg]; exact Nat.ne_of_gt (blk_lt (g := gb234) (o := .cells #[.int .u8 t240, .int .u8 t241, .int .u8 t242, .int .u8 t243] 23 (0, 0)) (bq_ BK234)) : gb265 ≠ gb234))
                replace BK234 := bb_ BK234 hb
                have NB235_265 := Aside0.mk ((by rw [hg]; exact Nat.ne_of_lt (blk_lt (g := gb235) (o := .cells #[.int .u8 t244, .int .u8 t245, .int .u8 t246, .int .u8 t247] 23 (0, 0)) (bq_ BK235)) : gb235 ≠ gb265))
                have NB265_235 := Aside0.mk ((by rw [hg]; exact Nat.ne_of_gt (blk_lt (g := gb235) (o := .cells #[.int .u8 t244, .int .u8 t245, .int .u8 t246, .int .u8 t247] 23 (0, 0)) (bq_ BK235)) : gb265 ≠ gb235))
                replace BK235 := bb_ BK235 hb
                have NB264_265 := Aside0.mk ((by rw [hg]; exact Nat.ne_of_lt (blk_lt (g := gb264) (o := .cells #[.int .u8 0, .int .u8 0, .int .u8 0, .int .u8 0] 23 (0, 0)) (bq_ BK264)) : gb264 ≠ gb265))
                have NB265_264 := Aside0.mk ((by rw [hg]; exact Nat.ne_of_gt (blk_lt (g := gb264) (o := .cells #[.int .u8 0, .int .u8 0, .int .u8 0, .int .u8 0] 23 (0, 0)) (bq_ BK264)) : gb265 ≠ gb264))
                replace BK264 := bb_ BK264 hb
                clear hb hbox hg
                refine hK.out _ _ (a4_ BK233 (a4_ BK234 (h4_ BK235))) (fun hHeld => ?_)
                clear hK K
                refine norm_ (a' := ?_) ?_ ?_
                rotate_left
                ·
                 show Act.put _ (some 8) _ = _
                 simp only [Act.put, List.setIfInBounds_toArray, List.set_cons_zero, List.set_cons_succ, i64_w, i32_w]
                 rfl
                exact norm_ (by simp only [putAll, Act.put, List.setIfInBounds_toArray, List.set_cons_zero, List.set_cons_succ] <;> rfl) (hJ3_10_11 (gb264, gb265) _ ⟨hHeld, (bq_ BK233), (bq_ BK234), (bq_ BK235), (bq_ BK264), (bq_ BK265), GW264.out, GE264.out, NB233_264.out, NB264_233.out, NB234_264.out, NB264_234.out, NB235_264.out, NB264_235.out, NB265_264.out, NB264_265.out, GW265.out, GE265.out, NB233_265.out, NB265_233.out, NB234_265.out, NB265_234.out, NB235_265.out, NB265_235.out, (hq_ HB)⟩)
             ·
              rintro _ w35 ⟨hS_, h0_, h1_, h2_, h3_⟩
              replace BK233 := Aside0.mk h0_
              replace BK234 := Aside0.mk h1_
              replace BK235 := Aside0.mk h2_
              replace HB := Aside0.mk h3_
              clear h0_ h1_ h2_ h3_
              have hHeld := hS_
              refine norm_ (a' := ?_) ?_ ?_
              rotate_left
              ·
               simp only [putAll, Act.put, List.setIfInBounds_toArray, List.set_cons_zero, List.set_cons_succ]
               rfl
              refine three_ (i := 7) (j := 10) (k := 11) (Ni := some 23) (Nj := some 7) (Nk := some 8) zq5.q25 zq5.q26 zq5.q27 rfl rfl rfl rfl rfl rfl (three_of HT_.out (by kernel_rfl)) (by decide) (by decide) (by decide) (fun K hK => ?_) (fun K hK => ?_) (fun K hK => ?_)
              ·
               refine gs_ Try.func13 #[.agg #[.int .u8 t236, .int .u8 t237, .int .u8 t238, .int .u8 t239], .agg #[.int .u8 t240, .int .u8 t241, .int .u8 t242, .int .u8 t243]] ?_
               with_reducible refine (pixel_Over.calls t236 t237 t238 t239 t240 t241 t242 t243 t256 t257 t258 t259 _ A9.out).mono ?_
               rintro e w36 ⟨rfl, hb⟩
               refine ⟨_, rfl, ?_⟩
               replace BK233 := bb_ BK233 hb
               replace BK234 := bb_ BK234 hb
               replace BK235 := bb_ BK235 hb
               replace HB := hb_ HB hb
               (try clear hb); (try clear hb2); (try clear hk); (try clear hi)
               refine hK.out _ _ (a4_ BK233 (a4_ BK234 (h4_ BK235))) (fun hHeld => ?_)
               clear hK K
               refine norm_ (a' := ?_) ?_ ?_
               rotate_left
               ·
                show Act.put _ (some 23) _ = _
                simp only [Act.put, List.setIfInBounds_toArray, List.set_cons_zero, List.set_cons_succ, i64_w, i32_w]
                rfl
               exact norm_ (by simp only [putAll, Act.put, List.setIfInBounds_toArray, List.set_cons_zero, List.set_cons_succ] <;> rfl) (hJ3_4_7 () _ ⟨hHeld, (bq_ BK233), (bq_ BK234), (bq_ BK235), (hq_ HB)⟩)
              ·
               refine box_step ?hg (N := 7) ?hd (cs := #[.int .u8 0, .int .u8 0, .int .u8 0, .int .u8 0]) (t := 23) ?hr ?_; (case hd => rfl); (case hg => rfl); (case hr => first | (go_simp; done) | (go_simp; rfl))
               intro gb264 hg w36 hbox hb
               have BK264 := Aside0.mk (hbox)
               have GW264 := Aside0.mk ((by rw [hg]; exact (below_size (hq_ HB)) : w.heap.size ≤ gb264))
               have GE264 := Aside0.mk ((by rw [hg]; exact (below_size (hq_ HB)) : w.heap.size ≤ gb264))
               replace HB := hb_ HB hb
               have NB233_264 := Aside0.mk ((by rw [hg]; exact Nat.ne_of_lt (blk_lt (g := gb233) (o := .cells #[.int .u8 t236, .int .u8 t237, .int .u8 t238, .int .u8 t239] 23 (0, 0)) (bq_ BK233)) : gb233 ≠ gb264))
               have NB264_233 := Aside0.mk ((by rw [hg]; exact Nat.ne_of_gt (blk_lt (g := gb233) (o := .cells #[.int .u8 t236, .int .u8 t237, .int .u8 t238, .int .u8 t239] 23 (0, 0)) (bq_ BK233)) : gb264 ≠ gb233))
               replace BK233 := bb_ BK233 hb
               have NB234_264 := Aside0.mk ((by rw [hg]; exact Nat.ne_of_lt (blk_lt (g := gb234) (o := .cells #[.int .u8 t240, .int .u8 t241, .int .u8 t242, .int .u8 t243] 23 (0, 0)) (bq_ BK234)) : gb234 ≠ gb264))
               have NB264_234 := Aside0.mk ((by rw [hg]; exact Nat.ne_of_gt (blk_lt (g := gb234) (o := .cells #[.int .u8 t240, .int .u8 t241, .int .u8 t242, .int .u8 t243] 23 (0, 0)) (bq_ BK234)) : gb264 ≠ gb234))
               replace BK234 := bb_ BK234 hb
               have NB235_264 := Aside0.mk ((by rw [hg]; exact Nat.ne_of_lt (blk_lt (g := gb235) (o := .cells #[.int .u8 t244, .int .u8 t245, .int .u8 t246, .int .u8 t247] 23 (0, 0)) (bq_ BK235)) : gb235 ≠ gb264))
               have NB264_235 := Aside0.mk ((by rw [hg]; exact Nat.ne_of_gt (blk_lt (g := gb235) (o := .cells #[.int .u8 t244, .int .u8 t245, .int .u8 t246, .int .u8 t247] 23 (0, 0)) (bq_ BK235)) : gb264 ≠ gb235))
               replace BK235 := bb_ BK235 hb
               clear hb hbox hg
               refine hK.out _ _ (a4_ BK233 (a4_ BK234 (h4_ BK235))) (fun hHeld => ?_)
               clear hK K
               refine norm_ (a' := ?_) ?_ ?_
               rotate_left
               ·
                show Act.put _ (some 7) _ = _
                simp only [Act.put, List.setIfInBounds_toArray, List.set_cons_zero, List.set_cons_succ, i64_w, i32_w]
                rfl
               exact norm_ (by simp only [putAll, Act.put, List.setIfInBounds_toArray, List.set_cons_zero, List.set_cons_succ] <;> rfl) (hJ3_4_10 (gb264) _ ⟨hHeld, (bq_ BK233), (bq_ BK234), (bq_ BK235), (bq_ BK264), GW264.out, GE264.out, NB233_264.out, NB264_233.out, NB234_264.out, NB264_234.out, NB235_264.out, NB264_235.out, (hq_ HB)⟩)
              ·
               refine box_step ?hg (N := 8) ?hd (cs := #[.int .u8 0, .int .u8 0, .int .u8 0, .int .u8 0]) (t := 23) ?hr ?_; (case hd => rfl); (case hg => rfl); (case hr => first | (go_simp; done) | (go_simp; rfl))
               intro gb265 hg w36 hbox hb
               have BK265 := Aside0.mk (hbox)
               have GW265 := Aside0.mk ((by rw [hg]; exact (below_size (hq_ HB)) : w.heap.size ≤ gb265))
               have GE265 := Aside0.mk ((by rw [hg]; exact (below_size (hq_ HB)) : w.heap.size ≤ gb265))
               replace HB := hb_ HB hb
               have NB233_265 := Aside0.mk ((by rw [hg]; exact Nat.ne_of_lt (blk_lt (g := gb233) (o := .cells #[.int .u8 t236, .int .u8 t237, .int .u8 t238, .int .u8 t239] 23 (0, 0)) (bq_ BK233)) : gb233 ≠ gb265))
               have NB265_233 := Aside0.mk ((by rw [hg]; exact Nat.ne_of_gt (blk_lt (g := gb233) (o := .cells #[.int .u8 t236, .int .u8 t237, .int .u8 t238, .int .u8 t239] 23 (0, 0)) (bq_ BK233)) : gb265 ≠ gb233))
               replace BK233 := bb_ BK233 hb
               have NB234_265 := Aside0.mk ((by rw [hg]; exact Nat.ne_of_lt (blk_lt (g := gb234) (o := .cells #[.int .u8 t240, .int .u8 t241, .int .u8 t242, .int .u8 t243] 23 (0, 0)) (bq_ BK234)) : gb234 ≠ gb265))
               have NB265_234 := Aside0.mk ((by rw [hg]; exact Nat.ne_of_gt (blk_lt (g := gb234) (o := .cells #[.int .u8 t240, .int .u8 t241, .int .u8 t242, .int .u8 t243] 23 (0, 0)) (bq_ BK234)) : gb265 ≠ gb234))
               replace BK234 := bb_ BK234 hb
               have NB235_265 := Aside0.mk ((by rw [hg]; exact Nat.ne_of_lt (blk_lt (g := gb235) (o := .cells #[.int .u8 t244, .int .u8 t245, .int .u8 t246, .int .u8 t247] 23 (0, 0)) (bq_ BK235)) : gb235 ≠ gb265))
               have NB265_235 := Aside0.mk ((by rw [hg]; exact Nat.ne_of_gt (blk_lt (g := gb235) (o := .cells #[.int .u8 t244, .int .u8 t245, .int .u8 t246, .int .u8 t247] 23 (0, 0)) (bq_ BK235)) : gb265 ≠ gb235))
               replace BK235 := bb_ BK235 hb
               clear hb hbox hg
               refine hK.out _ _ (a4_ BK233 (a4_ BK234 (h4_ BK235))) (fun hHeld => ?_)
               clear hK K
               refine norm_ (a' := ?_) ?_ ?_
               rotate_left
               ·
                show Act.put _ (some 8) _ = _
                simp only [Act.put, List.setIfInBounds_toArray, List.set_cons_zero, List.set_cons_succ, i64_w, i32_w]
                rfl
               exact norm_ (by simp only [putAll, Act.put, List.setIfInBounds_toArray, List.set_cons_zero, List.set_cons_succ] <;> rfl) (hJ3_4_11 (gb265) _ ⟨hHeld, (bq_ BK233), (bq_ BK234), (bq_ BK235), (bq_ BK265), GW265.out, GE265.out, NB233_265.out, NB265_233.out, NB234_265.out, NB265_234.out, NB235_265.out, NB265_235.out, (hq_ HB)⟩)
            ·
             rintro ⟨gb264, gb265⟩ w36 ⟨hS_, h0_, h1_, h2_, h3_, h4_, h5_, h6_, h7_, h8_, h9_, h10_, h11_, h12_, h13_, h14_, h15_, h16_, h17_, h18_, h19_, h20_, h21_, h22_, h23_⟩
             replace BK233 := Aside0.mk h0_
             replace BK234 := Aside0.mk h1_
             replace BK235 := Aside0.mk h2_
             have BK264 := Aside0.mk h3_
             have BK265 := Aside0.mk h4_
             have GW264 := Aside0.mk h5_
             have GE264 := Aside0.mk h6_
             have NB233_264 := Aside0.mk h7_
             have NB264_233 := Aside0.mk h8_
             have NB234_264 := Aside0.mk h9_
             have NB264_234 := Aside0.mk h10_
             have NB235_264 := Aside0.mk h11_
             have NB264_235 := Aside0.mk h12_
             have NB265_264 := Aside0.mk h13_
             have NB264_265 := Aside0.mk h14_
             have GW265 := Aside0.mk h15_
             have GE265 := Aside0.mk h16_
             have NB233_265 := Aside0.mk h17_
             have NB265_233 := Aside0.mk h18_
             have NB234_265 := Aside0.mk h19_
             have NB265_234 := Aside0.mk h20_
             have NB235_265 := Aside0.mk h21_
             have NB265_235 := Aside0.mk h22_
             replace HB := Aside0.mk h23_
             clear h0_ h1_ h2_ h3_ h4_ h5_ h6_ h7_ h8_ h9_ h10_ h11_ h12_ h13_ h14_ h15_ h16_ h17_ h18_ h19_ h20_ h21_ h22_ h23_
             have hHeld := hS_
             refine norm_ (a' := ?_) ?_ ?_
             rotate_left
             ·
              simp only [putAll, Act.put, List.setIfInBounds_toArray, List.set_cons_zero, List.set_cons_succ]
              rfl
             refine one_ (i := 4) (N := some 20) zq5.q24 rfl rfl (one_of HT_.out (by kernel_rfl)) (by decide) (fun K hK => ?_)
             refine gs_ Try.func13 #[.agg #[.int .u8 t236, .int .u8 t237, .int .u8 t238, .int .u8 t239], .agg #[.int .u8 t248, .int .u8 t249, .int .u8 t250, .int .u8 t251]] ?_
             with_reducible refine (pixel_Over.calls t236 t237 t238 t239 t248 t249 t250 t251 t252 t253 t254 t255 _ A8.out).mono ?_
             rintro e w37 ⟨rfl, hb⟩
             refine ⟨_, rfl, ?_⟩
             replace BK233 := bb_ BK233 hb
             replace BK234 := bb_ BK234 hb
             replace BK235 := bb_ BK235 hb
             replace BK264 := bb_ BK264 hb
             replace BK265 := bb_ BK265 hb
             replace HB := hb_ HB hb
             (try clear hb); (try clear hb2); (try clear hk); (try clear hi)
             refine hK.out _ _ (a4_ BK233 (a4_ BK234 (h4_ BK235))) (fun hHeld => ?_)
             clear hK K
             refine norm_ (a' := ?_) ?_ ?_
             rotate_left
             ·
              show Act.put _ (some 20) _ = _
              simp only [Act.put, List.setIfInBounds_toArray, List.set_cons_zero, List.set_cons_succ, i64_w, i32_w]
              rfl
             exact norm_ (by simp only [putAll, Act.put, List.setIfInBounds_toArray, List.set_cons_zero, List.set_cons_succ] <;> rfl) (hJ3_4_10_11 (gb264, gb265) _ ⟨hHeld, (bq_ BK233), (bq_ BK234), (bq_ BK235), (bq_ BK264), (bq_ BK265), GW264.out, GE264.out, NB233_264.out, NB264_233.out, NB234_264.out, NB264_234.out, NB235_264.out, NB264_235.out, NB265_264.out, NB264_265.out, GW265.out, GE265.out, NB233_265.out, NB265_233.out, NB234_265.out, NB265_234.out, NB235_265.out, NB265_235.out, (hq_ HB)⟩)
           ·
            rintro gb265 w36 ⟨hS_, h0_, h1_, h2_, h3_, h4_, h5_, h6_, h7_, h8_, h9_, h10_, h11_, h12_⟩
            replace BK233 := Aside0.mk h0_
            replace BK234 := Aside0.mk h1_
            replace BK235 := Aside0.mk h2_
            have BK265 := Aside0.mk h3_
            have GW265 := Aside0.mk h4_
            have GE265 := Aside0.mk h5_
            have NB233_265 := Aside0.mk h6_
            have NB265_233 := Aside0.mk h7_
            have NB234_265 := Aside0.mk h8_
            have NB265_234 := Aside0.mk h9_
            have NB235_265 := Aside0.mk h10_
            have NB265_235 := Aside0.mk h11_
            replace HB := Aside0.mk h12_
            clear h0_ h1_ h2_ h3_ h4_ h5_ h6_ h7_ h8_ h9_ h10_ h11_ h12_
            have hHeld := hS_
            refine norm_ (a' := ?_) ?_ ?_
            rotate_left
            ·
             simp only [putAll, Act.put, List.setIfInBounds_toArray, List.set_cons_zero, List.set_cons_succ]
             rfl
            refine two_ (i := 7) (j := 10) (Ni := some 23) (Nj := some 7) zq5.q23 zq5.q24 rfl rfl rfl rfl (two_of HT_.out (by kernel_rfl)) (by decide) (by decide) (fun K hK => ?_) (fun K hK => ?_)
            ·
             refine gs_ Try.func13 #[.agg #[.int .u8 t236, .int .u8 t237, .int .u8 t238, .int .u8 t239], .agg #[.int .u8 t240, .int .u8 t241, .int .u8 t242, .int .u8 t243]] ?_
             with_reducible refine (pixel_Over.calls t236 t237 t238 t239 t240 t241 t242 t243 t256 t257 t258 t259 _ A9.out).mono ?_
             rintro e w37 ⟨rfl, hb⟩
             refine ⟨_, rfl, ?_⟩
             replace BK233 := bb_ BK233 hb
             replace BK234 := bb_ BK234 hb
             replace BK235 := bb_ BK235 hb
             replace BK265 := bb_ BK265 hb
             replace HB := hb_ HB hb
             (try clear hb); (try clear hb2); (try clear hk); (try clear hi)
             refine hK.out _ _ (a4_ BK233 (a4_ BK234 (h4_ BK235))) (fun hHeld => ?_)
             clear hK K
             refine norm_ (a' := ?_) ?_ ?_
             rotate_left
             ·
              show Act.put _ (some 23) _ = _
              simp only [Act.put, List.setIfInBounds_toArray, List.set_cons_zero, List.set_cons_succ, i64_w, i32_w]
              rfl
             exact norm_ (by simp only [putAll, Act.put, List.setIfInBounds_toArray, List.set_cons_zero, List.set_cons_succ] <;> rfl) (hJ3_4_7_11 (gb265) _ ⟨hHeld, (bq_ BK233), (bq_ BK234), (bq_ BK235), (bq_ BK265), GW265.out, GE265.out, NB233_265.out, NB265_233.out, NB234_265.out, NB265_234.out, NB235_265.out, NB265_235.out, (hq_ HB)⟩)
            ·
             refine box_step ?hg (N := 7) ?hd (cs := #[.int .u8 0, .int .u8 0, .int .u8 0, .int .u8 0]) (t := 23) ?hr ?_; (case hd => rfl); (case hg => rfl); (case hr => first | (go_simp; done) | (go_simp; rfl))
             intro gb264 hg w37 hbox hb
             have BK264 := Aside0.mk (hbox)
             have GW264 := Aside0.mk ((by rw [hg]; exact (below_size (hq_ HB)) : w.heap.size ≤ gb264))
             have GE264 := Aside0.mk ((by rw [hg]; exact (below_size (hq_ HB)) : w.heap.size ≤ gb264))
             replace HB := hb_ HB hb
             have NB233_264 := Aside0.mk ((by rw [hg]; exact Nat.ne_of_lt (blk_lt (g := gb233) (o := .cells #[.int .u8 t236, .int .u8 t237, .int .u8 t238, .int .u8 t239] 23 (0, 0)) (bq_ BK233)) : gb233 ≠ gb264))
             have NB264_233 := Aside0.mk ((by rw [hg]; exact Nat.ne_of_gt (blk_lt (g := gb233) (o := .cells #[.int .u8 t236, .int .u8 t237, .int .u8 t238, .int .u8 t239] 23 (0, 0)) (bq_ BK233)) : gb264 ≠ gb233))
             replace BK233 := bb_ BK233 hb
             have NB234_264 := Aside0.mk ((by rw [hg]; exact Nat.ne_of_lt (blk_lt (g := gb234) (o := .cells #[.int .u8 t240, .int .u8 t241, .int .u8 t242, .int .u8 t243] 23 (0, 0)) (bq_ BK234)) : gb234 ≠ gb264))
             have NB264_234 := Aside0.mk ((by rw [hg]; exact Nat.ne_of_gt (blk_lt (g := gb234) (o := .cells #[.int .u8 t240, .int .u8 t241, .int .u8 t242, .int .u8 t243] 23 (0, 0)) (bq_ BK234)) : gb264 ≠ gb234))
             replace BK234 := bb_ BK234 hb
             have NB235_264 := Aside0.mk ((by rw [hg]; exact Nat.ne_of_lt (blk_lt (g := gb235) (o := .cells #[.int .u8 t244, .int .u8 t245, .int .u8 t246, .int .u8 t247] 23 (0, 0)) (bq_ BK235)) : gb235 ≠ gb264))
             have NB264_235 := Aside0.mk ((by rw [hg]; exact Nat.ne_of_gt (blk_lt (g := gb235) (o := .cells #[.int .u8 t244, .int .u8 t245, .int .u8 t246, .int .u8 t247] 23 (0, 0)) (bq_ BK235)) : gb264 ≠ gb235))
             replace BK235 := bb_ BK235 hb
             have NB265_264 := Aside0.mk ((by rw [hg]; exact Nat.ne_of_lt (blk_lt (g := gb265) (o := .cells #[.int .u8 0, .int .u8 0, .int .u8 0, .int .u8 0] 23 (0, 0)) (bq_ BK265)) : gb265 ≠ gb264))
             have NB264_265 := Aside0.mk ((by rw [hg]; exact Nat.ne_of_gt (blk_lt (g := gb265) (o := .cells #[.int .u8 0, .int .u8 0, .int .u8 0, .int .u8 0] 23 (0, 0)) (bq_ BK265)) : gb264 ≠ gb265))
             replace BK265 := bb_ BK265 hb
             clear hb hbox hg
             refine hK.out _ _ (a4_ BK233 (a4_ BK234 (h4_ BK235))) (fun hHeld => ?_)
             clear hK K
             refine norm_ (a' := ?_) ?_ ?_
             rotate_left
             ·
              show Act.put _ (some 7) _ = _
              simp only [Act.put, List.setIfInBounds_toArray, List.set_cons_zero, List.set_cons_succ, i64_w, i32_w]
              rfl
             exact norm_ (by simp only [putAll, Act.put, List.setIfInBounds_toArray, List.set_cons_zero, List.set_cons_succ] <;> rfl) (hJ3_4_10_11 (gb264, gb265) _ ⟨hHeld, (bq_ BK233), (bq_ BK234), (bq_ BK235), (bq_ BK264), (bq_ BK265), GW264.out, GE264.out, NB233_264.out, NB264_233.out, NB234_264.out, NB264_234.out, NB235_264.out, NB264_235.out, NB265_264.out, NB264_265.out, GW265.out, GE265.out, NB233_265.out, NB265_233.out, NB234_265.out, NB265_234.out, NB235_265.out, NB265_235.out, (hq_ HB)⟩)
          ·
           rintro gb264 w36 ⟨hS_, h0_, h1_, h2_, h3_, h4_, h5_, h6_, h7_, h8_, h9_, h10_, h11_, h12_⟩
           replace BK233 := Aside0.mk h0_
           replace BK234 := Aside0.mk h1_
           replace BK235 := Aside0.mk h2_
           have BK264 := Aside0.mk h3_
           have GW264 := Aside0.mk h4_
           have GE264 := Aside0.mk h5_
           have NB233_264 := Aside0.mk h6_
           have NB264_233 := Aside0.mk h7_
           have NB234_264 := Aside0.mk h8_
           have NB264_234 := Aside0.mk h9_
           have NB235_264 := Aside0.mk h10_
           have NB264_235 := Aside0.mk h11_
           replace HB := Aside0.mk h12_
           clear h0_ h1_ h2_ h3_ h4_ h5_ h6_ h7_ h8_ h9_ h10_ h11_ h12_
           have hHeld := hS_
           refine norm_ (a' := ?_) ?_ ?_
           rotate_left
           ·
            simp only [putAll, Act.put, List.setIfInBounds_toArray, List.set_cons_zero, List.set_cons_succ]
            rfl
           refine two_ (i := 7) (j := 11) (Ni := some 23) (Nj := some 8) zq5.q22 zq5.q24 rfl rfl rfl rfl (two_of HT_.out (by kernel_rfl)) (by decide) (by decide) (fun K hK => ?_) (fun K hK => ?_)
           ·
            refine gs_ Try.func13 #[.agg #[.int .u8 t236, .int .u8 t237, .int .u8 t238, .int .u8 t239], .agg #[.int .u8 t240, .int .u8 t241, .int .u8 t242, .int .u8 t243]] ?_
            with_reducible refine (pixel_Over.calls t236 t237 t238 t239 t240 t241 t242 t243 t256 t257 t258 t259 _ A9.out).mono ?_
            rintro e w37 ⟨rfl, hb⟩
            refine ⟨_, rfl, ?_⟩
            replace BK233 := bb_ BK233 hb
            replace BK234 := bb_ BK234 hb
            replace BK235 := bb_ BK235 hb
            replace BK264 := bb_ BK264 hb
            replace HB := hb_ HB hb
            (try clear hb); (try clear hb2); (try clear hk); (try clear hi)
            refine hK.out _ _ (a4_ BK233 (a4_ BK234 (h4_ BK235))) (fun hHeld => ?_)
            clear hK K
            refine norm_ (a' := ?_) ?_ ?_
            rotate_left
            ·
             show Act.put _ (some 23) _ = _
             simp only [Act.put, List.setIfInBounds_toArray, List.set_cons_zero, List.set_cons_succ, i64_w, i32_w]
             rfl
            exact norm_ (by simp only [putAll, Act.put, List.setIfInBounds_toArray, List.set_cons_zero, List.set_cons_succ] <;> rfl) (hJ3_4_7_10 (gb264) _ ⟨hHeld, (bq_ BK233), (bq_ BK234), (bq_ BK235), (bq_ BK264), GW264.out, GE264.out, NB233_264.out, NB264_233.out, NB234_264.out, NB264_234.out, NB235_264.out, NB264_235.out, (hq_ HB)⟩)
           ·
            refine box_step ?hg (N := 8) ?hd (cs := #[.int .u8 0, .int .u8 0, .int .u8 0, .int .u8 0]) (t := 23) ?hr ?_; (case hd => rfl); (case hg => rfl); (case hr => first | (go_simp; done) | (go_simp; rfl))
            intro gb265 hg w37 hbox hb
            have BK265 := Aside0.mk (hbox)
            have GW265 := Aside0.mk ((by rw [hg]; exact (below_size (hq_ HB)) : w.heap.size ≤ gb265))
            have GE265 := Aside0.mk ((by rw [hg]; exact (below_size (hq_ HB)) : w.heap.size ≤ gb265))
            replace HB := hb_ HB hb
            have NB233_265 := Aside0.mk ((by rw [hg]; exact Nat.ne_of_lt (blk_lt (g := gb233) (o := .cells #[.int .u8 t236, .int .u8 t237, .int .u8 t238, .int .u8 t239] 23 (0, 0)) (bq_ BK233)) : gb233 ≠ gb265))
            have NB265_233 := Aside0.mk ((by rw [hg]; exact Nat.ne_of_gt (blk_lt (g := gb233) (o := .cells #[.int .u8 t236, .int .u8 t237, .int .u8 t238, .int .u8 t239] 23 (0, 0)) (bq_ BK233)) : gb265 ≠ gb233))
            replace BK233 := bb_ BK233 hb
            have NB234_265 := Aside0.mk ((by rw [hg]; exact Nat.ne_of_lt (blk_lt (g := gb234) (o := .cells #[.int .u8 t240, .int .u8 t241, .int .u8 t242, .int .u8 t243] 23 (0, 0)) (bq_ BK234)) : gb234 ≠ gb265))
            have NB265_234 := Aside0.mk ((by rw [hg]; exact Nat.ne_of_gt (blk_lt (g := gb234) (o := .cells #[.int .u8 t240, .int .u8 t241, .int .u8 t242, .int .u8 t243] 23 (0, 0)) (bq_ BK234)) : gb265 ≠ gb234))
            replace BK234 := bb_ BK234 hb
            have NB235_265 := Aside0.mk ((by rw [hg]; exact Nat.ne_of_lt (blk_lt (g := gb235) (o := .cells #[.int .u8 t244, .int .u8 t245, .int .u8 t246, .int .u8 t247] 23 (0, 0)) (bq_ BK235)) : gb235 ≠ gb265))
            have NB265_235 := Aside0.mk ((by rw [hg]; exact Nat.ne_of_gt (blk_lt (g := gb235) (o := .cells #[.int .u8 t244, .int .u8 t245, .int .u8 t246, .int .u8 t247] 23 (0, 0)) (bq_ BK235)) : gb265 ≠ gb235))
            replace BK235 := bb_ BK235 hb
            have NB264_265 := Aside0.mk ((by rw [hg]; exact Nat.ne_of_lt (blk_lt (g := gb264) (o := .cells #[.int .u8 0, .int .u8 0, .int .u8 0, .int .u8 0] 23 (0, 0)) (bq_ BK264)) : gb264 ≠ gb265))
            have NB265_264 := Aside0.mk ((by rw [hg]; exact Nat.ne_of_gt (blk_lt (g := gb264) (o := .cells #[.int .u8 0, .int .u8 0, .int .u8 0, .int .u8 0] 23 (0, 0)) (bq_ BK264)) : gb265 ≠ gb264))
            replace BK264 := bb_ BK264 hb
            clear hb hbox hg
            refine hK.out _ _ (a4_ BK233 (a4_ BK234 (h4_ BK235))) (fun hHeld => ?_)
            clear hK K
            refine norm_ (a' := ?_) ?_ ?_
            rotate_left
            ·
             show Act.put _ (some 8) _ = _
             simp only [Act.put, List.setIfInBounds_toArray, List.set_cons_zero, List.set_cons_succ, i64_w, i32_w]
             rfl
            exact norm_ (by simp only [putAll, Act.put, List.setIfInBounds_toArray, List.set_cons_zero, List.set_cons_succ] <;> rfl) (hJ3_4_10_11 (gb264, gb265) _ ⟨hHeld, (bq_ BK233), (bq_ BK234), (bq_ BK235), (bq_ BK264), (bq_ BK265), GW264.out, GE264.out, NB233_264.out, NB264_233.out, NB234_264.out, NB264_234.out, NB235_264.out, NB264_235.out, NB265_264.out, NB264_265.out, GW265.out, GE265.out, NB233_265.out, NB265_233.out, NB234_265.out, NB265_234.out, NB235_265.out, NB265_235.out, (hq_ HB)⟩)
         ·
          rintro _ w36 ⟨hS_, h0_, h1_, h2_, h3_⟩
          replace BK233 := Aside0.mk h0_
          replace BK234 := Aside0.mk h1_
          replace BK235 := Aside0.mk h2_
          replace HB := Aside0.mk h3_
          clear h0_ h1_ h2_ h3_
          have hHeld := hS_
          refine norm_ (a' := ?_) ?_ ?_
          rotate_left
          ·
           simp only [putAll, Act.put, List.setIfInBounds_toArray, List.set_cons_zero, List.set_cons_succ]
           rfl
          refine three_ (i := 9) (j := 10) (k := 11) (Ni := some 25) (Nj := some 7) (Nk := some 8) zq5.q21 zq5.q22 zq5.q23 rfl rfl rfl rfl rfl rfl (three_of HT_.out (by kernel_rfl)) (by decide) (by decide) (by decide) (fun K hK => ?_) (fun K hK => ?_) (fun K hK => ?_)
          ·
           refine gs_ Try.func13 #[.agg #[.int .u8 t256, .int .u8 t257, .int .u8 t258, .int .u8 t259], .agg #[.int .u8 t244, .int .u8 t245, .int .u8 t246, .int .u8 t247]] ?_
           with_reducible refine (pixel_Over.calls t256 t257 t258 t259 t244 t245 t246 t247 t260 t261 t262 t263 _ A10.out).mono ?_
           rintro e w37 ⟨rfl, hb⟩
           refine ⟨_, rfl, ?_⟩
           replace BK233 := bb_ BK233 hb
           replace BK234 := bb_ BK234 hb
           replace BK235 := bb_ BK235 hb
           replace HB := hb_ HB hb
           (try clear hb); (try clear hb2); (try clear hk); (try clear hi)
           refine hK.out _ _ (a4_ BK233 (a4_ BK234 (h4_ BK235))) (fun hHeld => ?_)
           clear hK K
           refine norm_ (a' := ?_) ?_ ?_
           rotate_left
           ·
            show Act.put _ (some 25) _ = _
            simp only [Act.put, List.setIfInBounds_toArray, List.set_cons_zero, List.set_cons_succ, i64_w, i32_w]
            rfl
           exact norm_ (by simp only [putAll, Act.put, List.setIfInBounds_toArray, List.set_cons_zero, List.set_cons_succ] <;> rfl) (hJ3_4_7_9 () _ ⟨hHeld, (bq_ BK233), (bq_ BK234), (bq_ BK235), (hq_ HB)⟩)
          ·
           refine box_step ?hg (N := 7) ?hd (cs := #[.int .u8 0, .int .u8 0, .int .u8 0, .int .u8 0]) (t := 23) ?hr ?_; (case hd => rfl); (case hg => rfl); (case hr => first | (go_simp; done) | (go_simp; rfl))
           intro gb264 hg w37 hbox hb
           have BK264 := Aside0.mk (hbox)
           have GW264 := Aside0.mk ((by rw [hg]; exact (below_size (hq_ HB)) : w.heap.size ≤ gb264))
           have GE264 := Aside0.mk ((by rw [hg]; exact (below_size (hq_ HB)) : w.heap.size ≤ gb264))
           replace HB := hb_ HB hb
           have NB233_264 := Aside0.mk ((by rw [hg]; exact Nat.ne_of_lt (blk_lt (g := gb233) (o := .cells #[.int .u8 t236, .int .u8 t237, .int .u8 t238, .int .u8 t239] 23 (0, 0)) (bq_ BK233)) : gb233 ≠ gb264))
           have NB264_233 := Aside0.mk ((by rw [hg]; exact Nat.ne_of_gt (blk_lt (g := gb233) (o := .cells #[.int .u8 t236, .int .u8 t237, .int .u8 t238, .int .u8 t239] 23 (0, 0)) (bq_ BK233)) : gb264 ≠ gb233))
           replace BK233 := bb_ BK233 hb
           have NB234_264 := Aside0.mk ((by rw [hg]; exact Nat.ne_of_lt (blk_lt (g := gb234) (o := .cells #[.int .u8 t240, .int .u8 t241, .int .u8 t242, .int .u8 t243] 23 (0, 0)) (bq_ BK234)) : gb234 ≠ gb264))
           have NB264_234 := Aside0.mk ((by rw [hg]; exact Nat.ne_of_gt (blk_lt (g := gb234) (o := .cells #[.int .u8 t240, .int .u8 t241, .int .u8 t242, .int .u8 t243] 23 (0, 0)) (bq_ BK234)) : gb264 ≠ gb234))
           replace BK234 := bb_ BK234 hb
           have NB235_264 := Aside0.mk ((by rw [hg]; exact Nat.ne_of_lt (blk_lt (g := gb235) (o := .cells #[.int .u8 t244, .int .u8 t245, .int .u8 t246, .int .u8 t247] 23 (0, 0)) (bq_ BK235)) : gb235 ≠ gb264))
           have NB264_235 := Aside0.mk ((by rw [hg]; exact Nat.ne_of_gt (blk_lt (g := gb235) (o := .cells #[.int .u8 t244, .int .u8 t245, .int .u8 t246, .int .u8 t247] 23 (0, 0)) (bq_ BK235)) : gb264 ≠ gb235))
           replace BK235 := bb_ BK235 hb
           clear hb hbox hg
           refine hK.out _ _ (a4_ BK233 (a4_ BK234 (h4_ BK235))) (fun hHeld => ?_)
           clear hK K
           refine norm_ (a' := ?_) ?_ ?_
           rotate_left
           ·
            show Act.put _ (some 7) _ = _
            simp only [Act.put, List.setIfInBounds_toArray, List.set_cons_zero, List.set_cons_succ, i64_w, i32_w]
            rfl
           exact norm_ (by simp only [putAll, Act.put, List.setIfInBounds_toArray, List.set_cons_zero, List.set_cons_succ] <;> rfl) (hJ3_4_7_10 (gb264) _ ⟨hHeld, (bq_ BK233), (bq_ BK234), (bq_ BK235), (bq_ BK264), GW264.out, GE264.out, NB233_264.out, NB264_233.out, NB234_264.out, NB264_234.out, NB235_264.out, NB264_235.out, (hq_ HB)⟩)
          ·
           refine box_step ?hg (N := 8) ?hd (cs := #[.int .u8 0, .int .u8 0, .int .u8 0, .int .u8 0]) (t := 23) ?hr ?_; (case hd => rfl); (case hg => rfl); (case hr => first | (go_simp; done) | (go_simp; rfl))
           intro gb265 hg w37 hbox hb
           have BK265 := Aside0.mk (hbox)
           have GW265 := Aside0.mk ((by rw [hg]; exact (below_size (hq_ HB)) : w.heap.size ≤ gb265))
           have GE265 := Aside0.mk ((by rw [hg]; exact (below_size (hq_ HB)) : w.heap.size ≤ gb265))
           replace HB := hb_ HB hb
           have NB233_265 := Aside0.mk ((by rw [hg]; exact Nat.ne_of_lt (blk_lt (g := gb233) (o := .cells #[.int .u8 t236, .int .u8 t237, .int .u8 t238, .int .u8 t239] 23 (0, 0)) (bq_ BK233)) : gb233 ≠ gb265))
           have NB265_233 := Aside0.mk ((by rw [hg]; exact Nat.ne_of_gt (blk_lt (g := gb233) (o := .cells #[.int .u8 t236, .int .u8 t237, .int .u8 t238, .int .u8 t239] 23 (0, 0)) (bq_ BK233)) : gb265 ≠ gb233))
           replace BK233 := bb_ BK233 hb
           have NB234_265 := Aside0.mk ((by rw [hg]; exact Nat.ne_of_lt (blk_lt (g := gb234) (o := .cells #[.int .u8 t240, .int .u8 t241, .int .u8 t242, .int .u8 t243] 23 (0, 0)) (bq_ BK234)) : gb234 ≠ gb265))
           have NB265_234 := Aside0.mk ((by rw [hg]; exact Nat.ne_of_gt (blk_lt (g := gb234) (o := .cells #[.int .u8 t240, .int .u8 t241, .int .u8 t242, .int .u8 t243] 23 (0, 0)) (bq_ BK234)) : gb265 ≠ gb234))
           replace BK234 := bb_ BK234 hb
           have NB235_265 := Aside0.mk ((by rw [hg]; exact Nat.ne_of_lt (blk_lt (g := gb235) (o := .cells #[.int .u8 t244, .int .u8 t245, .int .u8 t246, .int .u8 t247] 23 (0, 0)) (bq_ BK235)) : gb235 ≠ gb265))
           have NB265_235 := Aside0.mk ((by rw [hg]; exact Nat.ne_of_gt (blk_lt (g := gb235) (o := .cells #[.int .u8 t244, .int .u8 t245, .int .u8 t246, .int .u8 t247] 23 (0, 0)) (bq_ BK235)) : gb265 ≠ gb235))
           replace BK235 := bb_ BK235 hb
           clear hb hbox hg
           refine hK.out _ _ (a4_ BK233 (a4_ BK234 (h4_ BK235))) (fun hHeld => ?_)
           clear hK K
           refine norm_ (a' := ?_) ?_ ?_
           rotate_left
           ·
            show Act.put _ (some 8) _ = _
            simp only [Act.put, List.setIfInBounds_toArray, List.set_cons_zero, List.set_cons_succ, i64_w, i32_w]
            rfl
           exact norm_ (by simp only [putAll, Act.put, List.setIfInBounds_toArray, List.set_cons_zero, List.set_cons_succ] <;> rfl) (hJ3_4_7_11 (gb265) _ ⟨hHeld, (bq_ BK233), (bq_ BK234), (bq_ BK235), (bq_ BK265), GW265.out, GE265.out, NB233_265.out, NB265_233.out, NB234_265.out, NB265_234.out, NB235_265.out, NB265_235.out, (hq_ HB)⟩)
        ·
         rintro ⟨gb264, gb265⟩ w37 ⟨hS_, h0_, h1_, h2_, h3_, h4_, h5_, h6_, h7_, h8_, h9_, h10_, h11_, h12_, h13_, h14_, h15_, h16_, h17_, h18_, h19_, h20_, h21_, h22_, h23_⟩
         replace BK233 := Aside0.mk h0_
         replace BK234 := Aside0.mk h1_
         replace BK235 := Aside0.mk h2_
         have BK264 := Aside0.mk h3_
         have BK265 := Aside0.mk h4_
         have GW264 := Aside0.mk h5_
         have GE264 := Aside0.mk h6_
         have NB233_264 := Aside0.mk h7_
         have NB264_233 := Aside0.mk h8_
         have NB234_264 := Aside0.mk h9_
         have NB264_234 := Aside0.mk h10_
         have NB235_264 := Aside0.mk h11_
         have NB264_235 := Aside0.mk h12_
         have NB265_264 := Aside0.mk h13_
         have NB264_265 := Aside0.mk h14_
         have GW265 := Aside0.mk h15_
         have GE265 := Aside0.mk h16_
         have NB233_265 := Aside0.mk h17_
         have NB265_233 := Aside0.mk h18_
         have NB234_265 := Aside0.mk h19_
         have NB265_234 := Aside0.mk h20_
         have NB235_265 := Aside0.mk h21_
         have NB265_235 := Aside0.mk h22_
         replace HB := Aside0.mk h23_
         clear h0_ h1_ h2_ h3_ h4_ h5_ h6_ h7_ h8_ h9_ h10_ h11_ h12_ h13_ h14_ h15_ h16_ h17_ h18_ h19_ h20_ h21_ h22_ h23_
         have hHeld := hS_
         refine norm_ (a' := ?_) ?_ ?_
         rotate_left
         ·
          simp only [putAll, Act.put, List.setIfInBounds_toArray, List.set_cons_zero, List.set_cons_succ]
          rfl
         refine one_ (i := 7) (N := some 23) zq5.q20 rfl rfl (one_of HT_.out (by kernel_rfl)) (by decide) (fun K hK => ?_)
         refine gs_ Try.func13 #[.agg #[.int .u8 t236, .int .u8 t237, .int .u8 t238, .int .u8 t239], .agg #[.int .u8 t240, .int .u8 t241, .int .u8 t242, .int .u8 t243]] ?_
         with_reducible refine (pixel_Over.calls t236 t237 t238 t239 t240 t241 t242 t243 t256 t257 t258 t259 _ A9.out).mono ?_
         rintro e w38 ⟨rfl, hb⟩
         refine ⟨_, rfl, ?_⟩
         replace BK233 := bb_ BK233 hb
         replace BK234 := bb_ BK234 hb
         replace BK235 := bb_ BK235 hb
         replace BK264 := bb_ BK264 hb
         replace BK265 := bb_ BK265 hb
         replace HB := hb_ HB hb
         (try clear hb); (try clear hb2); (try clear hk); (try clear hi)
         refine hK.out _ _ (a4_ BK233 (a4_ BK234 (h4_ BK235))) (fun hHeld => ?_)
         clear hK K
         refine norm_ (a' := ?_) ?_ ?_
         rotate_left
         ·
          show Act.put _ (some 23) _ = _
          simp only [Act.put, List.setIfInBounds_toArray, List.set_cons_zero, List.set_cons_succ, i64_w, i32_w]
          rfl
         exact norm_ (by simp only [putAll, Act.put, List.setIfInBounds_toArray, List.set_cons_zero, List.set_cons_succ] <;> rfl) (hJ3_4_7_10_11 (gb264, gb265) _ ⟨hHeld, (bq_ BK233), (bq_ BK234), (bq_ BK235), (bq_ BK264), (bq_ BK265), GW264.out, GE264.out, NB233_264.out, NB264_233.out, NB234_264.out, NB264_234.out, NB235_264.out, NB264_235.out, NB265_264.out, NB264_265.out, GW265.out, GE265.out, NB233_265.out, NB265_233.out, NB234_265.out, NB265_234.out, NB235_265.out, NB265_235.out, (hq_ HB)⟩)
       ·
        rintro gb265 w37 ⟨hS_, h0_, h1_, h2_, h3_, h4_, h5_, h6_, h7_, h8_, h9_, h10_, h11_, h12_⟩
        replace BK233 := Aside0.mk h0_
        replace BK234 := Aside0.mk h1_
        replace BK235 := Aside0.mk h2_
        have BK265 := Aside0.mk h3_
        have GW265 := Aside0.mk h4_
        have GE265 := Aside0.mk h5_
        have NB233_265 := Aside0.mk h6_
        have NB265_233 := Aside0.mk h7_
        have NB234_265 := Aside0.mk h8_
        have NB265_234 := Aside0.mk h9_
        have NB235_265 := Aside0.mk h10_
        have NB265_235 := Aside0.mk h11_
        replace HB := Aside0.mk h12_
        clear h0_ h1_ h2_ h3_ h4_ h5_ h6_ h7_ h8_ h9_ h10_ h11_ h12_
        have hHeld := hS_
        refine norm_ (a' := ?_) ?_ ?_
        rotate_left
        ·
         simp only [putAll, Act.put, List.setIfInBounds_toArray, List.set_cons_zero, List.set_cons_succ]
         rfl
        refine two_ (i := 9) (j := 10) (Ni := some 25) (Nj := some 7) zq5.q19 zq5.q20 rfl rfl rfl rfl (two_of HT_.out (by kernel_rfl)) (by decide) (by decide) (fun K hK => ?_) (fun K hK => ?_)
        ·
         refine gs_ Try.func13 #[.agg #[.int .u8 t256, .int .u8 t257, .int .u8 t258, .int .u8 t259], .agg #[.int .u8 t244, .int .u8 t245, .int .u8 t246, .int .u8 t247]] ?_
         with_reducible refine (pixel_Over.calls t256 t257 t258 t259 t244 t245 t246 t247 t260 t261 t262 t263 _ A10.out).mono ?_
         rintro e w38 ⟨rfl, hb⟩
         refine ⟨_, rfl, ?_⟩
         replace BK233 := bb_ BK233 hb
         replace BK234 := bb_ BK234 hb
         replace BK235 := bb_ BK235 hb
         replace BK265 := bb_ BK265 hb
         replace HB := hb_ HB hb
         (try clear hb); (try clear hb2); (try clear hk); (try clear hi)
         refine hK.out _ _ (a4_ BK233 (a4_ BK234 (h4_ BK235))) (fun hHeld => ?_)
         clear hK K
         refine norm_ (a' := ?_) ?_ ?_
         rotate_left
         ·
          show Act.put _ (some 25) _ = _
          simp only [Act.put, List.setIfInBounds_toArray, List.set_cons_zero, List.set_cons_succ, i64_w, i32_w]
          rfl
         exact norm_ (by simp only [putAll, Act.put, List.setIfInBounds_toArray, List.set_cons_zero, List.set_cons_succ] <;> rfl) (hJ3_4_7_9_11 (gb265) _ ⟨hHeld, (bq_ BK233), (bq_ BK234), (bq_ BK235), (bq_ BK265), GW265.out, GE265.out, NB233_265.out, NB265_233.out, NB234_265.out, NB265_234.out, NB235_265.out, NB265_235.out, (hq_ HB)⟩)
        ·
         refine box_step ?hg (N := 7) ?hd (cs := #[.int .u8 0, .int .u8 0, .int .u8 0, .int .u8 0]) (t := 23) ?hr ?_; (case hd => rfl); (case hg => rfl); (case hr => first | (go_simp; done) | (go_simp; rfl))
         intro gb264 hg w38 hbox hb
         have BK264 := Aside0.mk (hbox)
         have GW264 := Aside0.mk ((by rw [hg]; exact (below_size (hq_ HB)) : w.heap.size ≤ gb264))
         have GE264 := Aside0.mk ((by rw [hg]; exact (below_size (hq_ HB)) : w.heap.size ≤ gb264))
         replace HB := hb_ HB hb
         have NB233_264 := Aside0.mk ((by rw [hg]; exact Nat.ne_of_lt (blk_lt (g := gb233) (o := .cells #[.int .u8 t236, .int .u8 t237, .int .u8 t238, .int .u8 t239] 23 (0, 0)) (bq_ BK233)) : gb233 ≠ gb264))
         have NB264_233 := Aside0.mk ((by rw [hg]; exact Nat.ne_of_gt (blk_lt (g := gb233) (o := .cells #[.int .u8 t236, .int .u8 t237, .int .u8 t238, .int .u8 t239] 23 (0, 0)) (bq_ BK233)) : gb264 ≠ gb233))
         replace BK233 := bb_ BK233 hb
         have NB234_264 := Aside0.mk ((by rw [hg]; exact Nat.ne_of_lt (blk_lt (g := gb234) (o := .cells #[.int .u8 t240, .int .u8 t241, .int .u8 t242, .int .u8 t243] 23 (0, 0)) (bq_ BK234)) : gb234 ≠ gb264))
         have NB264_234 := Aside0.mk ((by rw [hg]; exact Nat.ne_of_gt (blk_lt (g := gb234) (o := .cells #[.int .u8 t240, .int .u8 t241, .int .u8 t242, .int .u8 t243] 23 (0, 0)) (bq_ BK234)) : gb264 ≠ gb234))
         replace BK234 := bb_ BK234 hb
         have NB235_264 := Aside0.mk ((by rw [hg]; exact Nat.ne_of_lt (blk_lt (g := gb235) (o := .cells #[.int .u8 t244, .int .u8 t245, .int .u8 t246, .int .u8 t247] 23 (0, 0)) (bq_ BK235)) : gb235 ≠ gb264))
         have NB264_235 := Aside0.mk ((by rw [hg]; exact Nat.ne_of_gt (blk_lt (g := gb235) (o := .cells #[.int .u8 t244, .int .u8 t245, .int .u8 t246, .int .u8 t247] 23 (0, 0)) (bq_ BK235)) : gb264 ≠ gb235))
         replace BK235 := bb_ BK235 hb
         have NB265_264 := Aside0.mk ((by rw [hg]; exact Nat.ne_of_lt (blk_lt (g := gb265) (o := .cells #[.int .u8 0, .int .u8 0, .int .u8 0, .int .u8 0] 23 (0, 0)) (bq_ BK265)) : gb265 ≠ gb264))
         have NB264_265 := Aside0.mk ((by rw [hg]; exact Nat.ne_of_gt (blk_lt (g := gb265) (o := .cells #[.int .u8 0, .int .u8 0, .int .u8 0, .int .u8 0] 23 (0, 0)) (bq_ BK265)) : gb264 ≠ gb265))
         replace BK265 := bb_ BK265 hb
         clear hb hbox hg
         refine hK.out _ _ (a4_ BK233 (a4_ BK234 (h4_ BK235))) (fun hHeld => ?_)
         clear hK K
         refine norm_ (a' := ?_) ?_ ?_
         rotate_left
         ·
          show Act.put _ (some 7) _ = _
          simp only [Act.put, List.setIfInBounds_toArray, List.set_cons_zero, List.set_cons_succ, i64_w, i32_w]
          rfl
         exact norm_ (by simp only [putAll, Act.put, List.setIfInBounds_toArray, List.set_cons_zero, List.set_cons_succ] <;> rfl) (hJ3_4_7_10_11 (gb264, gb265) _ ⟨hHeld, (bq_ BK233), (bq_ BK234), (bq_ BK235), (bq_ BK264), (bq_ BK265), GW264.out, GE264.out, NB233_264.out, NB264_233.out, NB234_264.out, NB264_234.out, NB235_264.out, NB264_235.out, NB265_264.out, NB264_265.out, GW265.out, GE265.out, NB233_265.out, NB265_233.out, NB234_265.out, NB265_234.out, NB235_265.out, NB265_235.out, (hq_ HB)⟩)
      ·
       rintro gb264 w37 ⟨hS_, h0_, h1_, h2_, h3_, h4_, h5_, h6_, h7_, h8_, h9_, h10_, h11_, h12_⟩
       replace BK233 := Aside0.mk h0_
       replace BK234 := Aside0.mk h1_
       replace BK235 := Aside0.mk h2_
       have BK264 := Aside0.mk h3_
       have GW264 := Aside0.mk h4_
       have GE264 := Aside0.mk h5_
       have NB233_264 := Aside0.mk h6_
       have NB264_233 := Aside0.mk h7_
       have NB234_264 := Aside0.mk h8_
       have NB264_234 := Aside0.mk h9_
       have NB235_264 := Aside0.mk h10_
       have NB264_235 := Aside0.mk h11_
       replace HB := Aside0.mk h12_
       clear h0_ h1_ h2_ h3_ h4_ h5_ h6_ h7_ h8_ h9_ h10_ h11_ h12_
       have hHeld := hS_
       refine norm_ (a' := ?_) ?_ ?_
       rotate_left
       ·
        simp only [putAll, Act.put, List.setIfInBounds_toArray, List.set_cons_zero, List.set_cons_succ]
        rfl
       refine two_ (i := 9) (j := 11) (Ni := some 25) (Nj := some 8) zq5.q18 zq5.q20 rfl rfl rfl rfl (two_of HT_.out (by kernel_rfl)) (by decide) (by decide) (fun K hK => ?_) (fun K hK => ?_)
       ·
        refine gs_ Try.func13 #[.agg #[.int .u8 t256, .int .u8 t257, .int .u8 t258, .int .u8 t259], .agg #[.int .u8 t244, .int .u8 t245, .int .u8 t246, .int .u8 t247]] ?_
        with_reducible refine (pixel_Over.calls t256 t257 t258 t259 t244 t245 t246 t247 t260 t261 t262 t263 _ A10.out).mono ?_
        rintro e w38 ⟨rfl, hb⟩
        refine ⟨_, rfl, ?_⟩
        replace BK233 := bb_ BK233 hb
        replace BK234 := bb_ BK234 hb
        replace BK235 := bb_ BK235 hb
        replace BK264 := bb_ BK264 hb
        replace HB := hb_ HB hb
        (try clear hb); (try clear hb2); (try clear hk); (try clear hi)
        refine hK.out _ _ (a4_ BK233 (a4_ BK234 (h4_ BK235))) (fun hHeld => ?_)
        clear hK K
        refine norm_ (a' := ?_) ?_ ?_
        rotate_left
        ·
         show Act.put _ (some 25) _ = _
         simp only [Act.put, List.setIfInBounds_toArray, List.set_cons_zero, List.set_cons_succ, i64_w, i32_w]
         rfl
        exact norm_ (by simp only [putAll, Act.put, List.setIfInBounds_toArray, List.set_cons_zero, List.set_cons_succ] <;> rfl) (hJ3_4_7_9_10 (gb264) _ ⟨hHeld, (bq_ BK233), (bq_ BK234), (bq_ BK235), (bq_ BK264), GW264.out, GE264.out, NB233_264.out, NB264_233.out, NB234_264.out, NB264_234.out, NB235_264.out, NB264_235.out, (hq_ HB)⟩)
       ·
        refine box_step ?hg (N := 8) ?hd (cs := #[.int .u8 0, .int .u8 0, .int .u8 0, .int .u8 0]) (t := 23) ?hr ?_; (case hd => rfl); (case hg => rfl); (case hr => first | (go_simp; done) | (go_simp; rfl))
        intro gb265 hg w38 hbox hb
        have BK265 := Aside0.mk (hbox)
        have GW265 := Aside0.mk ((by rw [hg]; exact (below_size (hq_ HB)) : w.heap.size ≤ gb265))
        have GE265 := Aside0.mk ((by rw [hg]; exact (below_size (hq_ HB)) : w.heap.size ≤ gb265))
        replace HB := hb_ HB hb
        have NB233_265 := Aside0.mk ((by rw [hg]; exact Nat.ne_of_lt (blk_lt (g := gb233) (o := .cells #[.int .u8 t236, .int .u8 t237, .int .u8 t238, .int .u8 t239] 23 (0, 0)) (bq_ BK233)) : gb233 ≠ gb265))
        have NB265_233 := Aside0.mk ((by rw [hg]; exact Nat.ne_of_gt (blk_lt (g := gb233) (o := .cells #[.int .u8 t236, .int .u8 t237, .int .u8 t238, .int .u8 t239] 23 (0, 0)) (bq_ BK233)) : gb265 ≠ gb233))
        replace BK233 := bb_ BK233 hb
        have NB234_265 := Aside0.mk ((by rw [hg]; exact Nat.ne_of_lt (blk_lt (g := gb234) (o := .cells #[.int .u8 t240, .int .u8 t241, .int .u8 t242, .int .u8 t243] 23 (0, 0)) (bq_ BK234)) : gb234 ≠ gb265))
        have NB265_234 := Aside0.mk ((by rw [hg]; exact Nat.ne_of_gt (blk_lt (g := gb234) (o := .cells #[.int .u8 t240, .int .u8 t241, .int .u8 t242, .int .u8 t243] 23 (0, 0)) (bq_ BK234)) : gb265 ≠ gb234))
        replace BK234 := bb_ BK234 hb
        have NB235_265 := Aside0.mk ((by rw [hg]; exact Nat.ne_of_lt (blk_lt (g := gb235) (o := .cells #[.int .u8 t244, .int .u8 t245, .int .u8 t246, .int .u8 t247] 23 (0, 0)) (bq_ BK235)) : gb235 ≠ gb265))
        have NB265_235 := Aside0.mk ((by rw [hg]; exact Nat.ne_of_gt (blk_lt (g := gb235) (o := .cells #[.int .u8 t244, .int .u8 t245, .int .u8 t246, .int .u8 t247] 23 (0, 0)) (bq_ BK235)) : gb265 ≠ gb235))
        replace BK235 := bb_ BK235 hb
        have NB264_265 := Aside0.mk ((by rw [hg]; exact Nat.ne_of_lt (blk_lt (g := gb264) (o := .cells #[.int .u8 0, .int .u8 0, .int .u8 0, .int .u8 0] 23 (0, 0)) (bq_ BK264)) : gb264 ≠ gb265))
        have NB265_264 := Aside0.mk ((by rw [hg]; exact Nat.ne_of_gt (blk_lt (g := gb264) (o := .cells #[.int .u8 0, .int .u8 0, .int .u8 0, .int .u8 0] 23 (0, 0)) (bq_ BK264)) : gb265 ≠ gb264))
        replace BK264 := bb_ BK264 hb
        clear hb hbox hg
        refine hK.out _ _ (a4_ BK233 (a4_ BK234 (h4_ BK235))) (fun hHeld => ?_)
        clear hK K
        refine norm_ (a' := ?_) ?_ ?_
        rotate_left
        ·
         show Act.put _ (some 8) _ = _
         simp only [Act.put, List.setIfInBounds_toArray, List.set_cons_zero, List.set_cons_succ, i64_w, i32_w]
         rfl
        exact norm_ (by simp only [putAll, Act.put, List.setIfInBounds_toArray, List.set_cons_zero, List.set_cons_succ] <;> rfl) (hJ3_4_7_10_11 (gb264, gb265) _ ⟨hHeld, (bq_ BK233), (bq_ BK234), (bq_ BK235), (bq_ BK264), (bq_ BK265), GW264.out, GE264.out, NB233_264.out, NB264_233.out, NB234_264.out, NB264_234.out, NB235_264.out, NB264_235.out, NB265_264.out, NB264_265.out, GW265.out, GE265.out, NB233_265.out, NB265_233.out, NB234_265.out, NB265_234.out, NB235_265.out, NB265_235.out, (hq_ HB)⟩)
     ·
      rintro _ w37 ⟨hS_, h0_, h1_, h2_, h3_⟩
      replace BK233 := Aside0.mk h0_
      replace BK234 := Aside0.mk h1_
      replace BK235 := Aside0.mk h2_
      replace HB := Aside0.mk h3_
      clear h0_ h1_ h2_ h3_
      have hHeld := hS_
      refine norm_ (a' := ?_) ?_ ?_
      rotate_left
      ·
       simp only [putAll, Act.put, List.setIfInBounds_toArray, List.set_cons_zero, List.set_cons_succ]
       rfl
      refine two_ (i := 10) (j := 11) (Ni := some 7) (Nj := some 8) zq5.q18 zq5.q19 rfl rfl rfl rfl (two_of HT_.out (by kernel_rfl)) (by decide) (by decide) (fun K hK => ?_) (fun K hK => ?_)
      ·
       refine box_step ?hg (N := 7) ?hd (cs := #[.int .u8 0, .int .u8 0, .int .u8 0, .int .u8 0]) (t := 23) ?hr ?_; (case hd => rfl); (case hg => rfl); (case hr => first | (go_simp; done) | (go_simp; rfl))
       intro gb264 hg w38 hbox hb
       have BK264 := Aside0.mk (hbox)
       have GW264 := Aside0.mk ((by rw [hg]; exact (below_size (hq_ HB)) : w.heap.size ≤ gb264))
       have GE264 := Aside0.mk ((by rw [hg]; exact (below_size (hq_ HB)) : w.heap.size ≤ gb264))
       replace HB := hb_ HB hb
       have NB233_264 := Aside0.mk ((by rw [hg]; exact Nat.ne_of_lt (blk_lt (g := gb233) (o := .cells #[.int .u8 t236, .int .u8 t237, .int .u8 t238, .int .u8 t239] 23 (0, 0)) (bq_ BK233)) : gb233 ≠ gb264))
       have NB264_233 := Aside0.mk ((by rw [hg]; exact Nat.ne_of_gt (blk_lt (g := gb233) (o := .cells #[.int .u8 t236, .int .u8 t237, .int .u8 t238, .int .u8 t239] 23 (0, 0)) (bq_ BK233)) : gb264 ≠ gb233))
       replace BK233 := bb_ BK233 hb
       have NB234_264 := Aside0.mk ((by rw [hg]; exact Nat.ne_of_lt (blk_lt (g := gb234) (o := .cells #[.int .u8 t240, .int .u8 t241, .int .u8 t242, .int .u8 t243] 23 (0, 0)) (bq_ BK234)) : gb234 ≠ gb264))
       have NB264_234 := Aside0.mk ((by rw [hg]; exact Nat.ne_of_gt (blk_lt (g := gb234) (o := .cells #[.int .u8 t240, .int .u8 t241, .int .u8 t242, .int .u8 t243] 23 (0, 0)) (bq_ BK234)) : gb264 ≠ gb234))
       replace BK234 := bb_ BK234 hb
       have NB235_264 := Aside0.mk ((by rw [hg]; exact Nat.ne_of_lt (blk_lt (g := gb235) (o := .cells #[.int .u8 t244, .int .u8 t245, .int .u8 t246, .int .u8 t247] 23 (0, 0)) (bq_ BK235)) : gb235 ≠ gb264))
       have NB264_235 := Aside0.mk ((by rw [hg]; exact Nat.ne_of_gt (blk_lt (g := gb235) (o := .cells #[.int .u8 t244, .int .u8 t245, .int .u8 t246, .int .u8 t247] 23 (0, 0)) (bq_ BK235)) : gb264 ≠ gb235))
       replace BK235 := bb_ BK235 hb
       clear hb hbox hg
       refine hK.out _ _ (a4_ BK233 (a4_ BK234 (h4_ BK235))) (fun hHeld => ?_)
       clear hK K
       refine norm_ (a' := ?_) ?_ ?_
       rotate_left
       ·
        show Act.put _ (some 7) _ = _
        simp only [Act.put, List.setIfInBounds_toArray, List.set_cons_zero, List.set_cons_succ, i64_w, i32_w]
        rfl
       exact norm_ (by simp only [putAll, Act.put, List.setIfInBounds_toArray, List.set_cons_zero, List.set_cons_succ] <;> rfl) (hJ3_4_7_9_10 (gb264) _ ⟨hHeld, (bq_ BK233), (bq_ BK234), (bq_ BK235), (bq_ BK264), GW264.out, GE264.out, NB233_264.out, NB264_233.out, NB234_264.out, NB264_234.out, NB235_264.out, NB264_235.out, (hq_ HB)⟩)
      ·
       refine box_step ?hg (N := 8) ?hd (cs := #[.int .u8 0, .int .u8 0, .int .u8 0, .int .u8 0]) (t := 23) ?hr ?_; (case hd => rfl); (case hg => rfl); (case hr => first | (go_simp; done) | (go_simp; rfl))
       intro gb265 hg w38 hbox hb
       have BK265 := Aside0.mk (hbox)
       have GW265 := Aside0.mk ((by rw [hg]; exact (below_size (hq_ HB)) : w.heap.size ≤ gb265))
       have GE265 := Aside0.mk ((by rw [hg]; exact (below_size (hq_ HB)) : w.heap.size ≤ gb265))
       replace HB := hb_ HB hb
       have NB233_265 := Aside0.mk ((by rw [hg]; exact Nat.ne_of_lt (blk_lt (g := gb233) (o := .cells #[.int .u8 t236, .int .u8 t237, .int .u8 t238, .int .u8 t239] 23 (0, 0)) (bq_ BK233)) : gb233 ≠ gb265))
       have NB265_233 := Aside0.mk ((by rw [hg]; exact Nat.ne_of_gt (blk_lt (g := gb233) (o := .cells #[.int .u8 t236, .int .u8 t237, .int .u8 t238, .int .u8 t239] 23 (0, 0)) (bq_ BK233)) : gb265 ≠ gb233))
       replace BK233 := bb_ BK233 hb
       have NB234_265 := Aside0.mk ((by rw [hg]; exact Nat.ne_of_lt (blk_lt (g := gb234) (o := .cells #[.int .u8 t240, .int .u8 t241, .int .u8 t242, .int .u8 t243] 23 (0, 0)) (bq_ BK234)) : gb234 ≠ gb265))
       have NB265_234 := Aside0.mk ((by rw [hg]; exact Nat.ne_of_gt (blk_lt (g := gb234) (o := .cells #[.int .u8 t240, .int .u8 t241, .int .u8 t242, .int .u8 t243] 23 (0, 0)) (bq_ BK234)) : gb265 ≠ gb234))
       replace BK234 := bb_ BK234 hb
       have NB235_265 := Aside0.mk ((by rw [hg]; exact Nat.ne_of_lt (blk_lt (g := gb235) (o := .cells #[.int .u8 t244, .int .u8 t245, .int .u8 t246, .int .u8 t247] 23 (0, 0)) (bq_ BK235)) : gb235 ≠ gb265))
       have NB265_235 := Aside0.mk ((by rw [hg]; exact Nat.ne_of_gt (blk_lt (g := gb235) (o := .cells #[.int .u8 t244, .int .u8 t245, .int .u8 t246, .int .u8 t247] 23 (0, 0)) (bq_ BK235)) : gb265 ≠ gb235))
       replace BK235 := bb_ BK235 hb
       clear hb hbox hg
       refine hK.out _ _ (a4_ BK233 (a4_ BK234 (h4_ BK235))) (fun hHeld => ?_)
       clear hK K
       refine norm_ (a' := ?_) ?_ ?_
       rotate_left
       ·
        show Act.put _ (some 8) _ = _
        simp only [Act.put, List.setIfInBounds_toArray, List.set_cons_zero, List.set_cons_succ, i64_w, i32_w]
        rfl
       exact norm_ (by simp only [putAll, Act.put, List.setIfInBounds_toArray, List.set_cons_zero, List.set_cons_succ] <;> rfl) (hJ3_4_7_9_11 (gb265) _ ⟨hHeld, (bq_ BK233), (bq_ BK234), (bq_ BK235), (bq_ BK265), GW265.out, GE265.out, NB233_265.out, NB265_233.out, NB234_265.out, NB265_234.out, NB235_265.out, NB265_235.out, (hq_ HB)⟩)
    ·
     rintro ⟨gb264, gb265⟩ w38 ⟨hS_, h0_, h1_, h2_, h3_, h4_, h5_, h6_, h7_, h8_, h9_, h10_, h11_, h12_, h13_, h14_, h15_, h16_, h17_, h18_, h19_, h20_, h21_, h22_, h23_⟩
     replace BK233 := Aside0.mk h0_
     replace BK234 := Aside0.mk h1_
     replace BK235 := Aside0.mk h2_
     have BK264 := Aside0.mk h3_
     have BK265 := Aside0.mk h4_
     have GW264 := Aside0.mk h5_
     have GE264 := Aside0.mk h6_
     have NB233_264 := Aside0.mk h7_
     have NB264_233 := Aside0.mk h8_
     have NB234_264 := Aside0.mk h9_
     have NB264_234 := Aside0.mk h10_
     have NB235_264 := Aside0.mk h11_
     have NB264_235 := Aside0.mk h12_
     have NB265_264 := Aside0.mk h13_
     have NB264_265 := Aside0.mk h14_
     have GW265 := Aside0.mk h15_
     have GE265 := Aside0.mk h16_
     have NB233_265 := Aside0.mk h17_
     have NB265_233 := Aside0.mk h18_
     have NB234_265 := Aside0.mk h19_
     have NB265_234 := Aside0.mk h20_
     have NB235_265 := Aside0.mk h21_
     have NB265_235 := Aside0.mk h22_
     replace HB := Aside0.mk h23_
     clear h0_ h1_ h2_ h3_ h4_ h5_ h6_ h7_ h8_ h9_ h10_ h11_ h12_ h13_ h14_ h15_ h16_ h17_ h18_ h19_ h20_ h21_ h22_ h23_
     have hHeld := hS_
     refine norm_ (a' := ?_) ?_ ?_
     rotate_left
     ·
      simp only [putAll, Act.put, List.setIfInBounds_toArray, List.set_cons_zero, List.set_cons_succ]
      rfl
     refine one_ (i := 9) (N := some 25) zq5.q17 rfl rfl (one_of HT_.out (by kernel_rfl)) (by decide) (fun K hK => ?_)
     refine gs_ Try.func13 #[.agg #[.int .u8 t256, .int .u8 t257, .int .u8 t258, .int .u8 t259], .agg #[.int .u8 t244, .int .u8 t245, .int .u8 t246, .int .u8 t247]] ?_
     with_reducible refine (pixel_Over.calls t256 t257 t258 t259 t244 t245 t246 t247 t260 t261 t262 t263 _ A10.out).mono ?_
     rintro e w39 ⟨rfl, hb⟩
     refine ⟨_, rfl, ?_⟩
     replace BK233 := bb_ BK233 hb
     replace BK234 := bb_ BK234 hb
     replace BK235 := bb_ BK235 hb
     replace BK264 := bb_ BK264 hb
     replace BK265 := bb_ BK265 hb
     replace HB := hb_ HB hb
     (try clear hb); (try clear hb2); (try clear hk); (try clear hi)
     refine hK.out _ _ (a4_ BK233 (a4_ BK234 (h4_ BK235))) (fun hHeld => ?_)
     clear hK K
     refine norm_ (a' := ?_) ?_ ?_
     rotate_left
     ·
      show Act.put _ (some 25) _ = _
      simp only [Act.put, List.setIfInBounds_toArray, List.set_cons_zero, List.set_cons_succ, i64_w, i32_w]
      rfl
     exact norm_ (by simp only [putAll, Act.put, List.setIfInBounds_toArray, List.set_cons_zero, List.set_cons_succ] <;> rfl) (hJ3_4_7_9_10_11 (gb264, gb265) _ ⟨hHeld, (bq_ BK233), (bq_ BK234), (bq_ BK235), (bq_ BK264), (bq_ BK265), GW264.out, GE264.out, NB233_264.out, NB264_233.out, NB234_264.out, NB264_234.out, NB235_264.out, NB264_235.out, NB265_264.out, NB264_265.out, GW265.out, GE265.out, NB233_265.out, NB265_233.out, NB234_265.out, NB265_234.out, NB235_265.out, NB265_235.out, (hq_ HB)⟩)
   ·
    rintro gb265 w38 ⟨hS_, h0_, h1_, h2_, h3_, h4_, h5_, h6_, h7_, h8_, h9_, h10_, h11_, h12_⟩
    replace BK233 := Aside0.mk h0_
    replace BK234 := Aside0.mk h1_
    replace BK235 := Aside0.mk h2_
    have BK265 := Aside0.mk h3_
    have GW265 := Aside0.mk h4_
    have GE265 := Aside0.mk h5_
    have NB233_265 := Aside0.mk h6_
    have NB265_233 := Aside0.mk h7_
    have NB234_265 := Aside0.mk h8_
    have NB265_234 := Aside0.mk h9_
    have NB235_265 := Aside0.mk h10_
    have NB265_235 := Aside0.mk h11_
    replace HB := Aside0.mk h12_
    clear h0_ h1_ h2_ h3_ h4_ h5_ h6_ h7_ h8_ h9_ h10_ h11_ h12_
    have hHeld := hS_
    refine norm_ (a' := ?_) ?_ ?_
    rotate_left
    ·
     simp only [putAll, Act.put, List.setIfInBounds_toArray, List.set_cons_zero, List.set_cons_succ]
     rfl
    refine one_ (i := 10) (N := some 7) zq5.q17 rfl rfl (one_of HT_.out (by kernel_rfl)) (by decide) (fun K hK => ?_)
    refine box_step ?hg (N := 7) ?hd (cs := #[.int .u8 0, .int .u8 0, .int .u8 0, .int .u8 0]) (t := 23) ?hr ?_; (case hd => rfl); (case hg => rfl); (case hr => first | (go_simp; done) | (go_simp; rfl))
    intro gb264 hg w39 hbox hb
    have BK264 := Aside0.mk (hbox)
    have GW264 := Aside0.mk ((by rw [hg]; exact (below_size (hq_ HB)) : w.heap.size ≤ gb264))
    have GE264 := Aside0.mk ((by rw [hg]; exact (below_size (hq_ HB)) : w.heap.size ≤ gb264))
    replace HB := hb_ HB hb
    have NB233_264 := Aside0.mk ((by rw [hg]; exact Nat.ne_of_lt (blk_lt (g := gb233) (o := .cells #[.int .u8 t236, .int .u8 t237, .int .u8 t238, .int .u8 t239] 23 (0, 0)) (bq_ BK233)) : gb233 ≠ gb264))
    have NB264_233 := Aside0.mk ((by rw [hg]; exact Nat.ne_of_gt (blk_lt (g := gb233) (o := .cells #[.int .u8 t236, .int .u8 t237, .int .u8 t238, .int .u8 t239] 23 (0, 0)) (bq_ BK233)) : gb264 ≠ gb233))
    replace BK233 := bb_ BK233 hb
    have NB234_264 := Aside0.mk ((by rw [hg]; exact Nat.ne_of_lt (blk_lt (g := gb234) (o := .cells #[.int .u8 t240, .int .u8 t241, .int .u8 t242, .int .u8 t243] 23 (0, 0)) (bq_ BK234)) : gb234 ≠ gb264))
    have NB264_234 := Aside0.mk ((by rw [hg]; exact Nat.ne_of_gt (blk_lt (g := gb234) (o := .cells #[.int .u8 t240, .int .u8 t241, .int .u8 t242, .int .u8 t243] 23 (0, 0)) (bq_ BK234)) : gb264 ≠ gb234))
    replace BK234 := bb_ BK234 hb
    have NB235_264 := Aside0.mk ((by rw [hg]; exact Nat.ne_of_lt (blk_lt (g := gb235) (o := .cells #[.int .u8 t244, .int .u8 t245, .int .u8 t246, .int .u8 t247] 23 (0, 0)) (bq_ BK235)) : gb235 ≠ gb264))
    have NB264_235 := Aside0.mk ((by rw [hg]; exact Nat.ne_of_gt (blk_lt (g := gb235) (o := .cells #[.int .u8 t244, .int .u8 t245, .int .u8 t246, .int .u8 t247] 23 (0, 0)) (bq_ BK235)) : gb264 ≠ gb235))
    replace BK235 := bb_ BK235 hb
    have NB265_264 := Aside0.mk ((by rw [hg]; exact Nat.ne_of_lt (blk_lt (g := gb265) (o := .cells #[.int .u8 0, .int .u8 0, .int .u8 0, .int .u8 0] 23 (0, 0)) (bq_ BK265)) : gb265 ≠ gb264))
    have NB264_265 := Aside0.mk ((by rw [hg]; exact Nat.ne_of_gt (blk_lt (g := gb265) (o := .cells #[.int .u8 0, .int .u8 0, .int .u8 0, .int .u8 0] 23 (0, 0)) (bq_ BK265)) : gb264 ≠ gb265))
    replace BK265 := bb_ BK265 hb
    clear hb hbox hg
    refine hK.out _ _ (a4_ BK233 (a4_ BK234 (h4_ BK235))) (fun hHeld => ?_)
    clear hK K
    refine norm_ (a' := ?_) ?_ ?_
    rotate_left
    ·
     show Act.put _ (some 7) _ = _
     simp only [Act.put, List.setIfInBounds_toArray, List.set_cons_zero, List.set_cons_succ, i64_w, i32_w]
     rfl
    exact norm_ (by simp only [putAll, Act.put, List.setIfInBounds_toArray, List.set_cons_zero, List.set_cons_succ] <;> rfl) (hJ3_4_7_9_10_11 (gb264, gb265) _ ⟨hHeld, (bq_ BK233), (bq_ BK234), (bq_ BK235), (bq_ BK264), (bq_ BK265), GW264.out, GE264.out, NB233_264.out, NB264_233.out, NB234_264.out, NB264_234.out, NB235_264.out, NB264_235.out, NB265_264.out, NB264_265.out, GW265.out, GE265.out, NB233_265.out, NB265_233.out, NB234_265.out, NB265_234.out, NB235_265.out, NB265_235.out, (hq_ HB)⟩)
  ·
   rintro gb264 w38 ⟨hS_, h0_, h1_, h2_, h3_, h4_, h5_, h6_, h7_, h8_, h9_, h10_, h11_, h12_⟩
   replace BK233 := Aside0.mk h0_
   replace BK234 := Aside0.mk h1_
   replace BK235 := Aside0.mk h2_
   have BK264 := Aside0.mk h3_
   have GW264 := Aside0.mk h4_
   have GE264 := Aside0.mk h5_
   have NB233_264 := Aside0.mk h6_
   have NB264_233 := Aside0.mk h7_
   have NB234_264 := Aside0.mk h8_
   have NB264_234 := Aside0.mk h9_
   have NB235_264 := Aside0.mk h10_
   have NB264_235 := Aside0.mk h11_
   replace HB := Aside0.mk h12_
   clear h0_ h1_ h2_ h3_ h4_ h5_ h6_ h7_ h8_ h9_ h10_ h11_ h12_
   have hHeld := hS_
   refine norm_ (a' := ?_) ?_ ?_
   rotate_left
   ·
    simp only [putAll, Act.put, List.setIfInBounds_toArray, List.set_cons_zero, List.set_cons_succ]
    rfl
   refine one_ (i := 11) (N := some 8) zq5.q17 rfl rfl (one_of HT_.out (by kernel_rfl)) (by decide) (fun K hK => ?_)
   refine box_step ?hg (N := 8) ?hd (cs := #[.int .u8 0, .int .u8 0, .int .u8 0, .int .u8 0]) (t := 23) ?hr ?_; (case hd => rfl); (case hg => rfl); (case hr => first | (go_simp; done) | (go_simp; rfl))
   intro gb265 hg w39 hbox hb
   have BK265 := Aside0.mk (hbox)
   have GW265 := Aside0.mk ((by rw [hg]; exact (below_size (hq_ HB)) : w.heap.size ≤ gb265))
   have GE265 := Aside0.mk ((by rw [hg]; exact (below_size (hq_ HB)) : w.heap.size ≤ gb265))
   replace HB := hb_ HB hb
   have NB233_265 := Aside0.mk ((by rw [hg]; exact Nat.ne_of_lt (blk_lt (g := gb233) (o := .cells #[.int .u8 t236, .int .u8 t237, .int .u8 t238, .int .u8 t239] 23 (0, 0)) (bq_ BK233)) : gb233 ≠ gb265))
   have NB265_233 := Aside0.mk ((by rw [hg]; exact Nat.ne_of_gt (blk_lt (g := gb233) (o := .cells #[.int .u8 t236, .int .u8 t237, .int .u8 t238, .int .u8 t239] 23 (0, 0)) (bq_ BK233)) : gb265 ≠ gb233))
   replace BK233 := bb_ BK233 hb
   have NB234_265 := Aside0.mk ((by rw [hg]; exact Nat.ne_of_lt (blk_lt (g := gb234) (o := .cells #[.int .u8 t240, .int .u8 t241, .int .u8 t242, .int .u8 t243] 23 (0, 0)) (bq_ BK234)) : gb234 ≠ gb265))
   have NB265_234 := Aside0.mk ((by rw [hg]; exact Nat.ne_of_gt (blk_lt (g := gb234) (o := .cells #[.int .u8 t240, .int .u8 t241, .int .u8 t242, .int .u8 t243] 23 (0, 0)) (bq_ BK234)) : gb265 ≠ gb234))
   replace BK234 := bb_ BK234 hb
   have NB235_265 := Aside0.mk ((by rw [hg]; exact Nat.ne_of_lt (blk_lt (g := gb235) (o := .cells #[.int .u8 t244, .int .u8 t245, .int .u8 t246, .int .u8 t247] 23 (0, 0)) (bq_ BK235)) : gb235 ≠ gb265))
   have NB265_235 := Aside0.mk ((by rw [hg]; exact Nat.ne_of_gt (blk_lt (g := gb235) (o := .cells #[.int .u8 t244, .int .u8 t245, .int .u8 t246, .int .u8 t247] 23 (0, 0)) (bq_ BK235)) : gb265 ≠ gb235))
   replace BK235 := bb_ BK235 hb
   have NB264_265 := Aside0.mk ((by rw [hg]; exact Nat.ne_of_lt (blk_lt (g := gb264) (o := .cells #[.int .u8 0, .int .u8 0, .int .u8 0, .int .u8 0] 23 (0, 0)) (bq_ BK264)) : gb264 ≠ gb265))
   have NB265_264 := Aside0.mk ((by rw [hg]; exact Nat.ne_of_gt (blk_lt (g := gb264) (o := .cells #[.int .u8 0, .int .u8 0, .int .u8 0, .int .u8 0] 23 (0, 0)) (bq_ BK264)) : gb265 ≠ gb264))
   replace BK264 := bb_ BK264 hb
   clear hb hbox hg
   refine hK.out _ _ (a4_ BK233 (a4_ BK234 (h4_ BK235))) (fun hHeld => ?_)
   clear hK K
   refine norm_ (a' := ?_) ?_ ?_
   rotate_left
   ·
    show Act.put _ (some 8) _ = _
    simp only [Act.put, List.setIfInBounds_toArray, List.set_cons_zero, List.set_cons_succ, i64_w, i32_w]
    rfl
   exact norm_ (by simp only [putAll, Act.put, List.setIfInBounds_toArray, List.set_cons_zero, List.set_cons_succ] <;> rfl) (hJ3_4_7_9_10_11 (gb264, gb265) _ ⟨hHeld, (bq_ BK233), (bq_ BK234), (bq_ BK235), (bq_ BK264), (bq_ BK265), GW264.out, GE264.out, NB233_264.out, NB264_233.out, NB234_264.out, NB264_234.out, NB235_264.out, NB264_235.out, NB265_264.out, NB264_265.out, GW265.out, GE265.out, NB233_265.out, NB265_233.out, NB234_265.out, NB265_234.out, NB235_265.out, NB265_235.out, (hq_ HB)⟩)
 rintro ⟨gb264, gb265⟩ w39 ⟨hS_, h0_, h1_, h2_, h3_, h4_, h5_, h6_, h7_, h8_, h9_, h10_, h11_, h12_, h13_, h14_, h15_, h16_, h17_, h18_, h19_, h20_, h21_, h22_, h23_⟩
 replace BK233 := Aside0.mk h0_
 replace BK234 := Aside0.mk h1_
 replace BK235 := Aside0.mk h2_
 have BK264 := Aside0.mk h3_
 have BK265 := Aside0.mk h4_
 have GW264 := Aside0.mk h5_
 have GE264 := Aside0.mk h6_
 have NB233_264 := Aside0.mk h7_
 have NB264_233 := Aside0.mk h8_
 have NB234_264 := Aside0.mk h9_
 have NB264_234 := Aside0.mk h10_
 have NB235_264 := Aside0.mk h11_
 have NB264_235 := Aside0.mk h12_
 have NB265_264 := Aside0.mk h13_
 have NB264_265 := Aside0.mk h14_
 have GW265 := Aside0.mk h15_
 have GE265 := Aside0.mk h16_
 have NB233_265 := Aside0.mk h17_
 have NB265_233 := Aside0.mk h18_
 have NB234_265 := Aside0.mk h19_
 have NB265_234 := Aside0.mk h20_
 have NB235_265 := Aside0.mk h21_
 have NB265_235 := Aside0.mk h22_
 replace HB := Aside0.mk h23_
 clear h0_ h1_ h2_ h3_ h4_ h5_ h6_ h7_ h8_ h9_ h10_ h11_ h12_ h13_ h14_ h15_ h16_ h17_ h18_ h19_ h20_ h21_ h22_ h23_
 have hHeld := hS_
 refine norm_ (a' := ?_) ?_ ?_
 rotate_left
 ·
  simp only [putAll, Act.put, List.setIfInBounds_toArray, List.set_cons_zero, List.set_cons_succ]
  rfl
 refine one_ (i := 12) (N := none) zq5.q36 rfl rfl (one_of HT_.out (by kernel_rfl)) (by decide) (fun K hK => ?_)
 have hs40 : w39.cell? ⟨gb264, 0, none⟩ = some (.int .u8 0) := (blk_cell BK264.out 0).trans rfl
 have hfs40 := blk_frozen BK264.out 0
 have hns40_0 := NB233_264.out
 have hns40_1 := NB234_264.out
 have hns40_2 := NB235_264.out
 have hns40_4 := NB265_264.out
 have hms40_0 := NB264_233.out
 have hms40_1 := NB264_234.out
 have hms40_2 := NB264_235.out
 have hms40_4 := NB264_265.out
 have hs41 : w39.cell? ⟨gb264, 1, none⟩ = some (.int .u8 0) := (blk_cell BK264.out 1).trans rfl
 have hfs41 := blk_frozen BK264.out 1
 have hns41_0 := NB233_264.out
 have hns41_1 := NB234_264.out
 have hns41_2 := NB235_264.out
 have hns41_4 := NB265_264.out
 have hms41_0 := NB264_233.out
 have hms41_1 := NB264_234.out
 have hms41_2 := NB264_235.out
 have hms41_4 := NB264_265.out
 have hs42 : w39.cell? ⟨gb264, 2, none⟩ = some (.int .u8 0) := (blk_cell BK264.out 2).trans rfl
 have hfs42 := blk_frozen BK264.out 2
 have hns42_0 := NB233_264.out
 have hns42_1 := NB234_264.out
 have hns42_2 := NB235_264.out
 have hns42_4 := NB265_264.out
 have hms42_0 := NB264_233.out
 have hms42_1 := NB264_234.out
 have hms42_2 := NB264_235.out
 have hms42_4 := NB264_265.out
 have hs43 : w39.cell? ⟨gb264, 3, none⟩ = some (.int .u8 0) := (blk_cell BK264.out 3).trans rfl
 have hfs43 := blk_frozen BK264.out 3
 have hns43_0 := NB233_264.out
 have hns43_1 := NB234_264.out
 have hns43_2 := NB235_264.out
 have hns43_4 := NB265_264.out
 have hms43_0 := NB264_233.out
 have hms43_1 := NB264_234.out
 have hms43_2 := NB264_235.out
 have hms43_4 := NB264_265.out
 refine skip_ (w1 := ?_) (by rfl) rfl ?_ ?_
 rotate_left
 ·
  go_simp
  rfl
 refine hK.out _ _ ⟨((cell_far (p := ⟨gb264, _, none⟩) NB233_264.out _).trans (((cell_far (p := ⟨gb264, _, none⟩) NB233_264.out _).trans (((cell_far (p := ⟨gb264, _, none⟩) NB233_264.out _).trans (((cell_far (p := ⟨gb264, _, none⟩) NB233_264.out _).trans (hHeld.1)))))))), ((cell_far (p := ⟨gb264, _, none⟩) NB233_264.out _).trans (((cell_far (p := ⟨gb264, _, none⟩) NB233_264.out _).trans (((cell_far (p := ⟨gb264, _, none⟩) NB233_264.out _).trans (((cell_far (p := ⟨gb264, _, none⟩) NB233_264.out _).trans (hHeld.2.1)))))))), ((cell_far (p := ⟨gb264, _, none⟩) NB233_264.out _).trans (((cell_far (p := ⟨gb264, _, none⟩) NB233_264.out _).trans (((cell_far (p := ⟨gb264, _, none⟩) NB233_264.out _).trans (((cell_far (p := ⟨gb264, _, none⟩) NB233_264.out _).trans (hHeld.2.2.1)))))))), ((cell_far (p := ⟨gb264, _, none⟩) NB233_264.out _).trans (((cell_far (p := ⟨gb264, _, none⟩) NB233_264.out _).trans (((cell_far (p := ⟨gb264, _, none⟩) NB233_264.out _).trans (((cell_far (p := ⟨gb264, _, none⟩) NB233_264.out _).trans (hHeld.2.2.2.1)))))))), ((cell_far (p := ⟨gb264, _, none⟩) NB234_264.out _).trans (((cell_far (p := ⟨gb264, _, none⟩) NB234_264.out _).trans (((cell_far (p := ⟨gb264, _, none⟩) NB234_264.out _).trans (((cell_far (p := ⟨gb264, _, none⟩) NB234_264.out _).trans (hHeld.2.2.2.2.1)))))))), ((cell_far (p := ⟨gb264, _, none⟩) NB234_264.out _).trans (((cell_far (p := ⟨gb264, _, none⟩) NB234_264.out _).trans (((cell_far (p := ⟨gb264, _, none⟩) NB234_264.out _).trans (((cell_far (p := ⟨gb264, _, none⟩) NB234_264.out _).trans (hHeld.2.2.2.2.2.1)))))))), ((cell_far (p := ⟨gb264, _, none⟩) NB234_264.out _).trans (((cell_far (p := ⟨gb264, _, none⟩) NB234_264.out _).trans (((cell_far (p := ⟨gb264, _, none⟩) NB234_264.out _).trans (((cell_far (p := ⟨gb264, _, none⟩) NB234_264.out _).trans (hHeld.2.2.2.2.2.2.1)))))))), ((cell_far (p := ⟨gb264, _, none⟩) NB234_264.out _).trans (((cell_far (p := ⟨gb264, _, none⟩) NB234_264.out _).trans (((cell_far (p := ⟨gb264, _, none⟩) NB234_264.out _).trans (((cell_far (p := ⟨gb264, _, none⟩) NB234_264.out _).trans (hHeld.2.2.2.2.2.2.2.1)))))))), ((cell_far (p := ⟨gb264, _, none⟩) NB235_264.out _).trans (((cell_far (p := ⟨gb264, _, none⟩) NB235_264.out _).trans (((cell_far (p := ⟨gb264, _, none⟩) NB235_264.out _).trans (((cell_far (p := ⟨gb264, _, none⟩) NB235_264.out _).trans (hHeld.2.2.2.2.2.2.2.2.1)))))))), ((cell_far (p := ⟨gb264, _, none⟩) NB235_264.out _).trans (((cell_far (p := ⟨gb264, _, none⟩) NB235_264.out _).trans (((cell_far (p := ⟨gb264, _, none⟩) NB235_264.out _).trans (((cell_far (p := ⟨gb264, _, none⟩) NB235_264.out _).trans (hHeld.2.2.2.2.2.2.2.2.2.1)))))))), ((cell_far (p := ⟨gb264, _, none⟩) NB235_264.out _).trans (((cell_far (p := ⟨gb264, _, none⟩) NB235_264.out _).trans (((cell_far (p := ⟨gb264, _, none⟩) NB235_264.out _).trans (((cell_far (p := ⟨gb264, _, none⟩) NB235_264.out _).trans (hHeld.2.2.2.2.2.2.2.2.2.2.1)))))))), ((cell_far (p := ⟨gb264, _, none⟩) NB235_264.out _).trans (((cell_far (p := ⟨gb264, _, none⟩) NB235_264.out _).trans (((cell_far (p := ⟨gb264, _, none⟩) NB235_264.out _).trans (((cell_far (p := ⟨gb264, _, none⟩) NB235_264.out _).trans (hHeld.2.2.2.2.2.2.2.2.2.2.2))))))))⟩ (fun hHeld => ?_)
 clear hK K
 refine one_ (i := 13) (N := none) zq5.q37 rfl rfl (one_of HT_.out (by kernel_rfl)) (by decide) (fun K hK => ?_)
 have hs44 : w39.cell? ⟨gb265, 0, none⟩ = some (.int .u8 0) := (blk_cell BK265.out 0).trans rfl
 have hfs44 := blk_frozen BK265.out 0
 have hns44_0 := NB233_265.out
 have hns44_1 := NB234_265.out
 have hns44_2 := NB235_265.out
 have hns44_3 := NB264_265.out
 have hms44_0 := NB265_233.out
 have hms44_1 := NB265_234.out
 have hms44_2 := NB265_235.out
 have hms44_3 := NB265_264.out
 have hs45 : w39.cell? ⟨gb265, 1, none⟩ = some (.int .u8 0) := (blk_cell BK265.out 1).trans rfl
 have hfs45 := blk_frozen BK265.out 1
 have hns45_0 := NB233_265.out
 have hns45_1 := NB234_265.out
 have hns45_2 := NB235_265.out
 have hns45_3 := NB264_265.out
 have hms45_0 := NB265_233.out
 have hms45_1 := NB265_234.out
 have hms45_2 := NB265_235.out
 have hms45_3 := NB265_264.out
 have hs46 : w39.cell? ⟨gb265, 2, none⟩ = some (.int .u8 0) := (blk_cell BK265.out 2).trans rfl
 have hfs46 := blk_frozen BK265.out 2
 have hns46_0 := NB233_265.out
 have hns46_1 := NB234_265.out
 have hns46_2 := NB235_265.out
 have hns46_3 := NB264_265.out
 have hms46_0 := NB265_233.out
 have hms46_1 := NB265_234.out
 have hms46_2 := NB265_235.out
 have hms46_3 := NB265_264.out
 have hs47 : w39.cell? ⟨gb265, 3, none⟩ = some (.int .u8 0) := (blk_cell BK265.out 3).trans rfl
 have hfs47 := blk_frozen BK265.out 3
 have hns47_0 := NB233_265.out
 have hns47_1 := NB234_265.out
 have hns47_2 := NB235_265.out
 have hns47_3 := NB264_265.out
 have hms47_0 := NB265_233.out
 have hms47_1 := NB265_234.out
 have hms47_2 := NB265_235.out
 have hms47_3 := NB265_264.out
 refine skip_ (w1 := ?_) (by rfl) rfl ?_ ?_
 rotate_left
 ·
  go_simp
  rfl
 refine hK.out _ _ ⟨((cell_far (p := ⟨gb265, _, none⟩) NB233_265.out _).trans (((cell_far (p := ⟨gb265, _, none⟩) NB233_265.out _).trans (((cell_far (p := ⟨gb265, _, none⟩) NB233_265.out _).trans (((cell_far (p := ⟨gb265, _, none⟩) NB233_265.out _).trans (hHeld.1)))))))), ((cell_far (p := ⟨gb265, _, none⟩) NB233_265.out _).trans (((cell_far (p := ⟨gb265, _, none⟩) NB233_265.out _).trans (((cell_far (p := ⟨gb265, _, none⟩) NB233_265.out _).trans (((cell_far (p := ⟨gb265, _, none⟩) NB233_265.out _).trans (hHeld.2.1)))))))), ((cell_far (p := ⟨gb265, _, none⟩) NB233_265.out _).trans (((cell_far (p := ⟨gb265, _, none⟩) NB233_265.out _).trans (((cell_far (p := ⟨gb265, _, none⟩) NB233_265.out _).trans (((cell_far (p := ⟨gb265, _, none⟩) NB233_265.out _).trans (hHeld.2.2.1)))))))), ((cell_far (p := ⟨gb265, _, none⟩) NB233_265.out _).trans (((cell_far (p := ⟨gb265, _, none⟩) NB233_265.out _).trans (((cell_far (p := ⟨gb265, _, none⟩) NB233_265.out _).trans (((cell_far (p := ⟨gb265, _, none⟩) NB233_265.out _).trans (hHeld.2.2.2.1)))))))), ((cell_far (p := ⟨gb265, _, none⟩) NB234_265.out _).trans (((cell_far (p := ⟨gb265, _, none⟩) NB234_265.out _).trans (((cell_far (p := ⟨gb265, _, none⟩) NB234_265.out _).trans (((cell_far (p := ⟨gb265, _, none⟩) NB234_265.out _).trans (hHeld.2.2.2.2.1)))))))), ((cell_far (p := ⟨gb265, _, none⟩) NB234_265.out _).trans (((cell_far (p := ⟨gb265, _, none⟩) NB234_265.out _).trans (((cell_far (p := ⟨gb265, _, none⟩) NB234_265.out _).trans (((cell_far (p := ⟨gb265, _, none⟩) NB234_265.out _).trans (hHeld.2.2.2.2.2.1)))))))), ((cell_far (p := ⟨gb265, _, none⟩) NB234_265.out _).trans (((cell_far (p := ⟨gb265, _, none⟩) NB234_265.out _).trans (((cell_far (p := ⟨gb265, _, none⟩) NB234_265.out _).trans (((cell_far (p := ⟨gb265, _, none⟩) NB234_265.out _).trans (hHeld.2.2.2.2.2.2.1)))))))), ((cell_far (p := ⟨gb265, _, none⟩) NB234_265.out _).trans (((cell_far (p := ⟨gb265, _, none⟩) NB234_265.out _).trans (((cell_far (p := ⟨gb265, _, none⟩) NB234_265.out _).trans (((cell_far (p := ⟨gb265, _, none⟩) NB234_265.out _).trans (hHeld.2.2.2.2.2.2.2.1)))))))), ((cell_far (p := ⟨gb265, _, none⟩) NB235_265.out _).trans (((cell_far (p := ⟨gb265, _, none⟩) NB235_265.out _).trans (((cell_far (p := ⟨gb265, _, none⟩) NB235_265.out _).trans (((cell_far (p := ⟨gb265, _, none⟩) NB235_265.out _).trans (hHeld.2.2.2.2.2.2.2.2.1)))))))), ((cell_far (p := ⟨gb265, _, none⟩) NB235_265.out _).trans (((cell_far (p := ⟨gb265, _, none⟩) NB235_265.out _).trans (((cell_far (p := ⟨gb265, _, none⟩) NB235_265.out _).trans (((cell_far (p := ⟨gb265, _, none⟩) NB235_265.out _).trans (hHeld.2.2.2.2.2.2.2.2.2.1)))))))), ((cell_far (p := ⟨gb265, _, none⟩) NB235_265.out _).trans (((cell_far (p := ⟨gb265, _, none⟩) NB235_265.out _).trans (((cell_far (p := ⟨gb265, _, none⟩) NB235_265.out _).trans (((cell_far (p := ⟨gb265, _, none⟩) NB235_265.out _).trans (hHeld.2.2.2.2.2.2.2.2.2.2.1)))))))), ((cell_far (p := ⟨gb265, _, none⟩) NB235_265.out _).trans (((cell_far (p := ⟨gb265, _, none⟩) NB235_265.out _).trans (((cell_far (p := ⟨gb265, _, none⟩) NB235_265.out _).trans (((cell_far (p := ⟨gb265, _, none⟩) NB235_265.out _).trans (hHeld.2.2.2.2.2.2.2.2.2.2.2))))))))⟩ (fun hHeld => ?_)
 clear hK K
 refine done_ (done_of HT_.out (by kernel_rfl)) ?_
 go_upto_region 4 with (first | ((with_reducible refine gate_dst (N := 9) rfl ?_); refine box_event ?hg (N := 9) ?hd (cs := #[.int .u8 0, .int .u8 0, .int .u8 0, .int .u8 0]) (t := 23) ?hr ?_; (case hd => rfl); (case hg => rfl); (case hr => first | (go_simp; done) | (go_simp; rfl)); intro gb266 hg w48 hbox hb; have n0_ := Aside0.mk (blk_below (g := gb233) (o := .cells #[.int .u8 t236, .int .u8 t237, .int .u8 t238, .int .u8 t239] 23 (0, 0)) (by (with_reducible repeat (first | refine blk_drewN ?_ _ | refine blk_drew ?_ | refine blk_alloc ?_ _)); refine blk_far ?_ NB233_265.out _; (with_reducible repeat (first | refine blk_drewN ?_ _ | refine blk_drew ?_ | refine blk_alloc ?_ _)); refine blk_far ?_ NB233_265.out _; (with_reducible repeat (first | refine blk_drewN ?_ _ | refine blk_drew ?_ | refine blk_alloc ?_ _)); refine blk_far ?_ NB233_265.out _; (with_reducible repeat (first | refine blk_drewN ?_ _ | refine blk_drew ?_ | refine blk_alloc ?_ _)); refine blk_far ?_ NB233_265.out _; (with_reducible repeat (first | refine blk_drewN ?_ _ | refine blk_drew ?_ | refine blk_alloc ?_ _)); refine blk_far ?_ NB233_264.out _; (with_reducible repeat (first | refine blk_drewN ?_ _ | refine blk_drew ?_ | refine blk_alloc ?_ _)); refine blk_far ?_ NB233_264.out _; (with_reducible repeat (first | refine blk_drewN ?_ _ | refine blk_drew ?_ | refine blk_alloc ?_ _)); refine blk_far ?_ NB233_264.out _; (with_reducible repeat (first | refine blk_drewN ?_ _ | refine blk_drew ?_ | refine blk_alloc ?_ _)); refine blk_far ?_ NB233_264.out _; (with_reducible repeat (first | refine blk_drewN ?_ _ | refine blk_drew ?_ | refine blk_alloc ?_ _)); exact BK233.out) hb); have n1_ := Aside0.mk (blk_below (g := gb234) (o := .cells #[.int .u8 t240, .int .u8 t241, .int .u8 t242, .int .u8 t243] 23 (0, 0)) (by (with_reducible repeat (first | refine blk_drewN ?_ _ | refine blk_drew ?_ | refine blk_alloc ?_ _)); refine blk_far ?_ NB234_265.out _; (with_reducible repeat (first | refine blk_drewN ?_ _ | refine blk_drew ?_ | refine blk_alloc ?_ _)); refine blk_far ?_ NB234_265.out _; (with_reducible repeat (first | refine blk_drewN ?_ _ | refine blk_drew ?_ | refine blk_alloc ?_ _)); refine blk_far ?_ NB234_265.out _; (with_reducible repeat (first | refine blk_drewN ?_ _ | refine blk_drew ?_ | refine blk_alloc ?_ _)); refine blk_far ?_ NB234_265.out _; (with_reducible repeat (first | refine blk_drewN ?_ _ | refine blk_drew ?_ | refine blk_alloc ?_ _)); refine blk_far ?_ NB234_264.out _; (with_reducible repeat (first | refine blk_drewN ?_ _ | refine blk_drew ?_ | refine blk_alloc ?_ _)); refine blk_far ?_ NB234_264.out _; (with_reducible repeat (first | refine blk_drewN ?_ _ | refine blk_drew ?_ | refine blk_alloc ?_ _)); refine blk_far ?_ NB234_264.out _; (with_reducible repeat (first | refine blk_drewN ?_ _ | refine blk_drew ?_ | refine blk_alloc ?_ _)); refine blk_far ?_ NB234_264.out _; (with_reducible repeat (first | refine blk_drewN ?_ _ | refine blk_drew ?_ | refine blk_alloc ?_ _)); exact BK234.out) hb); have n2_ := Aside0.mk (blk_below (g := gb235) (o := .cells #[.int .u8 t244, .int .u8 t245, .int .u8 t246, .int .u8 t247] 23 (0, 0)) (by (with_reducible repeat (first | refine blk_drewN ?_ _ | refine blk_drew ?_ | refine blk_alloc ?_ _)); refine blk_far ?_ NB235_265.out _; (with_reducible repeat (first | refine blk_drewN ?_ _ | refine blk_drew ?_ | refine blk_alloc ?_ _)); refine blk_far ?_ NB235_265.out _; (with_reducible repeat (first | refine blk_drewN ?_ _ | refine blk_drew ?_ | refine blk_alloc ?_ _)); refine blk_far ?_ NB235_265.out _; (with_reducible repeat (first | refine blk_drewN ?_ _ | refine blk_drew ?_ | refine blk_alloc ?_ _)); refine blk_far ?_ NB235_265.out _; (with_reducible repeat (first | refine blk_drewN ?_ _ | refine blk_drew ?_ | refine blk_alloc ?_ _)); refine blk_far ?_ NB235_264.out _; (with_reducible repeat (first | refine blk_drewN ?_ _ | refine blk_drew ?_ | refine blk_alloc ?_ _)); refine blk_far ?_ NB235_264.out _; (with_reducible repeat (first | refine blk_drewN ?_ _ | refine blk_drew ?_ | refine blk_alloc ?_ _)); refine blk_far ?_ NB235_264.out _; (with_reducible repeat (first | refine blk_drewN ?_ _ | refine blk_drew ?_ | refine blk_alloc ?_ _)); refine blk_far ?_ NB235_264.out _; (with_reducible repeat (first | refine blk_drewN ?_ _ | refine blk_drew ?_ | refine blk_alloc ?_ _)); exact BK235.out) hb); have n3_ := Aside0.mk (blk_below (g := gb264) (o := .cells #[.int .u8 t252, .int .u8 t253, .int .u8 t254, .int .u8 t255] 23 (0, 0)) (by (with_reducible repeat (first | refine blk_drewN ?_ _ | refine blk_drew ?_ | refine blk_alloc ?_ _)); refine blk_far ?_ NB264_265.out _; (with_reducible repeat (first | refine blk_drewN ?_ _ | refine blk_drew ?_ | refine blk_alloc ?_ _)); refine blk_far ?_ NB264_265.out _; (with_reducible repeat (first | refine blk_drewN ?_ _ | refine blk_drew ?_ | refine blk_alloc ?_ _)); refine blk_far ?_ NB264_265.out _; (with_reducible repeat (first | refine blk_drewN ?_ _ | refine blk_drew ?_ | refine blk_alloc ?_ _)); refine blk_far ?_ NB264_265.out _; (with_reducible repeat (first | refine blk_drewN ?_ _ | refine blk_drew ?_ | refine blk_alloc ?_ _)); refine blk_put (cs := #[.int .u8 t252, .int .u8 t253, .int .u8 t254, .int .u8 0]) ?_ 3 _ rfl; (with_reducible repeat (first | refine blk_drewN ?_ _ | refine blk_drew ?_ | refine blk_alloc ?_ _)); refine blk_put (cs := #[.int .u8 t252, .int .u8 t253, .int .u8 0, .int .u8 0]) ?_ 2 _ rfl; (with_reducible repeat (first | refine blk_drewN ?_ _ | refine blk_drew ?_ | refine blk_alloc ?_ _)); refine blk_put (cs := #[.int .u8 t252, .int .u8 0, .int .u8 0, .int .u8 0]) ?_ 1 _ rfl; (with_reducible repeat (first | refine blk_drewN ?_ _ | refine blk_drew ?_ | refine blk_alloc ?_ _)); refine blk_put (cs := #[.int .u8 0, .int .u8 0, .int .u8 0, .int .u8 0]) ?_ 0 _ rfl; (with_reducible repeat (first | refine blk_drewN ?_ _ | refine blk_drew ?_ | refine blk_alloc ?_ _)); exact BK264.out) hb); have n4_ := Aside0.mk (blk_below (g := gb265) (o := .cells #[.int .u8 t260, .int .u8 t261, .int .u8 t262, .int .u8 t263] 23 (0, 0)) (by (with_reducible repeat (first | refine blk_drewN ?_ _ | refine blk_drew ?_ | refine blk_alloc ?_ _)); refine blk_put (cs := #[.int .u8 t260, .int .u8 t261, .int .u8 t262, .int .u8 0]) ?_ 3 _ rfl; (with_reducible repeat (first | refine blk_drewN ?_ _ | refine blk_drew ?_ | refine blk_alloc ?_ _)); refine blk_put (cs := #[.int .u8 t260, .int .u8 t261, .int .u8 0, .int .u8 0]) ?_ 2 _ rfl; (with_reducible repeat (first | refine blk_drewN ?_ _ | refine blk_drew ?_ | refine blk_alloc ?_ _)); refine blk_put (cs := #[.int .u8 t260, .int .u8 0, .int .u8 0, .int .u8 0]) ?_ 1 _ rfl; (with_reducible repeat (first | refine blk_drewN ?_ _ | refine blk_drew ?_ | refine blk_alloc ?_ _)); refine blk_put (cs := #[.int .u8 0, .int .u8 0, .int .u8 0, .int .u8 0]) ?_ 0 _ rfl; (with_reducible repeat (first | refine blk_drewN ?_ _ | refine blk_drew ?_ | refine blk_alloc ?_ _)); refine blk_far ?_ NB265_264.out _; (with_reducible repeat (first | refine blk_drewN ?_ _ | refine blk_drew ?_ | refine blk_alloc ?_ _)); refine blk_far ?_ NB265_264.out _; (with_reducible repeat (first | refine blk_drewN ?_ _ | refine blk_drew ?_ | refine blk_alloc ?_ _)); refine blk_far ?_ NB265_264.out _; (with_reducible repeat (first | refine blk_drewN ?_ _ | refine blk_drew ?_ | refine blk_alloc ?_ _)); refine blk_far ?_ NB265_264.out _; (with_reducible repeat (first | refine blk_drewN ?_ _ | refine blk_drew ?_ | refine blk_alloc ?_ _)); exact BK265.out) hb); have n5_ := hb_ HB hb; have n6_ := Aside0.mk (hbox); have n7_ := Aside0.mk ((by rw [hg]; exact (below_size (hq_ HB)) : w.heap.size ≤ gb266)); have n8_ := Aside0.mk ((by rw [hg]; exact (below_size (hq_ HB)) : w.heap.size ≤ gb266)); have n9_ := Aside0.mk ((by rw [hg]; exact Nat.ne_of_lt (blk_lt (g := gb233) (o := .cells #[.int .u8 t236, .int .u8 t237, .int .u8 t238, .int .u8 t239] 23 (0, 0)) (by (with_reducible repeat (first | refine blk_drewN ?_ _ | refine blk_drew ?_ | refine blk_alloc ?_ _)); refine blk_far ?_ NB233_265.out _; (with_reducible repeat (first | refine blk_drewN ?_ _ | refine blk_drew ?_ | refine blk_alloc ?_ _)); refine blk_far ?_ NB233_265.out _; (with_reducible repeat (first | refine blk_drewN ?_ _ | refine blk_drew ?_ | refine blk_alloc ?_ _)); refine blk_far ?_ NB233_265.out _; (with_reducible repeat (first | refine blk_drewN ?_ _ | refine blk_drew ?_ | refine blk_alloc ?_ _)); refine blk_far ?_ NB233_265.out _; (with_reducible repeat (first | refine blk_drewN ?_ _ | refine blk_drew ?_ | refine blk_alloc ?_ _)); refine blk_far ?_ NB233_264.out _; (with_reducible repeat (first | refine blk_drewN ?_ _ | refine blk_drew ?_ | refine blk_alloc ?_ _)); refine blk_far ?_ NB233_264.out _; (with_reducible repeat (first | refine blk_drewN ?_ _ | refine blk_drew ?_ | refine blk_alloc ?_ _)); refine blk_far ?_ NB233_264.out _; (with_reducible repeat (first | refine blk_drewN ?_ _ | refine blk_drew ?_ | refine blk_alloc ?_ _)); refine blk_far ?_ NB233_264.out _; (with_reducible repeat (first | refine blk_drewN ?_ _ | refine blk_drew ?_ | refine blk_alloc ?_ _)); exact BK233.out)) : gb233 ≠ gb266)); have n10_ := Aside0.mk ((by rw [hg]; exact Nat.ne_of_gt (blk_lt (g := gb233) (o := .cells #[.int .u8 t236, .int .u8 t237, .int .u8 t238, .int .u8 t239] 23 (0, 0)) (by (with_reducible repeat (first | refine blk_drewN ?_ _ | refine blk_drew ?_ | refine blk_alloc ?_ _)); refine blk_far ?_ NB233_265.out _; (with_reducible repeat (first | refine blk_drewN ?_ _ | refine blk_drew ?_ | refine blk_alloc ?_ _)); refine blk_far ?_ NB233_265.out _; (with_reducible repeat (first | refine blk_drewN ?_ _ | refine blk_drew ?_ | refine blk_alloc ?_ _)); refine blk_far ?_ NB233_265.out _; (with_reducible repeat (first | refine blk_drewN ?_ _ | refine blk_drew ?_ | refine blk_alloc ?_ _)); refine blk_far ?_ NB233_265.out _; (with_reducible repeat (first | refine blk_drewN ?_ _ | refine blk_drew ?_ | refine blk_alloc ?_ _)); refine blk_far ?_ NB233_264.out _; (with_reducible repeat (first | refine blk_drewN ?_ _ | refine blk_drew ?_ | refine blk_alloc ?_ _)); refine blk_far ?_ NB233_264.out _; (with_reducible repeat (first | refine blk_drewN ?_ _ | refine blk_drew ?_ | refine blk_alloc ?_ _)); refine blk_far ?_ NB233_264.out _; (with_reducible repeat (first | refine blk_drewN ?_ _ | refine blk_drew ?_ | refine blk_alloc ?_ _)); refine blk_far ?_ NB233_264.out _; (with_reducible repeat (first | refine blk_drewN ?_ _ | refine blk_drew ?_ | refine blk_alloc ?_ _)); exact BK233.out)) : gb266 ≠ gb233)); have n11_ := Aside0.mk ((by rw [hg]; exact Nat.ne_of_lt (blk_lt (g := gb234) (o := .cells #[.int .u8 t240, .int .u8 t241, .int .u8 t242, .int .u8 t243] 23 (0, 0)) (by (with_reducible repeat (first | refine blk_drewN ?_ _ | refine blk_drew ?_ | refine blk_alloc ?_ _)); refine blk_far ?_ NB234_265.out _; (with_reducible repeat (first | refine blk_drewN ?_ _ | refine blk_drew ?_ | refine blk_alloc ?_ _)); refine blk_far ?_ NB234_265.out _; (with_reducible repeat (first | refine blk_drewN ?_ _ | refine blk_drew ?_ | refine blk_alloc ?_ _)); refine blk_far ?_ NB234_265.out _; (with_reducible repeat (first | refine blk_drewN ?_ _ | refine blk_drew ?_ | refine blk_alloc ?_ _)); refine blk_far ?_ NB234_265.out _; (with_reducible repeat (first | refine blk_drewN ?_ _ | refine blk_drew ?_ | refine blk_alloc ?_ _)); refine blk_far ?_ NB234_264.out _; (with_reducible repeat (first | refine blk_drewN ?_ _ | refine blk_drew ?_ | refine blk_alloc ?_ _)); refine blk_far ?_ NB234_264.out _; (with_reducible repeat (first | refine blk_drewN ?_ _ | refine blk_drew ?_ | refine blk_alloc ?_ _)); refine blk_far ?_ NB234_264.out _; (with_reducible repeat (first | refine blk_drewN ?_ _ | refine blk_drew ?_ | refine blk_alloc ?_ _)); refine blk_far ?_ NB234_264.out _; (with_reducible repeat (first | refine blk_drewN ?_ _ | refine blk_drew ?_ | refine blk_alloc ?_ _)); exact BK234.out)) : gb234 ≠ gb266)); have n12_ := Aside0.mk ((by rw [hg]; exact Nat.ne_of_gt (blk_lt (g := gb234) (o := .cells #[.int .u8 t240, .int .u8 t241, .int .u8 t242, .int .u8 t243] 23 (0, 0)) (by (with_reducible repeat (first | refine blk_drewN ?_ _ | refine blk_drew ?_ | refine blk_alloc ?_ _)); refine blk_far ?_ NB234_265.out _; (with_reducible repeat (first | refine blk_drewN ?_ _ | refine blk_drew ?_ | refine blk_alloc ?_ _)); refine blk_far ?_ NB234_265.out _; (with_reducible repeat (first | refine blk_drewN ?_ _ | refine blk_drew ?_ | refine blk_alloc ?_ _)); refine blk_far ?_ NB234_265.out _; (with_reducible repeat (first | refine blk_drewN ?_ _ | refine blk_drew ?_ | refine blk_alloc ?_ _)); refine blk_far ?_ NB234_265.out _; (with_reducible repeat (first | refine blk_drewN ?_ _ | refine blk_drew ?_ | refine blk_alloc ?_ _)); refine blk_far ?_ NB234_264.out _; (with_reducible repeat (first | refine blk_drewN ?_ _ | refine blk_drew ?_ | refine blk_alloc ?_ _)); refine blk_far ?_ NB234_264.out _; (with_reducible repeat (first | refine blk_drewN ?_ _ | refine blk_drew ?_ | refine blk_alloc ?_ _)); refine blk_far ?_ NB234_264.out _; (with_reducible repeat (first | refine blk_drewN ?_ _ | refine blk_drew ?_ | refine blk_alloc ?_ _)); refine blk_far ?_ NB234_264.out _; (with_reducible repeat (first | refine blk_drewN ?_ _ | refine blk_drew ?_ | refine blk_alloc ?_ _)); exact BK234.out)) : gb266 ≠ gb234)); have n13_ := Aside0.mk ((by rw [hg]; exact Nat.ne_of_lt (blk_lt (g := gb235) (o := .cells #[.int .u8 t244, .int .u8 t245, .int .u8 t246, .int .u8 t247] 23 (0, 0)) (by (with_reducible repeat (first | refine blk_drewN ?_ _ | refine blk_drew ?_ | refine blk_alloc ?_ _)); refine blk_far ?_ NB235_265.out _; (with_reducible repeat (first | refine blk_drewN ?_ _ | refine blk_drew ?_ | refine blk_alloc ?_ _)); refine blk_far ?_ NB235_265.out _; (with_reducible repeat (first | refine blk_drewN ?_ _ | refine blk_drew ?_ | refine blk_alloc ?_ _)); refine blk_far ?_ NB235_265.out _; (with_reducible repeat (first | refine blk_drewN ?_ _ | refine blk_drew ?_ | refine blk_alloc ?_ _)); refine blk_far ?_ NB235_265.out _; (with_reducible repeat (first | refine blk_drewN ?_ _ | refine blk_drew ?_ | refine blk_alloc ?_ _)); refine blk_far ?_ NB235_264.out _; (with_reducible repeat (first | refine blk_drewN ?_ _ | refine blk_drew ?_ | refine blk_alloc ?_ _)); refine blk_far ?_ NB235_264.out _; (with_reducible repeat (first | refine blk_drewN ?_ _ | refine blk_drew ?_ | refine blk_alloc ?_ _)); refine blk_far ?_ NB235_264.out _; (with_reducible repeat (first | refine blk_drewN ?_ _ | refine blk_drew ?_ | refine blk_alloc ?_ _)); refine blk_far ?_ NB235_264.out _; (with_reducible repeat (first | refine blk_drewN ?_ _ | refine blk_drew ?_ | refine blk_alloc ?_ _)); exact BK235.out)) : gb235 ≠ gb266)); have n14_ := Aside0.mk ((by rw [hg]; exact Nat.ne_of_gt (blk_lt (g := gb235) (o := .cells #[.int .u8 t244, .int .u8 t245, .int .u8 t246, .int .u8 t247] 23 (0, 0)) (by (with_reducible repeat (first | refine blk_drewN ?_ _ | refine blk_drew ?_ | refine blk_alloc ?_ _)); refine blk_far ?_ NB235_265.out _; (with_reducible repeat (first | refine blk_drewN ?_ _ | refine blk_drew ?_ | refine blk_alloc ?_ _)); refine blk_far ?_ NB235_265.out _; (with_reducible repeat (first | refine blk_drewN ?_ _ | refine blk_drew ?_ | refine blk_alloc ?_ _)); refine blk_far ?_ NB235_265.out _; (with_reducible repeat (first | refine blk_drewN ?_ _ | refine blk_drew ?_ | refine blk_alloc ?_ _)); refine blk_far ?_ NB235_265.out _; (with_reducible repeat (first | refine blk_drewN ?_ _ | refine blk_drew ?_ | refine blk_alloc ?_ _)); refine blk_far ?_ NB235_264.out _; (with_reducible repeat (first | refine blk_drewN ?_ _ | refine blk_drew ?_ | refine blk_alloc ?_ _)); refine blk_far ?_ NB235_264.out _; (with_reducible repeat (first | refine blk_drewN ?_ _ | refine blk_drew ?_ | refine blk_alloc ?_ _)); refine blk_far ?_ NB235_264.out _; (with_reducible repeat (first | refine blk_drewN ?_ _ | refine blk_drew ?_ | refine blk_alloc ?_ _)); refine blk_far ?_ NB235_264.out _; (with_reducible repeat (first | refine blk_drewN ?_ _ | refine blk_drew ?_ | refine blk_alloc ?_ _)); exact BK235.out)) : gb266 ≠ gb235)); have n15_ := Aside0.mk ((by rw [hg]; exact Nat.ne_of_lt (blk_lt (g := gb264) (o := .cells #[.int .u8 t252, .int .u8 t253, .int .u8 t254, .int .u8 t255] 23 (0, 0)) (by (with_reducible repeat (first | refine blk_drewN ?_ _ | refine blk_drew ?_ | refine blk_alloc ?_ _)); refine blk_far ?_ NB264_265.out _; (with_reducible repeat (first | refine blk_drewN ?_ _ | refine blk_drew ?_ | refine blk_alloc ?_ _)); refine blk_far ?_ NB264_265.out _; (with_reducible repeat (first | refine blk_drewN ?_ _ | refine blk_drew ?_ | refine blk_alloc ?_ _)); refine blk_far ?_ NB264_265.out _; (with_reducible repeat (first | refine blk_drewN ?_ _ | refine blk_drew ?_ | refine blk_alloc ?_ _)); refine blk_far ?_ NB264_265.out _; (with_reducible repeat (first | refine blk_drewN ?_ _ | refine blk_drew ?_ | refine blk_alloc ?_ _)); refine blk_put (cs := #[.int .u8 t252, .int .u8 t253, .int .u8 t254, .int .u8 0]) ?_ 3 _ rfl; (with_reducible repeat (first | refine blk_drewN ?_ _ | refine blk_drew ?_ | refine blk_alloc ?_ _)); refine blk_put (cs := #[.int .u8 t252, .int .u8 t253, .int .u8 0, .int .u8 0]) ?_ 2 _ rfl; (with_reducible repeat (first | refine blk_drewN ?_ _ | refine blk_drew ?_ | refine blk_alloc ?_ _)); refine blk_put (cs := #[.int .u8 t252, .int .u8 0, .int .u8 0, .int .u8 0]) ?_ 1 _ rfl; (with_reducible repeat (first | refine blk_drewN ?_ _ | refine blk_drew ?_ | refine blk_alloc ?_ _)); refine blk_put (cs := #[.int .u8 0, .int .u8 0, .int .u8 0, .int .u8 0]) ?_ 0 _ rfl; (with_reducible repeat (first | refine blk_drewN ?_ _ | refine blk_drew ?_ | refine blk_alloc ?_ _)); exact BK264.out)) : gb264 ≠ gb266)); have n16_ := Aside0.mk ((by rw [hg]; exact Nat.ne_of_gt (blk_lt (g := gb264) (o := .cells #[.int .u8 t252, .int .u8 t253, .int .u8 t254, .int .u8 t255] 23 (0, 0)) (by (with_reducible repeat (first | refine blk_drewN ?_ _ | refine blk_drew ?_ | refine blk_alloc ?_ _)); refine blk_far ?_ NB264_265.out _; (with_reducible repeat (first | refine blk_drewN ?_ _ | refine blk_drew ?_ | refine blk_alloc ?_ _)); refine blk_far ?_ NB264_265.out _; (with_reducible repeat (first | refine blk_drewN ?_ _ | refine blk_drew ?_ | refine blk_alloc ?_ _)); refine blk_far ?_ NB264_265.out _; (with_reducible repeat (first | refine blk_drewN ?_ _ | refine blk_drew ?_ | refine blk_alloc ?_ _)); refine blk_far ?_ NB264_265.out _; (with_reducible repeat (first | refine blk_drewN ?_ _ | refine blk_drew ?_ | refine blk_alloc ?_ _)); refine blk_put (cs := #[.int .u8 t252, .int .u8 t253, .int .u8 t254, .int .u8 0]) ?_ 3 _ rfl; (with_reducible repeat (first | refine blk_drewN ?_ _ | refine blk_drew ?_ | refine blk_alloc ?_ _)); refine blk_put (cs := #[.int .u8 t252, .int .u8 t253, .int .u8 0, .int .u8 0]) ?_ 2 _ rfl; (with_reducible repeat (first | refine blk_drewN ?_ _ | refine blk_drew ?_ | refine blk_alloc ?_ _)); refine blk_put (cs := #[.int .u8 t252, .int .u8 0, .int .u8 0, .int .u8 0]) ?_ 1 _ rfl; (with_reducible repeat (first | refine blk_drewN ?_ _ | refine blk_drew ?_ | refine blk_alloc ?_ _)); refine blk_put (cs := #[.int .u8 0, .int .u8 0, .int .u8 0, .int .u8 0]) ?_ 0 _ rfl; (with_reducible repeat (first | refine blk_drewN ?_ _ | refine blk_drew ?_ | refine blk_alloc ?_ _)); exact BK264.out)) : gb266 ≠ gb264)); have n17_ := Aside0.mk ((by rw [hg]; exact Nat.ne_of_lt (blk_lt (g := gb265) (o := .cells #[.int .u8 t260, .int .u8 t261, .int .u8 t262, .int .u8 t263] 23 (0, 0)) (by (with_reducible repeat (first | refine blk_drewN ?_ _ | refine blk_drew ?_ | refine blk_alloc ?_ _)); refine blk_put (cs := #[.int .u8 t260, .int .u8 t261, .int .u8 t262, .int .u8 0]) ?_ 3 _ rfl; (with_reducible repeat (first | refine blk_drewN ?_ _ | refine blk_drew ?_ | refine blk_alloc ?_ _)); refine blk_put (cs := #[.int .u8 t260, .int .u8 t261, .int .u8 0, .int .u8 0]) ?_ 2 _ rfl; (with_reducible repeat (first | refine blk_drewN ?_ _ | refine blk_drew ?_ | refine blk_alloc ?_ _)); refine blk_put (cs := #[.int .u8 t260, .int .u8 0, .int .u8 0, .int .u8 0]) ?_ 1 _ rfl; (with_reducible repeat (first | refine blk_drewN ?_ _ | refine blk_drew ?_ | refine blk_alloc ?_ _)); refine blk_put (cs := #[.int .u8 0, .int .u8 0, .int .u8 0, .int .u8 0]) ?_ 0 _ rfl; (with_reducible repeat (first | refine blk_drewN ?_ _ | refine blk_drew ?_ | refine blk_alloc ?_ _)); refine blk_far ?_ NB265_264.out _; (with_reducible repeat (first | refine blk_drewN ?_ _ | refine blk_drew ?_ | refine blk_alloc ?_ _)); refine blk_far ?_ NB265_264.out _; (with_reducible repeat (first | refine blk_drewN ?_ _ | refine blk_drew ?_ | refine blk_alloc ?_ _)); refine blk_far ?_ NB265_264.out _; (with_reducible repeat (first | refine blk_drewN ?_ _ | refine blk_drew ?_ | refine blk_alloc ?_ _)); refine blk_far ?_ NB265_264.out _; (with_reducible repeat (first | refine blk_drewN ?_ _ | refine blk_drew ?_ | refine blk_alloc ?_ _)); exact BK265.out)) : gb265 ≠ gb266)); have n18_ := Aside0.mk ((by rw [hg]; exact Nat.ne_of_gt (blk_lt (g := gb265) (o := .cells #[.int .u8 t260, .int .u8 t261, .int .u8 t262, .int .u8 t263] 23 (0, 0)) (by (with_reducible repeat (first | refine blk_drewN ?_ _ | refine blk_drew ?_ | refine blk_alloc ?_ _)); refine blk_put (cs := #[.int .u8 t260, .int .u8 t261, .int .u8 t262, .int .u8 0]) ?_ 3 _ rfl; (with_reducible repeat (first | refine blk_drewN ?_ _ | refine blk_drew ?_ | refine blk_alloc ?_ _)); refine blk_put (cs := #[.int .u8 t260, .int .u8 t261, .int .u8 0, .int .u8 0]) ?_ 2 _ rfl; (with_reducible repeat (first | refine blk_drewN ?_ _ | refine blk_drew ?_ | refine blk_alloc ?_ _)); refine blk_put (cs := #[.int .u8 t260, .int .u8 0, .int .u8 0, .int .u8 0]) ?_ 1 _ rfl; (with_reducible repeat (first | refine blk_drewN ?_ _ | refine blk_drew ?_ | refine blk_alloc ?_ _)); refine blk_put (cs := #[.int .u8 0, .int .u8 0, .int .u8 0, .int .u8 0]) ?_ 0 _ rfl; (with_reducible repeat (first | refine blk_drewN ?_ _ | refine blk_drew ?_ | refine blk_alloc ?_ _)); refine blk_far ?_ NB265_264.out _; (with_reducible repeat (first | refine blk_drewN ?_ _ | refine blk_drew ?_ | refine blk_alloc ?_ _)); refine blk_far ?_ NB265_264.out _; (with_reducible repeat (first | refine blk_drewN ?_ _ | refine blk_drew ?_ | refine blk_alloc ?_ _)); refine blk_far ?_ NB265_264.out _; (with_reducible repeat (first | refine blk_drewN ?_ _ | refine blk_drew ?_ | refine blk_alloc ?_ _)); refine blk_far ?_ NB265_264.out _; (with_reducible repeat (first | refine blk_drewN ?_ _ | refine blk_drew ?_ | refine blk_alloc ?_ _)); exact BK265.out)) : gb266 ≠ gb265)); clear BK233; clear BK234; clear BK235; clear BK264; clear BK265; clear HB; have BK233 := n0_; have BK234 := n1_; have BK235 := n2_; have BK264 := n3_; have BK265 := n4_; have HB := n5_; have BK266 := n6_; have GW266 := n7_; have GE266 := n8_; have NB233_266 := n9_; have NB266_233 := n10_; have NB234_266 := n11_; have NB266_234 := n12_; have NB235_266 := n13_; have NB266_235 := n14_; have NB264_266 := n15_; have NB266_264 := n16_; have NB265_266 := n17_; have NB266_265 := n18_; clear n0_ n1_ n2_ n3_ n4_ n5_ n6_ n7_ n8_ n9_ n10_ n11_ n12_ n13_ n14_ n15_ n16_ n17_ n18_; clear hb hbox hg; have hnb49 := NB266_233.out; have hnc49 := NB233_266.out; have hnb50 := NB266_234.out; have hnc50 := NB234_266.out; have hnb51 := NB266_235.out; have hnc51 := NB235_266.out; have hnb52 := NB266_264.out; have hnc52 := NB264_266.out; have hnb53 := NB266_265.out; have hnc53 := NB265_266.out; have hcz54_0 : w48.cell? ⟨gb266, 0, none⟩ = some (.int .u8 0) := (blk_cell BK266.out 0).trans rfl; have hcz54_1 : w48.cell? ⟨gb266, 1, none⟩ = some (.int .u8 0) := (blk_cell BK266.out 1).trans rfl; have hcz54_2 : w48.cell? ⟨gb266, 2, none⟩ = some (.int .u8 0) := (blk_cell BK266.out 2).trans rfl; have hcz54_3 : w48.cell? ⟨gb266, 3, none⟩ = some (.int .u8 0) := (blk_cell BK266.out 3).trans rfl; have hfz54_0 := blk_frozen BK266.out 0; have hfz54_1 := blk_frozen BK266.out 1; have hfz54_2 := blk_frozen BK266.out 2; have hfz54_3 := blk_frozen BK266.out 3))
 (try simp only [Act.put, List.setIfInBounds_toArray, List.set_cons_zero, List.set_cons_succ])
 go_cut [54] (fun v54 wc => ∃ (kq : Nat) (x54_10 : Bool), v54 = .bool x54_10 ∧ Aside0 (compositorlaw08_PixelOverAssociativity.j0 kq x54_10 t252 t253 t254 t255 t260 t261 t262 t263 = some true) ∧ Aside0 (kq ≤ k) ∧ Aside0 (wc.heap[gb233]? = some (.cells #[.int .u8 t236, .int .u8 t237, .int .u8 t238, .int .u8 t239] 23 (0, 0))) ∧ Aside0 (wc.heap[gb234]? = some (.cells #[.int .u8 t240, .int .u8 t241, .int .u8 t242, .int .u8 t243] 23 (0, 0))) ∧ Aside0 (wc.heap[gb235]? = some (.cells #[.int .u8 t244, .int .u8 t245, .int .u8 t246, .int .u8 t247] 23 (0, 0))) ∧ Aside0 (wc.heap[gb264]? = some (.cells #[.int .u8 t252, .int .u8 t253, .int .u8 t254, .int .u8 t255] 23 (0, 0))) ∧ Aside0 (wc.heap[gb265]? = some (.cells #[.int .u8 t260, .int .u8 t261, .int .u8 t262, .int .u8 t263] 23 (0, 0))) ∧ Aside0 (wc.heap[gb266]? = some (.cells #[.int .u8 0, .int .u8 0, .int .u8 0, .int .u8 0] 23 (0, 0))) ∧ Aside0 (Below w.heap.size w wc))
 case first =>
  have H := HC11.out
  clear HC11
  by_cases c55 : t239 = 255
  ·
   rw [if_pos c55] at H
   have c55b0 : (t239 == 255) = true := beq_iff_eq.mpr c55
   have c55b1 : (t239 != 255) = false := bne_eq_false_iff_eq.mpr c55
   clear c55
   (first | rw [c55b0] | (simp only [i64_w, i32_w]; rw [c55b0]) | skip)
   have H' := Aside0.mk H
   clear H
   have hnb56 := NB233_234.out
   have hnc56 := NB234_233.out
   have hnb57 := NB233_235.out
   have hnc57 := NB235_233.out
   have hnb58 := NB233_264.out
   have hnc58 := NB264_233.out
   have hnb59 := NB233_265.out
   have hnc59 := NB265_233.out
   have hnb60 := NB233_266.out
   have hnc60 := NB266_233.out
   have hcz61_0 : w48.cell? ⟨gb233, 0, none⟩ = some (.int .u8 t236) := (blk_cell BK233.out 0).trans rfl
   have hcz61_1 : w48.cell? ⟨gb233, 1, none⟩ = some (.int .u8 t237) := (blk_cell BK233.out 1).trans rfl
   have hcz61_2 : w48.cell? ⟨gb233, 2, none⟩ = some (.int .u8 t238) := (blk_cell BK233.out 2).trans rfl
   have hcz61_3 : w48.cell? ⟨gb233, 3, none⟩ = some (.int .u8 t239) := (blk_cell BK233.out 3).trans rfl
   have hfz61_0 := blk_frozen BK233.out 0
   have hfz61_1 := blk_frozen BK233.out 1
   have hfz61_2 := blk_frozen BK233.out 2
   have hfz61_3 := blk_frozen BK233.out 3
   have hnb62 := NB264_234.out
   have hnc62 := NB234_264.out
   have hnb63 := NB264_235.out
   have hnc63 := NB235_264.out
   have hnb64 := NB264_265.out
   have hnc64 := NB265_264.out
   have hnb65 := NB264_266.out
   have hnc65 := NB266_264.out
   have hcz66_0 : w48.cell? ⟨gb264, 0, none⟩ = some (.int .u8 t252) := (blk_cell BK264.out 0).trans rfl
   have hcz66_1 : w48.cell? ⟨gb264, 1, none⟩ = some (.int .u8 t253) := (blk_cell BK264.out 1).trans rfl
   have hcz66_2 : w48.cell? ⟨gb264, 2, none⟩ = some (.int .u8 t254) := (blk_cell BK264.out 2).trans rfl
   have hcz66_3 : w48.cell? ⟨gb264, 3, none⟩ = some (.int .u8 t255) := (blk_cell BK264.out 3).trans rfl
   have hfz66_0 := blk_frozen BK264.out 0
   have hfz66_1 := blk_frozen BK264.out 1
   have hfz66_2 := blk_frozen BK264.out 2
   have hfz66_3 := blk_frozen BK264.out 3
   have hnb67 := NB265_234.out
   have hnc67 := NB234_265.out
   have hnb68 := NB265_235.out
   have hnc68 := NB235_265.out
   have hnb69 := NB265_266.out
   have hnc69 := NB266_265.out
   have hcz70_0 : w48.cell? ⟨gb265, 0, none⟩ = some (.int .u8 t260) := (blk_cell BK265.out 0).trans rfl
   have hcz70_1 : w48.cell? ⟨gb265, 1, none⟩ = some (.int .u8 t261) := (blk_cell BK265.out 1).trans rfl
   have hcz70_2 : w48.cell? ⟨gb265, 2, none⟩ = some (.int .u8 t262) := (blk_cell BK265.out 2).trans rfl
   have hcz70_3 : w48.cell? ⟨gb265, 3, none⟩ = some (.int .u8 t263) := (blk_cell BK265.out 3).trans rfl
   have hfz70_0 := blk_frozen BK265.out 0
   have hfz70_1 := blk_frozen BK265.out 1
   have hfz70_2 := blk_frozen BK265.out 2
   have hfz70_3 := blk_frozen BK265.out 3
   go_wp2
   go_meet
   case rel => exact ⟨_, ((!(t252 == t260) || (!(t253 == t261) || (!(t254 == t262) || (!(t255 == t263)))))), (by first | rfl | (simp; done) | (simp [*]; done)), H', ⟨by first | omega | exact Nat.le_refl _⟩, bf_ BK233, bf_ BK234, bf_ BK235, bf_ BK264, bf_ BK265, ⟨by (with_reducible repeat (first | refine blk_drewN ?_ _ | refine blk_drew ?_ | refine blk_alloc ?_ _)); refine blk_put (cs := #[.int .u8 0, .int .u8 0, .int .u8 0, .int .u8 0]) ?_ 3 _ rfl; (with_reducible repeat (first | refine blk_drewN ?_ _ | refine blk_drew ?_ | refine blk_alloc ?_ _)); refine blk_put (cs := #[.int .u8 0, .int .u8 0, .int .u8 0, .int .u8 0]) ?_ 2 _ rfl; (with_reducible repeat (first | refine blk_drewN ?_ _ | refine blk_drew ?_ | refine blk_alloc ?_ _)); refine blk_put (cs := #[.int .u8 0, .int .u8 0, .int .u8 0, .int .u8 0]) ?_ 1 _ rfl; (with_reducible repeat (first | refine blk_drewN ?_ _ | refine blk_drew ?_ | refine blk_alloc ?_ _)); refine blk_put (cs := #[.int .u8 0, .int .u8 0, .int .u8 0, .int .u8 0]) ?_ 0 _ rfl; (with_reducible repeat (first | refine blk_drewN ?_ _ | refine blk_drew ?_ | refine blk_alloc ?_ _)); exact BK266.out⟩, ⟨by repeat (first | (with_reducible first | exact HB.out | apply below_alloc | apply pw_below_drewN | apply below_drew1 | refine below_set ?_ GE233.out | refine below_set ?_ GE234.out | refine below_set ?_ GE235.out | refine below_set ?_ GE264.out | refine below_set ?_ GE265.out | refine below_set ?_ GE266.out) | exact HB.out)⟩⟩
  ·
   rw [if_neg c55] at H
   have c55b0 : (t239 == 255) = false := beq_eq_false_iff_ne.mpr c55
   have c55b1 : (t239 != 255) = true := bne_iff_ne.mpr c55
   (first | rw [c55b0] | (simp only [i64_w, i32_w]; rw [c55b0]) | skip)
   by_cases c71 : t243 = 255
   ·
    rw [if_pos c71] at H
    have c71b0 : (t243 == 255) = true := beq_iff_eq.mpr c71
    have c71b1 : (t243 != 255) = false := bne_eq_false_iff_eq.mpr c71
    clear c71
    have H' := Aside0.mk H
    clear H
    have hnb72 := NB233_234.out
    have hnc72 := NB234_233.out
    have hnb73 := NB233_235.out
    have hnc73 := NB235_233.out
    have hnb74 := NB233_264.out
    have hnc74 := NB264_233.out
    have hnb75 := NB233_265.out
    have hnc75 := NB265_233.out
    have hnb76 := NB233_266.out
    have hnc76 := NB266_233.out
    have hcz77_0 : w48.cell? ⟨gb233, 0, none⟩ = some (.int .u8 t236) := (blk_cell BK233.out 0).trans rfl
    have hcz77_1 : w48.cell? ⟨gb233, 1, none⟩ = some (.int .u8 t237) := (blk_cell BK233.out 1).trans rfl
    have hcz77_2 : w48.cell? ⟨gb233, 2, none⟩ = some (.int .u8 t238) := (blk_cell BK233.out 2).trans rfl
    have hcz77_3 : w48.cell? ⟨gb233, 3, none⟩ = some (.int .u8 t239) := (blk_cell BK233.out 3).trans rfl
    have hfz77_0 := blk_frozen BK233.out 0
    have hfz77_1 := blk_frozen BK233.out 1
    have hfz77_2 := blk_frozen BK233.out 2
    have hfz77_3 := blk_frozen BK233.out 3
    have hnb78 := NB234_235.out
    have hnc78 := NB235_234.out
    have hnb79 := NB234_264.out
    have hnc79 := NB264_234.out
    have hnb80 := NB234_265.out
    have hnc80 := NB265_234.out
    have hnb81 := NB234_266.out
    have hnc81 := NB266_234.out
    have hcz82_0 : w48.cell? ⟨gb234, 0, none⟩ = some (.int .u8 t240) := (blk_cell BK234.out 0).trans rfl
    have hcz82_1 : w48.cell? ⟨gb234, 1, none⟩ = some (.int .u8 t241) := (blk_cell BK234.out 1).trans rfl
    have hcz82_2 : w48.cell? ⟨gb234, 2, none⟩ = some (.int .u8 t242) := (blk_cell BK234.out 2).trans rfl
    have hcz82_3 : w48.cell? ⟨gb234, 3, none⟩ = some (.int .u8 t243) := (blk_cell BK234.out 3).trans rfl
    have hfz82_0 := blk_frozen BK234.out 0
    have hfz82_1 := blk_frozen BK234.out 1
    have hfz82_2 := blk_frozen BK234.out 2
    have hfz82_3 := blk_frozen BK234.out 3
    have hnb83 := NB264_235.out
    have hnc83 := NB235_264.out
    have hnb84 := NB264_265.out
    have hnc84 := NB265_264.out
    have hnb85 := NB264_266.out
    have hnc85 := NB266_264.out
    have hcz86_0 : w48.cell? ⟨gb264, 0, none⟩ = some (.int .u8 t252) := (blk_cell BK264.out 0).trans rfl
    have hcz86_1 : w48.cell? ⟨gb264, 1, none⟩ = some (.int .u8 t253) := (blk_cell BK264.out 1).trans rfl
    have hcz86_2 : w48.cell? ⟨gb264, 2, none⟩ = some (.int .u8 t254) := (blk_cell BK264.out 2).trans rfl
    have hcz86_3 : w48.cell? ⟨gb264, 3, none⟩ = some (.int .u8 t255) := (blk_cell BK264.out 3).trans rfl
    have hfz86_0 := blk_frozen BK264.out 0
    have hfz86_1 := blk_frozen BK264.out 1
    have hfz86_2 := blk_frozen BK264.out 2
    have hfz86_3 := blk_frozen BK264.out 3
    have hnb87 := NB265_235.out
    have hnc87 := NB235_265.out
    have hnb88 := NB265_266.out
    have hnc88 := NB266_265.out
    have hcz89_0 : w48.cell? ⟨gb265, 0, none⟩ = some (.int .u8 t260) := (blk_cell BK265.out 0).trans rfl
    have hcz89_1 : w48.cell? ⟨gb265, 1, none⟩ = some (.int .u8 t261) := (blk_cell BK265.out 1).trans rfl
    have hcz89_2 : w48.cell? ⟨gb265, 2, none⟩ = some (.int .u8 t262) := (blk_cell BK265.out 2).trans rfl
    have hcz89_3 : w48.cell? ⟨gb265, 3, none⟩ = some (.int .u8 t263) := (blk_cell BK265.out 3).trans rfl
    have hfz89_0 := blk_frozen BK265.out 0
    have hfz89_1 := blk_frozen BK265.out 1
    have hfz89_2 := blk_frozen BK265.out 2
    have hfz89_3 := blk_frozen BK265.out 3
    go_wp2
    go_meet
    case rel => exact ⟨_, ((!(t252 == t260) || (!(t253 == t261) || (!(t254 == t262) || (!(t255 == t263)))))), (by first | rfl | (simp; done) | (simp [*]; done)), H', ⟨by first | omega | exact Nat.le_refl _⟩, bf_ BK233, bf_ BK234, bf_ BK235, bf_ BK264, bf_ BK265, ⟨by (with_reducible repeat (first | refine blk_drewN ?_ _ | refine blk_drew ?_ | refine blk_alloc ?_ _)); refine blk_put (cs := #[.int .u8 0, .int .u8 0, .int .u8 0, .int .u8 0]) ?_ 3 _ rfl; (with_reducible repeat (first | refine blk_drewN ?_ _ | refine blk_drew ?_ | refine blk_alloc ?_ _)); refine blk_put (cs := #[.int .u8 0, .int .u8 0, .int .u8 0, .int .u8 0]) ?_ 2 _ rfl; (with_reducible repeat (first | refine blk_drewN ?_ _ | refine blk_drew ?_ | refine blk_alloc ?_ _)); refine blk_put (cs := #[.int .u8 0, .int .u8 0, .int .u8 0, .int .u8 0]) ?_ 1 _ rfl; (with_reducible repeat (first | refine blk_drewN ?_ _ | refine blk_drew ?_ | refine blk_alloc ?_ _)); refine blk_put (cs := #[.int .u8 0, .int .u8 0, .int .u8 0, .int .u8 0]) ?_ 0 _ rfl; (with_reducible repeat (first | refine blk_drewN ?_ _ | refine blk_drew ?_ | refine blk_alloc ?_ _)); exact BK266.out⟩, ⟨by repeat (first | (with_reducible first | exact HB.out | apply below_alloc | apply pw_below_drewN | apply below_drew1 | refine below_set ?_ GE233.out | refine below_set ?_ GE234.out | refine below_set ?_ GE235.out | refine below_set ?_ GE264.out | refine below_set ?_ GE265.out | refine below_set ?_ GE266.out) | exact HB.out)⟩⟩
   ·
    rw [if_neg c71] at H
    have c71b0 : (t243 == 255) = false := beq_eq_false_iff_ne.mpr c71
    have c71b1 : (t243 != 255) = true := bne_iff_ne.mpr c71
    by_cases c90 : (t236 == 0 && (t237 == 0 && (t238 == 0 && (t239 == 0)))) = true
    ·
     rw [if_pos c90] at H
     have c90b0 : (t236 == 0 && (t237 == 0 && (t238 == 0 && (t239 == 0)))) = true := c90
     (try (have c90b1 : decide (t236 = 0 && (t237 == 0 && (t238 == 0 && (t239 == 0)))) = true := by simpa using c90))
     (try (have c90b2 : (t236 == 0 && (t237 == 0 && (t238 == 0 && (t239 == 0)))) = true := by simpa using c90))
     clear c90
     have H' := Aside0.mk H
     clear H
     have hnb91 := NB233_234.out
     have hnc91 := NB234_233.out
     have hnb92 := NB233_235.out
     have hnc92 := NB235_233.out
     have hnb93 := NB233_264.out
     have hnc93 := NB264_233.out
     have hnb94 := NB233_265.out
     have hnc94 := NB265_233.out
     have hnb95 := NB233_266.out
     have hnc95 := NB266_233.out
     have hcz96_0 : w48.cell? ⟨gb233, 0, none⟩ = some (.int .u8 t236) := (blk_cell BK233.out 0).trans rfl
     have hcz96_1 : w48.cell? ⟨gb233, 1, none⟩ = some (.int .u8 t237) := (blk_cell BK233.out 1).trans rfl
     have hcz96_2 : w48.cell? ⟨gb233, 2, none⟩ = some (.int .u8 t238) := (blk_cell BK233.out 2).trans rfl
     have hcz96_3 : w48.cell? ⟨gb233, 3, none⟩ = some (.int .u8 t239) := (blk_cell BK233.out 3).trans rfl
     have hfz96_0 := blk_frozen BK233.out 0
     have hfz96_1 := blk_frozen BK233.out 1
     have hfz96_2 := blk_frozen BK233.out 2
     have hfz96_3 := blk_frozen BK233.out 3
     have hnb97 := NB234_235.out
     have hnc97 := NB235_234.out
     have hnb98 := NB234_264.out
     have hnc98 := NB264_234.out
     have hnb99 := NB234_265.out
     have hnc99 := NB265_234.out
     have hnb100 := NB234_266.out
     have hnc100 := NB266_234.out
     have hcz101_0 : w48.cell? ⟨gb234, 0, none⟩ = some (.int .u8 t240) := (blk_cell BK234.out 0).trans rfl
     have hcz101_1 : w48.cell? ⟨gb234, 1, none⟩ = some (.int .u8 t241) := (blk_cell BK234.out 1).trans rfl
     have hcz101_2 : w48.cell? ⟨gb234, 2, none⟩ = some (.int .u8 t242) := (blk_cell BK234.out 2).trans rfl
     have hcz101_3 : w48.cell? ⟨gb234, 3, none⟩ = some (.int .u8 t243) := (blk_cell BK234.out 3).trans rfl
     have hfz101_0 := blk_frozen BK234.out 0
     have hfz101_1 := blk_frozen BK234.out 1
     have hfz101_2 := blk_frozen BK234.out 2
     have hfz101_3 := blk_frozen BK234.out 3
     have hnb102 := NB266_235.out
     have hnc102 := NB235_266.out
     have hnb103 := NB266_264.out
     have hnc103 := NB264_266.out
     have hnb104 := NB266_265.out
     have hnc104 := NB265_266.out
     have hcz105_0 : w48.cell? ⟨gb266, 0, none⟩ = some (.int .u8 0) := (blk_cell BK266.out 0).trans rfl
     have hcz105_1 : w48.cell? ⟨gb266, 1, none⟩ = some (.int .u8 0) := (blk_cell BK266.out 1).trans rfl
     have hcz105_2 : w48.cell? ⟨gb266, 2, none⟩ = some (.int .u8 0) := (blk_cell BK266.out 2).trans rfl
     have hcz105_3 : w48.cell? ⟨gb266, 3, none⟩ = some (.int .u8 0) := (blk_cell BK266.out 3).trans rfl
     have hfz105_0 := blk_frozen BK266.out 0
     have hfz105_1 := blk_frozen BK266.out 1
     have hfz105_2 := blk_frozen BK266.out 2
     have hfz105_3 := blk_frozen BK266.out 3
     have hnb106 := NB264_235.out
     have hnc106 := NB235_264.out
     have hnb107 := NB264_265.out
     have hnc107 := NB265_264.out
     have hcz108_0 : w48.cell? ⟨gb264, 0, none⟩ = some (.int .u8 t252) := (blk_cell BK264.out 0).trans rfl
     have hcz108_1 : w48.cell? ⟨gb264, 1, none⟩ = some (.int .u8 t253) := (blk_cell BK264.out 1).trans rfl
     have hcz108_2 : w48.cell? ⟨gb264, 2, none⟩ = some (.int .u8 t254) := (blk_cell BK264.out 2).trans rfl
     have hcz108_3 : w48.cell? ⟨gb264, 3, none⟩ = some (.int .u8 t255) := (blk_cell BK264.out 3).trans rfl
     have hfz108_0 := blk_frozen BK264.out 0
     have hfz108_1 := blk_frozen BK264.out 1
     have hfz108_2 := blk_frozen BK264.out 2
     have hfz108_3 := blk_frozen BK264.out 3
     have hnb109 := NB265_235.out
     have hnc109 := NB235_265.out
     have hcz110_0 : w48.cell? ⟨gb265, 0, none⟩ = some (.int .u8 t260) := (blk_cell BK265.out 0).trans rfl
     have hcz110_1 : w48.cell? ⟨gb265, 1, none⟩ = some (.int .u8 t261) := (blk_cell BK265.out 1).trans rfl
     have hcz110_2 : w48.cell? ⟨gb265, 2, none⟩ = some (.int .u8 t262) := (blk_cell BK265.out 2).trans rfl
     have hcz110_3 : w48.cell? ⟨gb265, 3, none⟩ = some (.int .u8 t263) := (blk_cell BK265.out 3).trans rfl
     have hfz110_0 := blk_frozen BK265.out 0
     have hfz110_1 := blk_frozen BK265.out 1
     have hfz110_2 := blk_frozen BK265.out 2
     have hfz110_3 := blk_frozen BK265.out 3
     go_wp2
     go_meet
     case rel => exact ⟨_, ((!(t252 == t260) || (!(t253 == t261) || (!(t254 == t262) || (!(t255 == t263)))))), (by first | rfl | (simp; done) | (simp [*]; done)), H', ⟨by first | omega | exact Nat.le_refl _⟩, bf_ BK233, bf_ BK234, bf_ BK235, bf_ BK264, bf_ BK265, ⟨by (with_reducible repeat (first | refine blk_drewN ?_ _ | refine blk_drew ?_ | refine blk_alloc ?_ _)); refine blk_put (cs := #[.int .u8 0, .int .u8 0, .int .u8 0, .int .u8 0]) ?_ 3 _ rfl; (with_reducible repeat (first | refine blk_drewN ?_ _ | refine blk_drew ?_ | refine blk_alloc ?_ _)); refine blk_put (cs := #[.int .u8 0, .int .u8 0, .int .u8 0, .int .u8 0]) ?_ 2 _ rfl; (with_reducible repeat (first | refine blk_drewN ?_ _ | refine blk_drew ?_ | refine blk_alloc ?_ _)); refine blk_put (cs := #[.int .u8 0, .int .u8 0, .int .u8 0, .int .u8 0]) ?_ 1 _ rfl; (with_reducible repeat (first | refine blk_drewN ?_ _ | refine blk_drew ?_ | refine blk_alloc ?_ _)); refine blk_put (cs := #[.int .u8 0, .int .u8 0, .int .u8 0, .int .u8 0]) ?_ 0 _ rfl; (with_reducible repeat (first | refine blk_drewN ?_ _ | refine blk_drew ?_ | refine blk_alloc ?_ _)); exact BK266.out⟩, ⟨by repeat (first | (with_reducible first | exact HB.out | apply below_alloc | apply pw_below_drewN | apply below_drew1 | refine below_set ?_ GE233.out | refine below_set ?_ GE234.out | refine below_set ?_ GE235.out | refine below_set ?_ GE264.out | refine below_set ?_ GE265.out | refine below_set ?_ GE266.out) | exact HB.out)⟩⟩
    ·
     rw [if_neg c90] at H
     have c90b0 : (t236 == 0 && (t237 == 0 && (t238 == 0 && (t239 == 0)))) = false := by simpa using c90
     (try (have c90b1 : decide (t236 = 0 && (t237 == 0 && (t238 == 0 && (t239 == 0)))) = false := by simpa using c90))
     (try (have c90b2 : (t236 == 0 && (t237 == 0 && (t238 == 0 && (t239 == 0)))) = false := by simpa using c90))
     (try (have c90b3 : ¬ (t236 = 0 && (t237 == 0 && (t238 == 0 && (t239 == 0)))) := by simpa using c90))
     clear c90
     by_cases c111 : (t240 == 0 && (t241 == 0 && (t242 == 0 && (t243 == 0)))) = true
     ·
      rw [if_pos c111] at H
      have c111b0 : (t240 == 0 && (t241 == 0 && (t242 == 0 && (t243 == 0)))) = true := c111
      (try (have c111b1 : decide (t240 = 0 && (t241 == 0 && (t242 == 0 && (t243 == 0)))) = true := by simpa using c111))
      (try (have c111b2 : (t240 == 0 && (t241 == 0 && (t242 == 0 && (t243 == 0)))) = true := by simpa using c111))
      clear c111
      have H' := Aside0.mk H
      clear H
      have hnb112 := NB233_234.out
      have hnc112 := NB234_233.out
      have hnb113 := NB233_235.out
      have hnc113 := NB235_233.out
      have hnb114 := NB233_264.out
      have hnc114 := NB264_233.out
      have hnb115 := NB233_265.out
      have hnc115 := NB265_233.out
      have hnb116 := NB233_266.out
      have hnc116 := NB266_233.out
      have hcz117_0 : w48.cell? ⟨gb233, 0, none⟩ = some (.int .u8 t236) := (blk_cell BK233.out 0).trans rfl
      have hcz117_1 : w48.cell? ⟨gb233, 1, none⟩ = some (.int .u8 t237) := (blk_cell BK233.out 1).trans rfl
      have hcz117_2 : w48.cell? ⟨gb233, 2, none⟩ = some (.int .u8 t238) := (blk_cell BK233.out 2).trans rfl
      have hcz117_3 : w48.cell? ⟨gb233, 3, none⟩ = some (.int .u8 t239) := (blk_cell BK233.out 3).trans rfl
      have hfz117_0 := blk_frozen BK233.out 0
      have hfz117_1 := blk_frozen BK233.out 1
      have hfz117_2 := blk_frozen BK233.out 2
      have hfz117_3 := blk_frozen BK233.out 3
      have hnb118 := NB234_235.out
      have hnc118 := NB235_234.out
      have hnb119 := NB234_264.out
      have hnc119 := NB264_234.out
      have hnb120 := NB234_265.out
      have hnc120 := NB265_234.out
      have hnb121 := NB234_266.out
      have hnc121 := NB266_234.out
      have hcz122_0 : w48.cell? ⟨gb234, 0, none⟩ = some (.int .u8 t240) := (blk_cell BK234.out 0).trans rfl
      have hcz122_1 : w48.cell? ⟨gb234, 1, none⟩ = some (.int .u8 t241) := (blk_cell BK234.out 1).trans rfl
      have hcz122_2 : w48.cell? ⟨gb234, 2, none⟩ = some (.int .u8 t242) := (blk_cell BK234.out 2).trans rfl
      have hcz122_3 : w48.cell? ⟨gb234, 3, none⟩ = some (.int .u8 t243) := (blk_cell BK234.out 3).trans rfl
      have hfz122_0 := blk_frozen BK234.out 0
      have hfz122_1 := blk_frozen BK234.out 1
      have hfz122_2 := blk_frozen BK234.out 2
      have hfz122_3 := blk_frozen BK234.out 3
      have hnb123 := NB266_235.out
      have hnc123 := NB235_266.out
      have hnb124 := NB266_264.out
      have hnc124 := NB264_266.out
      have hnb125 := NB266_265.out
      have hnc125 := NB265_266.out
      have hcz126_0 : w48.cell? ⟨gb266, 0, none⟩ = some (.int .u8 0) := (blk_cell BK266.out 0).trans rfl
      have hcz126_1 : w48.cell? ⟨gb266, 1, none⟩ = some (.int .u8 0) := (blk_cell BK266.out 1).trans rfl
      have hcz126_2 : w48.cell? ⟨gb266, 2, none⟩ = some (.int .u8 0) := (blk_cell BK266.out 2).trans rfl
      have hcz126_3 : w48.cell? ⟨gb266, 3, none⟩ = some (.int .u8 0) := (blk_cell BK266.out 3).trans rfl
      have hfz126_0 := blk_frozen BK266.out 0
      have hfz126_1 := blk_frozen BK266.out 1
      have hfz126_2 := blk_frozen BK266.out 2
      have hfz126_3 := blk_frozen BK266.out 3
      have hnb127 := NB264_235.out
      have hnc127 := NB235_264.out
      have hnb128 := NB264_265.out
      have hnc128 := NB265_264.out
      have hcz129_0 : w48.cell? ⟨gb264, 0, none⟩ = some (.int .u8 t252) := (blk_cell BK264.out 0).trans rfl
      have hcz129_1 : w48.cell? ⟨gb264, 1, none⟩ = some (.int .u8 t253) := (blk_cell BK264.out 1).trans rfl
      have hcz129_2 : w48.cell? ⟨gb264, 2, none⟩ = some (.int .u8 t254) := (blk_cell BK264.out 2).trans rfl
      have hcz129_3 : w48.cell? ⟨gb264, 3, none⟩ = some (.int .u8 t255) := (blk_cell BK264.out 3).trans rfl
      have hfz129_0 := blk_frozen BK264.out 0
      have hfz129_1 := blk_frozen BK264.out 1
      have hfz129_2 := blk_frozen BK264.out 2
      have hfz129_3 := blk_frozen BK264.out 3
      have hnb130 := NB265_235.out
      have hnc130 := NB235_265.out
      have hcz131_0 : w48.cell? ⟨gb265, 0, none⟩ = some (.int .u8 t260) := (blk_cell BK265.out 0).trans rfl
      have hcz131_1 : w48.cell? ⟨gb265, 1, none⟩ = some (.int .u8 t261) := (blk_cell BK265.out 1).trans rfl
      have hcz131_2 : w48.cell? ⟨gb265, 2, none⟩ = some (.int .u8 t262) := (blk_cell BK265.out 2).trans rfl
      have hcz131_3 : w48.cell? ⟨gb265, 3, none⟩ = some (.int .u8 t263) := (blk_cell BK265.out 3).trans rfl
      have hfz131_0 := blk_frozen BK265.out 0
      have hfz131_1 := blk_frozen BK265.out 1
      have hfz131_2 := blk_frozen BK265.out 2
      have hfz131_3 := blk_frozen BK265.out 3
      go_wp2
      go_meet
      case rel => exact ⟨_, ((!(t252 == t260) || (!(t253 == t261) || (!(t254 == t262) || (!(t255 == t263)))))), (by first | rfl | (simp; done) | (simp [*]; done)), H', ⟨by first | omega | exact Nat.le_refl _⟩, bf_ BK233, bf_ BK234, bf_ BK235, bf_ BK264, bf_ BK265, ⟨by (with_reducible repeat (first | refine blk_drewN ?_ _ | refine blk_drew ?_ | refine blk_alloc ?_ _)); refine blk_put (cs := #[.int .u8 0, .int .u8 0, .int .u8 0, .int .u8 0]) ?_ 3 _ rfl; (with_reducible repeat (first | refine blk_drewN ?_ _ | refine blk_drew ?_ | refine blk_alloc ?_ _)); refine blk_put (cs := #[.int .u8 0, .int .u8 0, .int .u8 0, .int .u8 0]) ?_ 2 _ rfl; (with_reducible repeat (first | refine blk_drewN ?_ _ | refine blk_drew ?_ | refine blk_alloc ?_ _)); refine blk_put (cs := #[.int .u8 0, .int .u8 0, .int .u8 0, .int .u8 0]) ?_ 1 _ rfl; (with_reducible repeat (first | refine blk_drewN ?_ _ | refine blk_drew ?_ | refine blk_alloc ?_ _)); refine blk_put (cs := #[.int .u8 0, .int .u8 0, .int .u8 0, .int .u8 0]) ?_ 0 _ rfl; (with_reducible repeat (first | refine blk_drewN ?_ _ | refine blk_drew ?_ | refine blk_alloc ?_ _)); exact BK266.out⟩, ⟨by repeat (first | (with_reducible first | exact HB.out | apply below_alloc | apply pw_below_drewN | apply below_drew1 | refine below_set ?_ GE233.out | refine below_set ?_ GE234.out | refine below_set ?_ GE235.out | refine below_set ?_ GE264.out | refine below_set ?_ GE265.out | refine below_set ?_ GE266.out) | exact HB.out)⟩⟩
     ·
      rw [if_neg c111] at H
      have c111b0 : (t240 == 0 && (t241 == 0 && (t242 == 0 && (t243 == 0)))) = false := by simpa using c111
      (try (have c111b1 : decide (t240 = 0 && (t241 == 0 && (t242 == 0 && (t243 == 0)))) = false := by simpa using c111))
      (try (have c111b2 : (t240 == 0 && (t241 == 0 && (t242 == 0 && (t243 == 0)))) = false := by simpa using c111))
      (try (have c111b3 : ¬ (t240 = 0 && (t241 == 0 && (t242 == 0 && (t243 == 0)))) := by simpa using c111))
      clear c111
      by_cases c132 : (t244 == 0 && (t245 == 0 && (t246 == 0 && (t247 == 0)))) = true
      ·
       rw [if_pos c132] at H
       have c132b0 : (t244 == 0 && (t245 == 0 && (t246 == 0 && (t247 == 0)))) = true := c132
       (try (have c132b1 : decide (t244 = 0 && (t245 == 0 && (t246 == 0 && (t247 == 0)))) = true := by simpa using c132))
       (try (have c132b2 : (t244 == 0 && (t245 == 0 && (t246 == 0 && (t247 == 0)))) = true := by simpa using c132))
       clear c132
       have H' := Aside0.mk H
       clear H
       have hnb133 := NB233_234.out
       have hnc133 := NB234_233.out
       have hnb134 := NB233_235.out
       have hnc134 := NB235_233.out
       have hnb135 := NB233_264.out
       have hnc135 := NB264_233.out
       have hnb136 := NB233_265.out
       have hnc136 := NB265_233.out
       have hnb137 := NB233_266.out
       have hnc137 := NB266_233.out
       have hcz138_0 : w48.cell? ⟨gb233, 0, none⟩ = some (.int .u8 t236) := (blk_cell BK233.out 0).trans rfl
       have hcz138_1 : w48.cell? ⟨gb233, 1, none⟩ = some (.int .u8 t237) := (blk_cell BK233.out 1).trans rfl
       have hcz138_2 : w48.cell? ⟨gb233, 2, none⟩ = some (.int .u8 t238) := (blk_cell BK233.out 2).trans rfl
       have hcz138_3 : w48.cell? ⟨gb233, 3, none⟩ = some (.int .u8 t239) := (blk_cell BK233.out 3).trans rfl
       have hfz138_0 := blk_frozen BK233.out 0
       have hfz138_1 := blk_frozen BK233.out 1
       have hfz138_2 := blk_frozen BK233.out 2
       have hfz138_3 := blk_frozen BK233.out 3
       have hnb139 := NB234_235.out
       have hnc139 := NB235_234.out
       have hnb140 := NB234_264.out
       have hnc140 := NB264_234.out
       have hnb141 := NB234_265.out
       have hnc141 := NB265_234.out
       have hnb142 := NB234_266.out
       have hnc142 := NB266_234.out
       have hcz143_0 : w48.cell? ⟨gb234, 0, none⟩ = some (.int .u8 t240) := (blk_cell BK234.out 0).trans rfl
       have hcz143_1 : w48.cell? ⟨gb234, 1, none⟩ = some (.int .u8 t241) := (blk_cell BK234.out 1).trans rfl
       have hcz143_2 : w48.cell? ⟨gb234, 2, none⟩ = some (.int .u8 t242) := (blk_cell BK234.out 2).trans rfl
       have hcz143_3 : w48.cell? ⟨gb234, 3, none⟩ = some (.int .u8 t243) := (blk_cell BK234.out 3).trans rfl
       have hfz143_0 := blk_frozen BK234.out 0
       have hfz143_1 := blk_frozen BK234.out 1
       have hfz143_2 := blk_frozen BK234.out 2
       have hfz143_3 := blk_frozen BK234.out 3
       have hnb144 := NB266_235.out
       have hnc144 := NB235_266.out
       have hnb145 := NB266_264.out
       have hnc145 := NB264_266.out
       have hnb146 := NB266_265.out
       have hnc146 := NB265_266.out
       have hcz147_0 : w48.cell? ⟨gb266, 0, none⟩ = some (.int .u8 0) := (blk_cell BK266.out 0).trans rfl
       have hcz147_1 : w48.cell? ⟨gb266, 1, none⟩ = some (.int .u8 0) := (blk_cell BK266.out 1).trans rfl
       have hcz147_2 : w48.cell? ⟨gb266, 2, none⟩ = some (.int .u8 0) := (blk_cell BK266.out 2).trans rfl
       have hcz147_3 : w48.cell? ⟨gb266, 3, none⟩ = some (.int .u8 0) := (blk_cell BK266.out 3).trans rfl
       have hfz147_0 := blk_frozen BK266.out 0
       have hfz147_1 := blk_frozen BK266.out 1
       have hfz147_2 := blk_frozen BK266.out 2
       have hfz147_3 := blk_frozen BK266.out 3
       have hnb148 := NB235_264.out
       have hnc148 := NB264_235.out
       have hnb149 := NB235_265.out
       have hnc149 := NB265_235.out
       have hcz150_0 : w48.cell? ⟨gb235, 0, none⟩ = some (.int .u8 t244) := (blk_cell BK235.out 0).trans rfl
       have hcz150_1 : w48.cell? ⟨gb235, 1, none⟩ = some (.int .u8 t245) := (blk_cell BK235.out 1).trans rfl
       have hcz150_2 : w48.cell? ⟨gb235, 2, none⟩ = some (.int .u8 t246) := (blk_cell BK235.out 2).trans rfl
       have hcz150_3 : w48.cell? ⟨gb235, 3, none⟩ = some (.int .u8 t247) := (blk_cell BK235.out 3).trans rfl
       have hfz150_0 := blk_frozen BK235.out 0
       have hfz150_1 := blk_frozen BK235.out 1
       have hfz150_2 := blk_frozen BK235.out 2
       have hfz150_3 := blk_frozen BK235.out 3
       have hnb151 := NB264_265.out
       have hnc151 := NB265_264.out
       have hcz152_0 : w48.cell? ⟨gb264, 0, none⟩ = some (.int .u8 t252) := (blk_cell BK264.out 0).trans rfl
       have hcz152_1 : w48.cell? ⟨gb264, 1, none⟩ = some (.int .u8 t253) := (blk_cell BK264.out 1).trans rfl
       have hcz152_2 : w48.cell? ⟨gb264, 2, none⟩ = some (.int .u8 t254) := (blk_cell BK264.out 2).trans rfl
       have hcz152_3 : w48.cell? ⟨gb264, 3, none⟩ = some (.int .u8 t255) := (blk_cell BK264.out 3).trans rfl
       have hfz152_0 := blk_frozen BK264.out 0
       have hfz152_1 := blk_frozen BK264.out 1
       have hfz152_2 := blk_frozen BK264.out 2
       have hfz152_3 := blk_frozen BK264.out 3
       have hcz153_0 : w48.cell? ⟨gb265, 0, none⟩ = some (.int .u8 t260) := (blk_cell BK265.out 0).trans rfl
       have hcz153_1 : w48.cell? ⟨gb265, 1, none⟩ = some (.int .u8 t261) := (blk_cell BK265.out 1).trans rfl
       have hcz153_2 : w48.cell? ⟨gb265, 2, none⟩ = some (.int .u8 t262) := (blk_cell BK265.out 2).trans rfl
       have hcz153_3 : w48.cell? ⟨gb265, 3, none⟩ = some (.int .u8 t263) := (blk_cell BK265.out 3).trans rfl
       have hfz153_0 := blk_frozen BK265.out 0
       have hfz153_1 := blk_frozen BK265.out 1
       have hfz153_2 := blk_frozen BK265.out 2
       have hfz153_3 := blk_frozen BK265.out 3
       go_wp2
       go_meet
       case rel => exact ⟨_, ((!(t252 == t260) || (!(t253 == t261) || (!(t254 == t262) || (!(t255 == t263)))))), (by first | rfl | (simp; done) | (simp [*]; done)), H', ⟨by first | omega | exact Nat.le_refl _⟩, bf_ BK233, bf_ BK234, bf_ BK235, bf_ BK264, bf_ BK265, ⟨by (with_reducible repeat (first | refine blk_drewN ?_ _ | refine blk_drew ?_ | refine blk_alloc ?_ _)); refine blk_put (cs := #[.int .u8 0, .int .u8 0, .int .u8 0, .int .u8 0]) ?_ 3 _ rfl; (with_reducible repeat (first | refine blk_drewN ?_ _ | refine blk_drew ?_ | refine blk_alloc ?_ _)); refine blk_put (cs := #[.int .u8 0, .int .u8 0, .int .u8 0, .int .u8 0]) ?_ 2 _ rfl; (with_reducible repeat (first | refine blk_drewN ?_ _ | refine blk_drew ?_ | refine blk_alloc ?_ _)); refine blk_put (cs := #[.int .u8 0, .int .u8 0, .int .u8 0, .int .u8 0]) ?_ 1 _ rfl; (with_reducible repeat (first | refine blk_drewN ?_ _ | refine blk_drew ?_ | refine blk_alloc ?_ _)); refine blk_put (cs := #[.int .u8 0, .int .u8 0, .int .u8 0, .int .u8 0]) ?_ 0 _ rfl; (with_reducible repeat (first | refine blk_drewN ?_ _ | refine blk_drew ?_ | refine blk_alloc ?_ _)); exact BK266.out⟩, ⟨by repeat (first | (with_reducible first | exact HB.out | apply below_alloc | apply pw_below_drewN | apply below_drew1 | refine below_set ?_ GE233.out | refine below_set ?_ GE234.out | refine below_set ?_ GE235.out | refine below_set ?_ GE264.out | refine below_set ?_ GE265.out | refine below_set ?_ GE266.out) | exact HB.out)⟩⟩
      ·
       rw [if_neg c132] at H
       have c132b0 : (t244 == 0 && (t245 == 0 && (t246 == 0 && (t247 == 0)))) = false := by simpa using c132
       (try (have c132b1 : decide (t244 = 0 && (t245 == 0 && (t246 == 0 && (t247 == 0)))) = false := by simpa using c132))
       (try (have c132b2 : (t244 == 0 && (t245 == 0 && (t246 == 0 && (t247 == 0)))) = false := by simpa using c132))
       (try (have c132b3 : ¬ (t244 = 0 && (t245 == 0 && (t246 == 0 && (t247 == 0)))) := by simpa using c132))
       clear c132
       have H' := Aside0.mk H
       clear H
       have hnb154 := NB233_234.out
       have hnc154 := NB234_233.out
       have hnb155 := NB233_235.out
       have hnc155 := NB235_233.out
       have hnb156 := NB233_264.out
       have hnc156 := NB264_233.out
       have hnb157 := NB233_265.out
       have hnc157 := NB265_233.out
       have hnb158 := NB233_266.out
       have hnc158 := NB266_233.out
       have hcz159_0 : w48.cell? ⟨gb233, 0, none⟩ = some (.int .u8 t236) := (blk_cell BK233.out 0).trans rfl
       have hcz159_1 : w48.cell? ⟨gb233, 1, none⟩ = some (.int .u8 t237) := (blk_cell BK233.out 1).trans rfl
       have hcz159_2 : w48.cell? ⟨gb233, 2, none⟩ = some (.int .u8 t238) := (blk_cell BK233.out 2).trans rfl
       have hcz159_3 : w48.cell? ⟨gb233, 3, none⟩ = some (.int .u8 t239) := (blk_cell BK233.out 3).trans rfl
       have hfz159_0 := blk_frozen BK233.out 0
       have hfz159_1 := blk_frozen BK233.out 1
       have hfz159_2 := blk_frozen BK233.out 2
       have hfz159_3 := blk_frozen BK233.out 3
       have hnb160 := NB234_235.out
       have hnc160 := NB235_234.out
       have hnb161 := NB234_264.out
       have hnc161 := NB264_234.out
       have hnb162 := NB234_265.out
       have hnc162 := NB265_234.out
       have hnb163 := NB234_266.out
       have hnc163 := NB266_234.out
       have hcz164_0 : w48.cell? ⟨gb234, 0, none⟩ = some (.int .u8 t240) := (blk_cell BK234.out 0).trans rfl
       have hcz164_1 : w48.cell? ⟨gb234, 1, none⟩ = some (.int .u8 t241) := (blk_cell BK234.out 1).trans rfl
       have hcz164_2 : w48.cell? ⟨gb234, 2, none⟩ = some (.int .u8 t242) := (blk_cell BK234.out 2).trans rfl
       have hcz164_3 : w48.cell? ⟨gb234, 3, none⟩ = some (.int .u8 t243) := (blk_cell BK234.out 3).trans rfl
       have hfz164_0 := blk_frozen BK234.out 0
       have hfz164_1 := blk_frozen BK234.out 1
       have hfz164_2 := blk_frozen BK234.out 2
       have hfz164_3 := blk_frozen BK234.out 3
       have hnb165 := NB266_235.out
       have hnc165 := NB235_266.out
       have hnb166 := NB266_264.out
       have hnc166 := NB264_266.out
       have hnb167 := NB266_265.out
       have hnc167 := NB265_266.out
       have hcz168_0 : w48.cell? ⟨gb266, 0, none⟩ = some (.int .u8 0) := (blk_cell BK266.out 0).trans rfl
       have hcz168_1 : w48.cell? ⟨gb266, 1, none⟩ = some (.int .u8 0) := (blk_cell BK266.out 1).trans rfl
       have hcz168_2 : w48.cell? ⟨gb266, 2, none⟩ = some (.int .u8 0) := (blk_cell BK266.out 2).trans rfl
       have hcz168_3 : w48.cell? ⟨gb266, 3, none⟩ = some (.int .u8 0) := (blk_cell BK266.out 3).trans rfl
       have hfz168_0 := blk_frozen BK266.out 0
       have hfz168_1 := blk_frozen BK266.out 1
       have hfz168_2 := blk_frozen BK266.out 2
       have hfz168_3 := blk_frozen BK266.out 3
       have hnb169 := NB235_264.out
       have hnc169 := NB264_235.out
       have hnb170 := NB235_265.out
       have hnc170 := NB265_235.out
       have hcz171_0 : w48.cell? ⟨gb235, 0, none⟩ = some (.int .u8 t244) := (blk_cell BK235.out 0).trans rfl
       have hcz171_1 : w48.cell? ⟨gb235, 1, none⟩ = some (.int .u8 t245) := (blk_cell BK235.out 1).trans rfl
       have hcz171_2 : w48.cell? ⟨gb235, 2, none⟩ = some (.int .u8 t246) := (blk_cell BK235.out 2).trans rfl
       have hcz171_3 : w48.cell? ⟨gb235, 3, none⟩ = some (.int .u8 t247) := (blk_cell BK235.out 3).trans rfl
       have hfz171_0 := blk_frozen BK235.out 0
       have hfz171_1 := blk_frozen BK235.out 1
       have hfz171_2 := blk_frozen BK235.out 2
       have hfz171_3 := blk_frozen BK235.out 3
       go_wp2
       go_meet
       case rel => exact ⟨_, (false), (by first | rfl | (simp; done) | (simp [*]; done)), H', ⟨by first | omega | exact Nat.le_refl _⟩, bf_ BK233, bf_ BK234, bf_ BK235, bf_ BK264, bf_ BK265, ⟨by (with_reducible repeat (first | refine blk_drewN ?_ _ | refine blk_drew ?_ | refine blk_alloc ?_ _)); refine blk_put (cs := #[.int .u8 0, .int .u8 0, .int .u8 0, .int .u8 0]) ?_ 3 _ rfl; (with_reducible repeat (first | refine blk_drewN ?_ _ | refine blk_drew ?_ | refine blk_alloc ?_ _)); refine blk_put (cs := #[.int .u8 0, .int .u8 0, .int .u8 0, .int .u8 0]) ?_ 2 _ rfl; (with_reducible repeat (first | refine blk_drewN ?_ _ | refine blk_drew ?_ | refine blk_alloc ?_ _)); refine blk_put (cs := #[.int .u8 0, .int .u8 0, .int .u8 0, .int .u8 0]) ?_ 1 _ rfl; (with_reducible repeat (first | refine blk_drewN ?_ _ | refine blk_drew ?_ | refine blk_alloc ?_ _)); refine blk_put (cs := #[.int .u8 0, .int .u8 0, .int .u8 0, .int .u8 0]) ?_ 0 _ rfl; (with_reducible repeat (first | refine blk_drewN ?_ _ | refine blk_drew ?_ | refine blk_alloc ?_ _)); exact BK266.out⟩, ⟨by repeat (first | (with_reducible first | exact HB.out | apply below_alloc | apply pw_below_drewN | apply below_drew1 | refine below_set ?_ GE233.out | refine below_set ?_ GE234.out | refine below_set ?_ GE235.out | refine below_set ?_ GE264.out | refine below_set ?_ GE265.out | refine below_set ?_ GE266.out) | exact HB.out)⟩⟩
 case rest =>
  clear HC11
  try clear c1
  try clear p2
  try clear c4
  try clear c5
  try clear c6
  try clear c7
  try clear c8
  try clear c9
  try clear c10
  try clear c11
  try clear c12
  try clear c13
  try clear c14
  try clear c15
  try clear c16
  try clear c17
  try clear c49
  try clear c50
  try clear c51
  try clear c52
  try clear c53
  try clear c55
  try clear c55b0
  try clear c55b1
  try clear c56
  try clear c57
  try clear c58
  try clear c59
  try clear c60
  try clear c62
  try clear c63
  try clear c64
  try clear c65
  try clear c67
  try clear c68
  try clear c69
  try clear c71
  try clear c71b0
  try clear c71b1
  try clear c72
  try clear c73
  try clear c74
  try clear c75
  try clear c76
  try clear c78
  try clear c79
  try clear c80
  try clear c81
  try clear c83
  try clear c84
  try clear c85
  try clear c87
  try clear c88
  try clear c90
  try clear c90b0
  try clear c90b1
  try clear c90b2
  try clear c91
  try clear c92
  try clear c93
  try clear c94
  try clear c95
  try clear c97
  try clear c98
  try clear c99
  try clear c100
  try clear c102
  try clear c103
  try clear c104
  try clear c106
  try clear c107
  try clear c109
  try clear c111
  try clear c111b0
  try clear c111b1
  try clear c111b2
  try clear c112
  try clear c113
  try clear c114
  try clear c115
  try clear c116
  try clear c118
  try clear c119
  try clear c120
  try clear c121
  try clear c123
  try clear c124
  try clear c125
  try clear c127
  try clear c128
  try clear c130
  try clear c132
  try clear c132b0
  try clear c132b1
  try clear c132b2
  try clear c133
  try clear c134
  try clear c135
  try clear c136
  try clear c137
  try clear c139
  try clear c140
  try clear c141
  try clear c142
  try clear c144
  try clear c145
  try clear c146
  try clear c148
  try clear c149
  try clear c151
  try clear c154
  try clear c155
  try clear c156
  try clear c157
  try clear c158
  try clear c160
  try clear c161
  try clear c162
  try clear c163
  try clear c165
  try clear c166
  try clear c167
  try clear c169
  try clear c170
  try clear hcz101_0
  try clear hcz101_1
  try clear hcz101_2
  try clear hcz101_3
  try clear hcz105_0
  try clear hcz105_1
  try clear hcz105_2
  try clear hcz105_3
  try clear hcz108_0
  try clear hcz108_1
  try clear hcz108_2
  try clear hcz108_3
  try clear hcz110_0
  try clear hcz110_1
  try clear hcz110_2
  try clear hcz110_3
  try clear hcz117_0
  try clear hcz117_1
  try clear hcz117_2
  try clear hcz117_3
  try clear hcz122_0
  try clear hcz122_1
  try clear hcz122_2
  try clear hcz122_3
  try clear hcz126_0
  try clear hcz126_1
  try clear hcz126_2
  try clear hcz126_3
  try clear hcz129_0
  try clear hcz129_1
  try clear hcz129_2
  try clear hcz129_3
  try clear hcz131_0
  try clear hcz131_1
  try clear hcz131_2
  try clear hcz131_3
  try clear hcz138_0
  try clear hcz138_1
  try clear hcz138_2
  try clear hcz138_3
  try clear hcz143_0
  try clear hcz143_1
  try clear hcz143_2
  try clear hcz143_3
  try clear hcz147_0
  try clear hcz147_1
  try clear hcz147_2
  try clear hcz147_3
  try clear hcz150_0
  try clear hcz150_1
  try clear hcz150_2
  try clear hcz150_3
  try clear hcz152_0
  try clear hcz152_1
  try clear hcz152_2
  try clear hcz152_3
  try clear hcz153_0
  try clear hcz153_1
  try clear hcz153_2
  try clear hcz153_3
  try clear hcz159_0
  try clear hcz159_1
  try clear hcz159_2
  try clear hcz159_3
  try clear hcz164_0
  try clear hcz164_1
  try clear hcz164_2
  try clear hcz164_3
  try clear hcz168_0
  try clear hcz168_1
  try clear hcz168_2
  try clear hcz168_3
  try clear hcz171_0
  try clear hcz171_1
  try clear hcz171_2
  try clear hcz171_3
  try clear hcz54_0
  try clear hcz54_1
  try clear hcz54_2
  try clear hcz54_3
  try clear hcz61_0
  try clear hcz61_1
  try clear hcz61_2
  try clear hcz61_3
  try clear hcz66_0
  try clear hcz66_1
  try clear hcz66_2
  try clear hcz66_3
  try clear hcz70_0
  try clear hcz70_1
  try clear hcz70_2
  try clear hcz70_3
  try clear hcz77_0
  try clear hcz77_1
  try clear hcz77_2
  try clear hcz77_3
  try clear hcz82_0
  try clear hcz82_1
  try clear hcz82_2
  try clear hcz82_3
  try clear hcz86_0
  try clear hcz86_1
  try clear hcz86_2
  try clear hcz86_3
  try clear hcz89_0
  try clear hcz89_1
  try clear hcz89_2
  try clear hcz89_3
  try clear hcz96_0
  try clear hcz96_1
  try clear hcz96_2
  try clear hcz96_3
  try clear hfz101_0
  try clear hfz101_1
  try clear hfz101_2
  try clear hfz101_3
  try clear hfz105_0
  try clear hfz105_1
  try clear hfz105_2
  try clear hfz105_3
  try clear hfz108_0
  try clear hfz108_1
  try clear hfz108_2
  try clear hfz108_3
  try clear hfz110_0
  try clear hfz110_1
  try clear hfz110_2
  try clear hfz110_3
  try clear hfz117_0
  try clear hfz117_1
  try clear hfz117_2
  try clear hfz117_3
  try clear hfz122_0
  try clear hfz122_1
  try clear hfz122_2
  try clear hfz122_3
  try clear hfz126_0
  try clear hfz126_1
  try clear hfz126_2
  try clear hfz126_3
  try clear hfz129_0
  try clear hfz129_1
  try clear hfz129_2
  try clear hfz129_3
  try clear hfz131_0
  try clear hfz131_1
  try clear hfz131_2
  try clear hfz131_3
  try clear hfz138_0
  try clear hfz138_1
  try clear hfz138_2
  try clear hfz138_3
  try clear hfz143_0
  try clear hfz143_1
  try clear hfz143_2
  try clear hfz143_3
  try clear hfz147_0
  try clear hfz147_1
  try clear hfz147_2
  try clear hfz147_3
  try clear hfz150_0
  try clear hfz150_1
  try clear hfz150_2
  try clear hfz150_3
  try clear hfz152_0
  try clear hfz152_1
  try clear hfz152_2
  try clear hfz152_3
  try clear hfz153_0
  try clear hfz153_1
  try clear hfz153_2
  try clear hfz153_3
  try clear hfz159_0
  try clear hfz159_1
  try clear hfz159_2
  try clear hfz159_3
  try clear hfz164_0
  try clear hfz164_1
  try clear hfz164_2
  try clear hfz164_3
  try clear hfz168_0
  try clear hfz168_1
  try clear hfz168_2
  try clear hfz168_3
  try clear hfz171_0
  try clear hfz171_1
  try clear hfz171_2
  try clear hfz171_3
  try clear hfz54_0
  try clear hfz54_1
  try clear hfz54_2
  try clear hfz54_3
  try clear hfz61_0
  try clear hfz61_1
  try clear hfz61_2
  try clear hfz61_3
  try clear hfz66_0
  try clear hfz66_1
  try clear hfz66_2
  try clear hfz66_3
  try clear hfz70_0
  try clear hfz70_1
  try clear hfz70_2
  try clear hfz70_3
  try clear hfz77_0
  try clear hfz77_1
  try clear hfz77_2
  try clear hfz77_3
  try clear hfz82_0
  try clear hfz82_1
  try clear hfz82_2
  try clear hfz82_3
  try clear hfz86_0
  try clear hfz86_1
  try clear hfz86_2
  try clear hfz86_3
  try clear hfz89_0
  try clear hfz89_1
  try clear hfz89_2
  try clear hfz89_3
  try clear hfz96_0
  try clear hfz96_1
  try clear hfz96_2
  try clear hfz96_3
  obtain ⟨kq, x54_10, rfl, HA, HJ10, BK233, BK234, BK235, BK264, BK265, BK266, HB⟩ := hcut
  cases kq with
  | zero => exact absurd HA.out (by simp [compositorlaw08_PixelOverAssociativity.j0])
  | succ kj10 =>
   have H := HA.out
   clear HA
   simp only [compositorlaw08_PixelOverAssociativity.j0] at H
   by_cases c172 : x54_10 = true
   ·
    subst c172
    have H1 : (some false) = some true := by rw [if_pos rfl] at H; exact H
    clear H
    have H := H1
    clear H1
    exact absurd H (by simp)
   ·
    replace c172 := Bool.eq_false_iff.mpr c172
    subst c172
    have H1 : ((compositorlaw08_near.f t252 t260).bind fun t267 => (if t267 = true then ((compositorlaw08_near.f t253 t261).bind fun t268 => (if t268 = true then ((compositorlaw08_near.f t254 t262).bind fun t269 => (if t269 = true then ((compositorlaw08_near.f t255 t263).bind fun t270 => (if t270 = true then ((compositorlaw08_exampleHolds.f).bind fun t271 => (some t271)) else (some false))) else (some false))) else (some false))) else (some false))) = some true := by rw [if_neg (show ¬ (false = true) by decide)] at H; exact H
    clear H
    have H := H1
    clear H1
    replace H := Option.bind_eq_some_iff.mp H
    obtain ⟨t267, A1730, H⟩ := H
    try dsimp only at H
    have A173 := Aside0.mk A1730
    clear A1730
    by_cases c174 : t267 = true
    ·
     subst c174
     have H1 : ((compositorlaw08_near.f t253 t261).bind fun t268 => (if t268 = true then ((compositorlaw08_near.f t254 t262).bind fun t269 => (if t269 = true then ((compositorlaw08_near.f t255 t263).bind fun t270 => (if t270 = true then ((compositorlaw08_exampleHolds.f).bind fun t271 => (some t271)) else (some false))) else (some false))) else (some false))) = some true := by rw [if_pos rfl] at H; exact H
     clear H
     have H := H1
     clear H1
     replace H := Option.bind_eq_some_iff.mp H
     obtain ⟨t268, A1750, H⟩ := H
     try dsimp only at H
     have A175 := Aside0.mk A1750
     clear A1750
     by_cases c176 : t268 = true
     ·
      subst c176
      have H1 : ((compositorlaw08_near.f t254 t262).bind fun t269 => (if t269 = true then ((compositorlaw08_near.f t255 t263).bind fun t270 => (if t270 = true then ((compositorlaw08_exampleHolds.f).bind fun t271 => (some t271)) else (some false))) else (some false))) = some true := by rw [if_pos rfl] at H; exact H
      clear H
      have H := H1
      clear H1
      replace H := Option.bind_eq_some_iff.mp H
      obtain ⟨t269, A1770, H⟩ := H
      try dsimp only at H
      have A177 := Aside0.mk A1770
      clear A1770
      by_cases c178 : t269 = true
      ·
       subst c178
       have H1 : ((compositorlaw08_near.f t255 t263).bind fun t270 => (if t270 = true then ((compositorlaw08_exampleHolds.f).bind fun t271 => (some t271)) else (some false))) = some true := by rw [if_pos rfl] at H; exact H
       clear H
       have H := H1
       clear H1
       replace H := Option.bind_eq_some_iff.mp H
       obtain ⟨t270, A1790, H⟩ := H
       try dsimp only at H
       have A179 := Aside0.mk A1790
       clear A1790
       by_cases c180 : t270 = true
       ·
        subst c180
        have H1 : ((compositorlaw08_exampleHolds.f).bind fun t271 => (some t271)) = some true := by rw [if_pos rfl] at H; exact H
        clear H
        have H := H1
        clear H1
        replace H := Option.bind_eq_some_iff.mp H
        obtain ⟨t271, A1810, H⟩ := H
        try dsimp only at H
        have A181 := Aside0.mk A1810
        clear A1810
        have Hq_ := Option.some.inj H
        have hnb182 := NB264_233.out
        have hnc182 := NB233_264.out
        have hnb183 := NB264_234.out
        have hnc183 := NB234_264.out
        have hnb184 := NB264_235.out
        have hnc184 := NB235_264.out
        have hnb185 := NB264_265.out
        have hnc185 := NB265_264.out
        have hnb186 := NB264_266.out
        have hnc186 := NB266_264.out
        have hcz187_0 : wc.cell? ⟨gb264, 0, none⟩ = some (.int .u8 t252) := (blk_cell BK264.out 0).trans rfl
        have hcz187_1 : wc.cell? ⟨gb264, 1, none⟩ = some (.int .u8 t253) := (blk_cell BK264.out 1).trans rfl
        have hcz187_2 : wc.cell? ⟨gb264, 2, none⟩ = some (.int .u8 t254) := (blk_cell BK264.out 2).trans rfl
        have hcz187_3 : wc.cell? ⟨gb264, 3, none⟩ = some (.int .u8 t255) := (blk_cell BK264.out 3).trans rfl
        have hfz187_0 := blk_frozen BK264.out 0
        have hfz187_1 := blk_frozen BK264.out 1
        have hfz187_2 := blk_frozen BK264.out 2
        have hfz187_3 := blk_frozen BK264.out 3
        have hnb188 := NB265_233.out
        have hnc188 := NB233_265.out
        have hnb189 := NB265_234.out
        have hnc189 := NB234_265.out
        have hnb190 := NB265_235.out
        have hnc190 := NB235_265.out
        have hnb191 := NB265_266.out
        have hnc191 := NB266_265.out
        have hcz192_0 : wc.cell? ⟨gb265, 0, none⟩ = some (.int .u8 t260) := (blk_cell BK265.out 0).trans rfl
        have hcz192_1 : wc.cell? ⟨gb265, 1, none⟩ = some (.int .u8 t261) := (blk_cell BK265.out 1).trans rfl
        have hcz192_2 : wc.cell? ⟨gb265, 2, none⟩ = some (.int .u8 t262) := (blk_cell BK265.out 2).trans rfl
        have hcz192_3 : wc.cell? ⟨gb265, 3, none⟩ = some (.int .u8 t263) := (blk_cell BK265.out 3).trans rfl
        have hfz192_0 := blk_frozen BK265.out 0
        have hfz192_1 := blk_frozen BK265.out 1
        have hfz192_2 := blk_frozen BK265.out 2
        have hfz192_3 := blk_frozen BK265.out 3
        go_wp2_with (first | ((with_reducible refine gate_callee (f := 19) rfl ?_); refine goesL_ (some 59) rfl rfl Try.func19 (by kernel_rfl) rfl #[.int .u8 t252, .int .u8 t260] rfl (by (try simp only [List.map_toArray, List.map_cons, List.map_nil]) <;> rfl) ?_; (with_reducible refine (compositorlaw08_near.calls t252 t260 true _ A173.out).mono ?_); (try clear A173); rintro e w' ⟨rfl, ⟨nd, rfl⟩⟩; refine ⟨_, rfl, ?_⟩) | (go_at_call 19; (with_reducible refine (compositorlaw08_near.calls t253 t261 true _ A175.out).mono ?_); (try clear A175); rintro e w' ⟨rfl, ⟨nd, rfl⟩⟩) | (go_at_call 19; (with_reducible refine (compositorlaw08_near.calls t254 t262 true _ A177.out).mono ?_); (try clear A177); rintro e w' ⟨rfl, ⟨nd, rfl⟩⟩) | (go_at_call 19; (with_reducible refine (compositorlaw08_near.calls t255 t263 true _ A179.out).mono ?_); rintro e w' ⟨rfl, ⟨nd, rfl⟩⟩) | (go_at_call 15; (with_reducible refine (compositorlaw08_exampleHolds.calls  t271 _ A181.out).mono ?_); rintro e w193 ⟨rfl, hb⟩; have n0_ := bb_ BK233 hb; have n1_ := bb_ BK234 hb; have n2_ := bb_ BK235 hb; have n3_ := bb_ BK264 hb; have n4_ := bb_ BK265 hb; have n5_ := bb_ BK266 hb; have n6_ := hb_ HB hb; clear BK233; clear BK234; clear BK235; clear BK264; clear BK265; clear BK266; clear HB; have BK233 := n0_; have BK234 := n1_; have BK235 := n2_; have BK264 := n3_; have BK265 := n4_; have BK266 := n5_; have HB := n6_; clear n0_ n1_ n2_ n3_ n4_ n5_ n6_; (try clear hb); (try clear hb2); (try clear hk); (try clear hi)))
        go_ret
        exact ⟨by first | rfl | (simp [errW_none, errW_some] <;> rfl) | (simp [*, errW_none, errW_some] <;> rfl), by repeat (first | (with_reducible first | exact HB.out | apply below_alloc | apply pw_below_drewN | apply below_drew1 | refine below_set ?_ GE233.out | refine below_set ?_ GE234.out | refine below_set ?_ GE235.out | refine below_set ?_ GE264.out | refine below_set ?_ GE265.out | refine below_set ?_ GE266.out) | exact HB.out)⟩
       ·
        replace c180 := Bool.eq_false_iff.mpr c180
        subst c180
        have H1 : (some false) = some true := by rw [if_neg (show ¬ (false = true) by decide)] at H; exact H
        clear H
        have H := H1
        clear H1
        exact absurd H (by simp)
      ·
       replace c178 := Bool.eq_false_iff.mpr c178
       subst c178
       have H1 : (some false) = some true := by rw [if_neg (show ¬ (false = true) by decide)] at H; exact H
       clear H
       have H := H1
       clear H1
       exact absurd H (by simp)
     ·
      replace c176 := Bool.eq_false_iff.mpr c176
      subst c176
      have H1 : (some false) = some true := by rw [if_neg (show ¬ (false = true) by decide)] at H; exact H
      clear H
      have H := H1
      clear H1
      exact absurd H (by simp)
    ·
     replace c174 := Bool.eq_false_iff.mpr c174
     subst c174
     have H1 : (some false) = some true := by rw [if_neg (show ¬ (false = true) by decide)] at H; exact H
     clear H
     have H := H1
     clear H1
     exact absurd H (by simp)
end Go.Proofs.Ytdhjbdofklglgaa.All
end
section
namespace Go.Proofs.Ytdhjbdofklglgaa.Pure
open Go.RowKit Go.Proofs.YtdhjbdofklglgaaW.PrintWords Go.Proofs.YtdhjbdofklglgaaW.PrintMore Go.Proofs.Ytdhjbdofklglgaa.All
set_option linter.unusedVariables false
set_option linter.unusedSimpArgs false
theorem u8 {x : Int} (h : (Lit.int .u8 x).wf = true) : 0 ≤ x ∧ x ≤ 255 := by
  simpa [Lit.wf, IntKind.min, IntKind.max, IntKind.signed, IntKind.bits] using h
theorem example_holds : compositorlaw08_exampleHolds.f = some true := by
  decide +kernel
def pd (a b : Int) : Int := (a * b + 127) / 255
theorem mul_range {a b : Int} (h0 : 0 ≤ a) (h1 : a ≤ 255) (h2 : 0 ≤ b) (h3 : b ≤ 255) : 0 ≤ a * b ∧ a * b ≤ 65025 := by
  have p := Int.mul_nonneg h0 h2
  have q := Int.mul_le_mul h1 h3 h2 (by omega : (0 : Int) ≤ 255)
  omega
theorem pd_range {a b : Int} (h0 : 0 ≤ a) (h1 : a ≤ 255) (h2 : 0 ≤ b) (h3 : b ≤ 255) : 0 ≤ pd a b ∧ pd a b ≤ 255 := by
  obtain ⟨p, q⟩ := mul_range h0 h1 h2 h3
  unfold pd
  omega
theorem pd_mono {a a' b : Int} (h : a ≤ a') (hb : 0 ≤ b) : pd a b ≤ pd a' b := by
  have q : a * b ≤ a' * b := Int.mul_le_mul_of_nonneg_right h hb
  unfold pd
  omega
theorem pr_eq {a b : Int} (h0 : 0 ≤ a) (h1 : a ≤ 255) (h2 : 0 ≤ b) (h3 : b ≤ 255) : (wrap64 (Int.tdiv (wrap64 ((wrap64 ((wrap64 a) * (wrap64 b))) + 127)) 255)) % 256 = pd a b := by
  obtain ⟨p, q⟩ := mul_range h0 h1 h2 h3
  have e1 : wrap64 a = a := by unfold wrap64; omega
  have e2 : wrap64 b = b := by unfold wrap64; omega
  rw [e1, e2]
  have e3 : wrap64 (a * b) = a * b := by unfold wrap64; omega
  rw [e3]
  have e4 : wrap64 (a * b + 127) = a * b + 127 := by unfold wrap64; omega
  rw [e4, Int.tdiv_eq_ediv_of_nonneg (by omega)]
  unfold pd wrap64
  omega
theorem clamp_eq (a b c d : Int) : pixel_Clamp.f a b c d = some (mn a d, mn b d, mn c d, d) := rfl
theorem mn_range {a d : Int} (h0 : 0 ≤ a) (h1 : a ≤ 255) (h2 : 0 ≤ d) (h3 : d ≤ 255) : 0 ≤ mn a d ∧ mn a d ≤ 255 ∧ mn a d ≤ d ∧ mn a d ≤ a := by
  unfold mn
  split <;> omega
def sc (a b c d k : Int) : Int × Int × Int × Int := (pd (mn a d) k, pd (mn b d) k, pd (mn c d) k, pd d k)
theorem scale_eq {a b c d k : Int} (a0 : 0 ≤ a) (a1 : a ≤ 255) (b0 : 0 ≤ b) (b1 : b ≤ 255) (c0 : 0 ≤ c) (c1 : c ≤ 255) (d0 : 0 ≤ d) (d1 : d ≤ 255) (k0 : 0 ≤ k) (k1 : k ≤ 255) :
    pixel_Scale.f a b c d k = some (sc a b c d k) := by
  have ha := mn_range a0 a1 d0 d1
  have hb := mn_range b0 b1 d0 d1
  have hc := mn_range c0 c1 d0 d1
  simp only [pixel_Scale.f, clamp_eq, Option.bind_some, pixel_Scale.pr, sc]
  rw [pr_eq ha.1 ha.2.1 k0 k1, pr_eq hb.1 hb.2.1 k0 k1, pr_eq hc.1 hc.2.1 k0 k1, pr_eq d0 d1 k0 k1]
def ov (a b c d a' b' c' d' : Int) : Int × Int × Int × Int := (mn a d + pd (mn a' d') (255 - d), mn b d + pd (mn b' d') (255 - d), mn c d + pd (mn c' d') (255 - d), d + pd d' (255 - d))
theorem ov_range {a d a' d' : Int} (a0 : 0 ≤ a) (a1 : a ≤ 255) (d0 : 0 ≤ d) (d1 : d ≤ 255) (a'0 : 0 ≤ a') (a'1 : a' ≤ 255) (d'0 : 0 ≤ d') (d'1 : d' ≤ 255) :
    0 ≤ mn a d + pd (mn a' d') (255 - d) ∧ mn a d + pd (mn a' d') (255 - d) ≤ d + pd d' (255 - d) ∧ 0 ≤ d + pd d' (255 - d) ∧ d + pd d' (255 - d) ≤ 255 := by
  have ha := mn_range a0 a1 d0 d1
  have ha' := mn_range a'0 a'1 d'0 d'1
  have p := pd_range ha'.1 ha'.2.1 (b := 255 - d) (by omega) (by omega)
  have q := pd_range d'0 d'1 (b := 255 - d) (by omega) (by omega)
  have m := pd_mono (b := 255 - d) ha'.2.2.1 (by omega)
  have l : pd d' (255 - d) ≤ 255 - d := by
    have e : d' * (255 - d) ≤ 255 * (255 - d) := Int.mul_le_mul_of_nonneg_right d'1 (by omega)
    unfold pd
    omega
  omega
theorem over_eq {a b c d a' b' c' d' : Int} (a0 : 0 ≤ a) (a1 : a ≤ 255) (b0 : 0 ≤ b) (b1 : b ≤ 255) (c0 : 0 ≤ c) (c1 : c ≤ 255) (d0 : 0 ≤ d) (d1 : d ≤ 255)
    (a'0 : 0 ≤ a') (a'1 : a' ≤ 255) (b'0 : 0 ≤ b') (b'1 : b' ≤ 255) (c'0 : 0 ≤ c') (c'1 : c' ≤ 255) (d'0 : 0 ≤ d') (d'1 : d' ≤ 255) :
    pixel_Over.f a b c d a' b' c' d' = some (ov a b c d a' b' c' d') := by
  have e : (255 - d) % 256 = 255 - d := by omega
  have r1 := ov_range a0 a1 d0 d1 a'0 a'1 d'0 d'1
  have r2 := ov_range b0 b1 d0 d1 b'0 b'1 d'0 d'1
  have r3 := ov_range c0 c1 d0 d1 c'0 c'1 d'0 d'1
  simp only [pixel_Over.f, clamp_eq, Option.bind_some]
  rw [e, scale_eq a'0 a'1 b'0 b'1 c'0 c'1 d'0 d'1 (by omega) (by omega)]
  simp only [Option.bind_some, sc, ov]
  rw [Int.emod_eq_of_lt r1.1 (by omega), Int.emod_eq_of_lt r2.1 (by omega), Int.emod_eq_of_lt r3.1 (by omega), Int.emod_eq_of_lt r3.2.2.1 (by omega)]
theorem pd_255 {a : Int} (h0 : 0 ≤ a) (h1 : a ≤ 255) : pd 255 a = a := by unfold pd; omega
theorem pd_0r {a : Int} : pd a 0 = 0 := by unfold pd; rw [Int.mul_zero]; rfl
theorem pd_0l {a : Int} : pd 0 a = 0 := by unfold pd; rw [Int.zero_mul]; rfl
theorem pd_255r {a : Int} (h0 : 0 ≤ a) (h1 : a ≤ 255) : pd a 255 = a := by unfold pd; omega
theorem mn_le {x a : Int} (h : x ≤ a) : mn x a = x := by unfold mn; split <;> omega
def Vc (x a : Int) : Prop := 0 ≤ x ∧ x ≤ a ∧ a ≤ 255
theorem vc_mn {x a : Int} (h0 : 0 ≤ x) (h1 : x ≤ 255) (h2 : 0 ≤ a) (h3 : a ≤ 255) : Vc (mn x a) a := by
  have := mn_range h0 h1 h2 h3
  unfold Vc; omega
theorem ovc {a b c d a' b' c' d' : Int} (ha : Vc a d) (hb : Vc b d) (hc : Vc c d) (ha' : Vc a' d') (hb' : Vc b' d') (hc' : Vc c' d') :
    pixel_Over.f a b c d a' b' c' d' = some (a + pd a' (255 - d), b + pd b' (255 - d), c + pd c' (255 - d), d + pd d' (255 - d)) := by
  unfold Vc at *
  rw [over_eq (by omega) (by omega) (by omega) (by omega) (by omega) (by omega) (by omega) (by omega) (by omega) (by omega) (by omega) (by omega) (by omega) (by omega) (by omega) (by omega)]
  unfold ov
  rw [mn_le ha.2.1, mn_le hb.2.1, mn_le hc.2.1, mn_le ha'.2.1, mn_le hb'.2.1, mn_le hc'.2.1]
theorem vc_ov {x a x' a' : Int} (h : Vc x a) (h' : Vc x' a') : Vc (x + pd x' (255 - a)) (a + pd a' (255 - a)) := by
  unfold Vc at *
  have r := ov_range (a := x) (d := a) (a' := x') (d' := a') (by omega) (by omega) (by omega) (by omega) (by omega) (by omega) (by omega) (by omega)
  rw [mn_le h.2.1, mn_le h'.2.1] at r
  omega
def lf (x1 a1 x2 a2 x3 : Int) : Int := x1 + pd (x2 + pd x3 (255 - a2)) (255 - a1)
def rt (x1 a1 x2 a2 x3 : Int) : Int := x1 + pd x2 (255 - a1) + pd x3 (255 - (a1 + pd a2 (255 - a1)))
theorem pd_spec (a b : Int) : a * b - 127 ≤ 255 * pd a b ∧ 255 * pd a b ≤ a * b + 127 := by unfold pd; omega
theorem near_assoc {x1 a1 x2 a2 x3 a3 : Int} (h1 : Vc x1 a1) (h2 : Vc x2 a2) (h3 : Vc x3 a3) : lf x1 a1 x2 a2 x3 - rt x1 a1 x2 a2 x3 ≤ 2 ∧ rt x1 a1 x2 a2 x3 - lf x1 a1 x2 a2 x3 ≤ 2 := by
  unfold lf rt Vc at *
  have s1 := pd_spec x3 (255 - a2)
  have s2 := pd_spec a2 (255 - a1)
  generalize pd x3 (255 - a2) = u at *
  generalize pd a2 (255 - a1) = v at *
  have s3 := pd_spec (x2 + u) (255 - a1)
  have s4 := pd_spec x2 (255 - a1)
  have s5 := pd_spec x3 (255 - (a1 + v))
  generalize pd (x2 + u) (255 - a1) = D1 at *
  generalize pd x2 (255 - a1) = D2 at *
  generalize pd x3 (255 - (a1 + v)) = D3 at *
  have m1 := Int.mul_le_mul_of_nonneg_right s1.1 (show 0 ≤ 255 - a1 by omega)
  have m2 := Int.mul_le_mul_of_nonneg_right s1.2 (show 0 ≤ 255 - a1 by omega)
  have m3 := Int.mul_le_mul_of_nonneg_left s2.1 (show 0 ≤ x3 by omega)
  have m4 := Int.mul_le_mul_of_nonneg_left s2.2 (show 0 ≤ x3 by omega)
  have e1 : (x3 * (255 - a2) - 127) * (255 - a1) = 65025 * x3 - 255 * (x3 * a1) - 255 * (x3 * a2) + x3 * a2 * a1 - 32385 + 127 * a1 := by grind
  have e2 : (x3 * (255 - a2) + 127) * (255 - a1) = 65025 * x3 - 255 * (x3 * a1) - 255 * (x3 * a2) + x3 * a2 * a1 + 32385 - 127 * a1 := by grind
  have e3 : 255 * u * (255 - a1) = 65025 * u - 255 * (u * a1) := by grind
  have e4 : x3 * (a2 * (255 - a1) - 127) = 255 * (x3 * a2) - x3 * a2 * a1 - 127 * x3 := by grind
  have e5 : x3 * (a2 * (255 - a1) + 127) = 255 * (x3 * a2) - x3 * a2 * a1 + 127 * x3 := by grind
  have e6 : x3 * (255 * v) = 255 * (x3 * v) := by grind
  have e7 : (x2 + u) * (255 - a1) = 255 * x2 + 255 * u - x2 * a1 - u * a1 := by grind
  have e8 : x2 * (255 - a1) = 255 * x2 - x2 * a1 := by grind
  have e9 : x3 * (255 - (a1 + v)) = 255 * x3 - x3 * a1 - x3 * v := by grind
  rw [e1, e3] at m1
  rw [e2, e3] at m2
  rw [e4, e6] at m3
  rw [e5, e6] at m4
  rw [e7] at s3
  rw [e8] at s4
  rw [e9] at s5
  clear e1 e2 e3 e4 e5 e6 e7 e8 e9 s1 s2
  generalize x3 * a2 * a1 = t1 at *
  generalize x3 * a2 = t2 at *
  generalize x3 * a1 = t3 at *
  generalize u * a1 = t4 at *
  generalize x3 * v = t5 at *
  generalize x2 * a1 = t6 at *
  omega
theorem near_eq {x y : Int} (hx : 0 ≤ x) (hx' : x ≤ 255) (hy : 0 ≤ y) (hy' : y ≤ 255) (h : x - y ≤ 2) (h' : y - x ≤ 2) : compositorlaw08_near.f x y = some true := by
  unfold compositorlaw08_near.f
  have e1 : wrap64 (x - y) = x - y := by unfold wrap64; omega
  have e2 : wrap64 (y - x) = y - x := by unfold wrap64; omega
  have e3 : wrap64 x = x := by unfold wrap64; omega
  have e4 : wrap64 y = y := by unfold wrap64; omega
  simp [e1, e2, e3, e4, h, h']
theorem PixelOverAssociativity (x0 : S23) (x1 : S23) (x2 : S23) (ok0 : ((Lit.int .u8 x0.f0).wf = true) ∧ ((Lit.int .u8 x0.f1).wf = true) ∧ ((Lit.int .u8 x0.f2).wf = true) ∧ ((Lit.int .u8 x0.f3).wf = true)) (ok1 : ((Lit.int .u8 x1.f0).wf = true) ∧ ((Lit.int .u8 x1.f1).wf = true) ∧ ((Lit.int .u8 x1.f2).wf = true) ∧ ((Lit.int .u8 x1.f3).wf = true)) (ok2 : ((Lit.int .u8 x2.f0).wf = true) ∧ ((Lit.int .u8 x2.f1).wf = true) ∧ ((Lit.int .u8 x2.f2).wf = true) ∧ ((Lit.int .u8 x2.f3).wf = true)) :
    ∃ k, compositorlaw08_PixelOverAssociativity.f k x0.f0 x0.f1 x0.f2 x0.f3 x1.f0 x1.f1 x1.f2 x1.f3 x2.f0 x2.f1 x2.f2 x2.f3 = some true := by
  obtain ⟨a, b, c, d⟩ := x0
  obtain ⟨a', b', c', d'⟩ := x1
  obtain ⟨a'', b'', c'', d''⟩ := x2
  obtain ⟨a0, a1⟩ := u8 ok0.1
  obtain ⟨b0, b1⟩ := u8 ok0.2.1
  obtain ⟨c0, c1⟩ := u8 ok0.2.2.1
  obtain ⟨d0, d1⟩ := u8 ok0.2.2.2
  obtain ⟨a0', a1'⟩ := u8 ok1.1
  obtain ⟨b0', b1'⟩ := u8 ok1.2.1
  obtain ⟨c0', c1'⟩ := u8 ok1.2.2.1
  obtain ⟨d0', d1'⟩ := u8 ok1.2.2.2
  obtain ⟨a0'', a1''⟩ := u8 ok2.1
  obtain ⟨b0'', b1''⟩ := u8 ok2.2.1
  obtain ⟨c0'', c1''⟩ := u8 ok2.2.2.1
  obtain ⟨d0'', d1''⟩ := u8 ok2.2.2.2
  clear ok0 ok1 ok2
  refine ⟨1, ?_⟩
  simp only at *
  unfold compositorlaw08_PixelOverAssociativity.f
  simp only [clamp_eq, Option.bind_some]
  have va := vc_mn a0 a1 d0 d1
  have vb := vc_mn b0 b1 d0 d1
  have vc := vc_mn c0 c1 d0 d1
  have vd : Vc d d := by unfold Vc; omega
  have va' := vc_mn a0' a1' d0' d1'
  have vb' := vc_mn b0' b1' d0' d1'
  have vc' := vc_mn c0' c1' d0' d1'
  have vd' : Vc d' d' := by unfold Vc; omega
  have va'' := vc_mn a0'' a1'' d0'' d1''
  have vb'' := vc_mn b0'' b1'' d0'' d1''
  have vc'' := vc_mn c0'' c1'' d0'' d1''
  have vd'' : Vc d'' d'' := by unfold Vc; omega
  generalize mn a d = p at *
  generalize mn b d = q at *
  generalize mn c d = r at *
  generalize mn a' d' = p' at *
  generalize mn b' d' = q' at *
  generalize mn c' d' = r' at *
  generalize mn a'' d'' = p'' at *
  generalize mn b'' d'' = q'' at *
  generalize mn c'' d'' = r'' at *
  clear a0 a1 b0 b1 c0 c1 a0' a1' b0' b1' c0' c1' a0'' a1'' b0'' b1'' c0'' c1''
  rw [ovc va' vb' vc' va'' vb'' vc'']
  simp only [Option.bind_some]
  rw [ovc va vb vc (vc_ov va' va'') (vc_ov vb' vb'') (vc_ov vc' vc''), ovc va vb vc va' vb' vc']
  simp only [Option.bind_some]
  rw [ovc (vc_ov va va') (vc_ov vb vb') (vc_ov vc vc') va'' vb'' vc'']
  simp only [Option.bind_some]
  have n1 := near_assoc va va' va''
  have n2 := near_assoc vb vb' vb''
  have n3 := near_assoc vc vc' vc''
  have n4 := near_assoc vd vd' vd''
  have l1 := vc_ov va (vc_ov va' va'')
  have l2 := vc_ov vb (vc_ov vb' vb'')
  have l3 := vc_ov vc (vc_ov vc' vc'')
  have l4 := vc_ov vd (vc_ov vd' vd'')
  have r1 := vc_ov (vc_ov va va') va''
  have r2 := vc_ov (vc_ov vb vb') vb''
  have r3 := vc_ov (vc_ov vc vc') vc''
  have r4 := vc_ov (vc_ov vd vd') vd''
  have eq : (d = 255 ∨ d' = 255 ∨ (p = 0 ∧ q = 0 ∧ r = 0 ∧ d = 0) ∨ (p' = 0 ∧ q' = 0 ∧ r' = 0 ∧ d' = 0) ∨ (p'' = 0 ∧ q'' = 0 ∧ r'' = 0 ∧ d'' = 0)) →
      lf p d p' d' p'' = rt p d p' d' p'' ∧ lf q d q' d' q'' = rt q d q' d' q'' ∧ lf r d r' d' r'' = rt r d r' d' r'' ∧ lf d d d' d' d'' = rt d d d' d' d'' := by
    have one : ∀ x x' x'', Vc x d → Vc x' d' → Vc x'' d'' → (d = 255 ∨ d' = 255 ∨ (x = 0 ∧ d = 0) ∨ (x' = 0 ∧ d' = 0) ∨ x'' = 0) → lf x d x' d' x'' = rt x d x' d' x'' := by
      intro x x' x'' v v' v'' h
      unfold lf rt
      unfold Vc at v v' v''
      rcases h with h | h | ⟨rfl, h⟩ | ⟨rfl, h⟩ | rfl
      · rw [h, Int.sub_self, pd_0r, pd_0r, pd_0r, show (255 : Int) - (255 + 0) = 0 from rfl, pd_0r]; omega
      · rw [h, Int.sub_self, pd_0r, Int.add_zero, pd_255 (by omega) (by omega), show (255 : Int) - (d + (255 - d)) = 0 by omega, pd_0r]; omega
      · have i := pd_range (a := x'') (b := 255 - d') (by omega) (by omega) (by omega) (by omega)
        have k := vc_ov (x := x') (a := d') (x' := x'') (a' := d'') v' v''
        unfold Vc at k
        rw [h, show (255 : Int) - 0 = 255 from rfl, pd_255r (a := d') (by omega) (by omega), pd_255r (a := x') (by omega) (by omega), pd_255r (by omega) (by omega), show (255 : Int) - (0 + d') = 255 - d' by omega]; omega
      · rw [h, show (255 : Int) - 0 = 255 from rfl, pd_255r (by omega) (by omega), pd_0l, show (255 : Int) - (d + 0) = 255 - d by omega, show (0 : Int) + x'' = x'' by omega]; omega
      · rw [pd_0l, pd_0l, Int.add_zero]; omega
    intro h
    refine ⟨one _ _ _ va va' va'' ?_, one _ _ _ vb vb' vb'' ?_, one _ _ _ vc vc' vc'' ?_, one _ _ _ vd vd' vd'' ?_⟩ <;> omega
  unfold lf rt at n1 n2 n3 n4 eq
  unfold Vc at l1 l2 l3 l4 r1 r2 r3 r4
  generalize p + pd (p' + pd p'' (255 - d')) (255 - d) = L1 at *
  generalize q + pd (q' + pd q'' (255 - d')) (255 - d) = L2 at *
  generalize r + pd (r' + pd r'' (255 - d')) (255 - d) = L3 at *
  generalize d + pd (d' + pd d'' (255 - d')) (255 - d) = L4 at *
  generalize p + pd p' (255 - d) + pd p'' (255 - (d + pd d' (255 - d))) = R1 at *
  generalize q + pd q' (255 - d) + pd q'' (255 - (d + pd d' (255 - d))) = R2 at *
  generalize r + pd r' (255 - d) + pd r'' (255 - (d + pd d' (255 - d))) = R3 at *
  generalize d + pd d' (255 - d) + pd d'' (255 - (d + pd d' (255 - d))) = R4 at *
  have fin : compositorlaw08_PixelOverAssociativity.j0 1 false L1 L2 L3 L4 R1 R2 R3 R4 = some true := by
    simp only [compositorlaw08_PixelOverAssociativity.j0, Bool.false_eq_true, if_false]
    rw [near_eq (by omega) (by omega) (by omega) (by omega) n1.1 n1.2, near_eq (by omega) (by omega) (by omega) (by omega) n2.1 n2.2, near_eq (by omega) (by omega) (by omega) (by omega) n3.1 n3.2, near_eq (by omega) (by omega) (by omega) (by omega) n4.1 n4.2, example_holds]
    rfl
  have same : L1 = R1 ∧ L2 = R2 ∧ L3 = R3 ∧ L4 = R4 → compositorlaw08_PixelOverAssociativity.j0 1 (!(L1 == R1) || (!(L2 == R2) || (!(L3 == R3) || (!(L4 == R4))))) L1 L2 L3 L4 R1 R2 R3 R4 = some true := by
    rintro ⟨rfl, rfl, rfl, rfl⟩
    simpa using fin
  split
  · rename_i h; exact same (eq (.inl h))
  · split
    · rename_i h; exact same (eq (.inr (.inl h)))
    · split
      · rename_i h; exact same (eq (.inr (.inr (.inl (by simpa using h)))))
      · split
        · rename_i h; exact same (eq (.inr (.inr (.inr (.inl (by simpa using h))))))
        · split
          · rename_i h; exact same (eq (.inr (.inr (.inr (.inr (by simpa using h))))))
          · exact fin
end Go.Proofs.Ytdhjbdofklglgaa.Pure
end
section
namespace Go.Proofs.YtdhjbdofklglgaaOpens
open Go.ChangeShapes Go.WideShapes Go.RowKit Go.Proofs.YtdhjbdofklglgaaW.PrintWords
section
variable {H : Type} {enc : TypeId × Value → H} {P : Program} {W : World}
def Opens {α : Type} (enc : TypeId × Value → H) (P : Program) (W : World) (t : TypeId) (d : Kd α) (ok : α → Prop) : Prop :=
  ∀ fuel cs y, DataW.trod enc P W 0 (fun _ => true) true fuel t cs = some y → (∀ n ∈ y.1.weights P t, n ≤ reachBytes) → ∃ x, d.K W x cs ∧ ok x
theorem opens_int {t : TypeId} {k : IntKind} (ht : P.underlying t = some (.int k)) : Opens enc P W t (Kd.int k) (fun x => (Lit.int k x).wf = true) := by
  intro fuel cs y h _
  obtain ⟨n, rfl, _, hw⟩ := DataW.trod_int ht h
  exact ⟨n, rfl, hw⟩
def OpensFs {α : Type} (enc : TypeId × Value → H) (P : Program) (W : World) (fs : List Field) (off : Nat) (d : Kd α) (ok : α → Prop) : Prop :=
  ∀ (n : Nat) (cs : List Value) (xs : List (DataW H × List MemPlace)), cs.length = off + d.sz →
    xs.length = fs.length → (∀ (i : Nat) (f : Field), fs[i]? = some f → DataW.trod enc P W 0 (fun _ => true) true n f.type ((cs.drop f.offset).take (P.cellsOf f.type)) = xs[i]?) →
    (∀ m ∈ DataW.weightsEach P (fs.map (·.type)) (xs.map (·.1)), m ≤ reachBytes) → ∃ x, d.K W x (cs.drop off) ∧ ok x
theorem opensFs_last {α : Type} {f : Field} {off : Nat} {d : Kd α} {ok : α → Prop} (ho : f.offset = off) (hc : P.cellsOf f.type = d.sz) (h : Opens enc P W f.type d ok) : OpensFs enc P W [f] off d ok := by
  intro n cs xs hcs hx ht hz
  match xs, hx with
  | [x0], _ =>
    have h0 := ht 0 f rfl
    rw [ho, hc, List.take_of_length_le (by rw [List.length_drop]; omega)] at h0
    exact h n _ x0 (by simpa using h0) (fun m hm => hz m (by simp [DataW.weightsEach, hm]))
theorem opensFs_cons {α β : Type} {f : Field} {fs : List Field} {off : Nat} {d : Kd α} {d' : Kd β} {ok : α → Prop} {ok' : β → Prop} (ho : f.offset = off) (hc : P.cellsOf f.type = d.sz) (h : Opens enc P W f.type d ok)
    (hr : OpensFs enc P W fs (off + d.sz) d' ok') : OpensFs enc P W (f :: fs) off (Kd.pair d d') (fun x => ok x.1 ∧ ok' x.2) := by
  intro n cs xs hcs hx ht hz
  have hcs' : cs.length = off + (d.sz + d'.sz) := hcs
  match xs, hx with
  | x0 :: xs, hx =>
    have h0 := ht 0 f rfl
    rw [ho, hc] at h0
    obtain ⟨x, hK, hok⟩ := h n _ x0 (by simpa using h0) (fun m hm => hz m (by simp [DataW.weightsEach, hm]))
    obtain ⟨x', hK', hok'⟩ := hr n cs xs (by omega) (by simpa using hx) (fun i g hg => by simpa using ht (i + 1) g (by simpa using hg)) (fun m hm => hz m (by simp only [List.map_cons, DataW.weightsEach, List.mem_append]; exact .inr hm))
    refine ⟨(x, x'), ⟨_, _, ?_, hK, hK'⟩, hok, hok'⟩
    rw [← List.drop_drop, List.take_append_drop]
theorem opens_struct {α : Type} {t : TypeId} {fs : Array Field} {d : Kd α} {ok : α → Prop} (ht : P.underlying t = some (.struct fs)) (hc : P.cellsOf t = d.sz) (h : OpensFs enc P W fs.toList 0 d ok) : Opens enc P W t d ok := by
  intro fuel cs y hy hz
  obtain ⟨xs, n, _, rfl, hl, hlen, hf⟩ := DataW.trod_struct ht hy
  obtain ⟨x, hK, hok⟩ := h n cs xs (by omega) (by simpa using hlen) (fun i f hi => hf i f (by simpa using hi)) (fun m hm => hz m (by simp only [DataW.weights, ht]; exact hm))
  exact ⟨x, by simpa using hK, hok⟩
theorem opens_iso {α β : Type} {t : TypeId} {d : Kd α} {ok : α → Prop} (f : β → α) (g : α → β) (hfg : ∀ x, f (g x) = x) (h : Opens enc P W t d ok) : Opens enc P W t (Kd.iso d f) (fun y => ok (f y)) := by
  intro fuel cs y hy hz
  obtain ⟨x, hK, hok⟩ := h fuel cs y hy hz
  exact ⟨g x, by show d.K W (f (g x)) cs; rw [hfg]; exact hK, by show ok (f (g x)); rw [hfg]; exact hok⟩
theorem opens_imp {α : Type} {t : TypeId} {d : Kd α} {ok ok' : α → Prop} (h : Opens enc P W t d ok) (hi : ∀ x, ok x → ok' x) : Opens enc P W t d ok' := by
  intro fuel cs y hy hz
  obtain ⟨x, hK, hok⟩ := h fuel cs y hy hz
  exact ⟨x, hK, hi x hok⟩
theorem opens_arg {α : Type} {ts : List TypeId} {ds : List (DataW H)} {j : Nat} {t : TypeId} {v : Value} {dt : DataW H} {ps : List MemPlace} {d : Kd α} {ok : α → Prop} (h : Opens enc P W t d ok)
    (hsz : (DataW.weightsEach P ts ds).all (· ≤ reachBytes) = true) (ht : ts[j]? = some t) (hd : ds[j]? = some dt) (hr : DataW.Trod enc P W 0 (fun _ => true) true t v dt ps) : ∃ x, d.K W x v.cells.toList ∧ ok x := by
  obtain ⟨fuel, hf⟩ := hr
  exact h fuel _ _ hf (fun n hn => by simpa using List.all_eq_true.1 hsz n (DataW.weights_mem_each ht hd n hn))
end
theorem arr_of {cs : Array Value} {l : List Value} (h : (Value.agg cs).cells.toList = l) : cs = l.toArray := by
  have h' : cs.toList = l := h
  rw [← h', Array.toArray_toList]
end Go.Proofs.YtdhjbdofklglgaaOpens
end
