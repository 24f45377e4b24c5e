-- The texts behind this claim's law, put together by a program of this session (shake.py): what no text uses is left out. Its words are print.sh's.
import Derived.SizedLaws
import Derived.ChangeSlices
import Derived.OpenShut
import Derived.Test.YtmockeaiccpogaaSBufferCrop16
section
namespace Go.Proofs.Ytmockeaiccpogaa.All
open Go.RowKit Go.Proofs.YtmockeaiccpogaaW.PrintWords Go.Proofs.YtmockeaiccpogaaW.PrintLast Go.Proofs.YtmockeaiccpogaaW.PrintMore
attribute [local go_sem] max2_int min2_int max_two min_two max_three min_three max_four min_four
set_option linter.unusedVariables false
set_option linter.unusedSimpArgs false
section
open Go.Proofs.YtmockeaiccpogaaHand Go.Proofs.YtmockeaiccpogaaSq
theorem buffer_Paste.lit_calls (w W : World) (g lo n cap base : Nat) (sa : Addr) (l sr : List S43) (hb : Below w.heap.size w W) (hR : Kd.R k43 43 W base (fun _ => True) (.slice (some ⟨g, 0, none⟩) l.length cap) l) (hC : Kd.C k43 w (some sa) n sr) (hn : 0 < n) (hfit : lo + n ≤ l.length) :
    Calls Try.prog 60 #[.slice (some ⟨g, lo * 4, none⟩) n n, .slice (some sa) n n] W fun e w' => e = .returned (.tuple #[]) ∧ Kd.R k43 43 w' base (fun _ => True) (.slice (some ⟨g, 0, none⟩) l.length cap) (over l lo sr) ∧ W.grownBy w' (some g) := by
  have hC2 := pcells_at (Kd.C_below hC hb)
  have hln := hC.1
  go_enter Try.func60, Try.ntmps60
  go_wp2_with (first | ((with_reducible refine gate_builtin (b := .copy) (xs := #[.tmp 4, .tmp 5]) rfl ?_); refine copyR rfl (.tmp 4) (.tmp 5) rfl rfl rfl hR hC2 ?hn ?hf ?_; (case hn => rw [hln]; exact (Nat.min_self n).symm); (case hf => omega); intro w2 hR2 hg2))
  go_end0
  exact ⟨rfl, hR2, hg2⟩
def buffer_Paste.f (a0_0 a0_1 : Int) (l : List S43) (a1_0 a1_1 : Int) (s : List S43) (x y : Int) : Option (Int × Int × List S43 × Int) := buffer_combine.g (fun _ s => s) a0_0 a0_1 l a1_0 a1_1 s x y
set_option maxHeartbeats 2000000 in
theorem buffer_Paste.calls (a0_0 a0_1 : Int) (A0_2 : Option Addr) (c0_2 : Nat) (l0_2 : List S43) (a1_0 a1_1 : Int) (A1_2 : Option Addr) (c1_2 : Nat) (l1_2 : List S43) (x y : Int) (r1 r2 : Int) (r3 : List S43) (r4 : Int) (w : World) (hr0_2 : Kd.C k43 w A0_2 l0_2.length l0_2) (hc0_2 : l0_2.length ≤ c0_2) (hr1_2 : Kd.C k43 w A1_2 l1_2.length l1_2) (hc1_2 : l1_2.length ≤ c1_2)
    (h : buffer_Paste.f a0_0 a0_1 l0_2 a1_0 a1_1 l1_2 x y = some (r1, r2, r3, r4)) :
    Calls Try.prog 32 #[.agg #[.int .i64 a0_0, .int .i64 a0_1, .slice A0_2 l0_2.length c0_2], .agg #[.int .i64 a1_0, .int .i64 a1_1, .slice A1_2 l1_2.length c1_2], .int .i64 x, .int .i64 y] w fun e w' => ∃ v2_ : Value, e = .returned (.tuple #[.agg #[.int .i64 r1, .int .i64 r2, v2_], .int .i64 r4]) ∧ Kd.R k43 43 w' w.heap.size (fun _ => True) v2_ r3 ∧ Below w.heap.size w w' := by
  have hh := Aside0.mk h
  clear h
  go_enter Try.func32, Try.ntmps32
  go_wp2_with fail
  obtain ⟨hA0, hB0, hC0, hD0⟩ := allocs3 w (Obj.cells #[.int .i64 a0_0, .int .i64 a0_1, .slice A0_2 l0_2.length c0_2] 27) (Obj.cells #[.int .i64 a1_0, .int .i64 a1_1, .slice A1_2 l1_2.length c1_2] 27) (Obj.cells #[.int .i64 0, .int .i64 0, .slice none 0 0] 27)
  generalize ((w.alloc (Obj.cells #[.int .i64 a0_0, .int .i64 a0_1, .slice A0_2 l0_2.length c0_2] 27)).alloc (Obj.cells #[.int .i64 a1_0, .int .i64 a1_1, .slice A1_2 l1_2.length c1_2] 27)).alloc (Obj.cells #[.int .i64 0, .int .i64 0, .slice none 0 0] 27) = V at hA0 hB0 hC0 hD0 ⊢
  have hR0 := Aside0.mk (Kd.C_below hr0_2 hD0)
  have hR1 := Aside0.mk (Kd.C_below hr1_2 hD0)
  have hC := Aside0.mk hC0
  have hD := Aside0.mk hD0
  clear hA0 hB0 hC0 hD0 hr0_2 hr1_2
  refine (buffer_combine.calls (fun _ s => s) (fun d s h => h) 60 Try.f60 #[] Try.func60 (by kernel_rfl) rfl a0_0 a0_1 A0_2 c0_2 l0_2 a1_0 a1_1 A1_2 c1_2 l1_2 x y r1 r2 r3 r4 V hR0.out hc0_2 hR1.out hc1_2 ?hcl hh.out).mono ?_
  case hcl =>
    intro W g lo n cap sa l sr hb hg hR hC hn hl
    exact buffer_Paste.lit_calls V W g lo n cap V.heap.size sa l sr hb hR hC hn hl
  rintro e w1 ⟨v, rfl, hv, hb1⟩
  obtain ⟨Ao, co, eo⟩ := Kd.R_slice hv
  subst eo
  have hu := Aside0.mk (Kd.R_lower hv hD.out.size)
  replace hC := Aside0.mk (blk_below hC.out hb1)
  replace hD := Aside0.mk (below_step hD.out hb1)
  clear hv hb1 hR0 hR1
  have z0 := (blk_cell hC.out 0).trans rfl
  have z1 := (blk_cell hC.out 1).trans rfl
  have z2 := (blk_cell hC.out 2).trans rfl
  have f0 := blk_frozen hC.out 0
  have f1 := blk_frozen hC.out 1
  have f2 := blk_frozen hC.out 2
  go_wp2
  exact bodyPost_ret (results_ct rfl _ _ (w.heap.size + 1 + 1) 27 #[.int .i64 r1, .int .i64 r2, .slice Ao r3.length co] (0, 0) _ rfl (retBuf hC.out _ _ _) Try.underlying27 rfl (by kernel_rfl)) rfl ⟨_, rfl, retBufR hC.out hu.out, below_set (below_set (below_set hD.out (by omega)) (by omega)) (by omega)⟩
end
end Go.Proofs.Ytmockeaiccpogaa.All
end
section
namespace Go.Proofs.Ytmockeaiccpogaa.All
open Go.Proofs.YtmockeaiccpogaaSq
open Go.RowKit Go.Proofs.YtmockeaiccpogaaW.PrintWords Go.Proofs.YtmockeaiccpogaaW.PrintLast Go.Proofs.YtmockeaiccpogaaW.PrintMore
attribute [local go_sem] max2_int min2_int max_two min_two max_three min_three max_four min_four
set_option linter.unusedVariables false
set_option linter.unusedSimpArgs false
def compositorlaw09_BufferCrop.j0 : Nat → Int → Bool → Int → Int → List (S43) → Int → Int → Int → Int → Int → Int → List (S43) → Option (Bool)
 | 0, _, _, _, _, _, _, _, _, _, _, _, _ => none
 | k + 1, x6, x35, x416000, x416001, x416002, x417000, x417001, x417002, x417003, x426000, x426001, x426002 => if x35 = true then (some false) else (if x6 = 0 then ((buffer_Paste.f x416000 x416001 x416002 x426000 x426001 x426002 x417000 x417001).bind fun bt434 => (if bt434.2.2.2 = 0 then ((compositorref09_Equal.f k bt434.1 bt434.2.1 bt434.2.2.1 x416000 x416001 x416002).bind fun t441 => (if t441 = true then ((compositorlaw09_exampleHolds.f k).bind fun t442 => (some t442)) else (some false))) else (some false))) else ((compositorlaw09_exampleHolds.f k).bind fun t443 => (some t443)))
def compositorlaw09_BufferCrop.f (k : Nat) (a0_0 : Int) (a0_1 : Int) (l0_2 : List (S43)) (a1_0 : Int) (a1_1 : Int) (a1_2 : Int) (a1_3 : Int) : Option (Bool) := (compositorlaw09_small.f a0_0 a0_1 l0_2).bind fun t417 => (if t417 = true then ((buffer_Crop.f a0_0 a0_1 l0_2 a1_0 a1_1 a1_2 a1_3).bind fun bt419 => ((compositorref09_Crop.f k a0_0 a0_1 l0_2 a1_0 a1_1 a1_2 a1_3).bind fun bt426 => (if bt419.2.2.2 = bt426.2.2.2 then ((compositorref09_Equal.f k bt419.1 bt419.2.1 bt419.2.2.1 bt426.1 bt426.2.1 bt426.2.2.1).bind fun t433 => (compositorlaw09_BufferCrop.j0 k bt419.2.2.2 (!t433) a0_0 a0_1 l0_2 a1_0 a1_1 a1_2 a1_3 bt419.1 bt419.2.1 bt419.2.2.1)) else (compositorlaw09_BufferCrop.j0 k bt419.2.2.2 true a0_0 a0_1 l0_2 a1_0 a1_1 a1_2 a1_3 bt419.1 bt419.2.1 bt419.2.2.1)))) else ((compositorlaw09_exampleHolds.f k).bind fun t418 => (some t418)))
set_option maxHeartbeats 8000000 in
set_option maxRecDepth 100000 in
theorem compositorlaw09_BufferCrop.calls (k : Nat) (a0_0 : Int) (a0_1 : Int) (A0_2 : Option Addr) (c0_2 : Nat) (l0_2 : List (S43)) (a1_0 : Int) (a1_1 : Int) (a1_2 : Int) (a1_3 : Int) (w : World) (hr0_2 : Kd.C k43 w A0_2 l0_2.length l0_2) (hc0_2 : l0_2.length ≤ c0_2) (h : compositorlaw09_BufferCrop.f k a0_0 a0_1 l0_2 a1_0 a1_1 a1_2 a1_3 = some true) :
  Calls Try.prog 7 #[.agg #[.int .i64 a0_0, .int .i64 a0_1, .slice A0_2 l0_2.length c0_2], .agg #[.int .i64 a1_0, .int .i64 a1_1, .int .i64 a1_2, .int .i64 a1_3]] w fun e w' => e = .returned (.bool true) ∧ Below w.heap.size w w' := by
 have hu27 := Try.underlying27
 have hu47 := Try.underlying47
 have HR0_2 := Aside0.mk hr0_2
 have HC0_2 := Aside0.mk hc0_2
 clear hr0_2 hc0_2
 have HB := Aside0.mk (Below.refl w.heap.size w)
 have H : ((compositorlaw09_small.f a0_0 a0_1 l0_2).bind fun t417 => (if t417 = true then ((buffer_Crop.f a0_0 a0_1 l0_2 a1_0 a1_1 a1_2 a1_3).bind fun bt419 => ((compositorref09_Crop.f k a0_0 a0_1 l0_2 a1_0 a1_1 a1_2 a1_3).bind fun bt426 => (if bt419.2.2.2 = bt426.2.2.2 then ((compositorref09_Equal.f k bt419.1 bt419.2.1 bt419.2.2.1 bt426.1 bt426.2.1 bt426.2.2.1).bind fun t433 => (compositorlaw09_BufferCrop.j0 k bt419.2.2.2 (!t433) a0_0 a0_1 l0_2 a1_0 a1_1 a1_2 a1_3 bt419.1 bt419.2.1 bt419.2.2.1)) else (compositorlaw09_BufferCrop.j0 k bt419.2.2.2 true a0_0 a0_1 l0_2 a1_0 a1_1 a1_2 a1_3 bt419.1 bt419.2.1 bt419.2.2.1)))) else ((compositorlaw09_exampleHolds.f k).bind fun t418 => (some t418)))) = some true := h
 clear h
 replace H := Option.bind_eq_some_iff.mp H
 obtain ⟨t417, A30, H⟩ := H
 try dsimp only at H
 have A3 := Aside0.mk A30
 clear A30
 by_cases c4 : t417 = true
 ·
  subst c4
  have H1 : ((buffer_Crop.f a0_0 a0_1 l0_2 a1_0 a1_1 a1_2 a1_3).bind fun bt419 => ((compositorref09_Crop.f k a0_0 a0_1 l0_2 a1_0 a1_1 a1_2 a1_3).bind fun bt426 => (if bt419.2.2.2 = bt426.2.2.2 then ((compositorref09_Equal.f k bt419.1 bt419.2.1 bt419.2.2.1 bt426.1 bt426.2.1 bt426.2.2.1).bind fun t433 => (compositorlaw09_BufferCrop.j0 k bt419.2.2.2 (!t433) a0_0 a0_1 l0_2 a1_0 a1_1 a1_2 a1_3 bt419.1 bt419.2.1 bt419.2.2.1)) else (compositorlaw09_BufferCrop.j0 k bt419.2.2.2 true a0_0 a0_1 l0_2 a1_0 a1_1 a1_2 a1_3 bt419.1 bt419.2.1 bt419.2.2.1)))) = some true := by rw [if_pos rfl] at H; exact H
  clear H
  have H := H1
  clear H1
  replace H := Option.bind_eq_some_iff.mp H
  obtain ⟨⟨t419, t420, t421, t424⟩, A50, H⟩ := H
  try dsimp only at H
  have A5 := Aside0.mk A50
  clear A50
  replace H := Option.bind_eq_some_iff.mp H
  obtain ⟨⟨t426, t427, t428, t431⟩, A60, H⟩ := H
  try dsimp only at H
  have A6 := Aside0.mk A60
  clear A60
  have HC7 := Aside0.mk H
  clear H
  go_enter Try.func7, Try.ntmps7
  go_upto_region 5 with (first | ((with_reducible refine gate_dst (N := 2) rfl ?_); refine box_event ?hg (N := 2) ?hd (cs := #[.int .i64 a0_0, .int .i64 a0_1, .slice A0_2 l0_2.length c0_2]) (t := 27) ?hr ?_; (case hd => rfl); (case hg => rfl); (case hr => first | (go_simp; done) | (go_simp; rfl)); intro gb415 hg w8 hbox hb; have n0_ := hb_ HB hb; have n1_ := Aside0.mk (hbox); have n2_ := Aside0.mk ((by rw [hg]; exact (below_size (hq_ HB)) : w.heap.size ≤ gb415)); have n3_ := Aside0.mk ((by rw [hg]; exact (below_size (hq_ HB)) : w.heap.size ≤ gb415)); clear HB; have HB := n0_; have BK415 := n1_; have GW415 := n2_; have GE415 := n3_; clear n0_ n1_ n2_ n3_; clear hb hbox hg) | ((with_reducible refine gate_dst (N := 3) rfl ?_); refine box_event ?hg (N := 3) ?hd (cs := #[.int .i64 a1_0, .int .i64 a1_1, .int .i64 a1_2, .int .i64 a1_3]) (t := 47) ?hr ?_; (case hd => rfl); (case hg => rfl); (case hr => first | (go_simp; done) | (go_simp; rfl)); intro gb416 hg w9 hbox hb; have n0_ := bb_ BK415 hb; have n1_ := hb_ HB hb; have n2_ := Aside0.mk (hbox); have n3_ := Aside0.mk ((by rw [hg]; exact (below_size (hq_ HB)) : w.heap.size ≤ gb416)); have n4_ := Aside0.mk ((by rw [hg]; exact (below_size (hq_ HB)) : w.heap.size ≤ gb416)); have n5_ := Aside0.mk ((by rw [hg]; exact Nat.ne_of_lt (blk_lt (g := gb415) (o := .cells #[.int .i64 a0_0, .int .i64 a0_1, .slice A0_2 l0_2.length c0_2] 27 (0, 0)) (bq_ BK415)) : gb415 ≠ gb416)); have n6_ := Aside0.mk ((by rw [hg]; exact Nat.ne_of_gt (blk_lt (g := gb415) (o := .cells #[.int .i64 a0_0, .int .i64 a0_1, .slice A0_2 l0_2.length c0_2] 27 (0, 0)) (bq_ BK415)) : gb416 ≠ gb415)); clear BK415; clear HB; have BK415 := n0_; have HB := n1_; have BK416 := n2_; have GW416 := n3_; have GE416 := n4_; have NB415_416 := n5_; have NB416_415 := n6_; clear n0_ n1_ n2_ n3_ n4_ n5_ n6_; clear hb hbox hg; have hnb10 := NB415_416.out; have hnc10 := NB416_415.out; have hcz11_0 : w9.cell? ⟨gb415, 0, none⟩ = some (.int .i64 a0_0) := (blk_cell BK415.out 0).trans rfl; have hcz11_1 : w9.cell? ⟨gb415, 1, none⟩ = some (.int .i64 a0_1) := (blk_cell BK415.out 1).trans rfl; have hcz11_2 : w9.cell? ⟨gb415, 2, none⟩ = some (.slice A0_2 l0_2.length c0_2) := (blk_cell BK415.out 2).trans rfl; have hfz11_0 := blk_frozen BK415.out 0; have hfz11_1 := blk_frozen BK415.out 1; have hfz11_2 := blk_frozen BK415.out 2) | ((with_reducible refine gate_callee (f := 22) rfl ?_); refine goesL_ (some 12) rfl rfl Try.func22 (by kernel_rfl) rfl #[.agg #[.int .i64 a0_0, .int .i64 a0_1, .slice A0_2 l0_2.length c0_2]] rfl (by (try simp only [List.map_toArray, List.map_cons, List.map_nil]) <;> rfl) ?_; (with_reducible refine (compositorlaw09_small.calls a0_0 a0_1 _ _ l0_2 true _ ?side1 ?side2 A3.out).mono ?_); (case side1 => repeat (first | exact (Kd.C_below HR0_2.out HB.out) | (with_reducible refine Kd.C_alloc ?_ _) | (with_reducible refine Kd.C_drewN ?_ _) | (with_reducible refine Kd.C_drew ?_))); (case side2 => exact HC0_2.out); rintro e w12 ⟨rfl, hb⟩; refine ⟨_, rfl, ?_⟩; have n0_ := bb_ BK415 hb; have n1_ := bb_ BK416 hb; have n2_ := hb_ HB hb; clear BK415; clear BK416; clear HB; have BK415 := n0_; have BK416 := n1_; have HB := n2_; clear n0_ n1_ n2_; (try clear hb); (try clear hb2); (try clear hk); (try clear hi); have hcz13_0 : w12.cell? ⟨gb415, 0, none⟩ = some (.int .i64 a0_0) := (blk_cell BK415.out 0).trans rfl; have hcz13_1 : w12.cell? ⟨gb415, 1, none⟩ = some (.int .i64 a0_1) := (blk_cell BK415.out 1).trans rfl; have hcz13_2 : w12.cell? ⟨gb415, 2, none⟩ = some (.slice A0_2 l0_2.length c0_2) := (blk_cell BK415.out 2).trans rfl; have hfz13_0 := blk_frozen BK415.out 0; have hfz13_1 := blk_frozen BK415.out 1; have hfz13_2 := blk_frozen BK415.out 2; have hcz14_0 : w12.cell? ⟨gb416, 0, none⟩ = some (.int .i64 a1_0) := (blk_cell BK416.out 0).trans rfl; have hcz14_1 : w12.cell? ⟨gb416, 1, none⟩ = some (.int .i64 a1_1) := (blk_cell BK416.out 1).trans rfl; have hcz14_2 : w12.cell? ⟨gb416, 2, none⟩ = some (.int .i64 a1_2) := (blk_cell BK416.out 2).trans rfl; have hcz14_3 : w12.cell? ⟨gb416, 3, none⟩ = some (.int .i64 a1_3) := (blk_cell BK416.out 3).trans rfl; have hfz14_0 := blk_frozen BK416.out 0; have hfz14_1 := blk_frozen BK416.out 1; have hfz14_2 := blk_frozen BK416.out 2; have hfz14_3 := blk_frozen BK416.out 3) | ((with_reducible refine gate_callee (f := 30) rfl ?_); refine goesL_ (some 18) rfl rfl Try.func30 (by kernel_rfl) rfl #[.agg #[.int .i64 a0_0, .int .i64 a0_1, .slice A0_2 l0_2.length c0_2], .agg #[.int .i64 a1_0, .int .i64 a1_1, .int .i64 a1_2, .int .i64 a1_3]] rfl (by (try simp only [List.map_toArray, List.map_cons, List.map_nil]) <;> rfl) ?_; (with_reducible refine (buffer_Crop.calls a0_0 a0_1 _ _ l0_2 a1_0 a1_1 a1_2 a1_3 t419 t420 t421 t424 _ ?side1 ?side2 A5.out).mono ?_); (case side1 => repeat (first | exact (Kd.C_below HR0_2.out HB.out) | (with_reducible refine Kd.C_alloc ?_ _) | (with_reducible refine Kd.C_drewN ?_ _) | (with_reducible refine Kd.C_drew ?_))); (case side2 => exact HC0_2.out); rintro e w15 ⟨v422, rfl, ho0, hb⟩; refine ⟨_, rfl, ?_⟩; have n0_ := Aside0.mk (Kd.R_lower ho0 (below_size (hq_ HB))); have n1_ := bb_ BK415 hb; have n2_ := bb_ BK416 hb; have n3_ := hb_ HB hb; clear BK415; clear BK416; clear HB; have HO423 := n0_; have BK415 := n1_; have BK416 := n2_; have HB := n3_; clear n0_ n1_ n2_ n3_; (try clear hb); (try clear hb2); (try clear hk); (try clear hi); (try clear ho0)) | ((with_reducible refine gate_dst (N := 5) rfl ?_); refine box_event ?hg (N := 5) ?hd (cs := #[.int .i64 0, .int .i64 0, .slice none 0 0]) (t := 27) ?hr ?_; (case hd => rfl); (case hg => rfl); (case hr => first | (go_simp; done) | (go_simp; rfl)); intro gb425 hg w16 hbox hb; have n0_ := Aside0.mk (Kd.R_below (by (with_reducible repeat (first | apply Kd.R_alloc | apply Kd.R_drewN | apply Kd.R_drew)); exact HO423.out) hb); have n1_ := bb_ BK415 hb; have n2_ := bb_ BK416 hb; have n3_ := hb_ HB hb; have n4_ := Aside0.mk (hbox); have n5_ := Aside0.mk ((by rw [hg]; exact (below_size (hq_ HB)) : w.heap.size ≤ gb425)); have n6_ := Aside0.mk ((by rw [hg]; exact (below_size (hq_ HB)) : w.heap.size ≤ gb425)); have n7_ := Aside0.mk ((by rw [hg]; exact Nat.ne_of_lt (blk_lt (g := gb415) (o := .cells #[.int .i64 a0_0, .int .i64 a0_1, .slice A0_2 l0_2.length c0_2] 27 (0, 0)) (bq_ BK415)) : gb415 ≠ gb425)); have n8_ := Aside0.mk ((by rw [hg]; exact Nat.ne_of_gt (blk_lt (g := gb415) (o := .cells #[.int .i64 a0_0, .int .i64 a0_1, .slice A0_2 l0_2.length c0_2] 27 (0, 0)) (bq_ BK415)) : gb425 ≠ gb415)); have n9_ := Aside0.mk ((by rw [hg]; exact Nat.ne_of_lt (blk_lt (g := gb416) (o := .cells #[.int .i64 a1_0, .int .i64 a1_1, .int .i64 a1_2, .int .i64 a1_3] 47 (0, 0)) (bq_ BK416)) : gb416 ≠ gb425)); have n10_ := Aside0.mk ((by rw [hg]; exact Nat.ne_of_gt (blk_lt (g := gb416) (o := .cells #[.int .i64 a1_0, .int .i64 a1_1, .int .i64 a1_2, .int .i64 a1_3] 47 (0, 0)) (bq_ BK416)) : gb425 ≠ gb416)); clear HO423; clear BK415; clear BK416; clear HB; have HO423 := n0_; have BK415 := n1_; have BK416 := n2_; have HB := n3_; have BK425 := n4_; have GW425 := n5_; have GE425 := n6_; have NB415_425 := n7_; have NB425_415 := n8_; have NB416_425 := n9_; have NB425_416 := n10_; clear n0_ n1_ n2_ n3_ n4_ n5_ n6_ n7_ n8_ n9_ n10_; clear hb hbox hg; have hnb17 := NB425_415.out; have hnc17 := NB415_425.out; have hnb18 := NB425_416.out; have hnc18 := NB416_425.out; have hcz19_0 : w16.cell? ⟨gb425, 0, none⟩ = some (.int .i64 0) := (blk_cell BK425.out 0).trans rfl; have hcz19_1 : w16.cell? ⟨gb425, 1, none⟩ = some (.int .i64 0) := (blk_cell BK425.out 1).trans rfl; have hcz19_2 : w16.cell? ⟨gb425, 2, none⟩ = some (.slice none 0 0) := (blk_cell BK425.out 2).trans rfl; have hfz19_0 := blk_frozen BK425.out 0; have hfz19_1 := blk_frozen BK425.out 1; have hfz19_2 := blk_frozen BK425.out 2; obtain ⟨Ao20, co20, eo20⟩ := Kd.R_slice HO423.out; subst eo20; have hcz21_0 : w16.cell? ⟨gb415, 0, none⟩ = some (.int .i64 a0_0) := (blk_cell BK415.out 0).trans rfl; have hcz21_1 : w16.cell? ⟨gb415, 1, none⟩ = some (.int .i64 a0_1) := (blk_cell BK415.out 1).trans rfl; have hcz21_2 : w16.cell? ⟨gb415, 2, none⟩ = some (.slice A0_2 l0_2.length c0_2) := (blk_cell BK415.out 2).trans rfl; have hfz21_0 := blk_frozen BK415.out 0; have hfz21_1 := blk_frozen BK415.out 1; have hfz21_2 := blk_frozen BK415.out 2; have hcz22_0 : w16.cell? ⟨gb416, 0, none⟩ = some (.int .i64 a1_0) := (blk_cell BK416.out 0).trans rfl; have hcz22_1 : w16.cell? ⟨gb416, 1, none⟩ = some (.int .i64 a1_1) := (blk_cell BK416.out 1).trans rfl; have hcz22_2 : w16.cell? ⟨gb416, 2, none⟩ = some (.int .i64 a1_2) := (blk_cell BK416.out 2).trans rfl; have hcz22_3 : w16.cell? ⟨gb416, 3, none⟩ = some (.int .i64 a1_3) := (blk_cell BK416.out 3).trans rfl; have hfz22_0 := blk_frozen BK416.out 0; have hfz22_1 := blk_frozen BK416.out 1; have hfz22_2 := blk_frozen BK416.out 2; have hfz22_3 := blk_frozen BK416.out 3) | ((with_reducible refine gate_callee (f := 31) rfl ?_); refine goesL_ (some 24) rfl rfl Try.func31 (by kernel_rfl) rfl #[.agg #[.int .i64 a0_0, .int .i64 a0_1, .slice A0_2 l0_2.length c0_2], .agg #[.int .i64 a1_0, .int .i64 a1_1, .int .i64 a1_2, .int .i64 a1_3]] rfl (by (try simp only [List.map_toArray, List.map_cons, List.map_nil]) <;> rfl) ?_; (with_reducible refine (compositorref09_Crop.calls k a0_0 a0_1 _ _ l0_2 a1_0 a1_1 a1_2 a1_3 t426 t427 t428 t431 _ ?side1 ?side2 A6.out).mono ?_); (case side1 => exact Kd.C_below HR0_2.out (hq_ HB)); (case side2 => exact HC0_2.out); rintro e w23 ⟨v429, rfl, ho0, hb⟩; refine ⟨_, rfl, ?_⟩; have n0_ := Aside0.mk (Kd.R_elder' (by (with_reducible repeat (first | apply Kd.R_alloc | apply Kd.R_drewN | apply Kd.R_drew)); exact (Kd.R_mono (Kd.R_far (p := ⟨gb425, 2, none⟩) (Kd.R_far (p := ⟨gb425, 1, none⟩) (Kd.R_far (p := ⟨gb425, 0, none⟩) (Kd.R_types HO423.out BK425.out (by decide)) (fun _ hk => hk.2) (.int .i64 t419)) (fun _ hk => hk.2) (.int .i64 t420)) (fun _ hk => hk.2) (.slice Ao20 t421.length co20)) (fun _ h_ => h_.1))) (Kd.R_base ho0) hb); have n1_ := Aside0.mk (Kd.R_lower (Kd.R_new' ho0 (Kd.R_lt (by (with_reducible repeat (first | apply Kd.R_alloc | apply Kd.R_drewN | apply Kd.R_drew)); exact (Kd.R_mono (Kd.R_far (p := ⟨gb425, 2, none⟩) (Kd.R_far (p := ⟨gb425, 1, none⟩) (Kd.R_far (p := ⟨gb425, 0, none⟩) (Kd.R_types HO423.out BK425.out (by decide)) (fun _ hk => hk.2) (.int .i64 t419)) (fun _ hk => hk.2) (.int .i64 t420)) (fun _ hk => hk.2) (.slice Ao20 t421.length co20)) (fun _ h_ => h_.1))))) (below_size (hq_ HB))); have n2_ := Aside0.mk (blk_below (g := gb415) (o := .cells #[.int .i64 a0_0, .int .i64 a0_1, .slice A0_2 l0_2.length c0_2] 27 (0, 0)) (by (with_reducible repeat (first | refine blk_drewN ?_ _ | refine blk_drew ?_ | refine blk_alloc ?_ _)); refine blk_far ?_ NB415_425.out _; (with_reducible repeat (first | refine blk_drewN ?_ _ | refine blk_drew ?_ | refine blk_alloc ?_ _)); refine blk_far ?_ NB415_425.out _; (with_reducible repeat (first | refine blk_drewN ?_ _ | refine blk_drew ?_ | refine blk_alloc ?_ _)); refine blk_far ?_ NB415_425.out _; (with_reducible repeat (first | refine blk_drewN ?_ _ | refine blk_drew ?_ | refine blk_alloc ?_ _)); exact BK415.out) hb); have n3_ := Aside0.mk (blk_below (g := gb416) (o := .cells #[.int .i64 a1_0, .int .i64 a1_1, .int .i64 a1_2, .int .i64 a1_3] 47 (0, 0)) (by (with_reducible repeat (first | refine blk_drewN ?_ _ | refine blk_drew ?_ | refine blk_alloc ?_ _)); refine blk_far ?_ NB416_425.out _; (with_reducible repeat (first | refine blk_drewN ?_ _ | refine blk_drew ?_ | refine blk_alloc ?_ _)); refine blk_far ?_ NB416_425.out _; (with_reducible repeat (first | refine blk_drewN ?_ _ | refine blk_drew ?_ | refine blk_alloc ?_ _)); refine blk_far ?_ NB416_425.out _; (with_reducible repeat (first | refine blk_drewN ?_ _ | refine blk_drew ?_ | refine blk_alloc ?_ _)); exact BK416.out) hb); have n4_ := Aside0.mk (blk_below (g := gb425) (o := .cells #[.int .i64 t419, .int .i64 t420, .slice Ao20 t421.length co20] 27 (0, 0)) (by (with_reducible repeat (first | refine blk_drewN ?_ _ | refine blk_drew ?_ | refine blk_alloc ?_ _)); refine blk_put (cs := #[.int .i64 t419, .int .i64 t420, .slice none 0 0]) ?_ 2 _ rfl; (with_reducible repeat (first | refine blk_drewN ?_ _ | refine blk_drew ?_ | refine blk_alloc ?_ _)); refine blk_put (cs := #[.int .i64 t419, .int .i64 0, .slice none 0 0]) ?_ 1 _ rfl; (with_reducible repeat (first | refine blk_drewN ?_ _ | refine blk_drew ?_ | refine blk_alloc ?_ _)); refine blk_put (cs := #[.int .i64 0, .int .i64 0, .slice none 0 0]) ?_ 0 _ rfl; (with_reducible repeat (first | refine blk_drewN ?_ _ | refine blk_drew ?_ | refine blk_alloc ?_ _)); exact BK425.out) hb); have n5_ := hb_ HB hb; clear HO423; clear BK415; clear BK416; clear BK425; clear HB; have HO423 := n0_; have HO430 := n1_; have BK415 := n2_; have BK416 := n3_; have BK425 := n4_; have HB := n5_; clear n0_ n1_ n2_ n3_ n4_ n5_; (try clear hb); (try clear hb2); (try clear hk); (try clear hi); (try clear ho0)) | ((with_reducible refine gate_dst (N := 7) rfl ?_); refine box_event ?hg (N := 7) ?hd (cs := #[.int .i64 0, .int .i64 0, .slice none 0 0]) (t := 27) ?hr ?_; (case hd => rfl); (case hg => rfl); (case hr => first | (go_simp; done) | (go_simp; rfl)); intro gb432 hg w24 hbox hb; have n0_ := Aside0.mk (Kd.R_below (by (with_reducible repeat (first | apply Kd.R_alloc | apply Kd.R_drewN | apply Kd.R_drew)); exact HO423.out) hb); have n1_ := Aside0.mk (Kd.R_below (by (with_reducible repeat (first | apply Kd.R_alloc | apply Kd.R_drewN | apply Kd.R_drew)); exact HO430.out) hb); have n2_ := bb_ BK415 hb; have n3_ := bb_ BK416 hb; have n4_ := bb_ BK425 hb; have n5_ := hb_ HB hb; have n6_ := Aside0.mk (hbox); have n7_ := Aside0.mk ((by rw [hg]; exact (below_size (hq_ HB)) : w.heap.size ≤ gb432)); have n8_ := Aside0.mk ((by rw [hg]; exact (below_size (hq_ HB)) : w.heap.size ≤ gb432)); have n9_ := Aside0.mk ((by rw [hg]; exact Nat.ne_of_lt (blk_lt (g := gb415) (o := .cells #[.int .i64 a0_0, .int .i64 a0_1, .slice A0_2 l0_2.length c0_2] 27 (0, 0)) (bq_ BK415)) : gb415 ≠ gb432)); have n10_ := Aside0.mk ((by rw [hg]; exact Nat.ne_of_gt (blk_lt (g := gb415) (o := .cells #[.int .i64 a0_0, .int .i64 a0_1, .slice A0_2 l0_2.length c0_2] 27 (0, 0)) (bq_ BK415)) : gb432 ≠ gb415)); have n11_ := Aside0.mk ((by rw [hg]; exact Nat.ne_of_lt (blk_lt (g := gb416) (o := .cells #[.int .i64 a1_0, .int .i64 a1_1, .int .i64 a1_2, .int .i64 a1_3] 47 (0, 0)) (bq_ BK416)) : gb416 ≠ gb432)); have n12_ := Aside0.mk ((by rw [hg]; exact Nat.ne_of_gt (blk_lt (g := gb416) (o := .cells #[.int .i64 a1_0, .int .i64 a1_1, .int .i64 a1_2, .int .i64 a1_3] 47 (0, 0)) (bq_ BK416)) : gb432 ≠ gb416)); have n13_ := Aside0.mk ((by rw [hg]; exact Nat.ne_of_lt (blk_lt (g := gb425) (o := .cells #[.int .i64 t419, .int .i64 t420, .slice Ao20 t421.length co20] 27 (0, 0)) (bq_ BK425)) : gb425 ≠ gb432)); have n14_ := Aside0.mk ((by rw [hg]; exact Nat.ne_of_gt (blk_lt (g := gb425) (o := .cells #[.int .i64 t419, .int .i64 t420, .slice Ao20 t421.length co20] 27 (0, 0)) (bq_ BK425)) : gb432 ≠ gb425)); clear HO423; clear HO430; clear BK415; clear BK416; clear BK425; clear HB; have HO423 := n0_; have HO430 := n1_; have BK415 := n2_; have BK416 := n3_; have BK425 := n4_; have HB := n5_; have BK432 := n6_; have GW432 := n7_; have GE432 := n8_; have NB415_432 := n9_; have NB432_415 := n10_; have NB416_432 := n11_; have NB432_416 := n12_; have NB425_432 := n13_; have NB432_425 := n14_; clear n0_ n1_ n2_ n3_ n4_ n5_ n6_ n7_ n8_ n9_ n10_ n11_ n12_ n13_ n14_; clear hb hbox hg; have hnb25 := NB432_415.out; have hnc25 := NB415_432.out; have hnb26 := NB432_416.out; have hnc26 := NB416_432.out; have hnb27 := NB432_425.out; have hnc27 := NB425_432.out; have hcz28_0 : w24.cell? ⟨gb432, 0, none⟩ = some (.int .i64 0) := (blk_cell BK432.out 0).trans rfl; have hcz28_1 : w24.cell? ⟨gb432, 1, none⟩ = some (.int .i64 0) := (blk_cell BK432.out 1).trans rfl; have hcz28_2 : w24.cell? ⟨gb432, 2, none⟩ = some (.slice none 0 0) := (blk_cell BK432.out 2).trans rfl; have hfz28_0 := blk_frozen BK432.out 0; have hfz28_1 := blk_frozen BK432.out 1; have hfz28_2 := blk_frozen BK432.out 2; obtain ⟨Ao29, co29, eo29⟩ := Kd.R_slice HO430.out; subst eo29))
  (try simp only [Act.put, List.setIfInBounds_toArray, List.set_cons_zero, List.set_cons_succ])
  go_cut [35] (fun v35 wc => ∃ (kq : Nat) (x35_6 : Bool), v35 = .bool x35_6 ∧ Aside0 (compositorlaw09_BufferCrop.j0 kq t424 x35_6 a0_0 a0_1 l0_2 a1_0 a1_1 a1_2 a1_3 t419 t420 t421 = some true) ∧ Aside0 (kq ≤ k) ∧ Aside0 (Kd.R k43 43 wc w.heap.size (fun k_ => some k_ ≠ ((.slice Ao29 t428.length co29) : Value).ownBlock) (.slice Ao20 t421.length co20) t421) ∧ Aside0 (Kd.R k43 43 wc w.heap.size (fun k_ => some k_ ≠ ((.slice Ao20 t421.length co20) : Value).ownBlock) (.slice Ao29 t428.length co29) t428) ∧ Aside0 (wc.heap[gb415]? = some (.cells #[.int .i64 a0_0, .int .i64 a0_1, (.slice A0_2 l0_2.length c0_2)] 27 (0, 0))) ∧ Aside0 (wc.heap[gb416]? = some (.cells #[.int .i64 a1_0, .int .i64 a1_1, .int .i64 a1_2, .int .i64 a1_3] 47 (0, 0))) ∧ Aside0 (wc.heap[gb425]? = some (.cells #[.int .i64 t419, .int .i64 t420, (.slice Ao20 t421.length co20)] 27 (0, 0))) ∧ Aside0 (wc.heap[gb432]? = some (.cells #[.int .i64 t426, .int .i64 t427, (.slice Ao29 t428.length co29)] 27 (0, 0))) ∧ Aside0 (Below w.heap.size w wc))
  case first =>
   have H := HC7.out
   clear HC7
   by_cases c30 : t424 = t431
   ·
    rw [if_pos c30] at H
    have c30b0 : (t424 == t431) = true := beq_iff_eq.mpr c30
    have c30b1 : (t424 != t431) = false := bne_eq_false_iff_eq.mpr c30
    clear c30
    (first | rw [c30b0] | (simp only [i64_w, i32_w]; rw [c30b0]) | skip)
    replace H := Option.bind_eq_some_iff.mp H
    obtain ⟨t433, A310, H⟩ := H
    try dsimp only at H
    have A31 := Aside0.mk A310
    clear A310
    have H' := Aside0.mk H
    clear H
    have hnb32 := NB425_415.out
    have hnc32 := NB415_425.out
    have hnb33 := NB425_416.out
    have hnc33 := NB416_425.out
    have hnb34 := NB425_432.out
    have hnc34 := NB432_425.out
    have hcz35_0 : w24.cell? ⟨gb425, 0, none⟩ = some (.int .i64 t419) := (blk_cell BK425.out 0).trans rfl
    have hcz35_1 : w24.cell? ⟨gb425, 1, none⟩ = some (.int .i64 t420) := (blk_cell BK425.out 1).trans rfl
    have hcz35_2 : w24.cell? ⟨gb425, 2, none⟩ = some (.slice Ao20 t421.length co20) := (blk_cell BK425.out 2).trans rfl
    have hfz35_0 := blk_frozen BK425.out 0
    have hfz35_1 := blk_frozen BK425.out 1
    have hfz35_2 := blk_frozen BK425.out 2
    have hnb36 := NB432_415.out
    have hnc36 := NB415_432.out
    have hnb37 := NB432_416.out
    have hnc37 := NB416_432.out
    have hcz38_0 : w24.cell? ⟨gb432, 0, none⟩ = some (.int .i64 0) := (blk_cell BK432.out 0).trans rfl
    have hcz38_1 : w24.cell? ⟨gb432, 1, none⟩ = some (.int .i64 0) := (blk_cell BK432.out 1).trans rfl
    have hcz38_2 : w24.cell? ⟨gb432, 2, none⟩ = some (.slice none 0 0) := (blk_cell BK432.out 2).trans rfl
    have hfz38_0 := blk_frozen BK432.out 0
    have hfz38_1 := blk_frozen BK432.out 1
    have hfz38_2 := blk_frozen BK432.out 2
    go_wp2_with (first | (go_at_call 16; (with_reducible refine (compositorref09_Equal.calls k t419 t420 _ _ t421 t426 t427 _ _ t428 t433 _ ?side1 ?side2 ?side3 ?side4 A31.out).mono ?_); (case side1 => refine (Kd.R_reads' (e := 43) (base := w.heap.size) (ok := fun k_ => (True ∧ some k_ ≠ (.slice Ao29 t428.length co29 : Value).ownBlock)) (n := t421.length) (c := co20) ?_).2.2; exact (by (with_reducible repeat (first | apply Kd.R_alloc | apply Kd.R_drewN | apply Kd.R_drew)); exact (Kd.R_mono (Kd.R_far (p := ⟨gb432, 2, none⟩) (Kd.R_far (p := ⟨gb432, 1, none⟩) (Kd.R_far (p := ⟨gb432, 0, none⟩) (Kd.R_types HO423.out BK432.out (by decide)) (fun _ hk => hk.2) (.int .i64 t426)) (fun _ hk => hk.2) (.int .i64 t427)) (fun _ hk => hk.2) (.slice Ao29 t428.length co29)) (fun _ h_ => h_.1)))); (case side2 => exact (Kd.R_reads' HO423.out).2.1); (case side3 => refine (Kd.R_reads' (e := 43) (base := w.heap.size) (ok := fun k_ => (True ∧ some k_ ≠ (.slice Ao20 t421.length co20 : Value).ownBlock)) (n := t428.length) (c := co29) ?_).2.2; exact (by (with_reducible repeat (first | apply Kd.R_alloc | apply Kd.R_drewN | apply Kd.R_drew)); exact (Kd.R_mono (Kd.R_far (p := ⟨gb432, 2, none⟩) (Kd.R_far (p := ⟨gb432, 1, none⟩) (Kd.R_far (p := ⟨gb432, 0, none⟩) (Kd.R_types HO430.out BK432.out (by decide)) (fun _ hk => hk.2) (.int .i64 t426)) (fun _ hk => hk.2) (.int .i64 t427)) (fun _ hk => hk.2) (.slice Ao29 t428.length co29)) (fun _ h_ => h_.1)))); (case side4 => exact (Kd.R_reads' HO430.out).2.1); rintro e w39 ⟨rfl, hb⟩; have n0_ := Aside0.mk (Kd.R_below (by (with_reducible repeat (first | apply Kd.R_alloc | apply Kd.R_drewN | apply Kd.R_drew)); exact (Kd.R_mono (Kd.R_far (p := ⟨gb432, 2, none⟩) (Kd.R_far (p := ⟨gb432, 1, none⟩) (Kd.R_far (p := ⟨gb432, 0, none⟩) (Kd.R_types HO423.out BK432.out (by decide)) (fun _ hk => hk.2) (.int .i64 t426)) (fun _ hk => hk.2) (.int .i64 t427)) (fun _ hk => hk.2) (.slice Ao29 t428.length co29)) (fun _ h_ => h_.1))) hb); have n1_ := Aside0.mk (Kd.R_below (by (with_reducible repeat (first | apply Kd.R_alloc | apply Kd.R_drewN | apply Kd.R_drew)); exact (Kd.R_mono (Kd.R_far (p := ⟨gb432, 2, none⟩) (Kd.R_far (p := ⟨gb432, 1, none⟩) (Kd.R_far (p := ⟨gb432, 0, none⟩) (Kd.R_types HO430.out BK432.out (by decide)) (fun _ hk => hk.2) (.int .i64 t426)) (fun _ hk => hk.2) (.int .i64 t427)) (fun _ hk => hk.2) (.slice Ao29 t428.length co29)) (fun _ h_ => h_.1))) hb); have n2_ := Aside0.mk (blk_below (g := gb415) (o := .cells #[.int .i64 a0_0, .int .i64 a0_1, .slice A0_2 l0_2.length c0_2] 27 (0, 0)) (by (with_reducible repeat (first | refine blk_drewN ?_ _ | refine blk_drew ?_ | refine blk_alloc ?_ _)); refine blk_far ?_ NB415_432.out _; (with_reducible repeat (first | refine blk_drewN ?_ _ | refine blk_drew ?_ | refine blk_alloc ?_ _)); refine blk_far ?_ NB415_432.out _; (with_reducible repeat (first | refine blk_drewN ?_ _ | refine blk_drew ?_ | refine blk_alloc ?_ _)); refine blk_far ?_ NB415_432.out _; (with_reducible repeat (first | refine blk_drewN ?_ _ | refine blk_drew ?_ | refine blk_alloc ?_ _)); exact BK415.out) hb); have n3_ := Aside0.mk (blk_below (g := gb416) (o := .cells #[.int .i64 a1_0, .int .i64 a1_1, .int .i64 a1_2, .int .i64 a1_3] 47 (0, 0)) (by (with_reducible repeat (first | refine blk_drewN ?_ _ | refine blk_drew ?_ | refine blk_alloc ?_ _)); refine blk_far ?_ NB416_432.out _; (with_reducible repeat (first | refine blk_drewN ?_ _ | refine blk_drew ?_ | refine blk_alloc ?_ _)); refine blk_far ?_ NB416_432.out _; (with_reducible repeat (first | refine blk_drewN ?_ _ | refine blk_drew ?_ | refine blk_alloc ?_ _)); refine blk_far ?_ NB416_432.out _; (with_reducible repeat (first | refine blk_drewN ?_ _ | refine blk_drew ?_ | refine blk_alloc ?_ _)); exact BK416.out) hb); have n4_ := Aside0.mk (blk_below (g := gb425) (o := .cells #[.int .i64 t419, .int .i64 t420, .slice Ao20 t421.length co20] 27 (0, 0)) (by (with_reducible repeat (first | refine blk_drewN ?_ _ | refine blk_drew ?_ | refine blk_alloc ?_ _)); refine blk_far ?_ NB425_432.out _; (with_reducible repeat (first | refine blk_drewN ?_ _ | refine blk_drew ?_ | refine blk_alloc ?_ _)); refine blk_far ?_ NB425_432.out _; (with_reducible repeat (first | refine blk_drewN ?_ _ | refine blk_drew ?_ | refine blk_alloc ?_ _)); refine blk_far ?_ NB425_432.out _; (with_reducible repeat (first | refine blk_drewN ?_ _ | refine blk_drew ?_ | refine blk_alloc ?_ _)); exact BK425.out) hb); have n5_ := Aside0.mk (blk_below (g := gb432) (o := .cells #[.int .i64 t426, .int .i64 t427, .slice Ao29 t428.length co29] 27 (0, 0)) (by (with_reducible repeat (first | refine blk_drewN ?_ _ | refine blk_drew ?_ | refine blk_alloc ?_ _)); refine blk_put (cs := #[.int .i64 t426, .int .i64 t427, .slice none 0 0]) ?_ 2 _ rfl; (with_reducible repeat (first | refine blk_drewN ?_ _ | refine blk_drew ?_ | refine blk_alloc ?_ _)); refine blk_put (cs := #[.int .i64 t426, .int .i64 0, .slice none 0 0]) ?_ 1 _ rfl; (with_reducible repeat (first | refine blk_drewN ?_ _ | refine blk_drew ?_ | refine blk_alloc ?_ _)); refine blk_put (cs := #[.int .i64 0, .int .i64 0, .slice none 0 0]) ?_ 0 _ rfl; (with_reducible repeat (first | refine blk_drewN ?_ _ | refine blk_drew ?_ | refine blk_alloc ?_ _)); exact BK432.out) hb); have n6_ := hb_ HB hb; clear HO423; clear HO430; clear BK415; clear BK416; clear BK425; clear BK432; clear HB; have HO423 := n0_; have HO430 := n1_; have BK415 := n2_; have BK416 := n3_; have BK425 := n4_; have BK432 := n5_; have HB := n6_; clear n0_ n1_ n2_ n3_ n4_ n5_ n6_; (try clear hb); (try clear hb2); (try clear hk); (try clear hi)))
    go_meet
    case rel => exact ⟨_, (!t433), (by first | rfl | (simp; done) | (simp [*]; done)), H', ⟨by first | omega | exact Nat.le_refl _⟩, ⟨by (with_reducible repeat (first | apply Kd.R_alloc | apply Kd.R_drewN | apply Kd.R_drew)); exact Kd.R_mono HO423.out (fun _ hk => hk.2)⟩, ⟨by (with_reducible repeat (first | apply Kd.R_alloc | apply Kd.R_drewN | apply Kd.R_drew)); exact Kd.R_mono HO430.out (fun _ hk => hk.2)⟩, bf_ BK415, bf_ BK416, bf_ BK425, bf_ BK432, ⟨by repeat (first | (with_reducible first | exact HB.out | apply below_alloc | apply pw_below_drewN | apply below_drew1 | refine below_set ?_ GE415.out | refine below_set ?_ GE416.out | refine below_set ?_ GE425.out | refine below_set ?_ GE432.out) | exact HB.out)⟩⟩
   ·
    rw [if_neg c30] at H
    have c30b0 : (t424 == t431) = false := beq_eq_false_iff_ne.mpr c30
    have c30b1 : (t424 != t431) = true := bne_iff_ne.mpr c30
    (first | rw [c30b0] | (simp only [i64_w, i32_w]; rw [c30b0]) | skip)
    have H' := Aside0.mk H
    clear H
    go_wp2
    go_meet
    case rel => exact ⟨_, (true), (by first | rfl | (simp; done) | (simp [*]; done)), H', ⟨by first | omega | exact Nat.le_refl _⟩, ⟨by (with_reducible repeat (first | apply Kd.R_alloc | apply Kd.R_drewN | apply Kd.R_drew)); exact Kd.R_mono (Kd.R_far (p := ⟨gb432, 2, none⟩) (Kd.R_far (p := ⟨gb432, 1, none⟩) (Kd.R_far (p := ⟨gb432, 0, none⟩) (Kd.R_types HO423.out BK432.out (by decide)) (fun _ hk => hk.2) (.int .i64 t426)) (fun _ hk => hk.2) (.int .i64 t427)) (fun _ hk => hk.2) (.slice Ao29 t428.length co29)) (fun _ hk => hk.1.2)⟩, ⟨by (with_reducible repeat (first | apply Kd.R_alloc | apply Kd.R_drewN | apply Kd.R_drew)); exact Kd.R_mono (Kd.R_far (p := ⟨gb432, 2, none⟩) (Kd.R_far (p := ⟨gb432, 1, none⟩) (Kd.R_far (p := ⟨gb432, 0, none⟩) (Kd.R_types HO430.out BK432.out (by decide)) (fun _ hk => hk.2) (.int .i64 t426)) (fun _ hk => hk.2) (.int .i64 t427)) (fun _ hk => hk.2) (.slice Ao29 t428.length co29)) (fun _ hk => hk.1.2)⟩, bf_ BK415, bf_ BK416, bf_ BK425, ⟨by (with_reducible repeat (first | refine blk_drewN ?_ _ | refine blk_drew ?_ | refine blk_alloc ?_ _)); refine blk_put (cs := #[.int .i64 t426, .int .i64 t427, .slice none 0 0]) ?_ 2 _ rfl; (with_reducible repeat (first | refine blk_drewN ?_ _ | refine blk_drew ?_ | refine blk_alloc ?_ _)); refine blk_put (cs := #[.int .i64 t426, .int .i64 0, .slice none 0 0]) ?_ 1 _ rfl; (with_reducible repeat (first | refine blk_drewN ?_ _ | refine blk_drew ?_ | refine blk_alloc ?_ _)); refine blk_put (cs := #[.int .i64 0, .int .i64 0, .slice none 0 0]) ?_ 0 _ rfl; (with_reducible repeat (first | refine blk_drewN ?_ _ | refine blk_drew ?_ | refine blk_alloc ?_ _)); exact BK432.out⟩, ⟨by repeat (first | (with_reducible first | exact HB.out | apply below_alloc | apply pw_below_drewN | apply below_drew1 | refine below_set ?_ GE415.out | refine below_set ?_ GE416.out | refine below_set ?_ GE425.out | refine below_set ?_ GE432.out) | exact HB.out)⟩⟩
  case rest =>
   clear HC7
   try clear c1
   try clear c2
   try clear p2
   try clear c3
   try clear c4
   try clear c7
   try clear c10
   try clear c17
   try clear c18
   try clear c22
   try clear c25
   try clear c26
   try clear c27
   try clear c30
   try clear c30b0
   try clear c30b1
   try clear c31
   try clear c32
   try clear c33
   try clear c34
   try clear c36
   try clear c37
   try clear hcz11_0
   try clear hcz11_1
   try clear hcz11_2
   try clear hcz13_0
   try clear hcz13_1
   try clear hcz13_2
   try clear hcz14_0
   try clear hcz14_1
   try clear hcz14_2
   try clear hcz14_3
   try clear hcz19_0
   try clear hcz19_1
   try clear hcz19_2
   try clear hcz21_0
   try clear hcz21_1
   try clear hcz21_2
   try clear hcz22_0
   try clear hcz22_1
   try clear hcz22_2
   try clear hcz22_3
   try clear hcz28_0
   try clear hcz28_1
   try clear hcz28_2
   try clear hcz35_0
   try clear hcz35_1
   try clear hcz35_2
   try clear hcz38_0
   try clear hcz38_1
   try clear hcz38_2
   try clear hfz11_0
   try clear hfz11_1
   try clear hfz11_2
   try clear hfz13_0
   try clear hfz13_1
   try clear hfz13_2
   try clear hfz14_0
   try clear hfz14_1
   try clear hfz14_2
   try clear hfz14_3
   try clear hfz19_0
   try clear hfz19_1
   try clear hfz19_2
   try clear hfz21_0
   try clear hfz21_1
   try clear hfz21_2
   try clear hfz22_0
   try clear hfz22_1
   try clear hfz22_2
   try clear hfz22_3
   try clear hfz28_0
   try clear hfz28_1
   try clear hfz28_2
   try clear hfz35_0
   try clear hfz35_1
   try clear hfz35_2
   try clear hfz38_0
   try clear hfz38_1
   try clear hfz38_2
   obtain ⟨kq, x35_6, rfl, HA, HJ6, HO_426002, HO_433002, BK415, BK416, BK425, BK432, HB⟩ := hcut
   cases kq with
   | zero => exact absurd HA.out (by simp [compositorlaw09_BufferCrop.j0])
   | succ kj6 =>
    have H := HA.out
    clear HA
    simp only [compositorlaw09_BufferCrop.j0] at H
    by_cases c40 : x35_6 = true
    ·
     subst c40
     have H1 : (some false) = some true := by rw [if_pos rfl] at H; exact H
     clear H
     have H := H1
     clear H1
     exact absurd H (by simp)
    ·
     replace c40 := Bool.eq_false_iff.mpr c40
     subst c40
     have H1 : (if t424 = 0 then ((buffer_Paste.f a0_0 a0_1 l0_2 t419 t420 t421 a1_0 a1_1).bind fun bt434 => (if bt434.2.2.2 = 0 then ((compositorref09_Equal.f kj6 bt434.1 bt434.2.1 bt434.2.2.1 a0_0 a0_1 l0_2).bind fun t441 => (if t441 = true then ((compositorlaw09_exampleHolds.f kj6).bind fun t442 => (some t442)) else (some false))) else (some false))) else ((compositorlaw09_exampleHolds.f kj6).bind fun t443 => (some t443))) = some true := by rw [if_neg (show ¬ (false = true) by decide)] at H; exact H
     clear H
     have H := H1
     clear H1
     by_cases c41 : t424 = 0
     ·
      rw [if_pos c41] at H
      have c41b0 : (t424 == 0) = true := beq_iff_eq.mpr c41
      have c41b1 : (t424 != 0) = false := bne_eq_false_iff_eq.mpr c41
      clear c41
      replace H := Option.bind_eq_some_iff.mp H
      obtain ⟨⟨t434, t435, t436, t439⟩, A420, H⟩ := H
      try dsimp only at H
      have A42 := Aside0.mk A420
      clear A420
      by_cases c43 : t439 = 0
      ·
       rw [if_pos c43] at H
       have c43b0 : (t439 == 0) = true := beq_iff_eq.mpr c43
       have c43b1 : (t439 != 0) = false := bne_eq_false_iff_eq.mpr c43
       clear c43
       replace H := Option.bind_eq_some_iff.mp H
       obtain ⟨t441, A440, H⟩ := H
       try dsimp only at H
       have A44 := Aside0.mk A440
       clear A440
       by_cases c45 : t441 = true
       ·
        subst c45
        have H1 : ((compositorlaw09_exampleHolds.f kj6).bind fun t442 => (some t442)) = some true := by rw [if_pos rfl] at H; exact H
        clear H
        have H := H1
        clear H1
        replace H := Option.bind_eq_some_iff.mp H
        obtain ⟨t442, A460, H⟩ := H
        try dsimp only at H
        have A46 := Aside0.mk A460
        clear A460
        have Hq_ := Option.some.inj H
        have hnb47 := NB415_416.out
        have hnc47 := NB416_415.out
        have hnb48 := NB415_425.out
        have hnc48 := NB425_415.out
        have hnb49 := NB415_432.out
        have hnc49 := NB432_415.out
        have hcz50_0 : wc.cell? ⟨gb415, 0, none⟩ = some (.int .i64 a0_0) := (blk_cell BK415.out 0).trans rfl
        have hcz50_1 : wc.cell? ⟨gb415, 1, none⟩ = some (.int .i64 a0_1) := (blk_cell BK415.out 1).trans rfl
        have hcz50_2 : wc.cell? ⟨gb415, 2, none⟩ = some (.slice A0_2 l0_2.length c0_2) := (blk_cell BK415.out 2).trans rfl
        have hfz50_0 := blk_frozen BK415.out 0
        have hfz50_1 := blk_frozen BK415.out 1
        have hfz50_2 := blk_frozen BK415.out 2
        have hnb51 := NB425_416.out
        have hnc51 := NB416_425.out
        have hnb52 := NB425_432.out
        have hnc52 := NB432_425.out
        have hcz53_0 : wc.cell? ⟨gb425, 0, none⟩ = some (.int .i64 t419) := (blk_cell BK425.out 0).trans rfl
        have hcz53_1 : wc.cell? ⟨gb425, 1, none⟩ = some (.int .i64 t420) := (blk_cell BK425.out 1).trans rfl
        have hcz53_2 : wc.cell? ⟨gb425, 2, none⟩ = some (.slice Ao20 t421.length co20) := (blk_cell BK425.out 2).trans rfl
        have hfz53_0 := blk_frozen BK425.out 0
        have hfz53_1 := blk_frozen BK425.out 1
        have hfz53_2 := blk_frozen BK425.out 2
        have hnb54 := NB416_432.out
        have hnc54 := NB432_416.out
        have hcz55_0 : wc.cell? ⟨gb416, 0, none⟩ = some (.int .i64 a1_0) := (blk_cell BK416.out 0).trans rfl
        have hcz55_1 : wc.cell? ⟨gb416, 1, none⟩ = some (.int .i64 a1_1) := (blk_cell BK416.out 1).trans rfl
        have hcz55_2 : wc.cell? ⟨gb416, 2, none⟩ = some (.int .i64 a1_2) := (blk_cell BK416.out 2).trans rfl
        have hcz55_3 : wc.cell? ⟨gb416, 3, none⟩ = some (.int .i64 a1_3) := (blk_cell BK416.out 3).trans rfl
        have hfz55_0 := blk_frozen BK416.out 0
        have hfz55_1 := blk_frozen BK416.out 1
        have hfz55_2 := blk_frozen BK416.out 2
        have hfz55_3 := blk_frozen BK416.out 3
        go_wp2_with (first | ((with_reducible refine gate_callee (f := 32) rfl ?_); refine goesL_ (some 46) rfl rfl Try.func32 (by kernel_rfl) rfl #[.agg #[.int .i64 a0_0, .int .i64 a0_1, .slice A0_2 l0_2.length c0_2], .agg #[.int .i64 t419, .int .i64 t420, .slice Ao20 t421.length co20], .int .i64 a1_0, .int .i64 a1_1] rfl (by (try simp only [List.map_toArray, List.map_cons, List.map_nil]) <;> rfl) ?_; (with_reducible refine (buffer_Paste.calls a0_0 a0_1 _ _ l0_2 t419 t420 _ _ t421 a1_0 a1_1 t434 t435 t436 t439 _ ?side1 ?side2 ?side3 ?side4 A42.out).mono ?_); (case side1 => repeat (first | exact (Kd.C_below HR0_2.out HB.out) | (with_reducible refine Kd.C_alloc ?_ _) | (with_reducible refine Kd.C_drewN ?_ _) | (with_reducible refine Kd.C_drew ?_))); (case side2 => exact HC0_2.out); (case side3 => repeat (first | exact (Kd.R_reads' HO_426002.out).2.2 | (with_reducible refine Kd.C_alloc ?_ _) | (with_reducible refine Kd.C_drewN ?_ _) | (with_reducible refine Kd.C_drew ?_))); (case side4 => exact (Kd.R_reads' HO_426002.out).2.1); rintro e w56 ⟨v437, rfl, ho0, hb⟩; refine ⟨_, rfl, ?_⟩; have n0_ := Aside0.mk (Kd.R_elder' (by (with_reducible repeat (first | apply Kd.R_alloc | apply Kd.R_drewN | apply Kd.R_drew)); exact HO_426002.out) (Kd.R_base ho0) hb); have n1_ := Aside0.mk (Kd.R_elder' (by (with_reducible repeat (first | apply Kd.R_alloc | apply Kd.R_drewN | apply Kd.R_drew)); exact HO_433002.out) (Kd.R_base ho0) hb); have n2_ := Aside0.mk (Kd.R_lower (Kd.R_new' (Kd.R_new' ho0 (Kd.R_lt (by (with_reducible repeat (first | apply Kd.R_alloc | apply Kd.R_drewN | apply Kd.R_drew)); exact HO_426002.out))) (Kd.R_lt (by (with_reducible repeat (first | apply Kd.R_alloc | apply Kd.R_drewN | apply Kd.R_drew)); exact HO_433002.out))) (below_size (hq_ HB))); have n3_ := bb_ BK415 hb; have n4_ := bb_ BK416 hb; have n5_ := bb_ BK425 hb; have n6_ := bb_ BK432 hb; have n7_ := hb_ HB hb; clear HO_426002; clear HO_433002; clear BK415; clear BK416; clear BK425; clear BK432; clear HB; have HO_426002 := n0_; have HO_433002 := n1_; have HO438 := n2_; have BK415 := n3_; have BK416 := n4_; have BK425 := n5_; have BK432 := n6_; have HB := n7_; clear n0_ n1_ n2_ n3_ n4_ n5_ n6_ n7_; (try clear hb); (try clear hb2); (try clear hk); (try clear hi); (try clear ho0)) | ((with_reducible refine gate_dst (N := 9) rfl ?_); refine box_event ?hg (N := 9) ?hd (cs := #[.int .i64 0, .int .i64 0, .slice none 0 0]) (t := 27) ?hr ?_; (case hd => rfl); (case hg => rfl); (case hr => first | (go_simp; done) | (go_simp; rfl)); intro gb440 hg w57 hbox hb; have n0_ := Aside0.mk (Kd.R_below (by (with_reducible repeat (first | apply Kd.R_alloc | apply Kd.R_drewN | apply Kd.R_drew)); exact HO_426002.out) hb); have n1_ := Aside0.mk (Kd.R_below (by (with_reducible repeat (first | apply Kd.R_alloc | apply Kd.R_drewN | apply Kd.R_drew)); exact HO_433002.out) hb); have n2_ := Aside0.mk (Kd.R_below (by (with_reducible repeat (first | apply Kd.R_alloc | apply Kd.R_drewN | apply Kd.R_drew)); exact HO438.out) hb); have n3_ := bb_ BK415 hb; have n4_ := bb_ BK416 hb; have n5_ := bb_ BK425 hb; have n6_ := bb_ BK432 hb; have n7_ := hb_ HB hb; have n8_ := Aside0.mk (hbox); have n9_ := Aside0.mk ((by rw [hg]; exact (below_size (hq_ HB)) : w.heap.size ≤ gb440)); have n10_ := Aside0.mk ((by rw [hg]; exact (below_size (hq_ HB)) : w.heap.size ≤ gb440)); have n11_ := Aside0.mk ((by rw [hg]; exact Nat.ne_of_lt (blk_lt (g := gb415) (o := .cells #[.int .i64 a0_0, .int .i64 a0_1, .slice A0_2 l0_2.length c0_2] 27 (0, 0)) (bq_ BK415)) : gb415 ≠ gb440)); have n12_ := Aside0.mk ((by rw [hg]; exact Nat.ne_of_gt (blk_lt (g := gb415) (o := .cells #[.int .i64 a0_0, .int .i64 a0_1, .slice A0_2 l0_2.length c0_2] 27 (0, 0)) (bq_ BK415)) : gb440 ≠ gb415)); have n13_ := Aside0.mk ((by rw [hg]; exact Nat.ne_of_lt (blk_lt (g := gb416) (o := .cells #[.int .i64 a1_0, .int .i64 a1_1, .int .i64 a1_2, .int .i64 a1_3] 47 (0, 0)) (bq_ BK416)) : gb416 ≠ gb440)); have n14_ := Aside0.mk ((by rw [hg]; exact Nat.ne_of_gt (blk_lt (g := gb416) (o := .cells #[.int .i64 a1_0, .int .i64 a1_1, .int .i64 a1_2, .int .i64 a1_3] 47 (0, 0)) (bq_ BK416)) : gb440 ≠ gb416)); have n15_ := Aside0.mk ((by rw [hg]; exact Nat.ne_of_lt (blk_lt (g := gb425) (o := .cells #[.int .i64 t419, .int .i64 t420, .slice Ao20 t421.length co20] 27 (0, 0)) (bq_ BK425)) : gb425 ≠ gb440)); have n16_ := Aside0.mk ((by rw [hg]; exact Nat.ne_of_gt (blk_lt (g := gb425) (o := .cells #[.int .i64 t419, .int .i64 t420, .slice Ao20 t421.length co20] 27 (0, 0)) (bq_ BK425)) : gb440 ≠ gb425)); have n17_ := Aside0.mk ((by rw [hg]; exact Nat.ne_of_lt (blk_lt (g := gb432) (o := .cells #[.int .i64 t426, .int .i64 t427, .slice Ao29 t428.length co29] 27 (0, 0)) (bq_ BK432)) : gb432 ≠ gb440)); have n18_ := Aside0.mk ((by rw [hg]; exact Nat.ne_of_gt (blk_lt (g := gb432) (o := .cells #[.int .i64 t426, .int .i64 t427, .slice Ao29 t428.length co29] 27 (0, 0)) (bq_ BK432)) : gb440 ≠ gb432)); clear HO_426002; clear HO_433002; clear HO438; clear BK415; clear BK416; clear BK425; clear BK432; clear HB; have HO_426002 := n0_; have HO_433002 := n1_; have HO438 := n2_; have BK415 := n3_; have BK416 := n4_; have BK425 := n5_; have BK432 := n6_; have HB := n7_; have BK440 := n8_; have GW440 := n9_; have GE440 := n10_; have NB415_440 := n11_; have NB440_415 := n12_; have NB416_440 := n13_; have NB440_416 := n14_; have NB425_440 := n15_; have NB440_425 := n16_; have NB432_440 := n17_; have NB440_432 := n18_; clear n0_ n1_ n2_ n3_ n4_ n5_ n6_ n7_ n8_ n9_ n10_ n11_ n12_ n13_ n14_ n15_ n16_ n17_ n18_; clear hb hbox hg; have hnb58 := NB440_415.out; have hnc58 := NB415_440.out; have hnb59 := NB440_416.out; have hnc59 := NB416_440.out; have hnb60 := NB440_425.out; have hnc60 := NB425_440.out; have hnb61 := NB440_432.out; have hnc61 := NB432_440.out; have hcz62_0 : w57.cell? ⟨gb440, 0, none⟩ = some (.int .i64 0) := (blk_cell BK440.out 0).trans rfl; have hcz62_1 : w57.cell? ⟨gb440, 1, none⟩ = some (.int .i64 0) := (blk_cell BK440.out 1).trans rfl; have hcz62_2 : w57.cell? ⟨gb440, 2, none⟩ = some (.slice none 0 0) := (blk_cell BK440.out 2).trans rfl; have hfz62_0 := blk_frozen BK440.out 0; have hfz62_1 := blk_frozen BK440.out 1; have hfz62_2 := blk_frozen BK440.out 2; obtain ⟨Ao63, co63, eo63⟩ := Kd.R_slice HO438.out; subst eo63; have hcz64_0 : w57.cell? ⟨gb415, 0, none⟩ = some (.int .i64 a0_0) := (blk_cell BK415.out 0).trans rfl; have hcz64_1 : w57.cell? ⟨gb415, 1, none⟩ = some (.int .i64 a0_1) := (blk_cell BK415.out 1).trans rfl; have hcz64_2 : w57.cell? ⟨gb415, 2, none⟩ = some (.slice A0_2 l0_2.length c0_2) := (blk_cell BK415.out 2).trans rfl; have hfz64_0 := blk_frozen BK415.out 0; have hfz64_1 := blk_frozen BK415.out 1; have hfz64_2 := blk_frozen BK415.out 2) | (go_at_call 16; (with_reducible refine (compositorref09_Equal.calls kj6 t434 t435 _ _ t436 a0_0 a0_1 _ _ l0_2 true _ ?side1 ?side2 ?side3 ?side4 A44.out).mono ?_); (case side1 => refine (Kd.R_reads' (e := 43) (base := w.heap.size) (ok := fun k_ => ((True ∧ some k_ ≠ (.slice Ao20 t421.length co20 : Value).ownBlock) ∧ some k_ ≠ (.slice Ao29 t428.length co29 : Value).ownBlock)) (n := t436.length) (c := co63) ?_).2.2; exact (by (with_reducible repeat (first | apply Kd.R_alloc | apply Kd.R_drewN | apply Kd.R_drew)); exact (Kd.R_mono (Kd.R_far (p := ⟨gb440, 2, none⟩) (Kd.R_far (p := ⟨gb440, 1, none⟩) (Kd.R_far (p := ⟨gb440, 0, none⟩) (Kd.R_types HO438.out BK440.out (by decide)) (fun _ hk => hk.2) (.int .i64 t434)) (fun _ hk => hk.2) (.int .i64 t435)) (fun _ hk => hk.2) (.slice Ao63 t436.length co63)) (fun _ h_ => h_.1)))); (case side2 => exact (Kd.R_reads' HO438.out).2.1); (case side3 => exact Kd.C_below HR0_2.out (hq_ HB)); (case side4 => exact HC0_2.out); rintro e w65 ⟨rfl, hb⟩; have n0_ := Aside0.mk (Kd.R_below (by (with_reducible repeat (first | apply Kd.R_alloc | apply Kd.R_drewN | apply Kd.R_drew)); exact (Kd.R_mono (Kd.R_far (p := ⟨gb440, 2, none⟩) (Kd.R_far (p := ⟨gb440, 1, none⟩) (Kd.R_far (p := ⟨gb440, 0, none⟩) (Kd.R_types HO_426002.out BK440.out (by decide)) (fun _ hk => hk.2) (.int .i64 t434)) (fun _ hk => hk.2) (.int .i64 t435)) (fun _ hk => hk.2) (.slice Ao63 t436.length co63)) (fun _ h_ => h_.1))) hb); have n1_ := Aside0.mk (Kd.R_below (by (with_reducible repeat (first | apply Kd.R_alloc | apply Kd.R_drewN | apply Kd.R_drew)); exact (Kd.R_mono (Kd.R_far (p := ⟨gb440, 2, none⟩) (Kd.R_far (p := ⟨gb440, 1, none⟩) (Kd.R_far (p := ⟨gb440, 0, none⟩) (Kd.R_types HO_433002.out BK440.out (by decide)) (fun _ hk => hk.2) (.int .i64 t434)) (fun _ hk => hk.2) (.int .i64 t435)) (fun _ hk => hk.2) (.slice Ao63 t436.length co63)) (fun _ h_ => h_.1))) hb); have n2_ := Aside0.mk (Kd.R_below (by (with_reducible repeat (first | apply Kd.R_alloc | apply Kd.R_drewN | apply Kd.R_drew)); exact (Kd.R_mono (Kd.R_far (p := ⟨gb440, 2, none⟩) (Kd.R_far (p := ⟨gb440, 1, none⟩) (Kd.R_far (p := ⟨gb440, 0, none⟩) (Kd.R_types HO438.out BK440.out (by decide)) (fun _ hk => hk.2) (.int .i64 t434)) (fun _ hk => hk.2) (.int .i64 t435)) (fun _ hk => hk.2) (.slice Ao63 t436.length co63)) (fun _ h_ => h_.1))) hb); have n3_ := Aside0.mk (blk_below (g := gb415) (o := .cells #[.int .i64 a0_0, .int .i64 a0_1, .slice A0_2 l0_2.length c0_2] 27 (0, 0)) (by (with_reducible repeat (first | refine blk_drewN ?_ _ | refine blk_drew ?_ | refine blk_alloc ?_ _)); refine blk_far ?_ NB415_440.out _; (with_reducible repeat (first | refine blk_drewN ?_ _ | refine blk_drew ?_ | refine blk_alloc ?_ _)); refine blk_far ?_ NB415_440.out _; (with_reducible repeat (first | refine blk_drewN ?_ _ | refine blk_drew ?_ | refine blk_alloc ?_ _)); refine blk_far ?_ NB415_440.out _; (with_reducible repeat (first | refine blk_drewN ?_ _ | refine blk_drew ?_ | refine blk_alloc ?_ _)); exact BK415.out) hb); have n4_ := Aside0.mk (blk_below (g := gb416) (o := .cells #[.int .i64 a1_0, .int .i64 a1_1, .int .i64 a1_2, .int .i64 a1_3] 47 (0, 0)) (by (with_reducible repeat (first | refine blk_drewN ?_ _ | refine blk_drew ?_ | refine blk_alloc ?_ _)); refine blk_far ?_ NB416_440.out _; (with_reducible repeat (first | refine blk_drewN ?_ _ | refine blk_drew ?_ | refine blk_alloc ?_ _)); refine blk_far ?_ NB416_440.out _; (with_reducible repeat (first | refine blk_drewN ?_ _ | refine blk_drew ?_ | refine blk_alloc ?_ _)); refine blk_far ?_ NB416_440.out _; (with_reducible repeat (first | refine blk_drewN ?_ _ | refine blk_drew ?_ | refine blk_alloc ?_ _)); exact BK416.out) hb); have n5_ := Aside0.mk (blk_below (g := gb425) (o := .cells #[.int .i64 t419, .int .i64 t420, .slice Ao20 t421.length co20] 27 (0, 0)) (by (with_reducible repeat (first | refine blk_drewN ?_ _ | refine blk_drew ?_ | refine blk_alloc ?_ _)); refine blk_far ?_ NB425_440.out _; (with_reducible repeat (first | refine blk_drewN ?_ _ | refine blk_drew ?_ | refine blk_alloc ?_ _)); refine blk_far ?_ NB425_440.out _; (with_reducible repeat (first | refine blk_drewN ?_ _ | refine blk_drew ?_ | refine blk_alloc ?_ _)); refine blk_far ?_ NB425_440.out _; (with_reducible repeat (first | refine blk_drewN ?_ _ | refine blk_drew ?_ | refine blk_alloc ?_ _)); exact BK425.out) hb); have n6_ := Aside0.mk (blk_below (g := gb432) (o := .cells #[.int .i64 t426, .int .i64 t427, .slice Ao29 t428.length co29] 27 (0, 0)) (by (with_reducible repeat (first | refine blk_drewN ?_ _ | refine blk_drew ?_ | refine blk_alloc ?_ _)); refine blk_far ?_ NB432_440.out _; (with_reducible repeat (first | refine blk_drewN ?_ _ | refine blk_drew ?_ | refine blk_alloc ?_ _)); refine blk_far ?_ NB432_440.out _; (with_reducible repeat (first | refine blk_drewN ?_ _ | refine blk_drew ?_ | refine blk_alloc ?_ _)); refine blk_far ?_ NB432_440.out _; (with_reducible repeat (first | refine blk_drewN ?_ _ | refine blk_drew ?_ | refine blk_alloc ?_ _)); exact BK432.out) hb); have n7_ := Aside0.mk (blk_below (g := gb440) (o := .cells #[.int .i64 t434, .int .i64 t435, .slice Ao63 t436.length co63] 27 (0, 0)) (by (with_reducible repeat (first | refine blk_drewN ?_ _ | refine blk_drew ?_ | refine blk_alloc ?_ _)); refine blk_put (cs := #[.int .i64 t434, .int .i64 t435, .slice none 0 0]) ?_ 2 _ rfl; (with_reducible repeat (first | refine blk_drewN ?_ _ | refine blk_drew ?_ | refine blk_alloc ?_ _)); refine blk_put (cs := #[.int .i64 t434, .int .i64 0, .slice none 0 0]) ?_ 1 _ rfl; (with_reducible repeat (first | refine blk_drewN ?_ _ | refine blk_drew ?_ | refine blk_alloc ?_ _)); refine blk_put (cs := #[.int .i64 0, .int .i64 0, .slice none 0 0]) ?_ 0 _ rfl; (with_reducible repeat (first | refine blk_drewN ?_ _ | refine blk_drew ?_ | refine blk_alloc ?_ _)); exact BK440.out) hb); have n8_ := hb_ HB hb; clear HO_426002; clear HO_433002; clear HO438; clear BK415; clear BK416; clear BK425; clear BK432; clear BK440; clear HB; have HO_426002 := n0_; have HO_433002 := n1_; have HO438 := n2_; have BK415 := n3_; have BK416 := n4_; have BK425 := n5_; have BK432 := n6_; have BK440 := n7_; have HB := n8_; clear n0_ n1_ n2_ n3_ n4_ n5_ n6_ n7_ n8_; (try clear hb); (try clear hb2); (try clear hk); (try clear hi)) | (go_at_call 13; (with_reducible refine (compositorlaw09_exampleHolds.calls kj6  t442 _ A46.out).mono ?_); rintro e w66 ⟨rfl, hb⟩; have n0_ := Aside0.mk (Kd.R_below (by (with_reducible repeat (first | apply Kd.R_alloc | apply Kd.R_drewN | apply Kd.R_drew)); exact HO_426002.out) hb); have n1_ := Aside0.mk (Kd.R_below (by (with_reducible repeat (first | apply Kd.R_alloc | apply Kd.R_drewN | apply Kd.R_drew)); exact HO_433002.out) hb); have n2_ := Aside0.mk (Kd.R_below (by (with_reducible repeat (first | apply Kd.R_alloc | apply Kd.R_drewN | apply Kd.R_drew)); exact HO438.out) hb); have n3_ := bb_ BK415 hb; have n4_ := bb_ BK416 hb; have n5_ := bb_ BK425 hb; have n6_ := bb_ BK432 hb; have n7_ := bb_ BK440 hb; have n8_ := hb_ HB hb; clear HO_426002; clear HO_433002; clear HO438; clear BK415; clear BK416; clear BK425; clear BK432; clear BK440; clear HB; have HO_426002 := n0_; have HO_433002 := n1_; have HO438 := n2_; have BK415 := n3_; have BK416 := n4_; have BK425 := n5_; have BK432 := n6_; have BK440 := n7_; have HB := n8_; clear n0_ n1_ n2_ n3_ n4_ n5_ n6_ n7_ n8_; (try clear hb); (try clear hb2); (try clear hk); (try clear hi)))
        go_ret
        exact ⟨by first | rfl | (simp [errW_none, errW_some] <;> rfl) | (simp [*, errW_none, errW_some] <;> rfl), by repeat (first | (with_reducible first | exact HB.out | apply below_alloc | apply pw_below_drewN | apply below_drew1 | refine below_set ?_ GE415.out | refine below_set ?_ GE416.out | refine below_set ?_ GE425.out | refine below_set ?_ GE432.out | refine below_set ?_ GE440.out) | exact HB.out)⟩
       ·
        replace c45 := Bool.eq_false_iff.mpr c45
        subst c45
        have H1 : (some false) = some true := by rw [if_neg (show ¬ (false = true) by decide)] at H; exact H
        clear H
        have H := H1
        clear H1
        exact absurd H (by simp)
      ·
       rw [if_neg c43] at H
       have c43b0 : (t439 == 0) = false := beq_eq_false_iff_ne.mpr c43
       have c43b1 : (t439 != 0) = true := bne_iff_ne.mpr c43
       exact absurd H (by simp)
     ·
      rw [if_neg c41] at H
      have c41b0 : (t424 == 0) = false := beq_eq_false_iff_ne.mpr c41
      have c41b1 : (t424 != 0) = true := bne_iff_ne.mpr c41
      replace H := Option.bind_eq_some_iff.mp H
      obtain ⟨t443, A670, H⟩ := H
      try dsimp only at H
      have A67 := Aside0.mk A670
      clear A670
      have Hq_ := Option.some.inj H
      go_wp2_with (first | ((with_reducible refine gate_callee (f := 13) rfl ?_); refine goesL_ (some 38) rfl rfl Try.func13 (by kernel_rfl) rfl #[] rfl (by (try simp only [List.map_toArray, List.map_cons, List.map_nil]) <;> rfl) ?_; (with_reducible refine (compositorlaw09_exampleHolds.calls kj6  t443 _ A67.out).mono ?_); rintro e w68 ⟨rfl, hb⟩; refine ⟨_, rfl, ?_⟩; have n0_ := Aside0.mk (Kd.R_below (by (with_reducible repeat (first | apply Kd.R_alloc | apply Kd.R_drewN | apply Kd.R_drew)); exact HO_426002.out) hb); have n1_ := Aside0.mk (Kd.R_below (by (with_reducible repeat (first | apply Kd.R_alloc | apply Kd.R_drewN | apply Kd.R_drew)); exact HO_433002.out) hb); have n2_ := bb_ BK415 hb; have n3_ := bb_ BK416 hb; have n4_ := bb_ BK425 hb; have n5_ := bb_ BK432 hb; have n6_ := hb_ HB hb; clear HO_426002; clear HO_433002; clear BK415; clear BK416; clear BK425; clear BK432; clear HB; have HO_426002 := n0_; have HO_433002 := n1_; have BK415 := n2_; have BK416 := n3_; have BK425 := n4_; have BK432 := n5_; have HB := n6_; clear n0_ n1_ n2_ n3_ n4_ n5_ n6_; (try clear hb); (try clear hb2); (try clear hk); (try clear hi)))
      go_ret
      exact ⟨by first | rfl | (simp [errW_none, errW_some] <;> rfl) | (simp [*, errW_none, errW_some] <;> rfl), by repeat (first | (with_reducible first | exact HB.out | apply below_alloc | apply pw_below_drewN | apply below_drew1 | refine below_set ?_ GE415.out | refine below_set ?_ GE416.out | refine below_set ?_ GE425.out | refine below_set ?_ GE432.out) | exact HB.out)⟩
 ·
  replace c4 := Bool.eq_false_iff.mpr c4
  subst c4
  have H1 : ((compositorlaw09_exampleHolds.f k).bind fun t418 => (some t418)) = some true := by rw [if_neg (show ¬ (false = true) by decide)] at H; exact H
  clear H
  have H := H1
  clear H1
  replace H := Option.bind_eq_some_iff.mp H
  obtain ⟨t418, A690, H⟩ := H
  try dsimp only at H
  have A69 := Aside0.mk A690
  clear A690
  have Hq_ := Option.some.inj H
  go_enter Try.func7, Try.ntmps7
  go_wp2_with (first | ((with_reducible refine gate_dst (N := 2) rfl ?_); refine box_event ?hg (N := 2) ?hd (cs := #[.int .i64 a0_0, .int .i64 a0_1, .slice A0_2 l0_2.length c0_2]) (t := 27) ?hr ?_; (case hd => rfl); (case hg => rfl); (case hr => first | (go_simp; done) | (go_simp; rfl)); intro gb415 hg w70 hbox hb; have n0_ := hb_ HB hb; have n1_ := Aside0.mk (hbox); have n2_ := Aside0.mk ((by rw [hg]; exact (below_size (hq_ HB)) : w.heap.size ≤ gb415)); have n3_ := Aside0.mk ((by rw [hg]; exact (below_size (hq_ HB)) : w.heap.size ≤ gb415)); clear HB; have HB := n0_; have BK415 := n1_; have GW415 := n2_; have GE415 := n3_; clear n0_ n1_ n2_ n3_; clear hb hbox hg) | ((with_reducible refine gate_dst (N := 3) rfl ?_); refine box_event ?hg (N := 3) ?hd (cs := #[.int .i64 a1_0, .int .i64 a1_1, .int .i64 a1_2, .int .i64 a1_3]) (t := 47) ?hr ?_; (case hd => rfl); (case hg => rfl); (case hr => first | (go_simp; done) | (go_simp; rfl)); intro gb416 hg w71 hbox hb; have n0_ := bb_ BK415 hb; have n1_ := hb_ HB hb; have n2_ := Aside0.mk (hbox); have n3_ := Aside0.mk ((by rw [hg]; exact (below_size (hq_ HB)) : w.heap.size ≤ gb416)); have n4_ := Aside0.mk ((by rw [hg]; exact (below_size (hq_ HB)) : w.heap.size ≤ gb416)); have n5_ := Aside0.mk ((by rw [hg]; exact Nat.ne_of_lt (blk_lt (g := gb415) (o := .cells #[.int .i64 a0_0, .int .i64 a0_1, .slice A0_2 l0_2.length c0_2] 27 (0, 0)) (bq_ BK415)) : gb415 ≠ gb416)); have n6_ := Aside0.mk ((by rw [hg]; exact Nat.ne_of_gt (blk_lt (g := gb415) (o := .cells #[.int .i64 a0_0, .int .i64 a0_1, .slice A0_2 l0_2.length c0_2] 27 (0, 0)) (bq_ BK415)) : gb416 ≠ gb415)); clear BK415; clear HB; have BK415 := n0_; have HB := n1_; have BK416 := n2_; have GW416 := n3_; have GE416 := n4_; have NB415_416 := n5_; have NB416_415 := n6_; clear n0_ n1_ n2_ n3_ n4_ n5_ n6_; clear hb hbox hg; have hnb72 := NB415_416.out; have hnc72 := NB416_415.out; have hcz73_0 : w71.cell? ⟨gb415, 0, none⟩ = some (.int .i64 a0_0) := (blk_cell BK415.out 0).trans rfl; have hcz73_1 : w71.cell? ⟨gb415, 1, none⟩ = some (.int .i64 a0_1) := (blk_cell BK415.out 1).trans rfl; have hcz73_2 : w71.cell? ⟨gb415, 2, none⟩ = some (.slice A0_2 l0_2.length c0_2) := (blk_cell BK415.out 2).trans rfl; have hfz73_0 := blk_frozen BK415.out 0; have hfz73_1 := blk_frozen BK415.out 1; have hfz73_2 := blk_frozen BK415.out 2) | ((with_reducible refine gate_callee (f := 22) rfl ?_); refine goesL_ (some 12) rfl rfl Try.func22 (by kernel_rfl) rfl #[.agg #[.int .i64 a0_0, .int .i64 a0_1, .slice A0_2 l0_2.length c0_2]] rfl (by (try simp only [List.map_toArray, List.map_cons, List.map_nil]) <;> rfl) ?_; (with_reducible refine (compositorlaw09_small.calls a0_0 a0_1 _ _ l0_2 false _ ?side1 ?side2 A3.out).mono ?_); (case side1 => repeat (first | exact (Kd.C_below HR0_2.out HB.out) | (with_reducible refine Kd.C_alloc ?_ _) | (with_reducible refine Kd.C_drewN ?_ _) | (with_reducible refine Kd.C_drew ?_))); (case side2 => exact HC0_2.out); rintro e w74 ⟨rfl, hb⟩; refine ⟨_, rfl, ?_⟩; have n0_ := bb_ BK415 hb; have n1_ := bb_ BK416 hb; have n2_ := hb_ HB hb; clear BK415; clear BK416; clear HB; have BK415 := n0_; have BK416 := n1_; have HB := n2_; clear n0_ n1_ n2_; (try clear hb); (try clear hb2); (try clear hk); (try clear hi)) | ((with_reducible refine gate_callee (f := 13) rfl ?_); refine goesL_ (some 14) rfl rfl Try.func13 (by kernel_rfl) rfl #[] rfl (by (try simp only [List.map_toArray, List.map_cons, List.map_nil]) <;> rfl) ?_; (with_reducible refine (compositorlaw09_exampleHolds.calls k  t418 _ A69.out).mono ?_); rintro e w75 ⟨rfl, hb⟩; refine ⟨_, rfl, ?_⟩; have n0_ := bb_ BK415 hb; have n1_ := bb_ BK416 hb; have n2_ := hb_ HB hb; clear BK415; clear BK416; clear HB; have BK415 := n0_; have BK416 := n1_; have HB := n2_; clear n0_ n1_ n2_; (try clear hb); (try clear hb2); (try clear hk); (try clear hi)))
  go_ret
  exact ⟨by first | rfl | (simp [errW_none, errW_some] <;> rfl) | (simp [*, errW_none, errW_some] <;> rfl), by repeat (first | (with_reducible first | exact HB.out | apply below_alloc | apply pw_below_drewN | apply below_drew1 | refine below_set ?_ GE415.out | refine below_set ?_ GE416.out) | exact HB.out)⟩
end Go.Proofs.Ytmockeaiccpogaa.All
end
section
namespace Go.Proofs.Ytmockeaiccpogaa.All
open Go.RowKit Go.Proofs.YtmockeaiccpogaaW.PrintWords Go.Proofs.YtmockeaiccpogaaW.PrintLast Go.Proofs.YtmockeaiccpogaaW.PrintMore
attribute [local go_sem] max2_int min2_int max_two min_two max_three min_three max_four min_four
set_option linter.unusedVariables false
set_option linter.unusedSimpArgs false
end Go.Proofs.Ytmockeaiccpogaa.All
end
section
namespace Go.Proofs.Ytmockeaiccpogaa.All
open Go.RowKit Go.Proofs.YtmockeaiccpogaaW.PrintWords Go.Proofs.YtmockeaiccpogaaW.PrintLast Go.Proofs.YtmockeaiccpogaaW.PrintMore
attribute [local go_sem] max2_int min2_int max_two min_two max_three min_three max_four min_four
set_option linter.unusedVariables false
set_option linter.unusedSimpArgs false
end Go.Proofs.Ytmockeaiccpogaa.All
end
section
namespace Go.Proofs.Ytmockeaiccpogaa.All
open Go.RowKit Go.Proofs.YtmockeaiccpogaaW.PrintWords Go.Proofs.YtmockeaiccpogaaW.PrintLast Go.Proofs.YtmockeaiccpogaaW.PrintMore
attribute [local go_sem] max2_int min2_int max_two min_two max_three min_three max_four min_four
set_option linter.unusedVariables false
set_option linter.unusedSimpArgs false
end Go.Proofs.Ytmockeaiccpogaa.All
end
section
namespace Go.Proofs.Ytmockeaiccpogaa.All
open Go.Proofs.YtmockeaiccpogaaSq
open Go.RowKit Go.Proofs.YtmockeaiccpogaaW.PrintWords Go.Proofs.YtmockeaiccpogaaW.PrintLast Go.Proofs.YtmockeaiccpogaaW.PrintMore
attribute [local go_sem] max2_int min2_int max_two min_two max_three min_three max_four min_four
set_option linter.unusedVariables false
set_option linter.unusedSimpArgs false
end Go.Proofs.Ytmockeaiccpogaa.All
end
section
namespace Go.Proofs.Ytmockeaiccpogaa.All
open Go.RowKit Go.Proofs.YtmockeaiccpogaaW.PrintWords Go.Proofs.YtmockeaiccpogaaW.PrintLast Go.Proofs.YtmockeaiccpogaaW.PrintMore
attribute [local go_sem] max2_int min2_int max_two min_two max_three min_three max_four min_four
set_option linter.unusedVariables false
set_option linter.unusedSimpArgs false
end Go.Proofs.Ytmockeaiccpogaa.All
end
section
namespace Go.Proofs.Ytmockeaiccpogaa.All
open Go.RowKit Go.Proofs.YtmockeaiccpogaaW.PrintWords Go.Proofs.YtmockeaiccpogaaW.PrintLast Go.Proofs.YtmockeaiccpogaaW.PrintMore
attribute [local go_sem] max2_int min2_int max_two min_two max_three min_three max_four min_four
set_option linter.unusedVariables false
set_option linter.unusedSimpArgs false
section
open Go.Proofs.YtmockeaiccpogaaHand
end
end Go.Proofs.Ytmockeaiccpogaa.All
end
section
namespace Go.Proofs.Ytmockeaiccpogaa.All
open Go.Proofs.YtmockeaiccpogaaSq
open Go.RowKit Go.Proofs.YtmockeaiccpogaaW.PrintWords Go.Proofs.YtmockeaiccpogaaW.PrintLast Go.Proofs.YtmockeaiccpogaaW.PrintMore
attribute [local go_sem] max2_int min2_int max_two min_two max_three min_three max_four min_four
set_option linter.unusedVariables false
set_option linter.unusedSimpArgs false
section
open Go.Proofs.YtmockeaiccpogaaHand Go.Proofs.YtmockeaiccpogaaSq
end
end Go.Proofs.Ytmockeaiccpogaa.All
end
section
namespace Go.Proofs.Ytmockeaiccpogaa.All
open Go.RowKit Go.Proofs.YtmockeaiccpogaaW.PrintWords Go.Proofs.YtmockeaiccpogaaW.PrintLast Go.Proofs.YtmockeaiccpogaaW.PrintMore
attribute [local go_sem] max2_int min2_int max_two min_two max_three min_three max_four min_four
set_option linter.unusedVariables false
set_option linter.unusedSimpArgs false
end Go.Proofs.Ytmockeaiccpogaa.All
end
section
namespace Go.Proofs.Ytmockeaiccpogaa.All
open Go.RowKit Go.Proofs.YtmockeaiccpogaaW.PrintWords Go.Proofs.YtmockeaiccpogaaW.PrintLast Go.Proofs.YtmockeaiccpogaaW.PrintMore
set_option linter.unusedVariables false
structure S22 where
  f0 : Int
  f1 : Int
  f2 : Int
  f3 : Int
structure S27 where
  f0 : Int
  f1 : Int
  f2 : List S43
def k27 : Kd S27 := Kd.iso (Kd.pair (Kd.int .i64) (Kd.pair (Kd.int .i64) (Kd.slice 43 k43))) (fun x : S27 => (x.f0, x.f1, x.f2))
theorem k27_open {w : World} {x : S27} {cs : List Value} (h : k27.K w x cs) : ∃ A2 c2, cs = [.int .i64 x.f0, .int .i64 x.f1, .slice A2 x.f2.length c2] ∧ x.f2.length ≤ c2 ∧ Kd.C k43 w A2 x.f2.length x.f2 := by
  obtain ⟨_, _, rfl, rfl, ⟨_, _, rfl, rfl, g2⟩⟩ := h
  obtain ⟨A2, c2, rfl, l2, h2⟩ := g2
  exact ⟨A2, c2, rfl, l2, h2⟩
structure S41 where
  f0 : Int
  f1 : Int
end Go.Proofs.Ytmockeaiccpogaa.All
end
section
namespace Go.Proofs.Ytmockeaiccpogaa.Pure
open Go.RowKit Go.Proofs.YtmockeaiccpogaaW.PrintWords Go.Proofs.YtmockeaiccpogaaW.PrintMore Go.Proofs.Ytmockeaiccpogaa.All
set_option linter.unusedVariables false
set_option linter.unusedSimpArgs false
theorem i64 {x : Int} (h : (Lit.int .i64 x).wf = true) : -9223372036854775808 ≤ x ∧ x ≤ 9223372036854775807 := by
  simpa [Lit.wf, IntKind.min, IntKind.max, IntKind.signed, IntKind.bits] using h
theorem w64 {x : Int} (h : -9223372036854775808 ≤ x) (h' : x ≤ 9223372036854775807) : wrap64 x = x := by unfold wrap64; omega
theorem wnat {n : Nat} (h : n ≤ 1000000) : wrap64 ((n : Int) + 1) = ((n + 1 : Nat) : Int) := by unfold wrap64; omega
theorem fuel {α : Type} {f : Nat → Option α} (hm : ∀ k r, f k = some r → f (k + 1) = some r) {K : Nat} {r : α} (h : f K = some r) : ∀ k, K ≤ k → f k = some r := by
  intro k hk
  obtain ⟨j, rfl⟩ : ∃ j, k = K + j := ⟨k - K, by omega⟩
  clear hk
  induction j with
  | zero => exact h
  | succ j ih => exact hm _ _ ih
theorem example_holds : ∀ k, 200 ≤ k → compositorlaw09_exampleHolds.f k = some true :=
  fuel (f := fun k => compositorlaw09_exampleHolds.f k) (fun k r h => compositorlaw09_exampleHolds.mono k r h) (by decide +kernel)
theorem mx_spec (a b : Int) : a ≤ mx a b ∧ b ≤ mx a b ∧ (mx a b = a ∨ mx a b = b) := by unfold mx; split <;> omega
theorem mn_spec (a b : Int) : mn a b ≤ a ∧ mn a b ≤ b ∧ (mn a b = a ∨ mn a b = b) := by unfold mn; split <;> omega
def PV (p : S43) : Prop := p.f0 ≤ p.f3 ∧ p.f1 ≤ p.f3 ∧ p.f2 ≤ p.f3
def VB (W H : Int) (l : List S43) : Prop := (1 ≤ W ∧ W ≤ 256) ∧ (1 ≤ H ∧ H ≤ 256) ∧ (l.length : Int) = W * H ∧ ∀ p ∈ l, PV p
noncomputable instance (W H : Int) (l : List S43) : Decidable (VB W H l) := Classical.propDecidable _
def SZ (n : Int) : Prop := 1 ≤ n ∧ n ≤ 256
noncomputable instance (n : Int) : Decidable (SZ n) := Classical.propDecidable _
theorem ok_iff (p : S43) : buffer_Valid.ok p = true ↔ PV p := by
  have m0 := mn_spec p.f0 p.f3
  have m1 := mn_spec p.f1 p.f3
  have m2 := mn_spec p.f2 p.f3
  unfold buffer_Valid.ok PV
  simp only [Bool.and_eq_true, beq_iff_eq, and_true]
  omega
theorem bsize_eq (a : Int) : buffer_size.f a = some (decide (SZ a)) := by
  unfold buffer_size.f
  split <;> (refine congrArg some (Bool.eq_iff_iff.mpr ?_); simp only [decide_eq_true_eq, Bool.false_eq_true, false_iff]; unfold SZ; omega)
theorem rsize_eq (a b : Int) : compositorref09_size.f a b = some (decide (SZ a ∧ SZ b)) := by
  unfold compositorref09_size.f
  repeat' split
  all_goals (refine congrArg some (Bool.eq_iff_iff.mpr ?_); simp only [decide_eq_true_eq, Bool.false_eq_true, false_iff]; unfold SZ; omega)
theorem prod_small {W H : Int} (hW : SZ W) (hH : SZ H) : wrap64 (W * H) = W * H ∧ 1 ≤ W * H ∧ W * H ≤ 65536 := by
  unfold SZ at hW hH
  have p1 := Int.mul_le_mul hW.2 hH.2 (by omega) (by omega : (0 : Int) ≤ 256)
  have p2 : 0 < W * H := Int.mul_pos (by omega) (by omega)
  refine ⟨?_, by omega, by omega⟩
  unfold wrap64; omega
theorem bvalid_eq (W H : Int) (l : List S43) : buffer_Valid.f W H l = some (decide (VB W H l)) := by
  simp only [buffer_Valid.f, bsize_eq, Option.bind_some, decide_eq_true_eq]
  by_cases hW : SZ W
  · by_cases hH : SZ H
    · have hp := prod_small hW hH
      rw [if_pos hW, if_pos hH, hp.1]
      by_cases hl : (l.length : Int) = W * H
      · rw [if_pos hl]
        refine congrArg some (Bool.eq_iff_iff.mpr ?_)
        rw [List.all_eq_true, decide_eq_true_eq]
        exact ⟨fun h => ⟨hW, hH, hl, fun p hp => (ok_iff p).mp (h p hp)⟩, fun h p hp => (ok_iff p).mpr (h.2.2.2 p hp)⟩
      · rw [if_neg hl, decide_eq_false (fun h => hl h.2.2.1)]
    · rw [if_pos hW, if_neg hH, decide_eq_false (fun h => hH h.2.1)]
  · rw [if_neg hW, decide_eq_false (fun h => hW h.1)]
theorem rd_at {l : List S43} {i : Nat} (h : i < l.length) : rd_T43 l (i : Int) = l[i] := by
  simp [rd_T43, List.getD_eq_getElem?_getD, List.getElem?_eq_getElem h]
theorem rpv (p : S43) : compositorref08_Valid.f p.f0 p.f1 p.f2 p.f3 = some (decide (p.f0 ≤ p.f3 ∧ p.f1 ≤ p.f3 ∧ p.f2 ≤ p.f3)) := by
  unfold compositorref08_Valid.f
  repeat' split
  all_goals (refine congrArg some (Bool.eq_iff_iff.mpr ?_); simp only [decide_eq_true_eq, Bool.false_eq_true, false_iff]; omega)
theorem rvl (W H : Int) (l : List S43) (hl : l.length ≤ 100000) : ∀ d i, i + d = l.length → ∀ k, d + 1 ≤ k → ∀ b, (b = true ↔ ∀ p ∈ l.drop i, PV p) → compositorref09_Valid.l0 k i W H l = some b := by
  intro d
  induction d with
  | zero =>
    intro i hi k hk b hb
    obtain ⟨k, rfl⟩ : ∃ j, k = j + 1 := ⟨k - 1, by omega⟩
    rw [compositorref09_Valid.l0, if_neg (by omega)]
    have e : l.drop i = [] := List.drop_eq_nil_of_le (by omega)
    rw [e] at hb
    have : b = true := hb.mpr (fun p hp => by cases hp)
    rw [this]
  | succ d ih =>
    intro i hi k hk b hb
    obtain ⟨k, rfl⟩ : ∃ j, k = j + 1 := ⟨k - 1, by omega⟩
    have hlt : i < l.length := by omega
    rw [compositorref09_Valid.l0, if_pos (by omega), if_pos (by omega), rd_at hlt, rpv, Option.bind_some]
    have e : l.drop i = l[i] :: l.drop (i + 1) := List.drop_eq_getElem_cons hlt
    rw [e] at hb
    have ew : wrap64 ((i : Int) + 1) = ((i + 1 : Nat) : Int) := wnat (by omega)
    rw [ew]
    simp only [decide_eq_true_eq]
    by_cases h0 : PV l[i]
    · rw [if_pos (show l[i].f0 ≤ l[i].f3 ∧ l[i].f1 ≤ l[i].f3 ∧ l[i].f2 ≤ l[i].f3 from h0)]
      refine ih (i + 1) (by omega) k (by omega) b (hb.trans ?_)
      constructor
      · intro h p hm; exact h p (List.mem_cons_of_mem _ hm)
      · intro h p hm
        rcases List.mem_cons.mp hm with rfl | hm
        · exact h0
        · exact h p hm
    · rw [if_neg (show ¬ (l[i].f0 ≤ l[i].f3 ∧ l[i].f1 ≤ l[i].f3 ∧ l[i].f2 ≤ l[i].f3) from h0)]
      cases b with
      | false => rfl
      | true => exact absurd (hb.mp rfl l[i] (List.mem_cons_self ..)) h0
theorem rvalid_eq (W H : Int) (l : List S43) (hl : l.length ≤ 100000) : ∀ k, l.length + 2 ≤ k → compositorref09_Valid.f k W H l = some (decide (VB W H l)) := by
  intro k hk
  obtain ⟨k, rfl⟩ : ∃ j, k = j + 1 := ⟨k - 1, by omega⟩
  simp only [compositorref09_Valid.f, rsize_eq, Option.bind_some, decide_eq_true_eq, compositorref09_Valid.j0, if_true]
  by_cases hs : SZ W ∧ SZ H
  · have hp := prod_small hs.1 hs.2
    rw [if_pos hs, hp.1]
    by_cases he : (l.length : Int) = W * H
    · have e : ((l.length : Int) != W * H) = false := by simpa using he
      rw [e, if_neg (by simp)]
      refine rvl W H l hl l.length 0 (by omega) k (by omega) _ ?_
      rw [decide_eq_true_eq, List.drop_zero]
      exact ⟨fun h => h.2.2.2, fun h => ⟨hs.1, hs.2, he, h⟩⟩
    · have e : ((l.length : Int) != W * H) = true := by simpa using he
      rw [e, if_pos rfl, decide_eq_false (fun h => he h.2.2.1)]
  · rw [if_neg hs, decide_eq_false (fun h => hs ⟨h.1, h.2.1⟩)]
theorem pne (a b : S43) : (!(a.f0 == b.f0) || (!(a.f1 == b.f1) || (!(a.f2 == b.f2) || (!(a.f3 == b.f3))))) = true ↔ a ≠ b := by
  obtain ⟨a0, a1, a2, a3⟩ := a
  obtain ⟨b0, b1, b2, b3⟩ := b
  simp only [Bool.or_eq_true, Bool.not_eq_true', beq_eq_false_iff_ne, ne_eq, S43.mk.injEq]
  omega
def EB (W H : Int) (l : List S43) (W' H' : Int) (l' : List S43) : Prop := W = W' ∧ H = H' ∧ l = l'
noncomputable instance (W H : Int) (l : List S43) (W' H' : Int) (l' : List S43) : Decidable (EB W H l W' H' l') := Classical.propDecidable _
theorem rel (W H : Int) (l : List S43) (W' H' : Int) (l' : List S43) (hl : l.length ≤ 100000) (he : l.length = l'.length) : ∀ d i, i + d = l.length → ∀ k, d + 1 ≤ k → ∀ b, (b = true ↔ l.drop i = l'.drop i) → compositorref09_Equal.l0 k i W H l W' H' l' = some b := by
  intro d
  induction d with
  | zero =>
    intro i hi k hk b hb
    obtain ⟨k, rfl⟩ : ∃ j, k = j + 1 := ⟨k - 1, by omega⟩
    rw [compositorref09_Equal.l0, if_neg (by omega)]
    have : b = true := hb.mpr (by rw [List.drop_eq_nil_of_le (by omega), List.drop_eq_nil_of_le (by omega)])
    rw [this]
  | succ d ih =>
    intro i hi k hk b hb
    obtain ⟨k, rfl⟩ : ∃ j, k = j + 1 := ⟨k - 1, by omega⟩
    have hlt : i < l.length := by omega
    have hlt' : i < l'.length := by omega
    rw [compositorref09_Equal.l0, if_pos (by omega), if_pos (by omega), if_pos (by omega), rd_at hlt, rd_at hlt', wnat (by omega)]
    rw [List.drop_eq_getElem_cons hlt, List.drop_eq_getElem_cons hlt'] at hb
    by_cases hp : l[i] = l'[i]
    · rw [if_neg (fun h => (pne _ _).mp h hp)]
      exact ih (i + 1) (by omega) k (by omega) b (hb.trans (by rw [List.cons.injEq]; exact ⟨fun h => h.2, fun h => ⟨hp, h⟩⟩))
    · rw [if_pos ((pne _ _).mpr hp)]
      cases b with
      | false => rfl
      | true => exact absurd (List.cons.inj (hb.mp rfl)).1 hp
theorem requal_eq (W H : Int) (l : List S43) (W' H' : Int) (l' : List S43) (hl : l.length ≤ 100000) : ∀ k, l.length + 2 ≤ k → compositorref09_Equal.f k W H l W' H' l' = some (decide (EB W H l W' H' l')) := by
  intro k hk
  obtain ⟨k, rfl⟩ : ∃ j, k = j + 1 := ⟨k - 1, by omega⟩
  simp only [compositorref09_Equal.f, compositorref09_Equal.j0, if_true]
  by_cases h1 : W = W'
  · by_cases h2 : H = H'
    · rw [if_pos h1, if_pos h2]
      by_cases h3 : (l.length : Int) = (l'.length : Int)
      · have e : ((l.length : Int) != (l'.length : Int)) = false := by simpa using h3
        rw [e, if_neg (by simp)]
        refine rel W H l W' H' l' hl (by omega) l.length 0 (by omega) k (by omega) _ ?_
        rw [decide_eq_true_eq, List.drop_zero, List.drop_zero]
        exact ⟨fun h => h.2.2, fun h => ⟨h1, h2, h⟩⟩
      · have e : ((l.length : Int) != (l'.length : Int)) = true := by simpa using h3
        rw [e, if_pos rfl, decide_eq_false (fun h => h3 (by rw [h.2.2]))]
    · rw [if_pos h1, if_neg h2, decide_eq_false (fun h => h2 h.2.1)]
  · rw [if_neg h1, decide_eq_false (fun h => h1 h.1)]
theorem requal_refl (W H : Int) (l : List S43) (hl : l.length ≤ 100000) (k : Nat) (hk : l.length + 2 ≤ k) : compositorref09_Equal.f k W H l W H l = some true := by
  rw [requal_eq W H l W H l hl k hk, decide_eq_true (show EB W H l W H l from ⟨rfl, rfl, rfl⟩)]
theorem small_eq (W H : Int) (l : List S43) : compositorlaw09_small.f W H l = some (decide ((l.length : Int) ≤ 400)) := rfl
theorem ext_getD {l m : List S43} (h : l.length = m.length) (he : ∀ i, i < l.length → l.getD i z43 = m.getD i z43) : l = m := by
  apply List.ext_getElem h
  intro i h1 h2
  have := he i h1
  rw [List.getD_eq_getElem?_getD, List.getD_eq_getElem?_getD, List.getElem?_eq_getElem h1, List.getElem?_eq_getElem h2] at this
  exact this
theorem over_getD {l s : List S43} {lo : Nat} (h : lo + s.length ≤ l.length) (i : Nat) : (over l lo s).getD i z43 = if lo ≤ i ∧ i < lo + s.length then s.getD (i - lo) z43 else l.getD i z43 := by
  unfold over
  simp only [List.getD_eq_getElem?_getD]
  by_cases h1 : i < lo
  · rw [if_neg (by omega), List.append_assoc, List.getElem?_append_left (by rw [List.length_take]; omega), List.getElem?_take, if_pos h1]
  · rw [List.append_assoc, List.getElem?_append_right (by rw [List.length_take]; omega)]
    have e : (List.take lo l).length = lo := by rw [List.length_take]; omega
    rw [e]
    by_cases h2 : i < lo + s.length
    · rw [if_pos ⟨by omega, h2⟩, List.getElem?_append_left (by omega)]
    · rw [if_neg (by omega), List.getElem?_append_right (by omega), List.getElem?_drop]
      congr 2
      omega
theorem zipWith_getD (g : S43 → S43 → S43) (a b : List S43) {j : Nat} (ha : j < a.length) (hb : j < b.length) : (List.zipWith g a b).getD j z43 = g (a.getD j z43) (b.getD j z43) := by
  simp [List.getD_eq_getElem?_getD, List.getElem?_zipWith, List.getElem?_eq_getElem ha, List.getElem?_eq_getElem hb]
theorem mid_getD (l : List S43) (lo n j : Nat) (h : j < n) : ((l.drop lo).take n).getD j z43 = l.getD (lo + j) z43 := by
  simp only [List.getD_eq_getElem?_getD, List.getElem?_take, if_pos h, List.getElem?_drop]
theorem in_row {W r c t fr n : Nat} (hc : c < W) (hfr : fr + n ≤ W) : (t * W + fr ≤ r * W + c ∧ r * W + c < t * W + fr + n) ↔ (r = t ∧ fr ≤ c ∧ c < fr + n) := by
  rcases Nat.lt_trichotomy r t with h | h | h
  · have m : (r + 1) * W ≤ t * W := Nat.mul_le_mul_right W h
    rw [Nat.succ_mul] at m
    generalize r * W = p at *
    generalize t * W = q at *
    omega
  · subst h
    generalize r * W = p at *
    omega
  · have m : (t + 1) * W ≤ r * W := Nat.mul_le_mul_right W h
    rw [Nat.succ_mul] at m
    generalize r * W = p at *
    generalize t * W = q at *
    omega
theorem rows_getD (g : S43 → S43 → S43) (q : List S43 → List S43 → List S43) (hq : ∀ d s, s.length = d.length → q d s = List.zipWith g d s) (s : List S43) (W SW t0 fr v0 u0 n H : Nat) (l : List S43) (hl : l.length = H * W) (hfr : fr + n ≤ W) :
    ∀ k, t0 + k ≤ H → (∀ j, j < k → (v0 + j) * SW + u0 + n ≤ s.length) → (buffer_combine.rows q s W SW t0 fr v0 u0 n k l).length = l.length ∧
      ∀ r c, r < H → c < W → (buffer_combine.rows q s W SW t0 fr v0 u0 n k l).getD (r * W + c) z43 = if (t0 ≤ r ∧ r < t0 + k) ∧ (fr ≤ c ∧ c < fr + n) then g (l.getD (r * W + c) z43) (s.getD ((v0 + (r - t0)) * SW + u0 + (c - fr)) z43) else l.getD (r * W + c) z43 := by
  intro k
  induction k with
  | zero =>
    intro _ _
    refine ⟨rfl, fun r c hr hc => ?_⟩
    rw [if_neg (by omega)]
    rfl
  | succ k ih =>
    intro hk hs
    obtain ⟨ih1, ih2⟩ := ih (by omega) (fun j hj => hs j (by omega))
    have hsk := hs k (by omega)
    have hlo : (t0 + k) * W + fr + n ≤ l.length := by
      have m : (t0 + k + 1) * W ≤ H * W := Nat.mul_le_mul_right W (by omega)
      rw [Nat.succ_mul] at m
      rw [hl]
      generalize (t0 + k) * W = p at *
      generalize H * W = z at *
      omega
    rw [buffer_combine.rows]
    generalize hL : buffer_combine.rows q s W SW t0 fr v0 u0 n k l = L at *
    have ha : ((L.drop ((t0 + k) * W + fr)).take n).length = n := by rw [List.length_take, List.length_drop]; omega
    have hb : ((s.drop ((v0 + k) * SW + u0)).take n).length = n := by rw [List.length_take, List.length_drop]; omega
    rw [hq _ _ (by rw [ha, hb])]
    have hz : (List.zipWith g ((L.drop ((t0 + k) * W + fr)).take n) ((s.drop ((v0 + k) * SW + u0)).take n)).length = n := by rw [List.length_zipWith, ha, hb, Nat.min_self]
    refine ⟨by rw [over_length _ _ _ (by rw [hz]; omega)]; exact ih1, fun r c hr hc => ?_⟩
    rw [over_getD (by rw [hz]; omega), hz]
    by_cases h1 : r = t0 + k ∧ fr ≤ c ∧ c < fr + n
    · obtain ⟨rfl, h2, h3⟩ := h1
      rw [if_pos ((in_row hc hfr).mpr ⟨rfl, h2, h3⟩), if_pos (by omega)]
      have e : (t0 + k) * W + c - ((t0 + k) * W + fr) = c - fr := by omega
      rw [e, zipWith_getD g _ _ (by rw [ha]; omega) (by rw [hb]; omega), mid_getD _ _ _ _ (by omega), mid_getD _ _ _ _ (by omega)]
      have e2 : (t0 + k) * W + fr + (c - fr) = (t0 + k) * W + c := by omega
      rw [e2, ih2 (t0 + k) c hr hc, if_neg (by omega), show t0 + k - t0 = k by omega]
    · rw [if_neg (fun h => h1 ((in_row hc hfr).mp h)), ih2 r c hr hc]
      by_cases h2 : (t0 ≤ r ∧ r < t0 + k) ∧ (fr ≤ c ∧ c < fr + n)
      · rw [if_pos h2, if_pos (by omega)]
      · rw [if_neg h2, if_neg (by omega)]
noncomputable def PX (g : S43 → S43 → S43) (W : Nat) (l : List S43) (SW SH : Nat) (s : List S43) (x y : Int) (r c : Nat) : S43 :=
  if (x ≤ c ∧ (c : Int) < x + SW) ∧ (y ≤ r ∧ (r : Int) < y + SH) then g (l.getD (r * W + c) z43) (s.getD (((r : Int) - y).toNat * SW + ((c : Int) - x).toNat) z43) else l.getD (r * W + c) z43
noncomputable def PUT (g : S43 → S43 → S43) (W H : Nat) (l : List S43) (SW SH : Nat) (s : List S43) (x y : Int) : List S43 := (List.range (H * W)).map fun i => PX g W l SW SH s x y (i / W) (i % W)
theorem PUT_len (g : S43 → S43 → S43) (W H : Nat) (l : List S43) (SW SH : Nat) (s : List S43) (x y : Int) : (PUT g W H l SW SH s x y).length = H * W := by simp [PUT]
theorem divmod {W r c : Nat} (hc : c < W) : (r * W + c) / W = r ∧ (r * W + c) % W = c := by
  refine ⟨?_, ?_⟩
  · rw [Nat.add_comm, Nat.add_mul_div_right _ _ (by omega), Nat.div_eq_of_lt hc]; omega
  · rw [Nat.add_comm, Nat.add_mul_mod_self_right, Nat.mod_eq_of_lt hc]
theorem lt_rows {W H r c : Nat} (hr : r < H) (hc : c < W) : r * W + c < H * W := by
  have m : (r + 1) * W ≤ H * W := Nat.mul_le_mul_right W hr
  rw [Nat.succ_mul] at m
  omega
theorem PUT_getD (g : S43 → S43 → S43) (W H : Nat) (l : List S43) (SW SH : Nat) (s : List S43) (x y : Int) {r c : Nat} (hr : r < H) (hc : c < W) : (PUT g W H l SW SH s x y).getD (r * W + c) z43 = PX g W l SW SH s x y r c := by
  have h := lt_rows hr hc
  obtain ⟨e1, e2⟩ := divmod (r := r) hc
  simp [PUT, List.getD_eq_getElem?_getD, h, e1, e2]
theorem ext_rows {l m : List S43} {W H : Nat} (hW : 0 < W) (hl : l.length = H * W) (hm : m.length = H * W) (he : ∀ r c, r < H → c < W → l.getD (r * W + c) z43 = m.getD (r * W + c) z43) : l = m := by
  refine ext_getD (by omega) (fun i hi => ?_)
  have h1 : i / W < H := by rw [Nat.div_lt_iff_lt_mul hW]; omega
  have h2 : i % W < W := Nat.mod_lt _ hW
  have h3 : i / W * W + i % W = i := by rw [Nat.mul_comm]; exact Nat.div_add_mod i W
  have := he (i / W) (i % W) h1 h2
  rwa [h3] at this
theorem PUT_out (g : S43 → S43 → S43) (W H : Nat) (l : List S43) (SW SH : Nat) (s : List S43) (x y : Int) (hW : 0 < W) (hl : l.length = H * W) (h : buffer_combine.out W H SW SH x y) : PUT g W H l SW SH s x y = l := by
  refine ext_rows hW (PUT_len _ _ _ _ _ _ _ _ _) hl (fun r c hr hc => ?_)
  rw [PUT_getD _ _ _ _ _ _ _ _ _ hr hc, PX, if_neg]
  unfold buffer_combine.out at h
  omega
theorem all_eq (g : S43 → S43 → S43) (q : List S43 → List S43 → List S43) (hq : ∀ d s, s.length = d.length → q d s = List.zipWith g d s) (W H SW SH : Nat) (l s : List S43) (x y : Int) (hW : 0 < W) (hSW : 0 < SW) (hl : l.length = H * W) (hs : s.length = SH * SW) (h : ¬ buffer_combine.out W H SW SH x y) :
    buffer_combine.all q W H l SW SH s x y = PUT g W H l SW SH s x y := by
  unfold buffer_combine.out at h
  have X1 := mx_spec x 0
  have T1 := mx_spec y 0
  have M1 := mn_spec (x + (SW : Int)) W
  have B1 := mn_spec (y + (SH : Int)) H
  unfold buffer_combine.all
  generalize mx x 0 = X at *
  generalize mx y 0 = T at *
  generalize mn (x + (SW : Int)) W = M at *
  generalize mn (y + (SH : Int)) H = B at *
  simp only [Int.toNat_natCast]
  obtain ⟨t0, ht0⟩ : ∃ t0 : Nat, T.toNat = t0 := ⟨_, rfl⟩
  obtain ⟨fr, hfr⟩ : ∃ t0 : Nat, X.toNat = t0 := ⟨_, rfl⟩
  obtain ⟨v0, hv0⟩ : ∃ t0 : Nat, (T - y).toNat = t0 := ⟨_, rfl⟩
  obtain ⟨u0, hu0⟩ : ∃ t0 : Nat, (X - x).toNat = t0 := ⟨_, rfl⟩
  obtain ⟨n, hn⟩ : ∃ t0 : Nat, (M - X).toNat = t0 := ⟨_, rfl⟩
  obtain ⟨m, hm⟩ : ∃ t0 : Nat, (B - T).toNat = t0 := ⟨_, rfl⟩
  rw [ht0, hfr, hv0, hu0, hn, hm]
  have hbound : ∀ j, j < m → (v0 + j) * SW + u0 + n ≤ s.length := by
    intro j hj
    have h1 : v0 + j + 1 ≤ SH := by omega
    have m1 : (v0 + j + 1) * SW ≤ SH * SW := Nat.mul_le_mul_right SW h1
    rw [Nat.succ_mul] at m1
    have h2 : u0 + n ≤ SW := by omega
    rw [hs]
    generalize (v0 + j) * SW = p at *
    generalize SH * SW = z at *
    omega
  obtain ⟨L1, L2⟩ := rows_getD g q hq s W SW t0 fr v0 u0 n H l hl (by omega) m (by omega) hbound
  refine ext_rows hW (by rw [L1, hl]) (PUT_len _ _ _ _ _ _ _ _ _) (fun r c hr hc => ?_)
  rw [L2 r c hr hc, PUT_getD _ _ _ _ _ _ _ _ _ hr hc, PX]
  by_cases h1 : (t0 ≤ r ∧ r < t0 + m) ∧ (fr ≤ c ∧ c < fr + n)
  · rw [if_pos h1, if_pos (by omega)]
    have e1 : v0 + (r - t0) = ((r : Int) - y).toNat := by omega
    have e2 : u0 + (c - fr) = ((c : Int) - x).toNat := by omega
    rw [e1, Nat.add_assoc, e2]
  · rw [if_neg h1, if_neg (by omega)]
theorem VBn {W H : Int} {a : List S43} (h : VB W H a) : ∃ w n : Nat, W = w ∧ H = n ∧ w ≤ 256 ∧ n ≤ 256 ∧ 0 < w ∧ 0 < n ∧ a.length = n * w := by
  obtain ⟨h1, h2, h3, _⟩ := h
  obtain ⟨w, rfl⟩ : ∃ w : Nat, W = w := ⟨W.toNat, by omega⟩
  obtain ⟨n, rfl⟩ : ∃ n : Nat, H = n := ⟨H.toNat, by omega⟩
  refine ⟨w, n, rfl, rfl, by omega, by omega, by omega, by omega, ?_⟩
  rw [← Int.natCast_mul] at h3
  rw [Nat.mul_comm]
  exact Int.ofNat.inj h3
noncomputable def CM (g : S43 → S43 → S43) (W H : Int) (l : List S43) (SW SH : Int) (s : List S43) (x y : Int) : Int × Int × List S43 × Int := if VB W H l ∧ VB SW SH s then (W, H, PUT g W.toNat H.toNat l SW.toNat SH.toNat s x y, 0) else (0, 0, [], 15)
theorem combine_eq (g : S43 → S43 → S43) (q : List S43 → List S43 → List S43) (hq : ∀ d s, s.length = d.length → q d s = List.zipWith g d s) (W H : Int) (l : List S43) (SW SH : Int) (s : List S43) (x y : Int) : buffer_combine.g q W H l SW SH s x y = some (CM g W H l SW SH s x y) := by
  unfold buffer_combine.g
  rw [bvalid_eq, bvalid_eq, Option.bind_some, Option.bind_some]
  simp only [decide_eq_true_eq, CM]
  by_cases h1 : VB W H l
  · rw [if_pos h1]
    by_cases h2 : VB SW SH s
    · rw [if_pos h2, if_pos (show VB W H l ∧ VB SW SH s from ⟨h1, h2⟩)]
      obtain ⟨w, n, rfl, rfl, _, _, a1, a2, a3⟩ := VBn h1
      obtain ⟨w', n', rfl, rfl, _, _, b1, b2, b3⟩ := VBn h2
      simp only [Int.toNat_natCast]
      by_cases h3 : buffer_combine.out w n w' n' x y
      · rw [if_pos h3, PUT_out g w n l w' n' s x y a1 a3 h3]
      · rw [if_neg h3, all_eq g q hq w n w' n' l s x y a1 b1 a3 b3 h3]
    · rw [if_neg h2, if_neg (show ¬ (VB W H l ∧ VB SW SH s) from fun h => h2 h.2)]
  · rw [if_neg h1, if_neg (show ¬ (VB W H l ∧ VB SW SH s) from fun h => h1 h.1)]
theorem zipWith_snd (d s : List S43) (h : s.length = d.length) : s = List.zipWith (fun _ s => s) d s := by
  apply List.ext_getElem
  · rw [List.length_zipWith, h, Nat.min_self]
  · intro i h1 h2
    simp
theorem paste_eq (W H : Int) (l : List S43) (SW SH : Int) (s : List S43) (x y : Int) : buffer_Paste.f W H l SW SH s x y = some (CM (fun _ s => s) W H l SW SH s x y) :=
  combine_eq (fun _ s => s) (fun _ s => s) (fun d s h => zipWith_snd d s h) W H l SW SH s x y
noncomputable def AT (W H : Int) (l : List S43) (x y : Int) : S43 := if (SZ W ∧ SZ H) ∧ (0 ≤ x ∧ x < W) ∧ (0 ≤ y ∧ y < H) ∧ y * W + x < (l.length : Int) then rd_T43 l (y * W + x) else z43
theorem at_small {W H x y : Int} (hW : SZ W) (hH : SZ H) (hx : 0 ≤ x ∧ x < W) (hy : 0 ≤ y ∧ y < H) : wrap64 (wrap64 (y * W) + x) = y * W + x ∧ 0 ≤ y * W + x ∧ y * W + x < W * H := by
  unfold SZ at hW hH
  have p1 : y * W ≤ (H - 1) * W := Int.mul_le_mul_of_nonneg_right (by omega) (by omega)
  have p2 : 0 ≤ y * W := Int.mul_nonneg hy.1 (by omega)
  have p3 : W * H ≤ 256 * 256 := Int.mul_le_mul hW.2 hH.2 (by omega) (by omega)
  rw [Int.sub_mul, Int.one_mul, Int.mul_comm H W] at p1
  generalize y * W = p at *
  generalize W * H = q at *
  have e : wrap64 p = p := w64 (by omega) (by omega)
  rw [e]
  exact ⟨w64 (by omega) (by omega), by omega, by omega⟩
theorem rat_eq (W H : Int) (l : List S43) (x y : Int) : compositorref09_At.f W H l x y = some ((AT W H l x y).f0, (AT W H l x y).f1, (AT W H l x y).f2, (AT W H l x y).f3) := by
  simp only [compositorref09_At.f, rsize_eq, Option.bind_some, decide_eq_true_eq]
  by_cases hs : SZ W ∧ SZ H
  · rw [if_pos hs]
    by_cases h1 : x < 0
    · rw [if_pos h1, AT, if_neg (by omega)]; rfl
    rw [if_neg h1]
    by_cases h2 : x ≥ W
    · rw [if_pos h2, AT, if_neg (by omega)]; rfl
    rw [if_neg h2]
    by_cases h3 : y < 0
    · rw [if_pos h3, AT, if_neg (by omega)]; rfl
    rw [if_neg h3]
    by_cases h4 : y ≥ H
    · rw [if_pos h4, AT, if_neg (by omega)]; rfl
    rw [if_neg h4]
    obtain ⟨e, h0, _⟩ := at_small hs.1 hs.2 (x := x) (y := y) (by omega) (by omega)
    rw [e]
    by_cases h5 : y * W + x ≥ (l.length : Int)
    · rw [if_pos h5, AT, if_neg (by omega)]; rfl
    · rw [if_neg h5, if_pos h0, if_pos (by omega), AT, if_pos ⟨hs, by omega, by omega, by omega⟩]
  · rw [if_neg hs, AT, if_neg (fun h => hs h.1)]; rfl
theorem AT_in {W H : Nat} (hW : 0 < W ∧ W ≤ 256) (hH : 0 < H ∧ H ≤ 256) {l : List S43} (hl : l.length = H * W) {r c : Nat} (hr : r < H) (hc : c < W) : AT W H l c r = l.getD (r * W + c) z43 := by
  have h := lt_rows hr hc
  have e : (r : Int) * (W : Int) + (c : Int) = ((r * W + c : Nat) : Int) := by rw [Int.natCast_add, Int.natCast_mul]
  rw [AT, e, if_pos]
  · rw [rd_T43, Int.toNat_natCast]
  · refine ⟨⟨by unfold SZ; omega, by unfold SZ; omega⟩, by omega, by omega, by omega⟩
def CO (a : Int) : Prop := -16384 ≤ a ∧ a ≤ 16384
def EM (a b c d : Int) : Prop := ¬ (CO a ∧ CO b ∧ CO c ∧ CO d) ∨ c ≤ a ∨ d ≤ b
noncomputable instance (a : Int) : Decidable (CO a) := Classical.propDecidable _
noncomputable instance (a b c d : Int) : Decidable (EM a b c d) := Classical.propDecidable _
theorem rv1 (a : Int) : rect_valid.f a = some (decide (CO a)) := by
  unfold rect_valid.f
  by_cases h1 : a ≥ -16384
  · rw [if_pos h1]
    refine congrArg some (Bool.eq_iff_iff.mpr ?_)
    rw [decide_eq_true_eq, decide_eq_true_eq, CO]
    omega
  · rw [if_neg h1, decide_eq_false (fun h : CO a => h1 h.1)]
theorem rv4 (a b c d : Int) : rect_Valid.f a b c d = some (decide (CO a ∧ CO b ∧ CO c ∧ CO d)) := by
  unfold rect_Valid.f
  rw [rv1, rv1, rv1, rv1]
  by_cases h1 : CO a <;> by_cases h2 : CO b <;> by_cases h3 : CO c <;> by_cases h4 : CO d <;> simp [h1, h2, h3, h4]
theorem re4 (a b c d : Int) : rect_Empty.f a b c d = some (decide (EM a b c d)) := by
  unfold rect_Empty.f
  rw [rv4]
  by_cases h1 : CO a ∧ CO b ∧ CO c ∧ CO d
  · rw [Option.bind_some, if_pos (decide_eq_true h1)]
    by_cases h2 : a ≥ c
    · rw [if_pos h2, decide_eq_true (show EM a b c d from Or.inr (Or.inl h2))]
    · rw [if_neg h2]
      refine congrArg some (Bool.eq_iff_iff.mpr ?_)
      rw [decide_eq_true_eq, decide_eq_true_eq, EM]
      exact ⟨fun h => Or.inr (Or.inr h), fun h => by rcases h with h | h | h; · exact absurd h1 h
                                                     · exact absurd h h2
                                                     · exact h⟩
  · rw [Option.bind_some, if_neg (by rw [decide_eq_false h1]; decide), decide_eq_true (show EM a b c d from Or.inl h1)]
theorem r04 (a b c d : Int) : compositorref04_Empty.f a b c d = some (decide (EM a b c d)) := (show compositorref04_Empty.f a b c d = rect_Empty.f a b c d from rfl).trans (re4 a b c d)
def IN (W H a b c d : Int) : Prop := (0 ≤ a ∧ a < c ∧ c ≤ W) ∧ (0 ≤ b ∧ b < d ∧ d ≤ H)
noncomputable instance (W H a b c d : Int) : Decidable (IN W H a b c d) := Classical.propDecidable _
theorem EM_in {W H a b c d : Int} (hW : SZ W) (hH : SZ H) (h : IN W H a b c d) : ¬ EM a b c d := by
  unfold SZ at hW hH
  obtain ⟨h1, h2⟩ := h
  unfold EM CO
  omega
theorem within (W H a b c d : Int) (hW : SZ W) (hH : SZ H) (he : ¬ EM a b c d) : rect_Within.f a b c d 0 0 W H = some (decide (IN W H a b c d)) := by
  have hf : ¬ EM 0 0 W H := EM_in hW hH (W := W) (H := H) ⟨by unfold SZ at hW; omega, by unfold SZ at hH; omega⟩
  have h1 := mx_spec a 0
  have h2 := mx_spec b 0
  have h3 := mn_spec c W
  have h4 := mn_spec d H
  unfold rect_Within.f rect_Canonical.f
  rw [re4, Option.bind_some, if_neg (by rw [decide_eq_false he]; decide), Option.bind_some]
  unfold rect_Intersect.f rect_Canonical.f
  rw [re4, Option.bind_some, if_neg (by rw [decide_eq_false he]; decide), re4, Option.bind_some, if_neg (by rw [decide_eq_false hf]; decide), re4, Option.bind_some]
  generalize mx a 0 = A at *
  generalize mx b 0 = B at *
  generalize mn c W = C at *
  generalize mn d H = D at *
  have he' : a < c ∧ b < d := by
    have h : ¬ (c ≤ a ∨ d ≤ b) := fun h => he (Or.inr h)
    omega
  by_cases hi : EM A B C D
  · rw [if_pos (decide_eq_true hi), Option.bind_some, Option.bind_some]
    have hn : ¬ IN W H a b c d := by
      intro h
      have e1 : A = a := by have := h.1; omega
      have e2 : B = b := by have := h.2; omega
      have e3 : C = c := by have := h.1; omega
      have e4 : D = d := by have := h.2; omega
      rw [e1, e2, e3, e4] at hi
      exact he hi
    rw [decide_eq_false hn]
    refine congrArg some (Bool.eq_false_iff.mpr (fun h => ?_))
    simp only [Bool.and_eq_true, beq_iff_eq] at h
    omega
  · rw [if_neg (by rw [decide_eq_false hi]; decide), Option.bind_some, Option.bind_some]
    refine congrArg some (Bool.eq_iff_iff.mpr ?_)
    simp only [Bool.and_eq_true, beq_iff_eq]
    rw [decide_eq_true_eq, IN]
    constructor <;> intro h <;> omega
noncomputable def CR (W H : Int) (l : List S43) (a b c d : Int) : Int × Int × List S43 × Int := if VB W H l then (if IN W H a b c d then (c - a, d - b, buffer_Crop.rows l W.toNat a.toNat b.toNat (c - a).toNat (d - b).toNat, 0) else (0, 0, [], 6)) else (0, 0, [], 15)
theorem crop_eq (W H : Int) (l : List S43) (a b c d : Int) : buffer_Crop.f W H l a b c d = some (CR W H l a b c d) := by
  unfold buffer_Crop.f CR
  rw [bvalid_eq, Option.bind_some]
  by_cases h1 : VB W H l
  · rw [if_pos (decide_eq_true h1), if_pos h1, re4, Option.bind_some]
    by_cases h2 : EM a b c d
    · rw [if_pos (decide_eq_true h2), if_neg (fun h => EM_in h1.1 h1.2.1 h h2)]
    · rw [if_neg (by rw [decide_eq_false h2]; decide), within W H a b c d h1.1 h1.2.1 h2, Option.bind_some]
      by_cases h3 : IN W H a b c d
      · rw [if_pos (decide_eq_true h3), if_pos h3]
        exact if_pos h3
      · rw [if_neg (by rw [decide_eq_false h3]; decide), if_neg h3]
  · rw [if_neg (by rw [decide_eq_false h1]; decide), if_neg h1]
theorem crows_succ (l : List S43) (W x0 y0 n k : Nat) : buffer_Crop.rows l W x0 y0 n (k + 1) = (l.drop (y0 * W + x0)).take n ++ buffer_Crop.rows l W x0 (y0 + 1) n k := by
  unfold buffer_Crop.rows
  rw [List.range_succ_eq_map, List.flatMap_cons, List.flatMap_map]
  refine congrArg _ (congrArg (fun f => List.flatMap f (List.range k)) (funext fun j => ?_))
  rw [show y0 + Nat.succ j = y0 + 1 + j by omega]
theorem crows_len (l : List S43) (W x0 n : Nat) : ∀ k y0, (∀ j, j < k → (y0 + j) * W + x0 + n ≤ l.length) → (buffer_Crop.rows l W x0 y0 n k).length = k * n := by
  intro k
  induction k with
  | zero => intro y0 _; simp [buffer_Crop.rows]
  | succ k ih =>
    intro y0 h
    have h0 := h 0 (by omega)
    rw [crows_succ, List.length_append, ih (y0 + 1) (fun j hj => by have := h (j + 1) (by omega); rwa [show y0 + 1 + j = y0 + (j + 1) by omega]), List.length_take, List.length_drop, Nat.succ_mul, Nat.add_zero] at *
    omega
theorem getD_left (a b : List S43) {i : Nat} (h : i < a.length) : (a ++ b).getD i z43 = a.getD i z43 := by
  rw [List.getD_eq_getElem?_getD, List.getD_eq_getElem?_getD, List.getElem?_append_left h]
theorem getD_right (a b : List S43) {i : Nat} (h : a.length ≤ i) : (a ++ b).getD i z43 = b.getD (i - a.length) z43 := by
  rw [List.getD_eq_getElem?_getD, List.getD_eq_getElem?_getD, List.getElem?_append_right h]
theorem crows_getD (l : List S43) (W x0 n : Nat) : ∀ k y0, (∀ j, j < k → (y0 + j) * W + x0 + n ≤ l.length) → ∀ j i, j < k → i < n → (buffer_Crop.rows l W x0 y0 n k).getD (j * n + i) z43 = l.getD ((y0 + j) * W + x0 + i) z43 := by
  intro k
  induction k with
  | zero => intro y0 _ j i hj; omega
  | succ k ih =>
    intro y0 h j i hj hi
    have h0 := h 0 (by omega)
    rw [Nat.add_zero] at h0
    have hlen : ((l.drop (y0 * W + x0)).take n).length = n := by
      rw [List.length_take, List.length_drop]
      omega
    rw [crows_succ]
    rcases j with _ | j
    · rw [Nat.zero_mul, Nat.zero_add, Nat.add_zero, getD_left _ _ (by rw [hlen]; exact hi), mid_getD _ _ _ _ hi]
      rfl
    · rw [getD_right _ _ (by rw [hlen, Nat.succ_mul]; omega), hlen, show (j + 1) * n + i - n = j * n + i by rw [Nat.succ_mul]; omega, ih (y0 + 1) (fun j hj => by have := h (j + 1) (by omega); rwa [show y0 + 1 + j = y0 + (j + 1) by omega]) j i (by omega) hi, show y0 + 1 + j = y0 + (j + 1) by omega]
theorem take_drop_succ (l : List S43) (i d : Nat) (h : i < l.length) : (l.drop i).take (d + 1) = l.getD i z43 :: (l.drop (i + 1)).take d := by
  rw [List.drop_eq_getElem_cons h, List.take_succ_cons, List.getD_eq_getElem?_getD, List.getElem?_eq_getElem h]
  rfl
theorem rcrop_l1 (W H : Nat) (l : List S43) (hW : 0 < W ∧ W ≤ 256) (hH : 0 < H ∧ H ≤ 256) (hl : l.length = H * W) (y : Nat) (hy : y < H) (a b d u v : Int) (c : Nat) (hc : c ≤ W) (k : Nat) :
    ∀ e x, x + e = c → ∀ A : List S43, A.length + e ≤ 1000000 → compositorref09_Crop.l1 (k + e + 1) (y : Int) (x : Int) W H l a b (c : Int) d u v A = compositorref09_Crop.l0 k (wrap64 ((y : Int) + 1)) W H l a b (c : Int) d u v (A ++ (l.drop (y * W + x)).take e) := by
  intro e
  induction e with
  | zero =>
    intro x hx A hA
    rw [compositorref09_Crop.l1, if_neg (by omega), List.take_zero, List.append_nil]
  | succ e ih =>
    intro x hx A hA
    have hxW : x < W := by omega
    have hlt := lt_rows hy hxW
    rw [← hl] at hlt
    rw [show k + (e + 1) + 1 = (k + e + 1) + 1 by omega, compositorref09_Crop.l1, if_pos (by omega), rat_eq, Option.bind_some, if_pos (by omega), wnat (by omega), ih (x + 1) (by omega) _ (by rw [List.length_append, List.length_singleton]; omega), AT_in hW hH hl hy hxW, take_drop_succ _ _ _ hlt, List.append_assoc]
    simp only [List.singleton_append]
    rfl
theorem cfuel {e k c : Nat} (hk : 300 * (e + 1) + 300 ≤ k + c + 1 + 1) (hc : c ≤ 256) : 300 * e + 300 ≤ k := by omega
theorem cfuel2 {A e c : Nat} (hA : A + 256 * (e + 1) ≤ 600000) (hc : c ≤ 256) : A + c ≤ 1000000 := by omega
theorem cfuel3 {A e c : Nat} (hA : A + 256 * (e + 1) ≤ 600000) (hc : c ≤ 256) : A + c + 256 * e ≤ 600000 := by omega
theorem rcrop_l0 (W H : Nat) (l : List S43) (hW : 0 < W ∧ W ≤ 256) (hH : 0 < H ∧ H ≤ 256) (hl : l.length = H * W) (a c d : Nat) (b u v : Int) (hc : a + c ≤ W) (hd : d ≤ H) :
    ∀ e y, y + e = d → ∀ k, 300 * e + 300 ≤ k → ∀ A : List S43, A.length + 256 * e ≤ 600000 → compositorref09_Crop.l0 k (y : Int) W H l (a : Int) b ((a + c : Nat) : Int) (d : Int) u v A = some (u, v, A ++ buffer_Crop.rows l W a y c e, 0) := by
  intro e
  induction e with
  | zero =>
    intro y hy k hk A hA
    obtain ⟨k, rfl⟩ : ∃ j, k = j + 1 := ⟨k - 1, by omega⟩
    rw [compositorref09_Crop.l0, if_neg (by omega)]
    simp [buffer_Crop.rows]
  | succ e ih =>
    intro y hy k hk A hA
    obtain ⟨k, rfl⟩ : ∃ j, k = j + c + 1 + 1 := ⟨k - c - 2, by omega⟩
    have hc2 : c ≤ 256 := by clear hk hA; omega
    have hk' : 300 * e + 300 ≤ k := cfuel hk hc2
    have g1 : A.length + c ≤ 1000000 := cfuel2 hA hc2
    have g2 : (A ++ (l.drop (y * W + a)).take c).length + 256 * e ≤ 600000 := by rw [List.length_append, List.length_take]; exact cfuel3 hA (Nat.le_trans (Nat.min_le_left _ _) hc2)
    have g3 := rcrop_l1 W H l hW hH hl y (by omega) (a : Int) b (d : Int) u v (a + c) hc k c a rfl A g1
    have g4 := ih (y + 1) (by omega) k hk' _ g2
    have g5 : (y : Int) < (d : Int) := by omega
    rw [compositorref09_Crop.l0, if_pos g5, g3, wnat (by omega), g4, crows_succ, List.append_assoc]
theorem rcrop_eq (W H : Int) (l : List S43) (a b c d : Int) (hl : l.length ≤ 100000) (k : Nat) (hk : 200000 ≤ k) : compositorref09_Crop.f k W H l a b c d = some (CR W H l a b c d) := by
  obtain ⟨k, rfl⟩ : ∃ j, k = j + 1 := ⟨k - 1, by omega⟩
  unfold compositorref09_Crop.f CR
  rw [rvalid_eq W H l hl _ (by omega), Option.bind_some]
  have ex : ∀ b : Bool, b = true → ∀ a1 a2 a3 a4 a5 a6 a7, compositorref09_Crop.j0 (k + 1) b a1 a2 a3 a4 a5 a6 a7 = some (0, 0, [], 6) := by
    intro b hb a1 a2 a3 a4 a5 a6 a7
    rw [compositorref09_Crop.j0, if_pos hb]
  by_cases h1 : VB W H l
  · rw [if_pos (decide_eq_true h1), if_pos h1, r04, Option.bind_some]
    by_cases h2 : EM a b c d
    · rw [if_pos (decide_eq_true h2), if_neg (fun h => EM_in h1.1 h1.2.1 h h2)]
      exact ex _ rfl _ _ _ _ _ _ _
    · rw [if_neg (by rw [decide_eq_false h2]; decide)]
      have he' : a < c ∧ b < d := by
        have h : ¬ (c ≤ a ∨ d ≤ b) := fun h => h2 (Or.inr h)
        omega
      by_cases t1 : a < 0
      · rw [if_pos t1, if_neg (by unfold IN; omega)]; exact ex _ rfl _ _ _ _ _ _ _
      rw [if_neg t1]
      by_cases t2 : b < 0
      · rw [if_pos t2, if_neg (by unfold IN; omega)]; exact ex _ rfl _ _ _ _ _ _ _
      rw [if_neg t2]
      by_cases t3 : c > W
      · rw [if_pos t3, if_neg (by unfold IN; omega)]; exact ex _ rfl _ _ _ _ _ _ _
      rw [if_neg t3]
      by_cases t4 : d > H
      · rw [decide_eq_true t4, if_neg (by unfold IN; omega)]; exact ex _ rfl _ _ _ _ _ _ _
      rw [decide_eq_false t4, if_pos (by unfold IN; omega), compositorref09_Crop.j0, if_neg (by decide)]
      obtain ⟨w, n, rfl, rfl, aw, an, a1, a2, a3⟩ := VBn h1
      obtain ⟨a, rfl⟩ : ∃ j : Nat, a = j := ⟨a.toNat, by omega⟩
      obtain ⟨b, rfl⟩ : ∃ j : Nat, b = j := ⟨b.toNat, by omega⟩
      obtain ⟨p, rfl⟩ : ∃ j : Nat, c = ((a + j : Nat) : Int) := ⟨(c - a).toNat, by omega⟩
      obtain ⟨q, rfl⟩ : ∃ j : Nat, d = ((b + j : Nat) : Int) := ⟨(d - b).toNat, by omega⟩
      have e1 : wrap64 (((a + p : Nat) : Int) - (a : Int)) = (p : Int) := by unfold wrap64; omega
      have e2 : wrap64 (((b + q : Nat) : Int) - (b : Int)) = (q : Int) := by unfold wrap64; omega
      have e3 : ((a + p : Nat) : Int) - (a : Int) = (p : Int) := by omega
      have e4 : ((b + q : Nat) : Int) - (b : Int) = (q : Int) := by omega
      rw [e1, e2, e3, e4, rcrop_l0 w n l ⟨a1, aw⟩ ⟨a2, an⟩ a3 a p (b + q) (b : Int) (p : Int) (q : Int) (by omega) (by omega) q b rfl k (by omega) [] (by rw [List.length_nil]; omega)]
      simp only [Int.toNat_natCast, List.nil_append]
  · rw [if_neg (by rw [decide_eq_false h1]; decide), if_neg h1]
theorem crow_off {W H b y0 q j : Nat} (h : y0 + q ≤ H) (hj : j < q) {x0 n : Nat} (hx : x0 + n ≤ W) : (y0 + j) * W + x0 + n ≤ H * W := by
  have m : (y0 + j + 1) * W ≤ H * W := Nat.mul_le_mul_right W (by omega)
  rw [Nat.succ_mul] at m
  omega
theorem crows_mem (l : List S43) (W x0 y0 n k : Nat) {p : S43} (h : p ∈ buffer_Crop.rows l W x0 y0 n k) : p ∈ l := by
  unfold buffer_Crop.rows at h
  rw [List.mem_flatMap] at h
  obtain ⟨j, _, hj⟩ := h
  exact List.mem_of_mem_drop (List.mem_of_mem_take hj)
theorem crop_back (W H : Int) (l : List S43) (a b c d : Int) (h : VB W H l) (hi : IN W H a b c d) :
    VB (c - a) (d - b) (buffer_Crop.rows l W.toNat a.toNat b.toNat (c - a).toNat (d - b).toNat) ∧ (buffer_Crop.rows l W.toNat a.toNat b.toNat (c - a).toNat (d - b).toNat).length ≤ l.length ∧
      CM (fun _ s => s) W H l (c - a) (d - b) (buffer_Crop.rows l W.toNat a.toNat b.toNat (c - a).toNat (d - b).toNat) a b = (W, H, l, 0) := by
  have hpv := h.2.2.2
  have hv := h
  obtain ⟨w, n, rfl, rfl, aw, an, a1, a2, a3⟩ := VBn h
  obtain ⟨⟨i1, i2, i3⟩, i4, i5, i6⟩ := hi
  obtain ⟨a, rfl⟩ : ∃ j : Nat, a = j := ⟨a.toNat, by omega⟩
  obtain ⟨b, rfl⟩ : ∃ j : Nat, b = j := ⟨b.toNat, by omega⟩
  obtain ⟨p, rfl⟩ : ∃ j : Nat, c = ((a + j : Nat) : Int) := ⟨(c - a).toNat, by omega⟩
  obtain ⟨q, rfl⟩ : ∃ j : Nat, d = ((b + j : Nat) : Int) := ⟨(d - b).toNat, by omega⟩
  have e3 : ((a + p : Nat) : Int) - (a : Int) = (p : Int) := by omega
  have e4 : ((b + q : Nat) : Int) - (b : Int) = (q : Int) := by omega
  have hoff : ∀ j, j < q → (b + j) * w + a + p ≤ l.length := fun j hj => by rw [a3]; exact crow_off (b := 0) (by omega) hj (by omega)
  have hlen := crows_len l w a p q b hoff
  rw [e3, e4]
  simp only [Int.toNat_natCast]
  have hvb : VB (p : Int) (q : Int) (buffer_Crop.rows l w a b p q) := by
    refine ⟨by omega, by omega, ?_, fun x hx => hpv x (crows_mem _ _ _ _ _ _ hx)⟩
    rw [hlen, Nat.mul_comm, Int.natCast_mul]
  refine ⟨hvb, ?_, ?_⟩
  · rw [hlen, a3]
    exact Nat.mul_le_mul (by omega) (by omega)
  · unfold CM
    rw [if_pos ⟨hv, hvb⟩]
    simp only [Int.toNat_natCast]
    refine congrArg (fun z => ((w : Int), (n : Int), z, (0 : Int))) ?_
    refine ext_rows a1 (PUT_len _ _ _ _ _ _ _ _ _) a3 (fun r c hr hc => ?_)
    rw [PUT_getD _ _ _ _ _ _ _ _ _ hr hc, PX]
    split
    · rename_i hin
      obtain ⟨u, hu⟩ : ∃ u : Nat, (c : Int) - a = u := ⟨((c : Int) - a).toNat, by omega⟩
      obtain ⟨v, hv⟩ : ∃ u : Nat, (r : Int) - b = u := ⟨((r : Int) - b).toNat, by omega⟩
      rw [hu, hv, Int.toNat_natCast, Int.toNat_natCast, crows_getD l w a p q b hoff v u (by omega) (by omega)]
      rw [show b + v = r by omega, Nat.add_assoc, show a + u = c by omega]
    · rfl
theorem croplaw (W H : Int) (l : List S43) (a b c d : Int) : compositorlaw09_BufferCrop.f 200010 W H l a b c d = some true := by
  unfold compositorlaw09_BufferCrop.f
  rw [small_eq, Option.bind_some]
  by_cases h1 : (l.length : Int) ≤ 400
  · rw [if_pos (decide_eq_true h1), crop_eq, rcrop_eq W H l a b c d (by omega) 200010 (by omega), Option.bind_some, Option.bind_some, if_pos rfl]
    have hlen : (CR W H l a b c d).2.2.1.length ≤ l.length := by
      unfold CR
      split
      · rename_i h2
        split
        · rename_i h3
          exact (crop_back W H l a b c d h2 h3).2.1
        · simp
      · simp
    rw [requal_refl _ _ _ (by omega) 200010 (by omega), Option.bind_some, show (!true) = false from rfl, compositorlaw09_BufferCrop.j0, if_neg (by decide)]
    by_cases h2 : VB W H l
    · by_cases h3 : IN W H a b c d
      · have hb := crop_back W H l a b c d h2 h3
        have hcr : CR W H l a b c d = (c - a, d - b, buffer_Crop.rows l W.toNat a.toNat b.toNat (c - a).toNat (d - b).toNat, 0) := by
          unfold CR
          rw [if_pos h2, if_pos h3]
        rw [hcr]
        simp only [if_true, paste_eq, Option.bind_some, hb.2.2, requal_refl W H l (by omega) 200009 (by omega), example_holds 200009 (by omega)]
      · have hcr : CR W H l a b c d = (0, 0, [], 6) := by
          unfold CR
          rw [if_pos h2, if_neg h3]
        rw [hcr, if_neg (by decide), example_holds 200009 (by omega)]
        rfl
    · have hcr : CR W H l a b c d = (0, 0, [], 15) := by
        unfold CR
        rw [if_neg h2]
      rw [hcr, if_neg (by decide), example_holds 200009 (by omega)]
      rfl
  · rw [if_neg (by rw [decide_eq_false h1]; decide), example_holds 200010 (by omega)]
    rfl
theorem BufferCrop (x0 : S27) (x1 : S47) (ok0 : ((Lit.int .i64 x0.f0).wf = true) ∧ ((Lit.int .i64 x0.f1).wf = true) ∧ (x0.f2.length * 4 ≤ 140737488351232 ∧ x0.f2.length ≤ 9223372036854775807 ∧ ∀ y25 ∈ x0.f2, ((Lit.int .u8 y25.f0).wf = true) ∧ ((Lit.int .u8 y25.f1).wf = true) ∧ ((Lit.int .u8 y25.f2).wf = true) ∧ ((Lit.int .u8 y25.f3).wf = true))) (ok1 : ((Lit.int .i64 x1.f0).wf = true) ∧ ((Lit.int .i64 x1.f1).wf = true) ∧ ((Lit.int .i64 x1.f2).wf = true) ∧ ((Lit.int .i64 x1.f3).wf = true)) :
    ∃ k, compositorlaw09_BufferCrop.f k x0.f0 x0.f1 x0.f2 x1.f0 x1.f1 x1.f2 x1.f3 = some true := by
  exact ⟨200010, croplaw _ _ _ _ _ _ _⟩
end Go.Proofs.Ytmockeaiccpogaa.Pure
end
section
namespace Go.Proofs.YtmockeaiccpogaaOpens
open Go.ChangeShapes Go.WideShapes Go.RowKit Go.Proofs.YtmockeaiccpogaaW.PrintWords
section
variable {H : Type} {enc : TypeId × Value → H} {P : Program} {W : World}
def Opens {α : Type} (enc : TypeId × Value → H) (P : Program) (W : World) (t : TypeId) (d : Kd α) (ok : α → Prop) : Prop :=
  ∀ fuel cs y, DataW.trod enc P W 0 (fun _ => true) true fuel t cs = some y → (∀ n ∈ y.1.weights P t, n ≤ reachBytes) → ∃ x, d.K W x cs ∧ ok x
theorem opens_int {t : TypeId} {k : IntKind} (ht : P.underlying t = some (.int k)) : Opens enc P W t (Kd.int k) (fun x => (Lit.int k x).wf = true) := by
  intro fuel cs y h _
  obtain ⟨n, rfl, _, hw⟩ := DataW.trod_int ht h
  exact ⟨n, rfl, hw⟩
theorem weightsAll_mem {e : TypeId} : ∀ {l : List (DataW H)} {d : DataW H}, d ∈ l → ∀ n ∈ d.weights P e, n ∈ DataW.weightsAll P e l
  | d0 :: r, d, hd, n, hn => by
    simp only [DataW.weightsAll, List.mem_append]
    rcases List.mem_cons.1 hd with rfl | hd
    · exact .inl hn
    · exact .inr (weightsAll_mem hd n hn)
theorem choose_list {α : Type} (n : Nat) (R : Nat → α → Prop) (h : ∀ i, i < n → ∃ x, R i x) : ∃ l : List α, l.length = n ∧ ∀ i x, l[i]? = some x → R i x := by
  induction n with
  | zero => exact ⟨[], rfl, fun i x hx => by simp at hx⟩
  | succ n ih =>
    obtain ⟨l, hl, hr⟩ := ih (fun i hi => h i (by omega))
    obtain ⟨x, hx⟩ := h n (by omega)
    refine ⟨l ++ [x], by simp [hl], fun i y hy => ?_⟩
    rcases Nat.lt_or_ge i l.length with hi | hi
    · rw [List.getElem?_append_left hi] at hy
      exact hr i y hy
    · rw [List.getElem?_append_right hi] at hy
      obtain ⟨hi2, rfl⟩ : i - l.length = 0 ∧ x = y := by
        rcases Nat.eq_zero_or_pos (i - l.length) with h0 | h0
        · rw [h0] at hy; simp at hy; exact ⟨h0, hy⟩
        · rw [List.getElem?_eq_none (by simp; omega)] at hy; cases hy
      have : i = n := by omega
      subst this
      exact hx
theorem opens_slice {α : Type} {t e : TypeId} {d : Kd α} {ok : α → Prop} {B : Nat} (ht : P.underlying t = some (.slice e)) (hc : P.cellsOf e = d.sz) (hB : P.bytesOf e = B) (he : Opens enc P W e d ok) :
    Opens enc P W t (Kd.slice e d) (fun l => l.length * B ≤ 140737488351232 ∧ l.length ≤ 9223372036854775807 ∧ ∀ x ∈ l, ok x) := by
  intro fuel cs y h hz
  rcases DataW.trod_slice ht h with ⟨rfl, _⟩ | ⟨a, len, cap, elems, rest, n, _, rfl, rfl, _, hl, hm, hlen, hel, _, _⟩
  · exact ⟨[], ⟨none, 0, rfl, by simp, rfl, by simp, fun h0 => absurd h0 (by simp)⟩, by simp, by simp, by simp⟩
  · have hw : ∀ n ∈ (((elems.map (·.1)).length + (rest.map (·.1)).length) * P.bytesOf e) :: (DataW.weightsAll P e (elems.map (·.1)) ++ DataW.weightsAll P e (rest.map (·.1))), n ≤ reachBytes := by
      intro m hm'
      refine hz m ?_
      simp only [DataW.weights, ht]
      exact hm'
    obtain ⟨l, hll, hlr⟩ := choose_list (α := α) len (fun i x => ok x ∧ ∃ c, c.length = d.sz ∧ d.K W x c ∧ ∀ j u, c[j]? = some u → W.cell? (a.add (i * d.sz + j)) = some u) (by
      intro i hi
      have h1 := hel i hi
      rw [List.getElem?_eq_getElem (by omega)] at h1
      obtain ⟨c, hcs, htr⟩ := Option.bind_eq_some_iff.1 h1
      have hmem : (elems[i]'(by omega)).1 ∈ elems.map (·.1) := List.mem_map.2 ⟨_, List.getElem_mem _, rfl⟩
      obtain ⟨x, hK, hok⟩ := he n c _ htr (fun m hm' => hw m (by
        refine List.mem_cons_of_mem _ (List.mem_append_left _ ?_)
        exact weightsAll_mem hmem m hm'))
      refine ⟨x, hok, c, d.K_len hK, hK, fun j u hu => ?_⟩
      rw [hc] at hcs
      unfold World.cells? at hcs
      split at hcs
      · have hj : j < d.sz := by
          have := (List.getElem?_eq_some_iff.1 hu).1
          rw [d.K_len hK] at this
          exact this
        have h2 := mapM_some_get hcs j j (by simp [hj])
        rw [hu] at h2
        rw [← h2]
        congr 1
        have : ∀ (a : Addr) (p q : Nat), (a.add p).add q = a.add (p + q) := by
          intro a p q
          unfold Addr.add
          split
          · split <;> simp_all
          · split <;> simp_all [Nat.add_assoc]
        exact (this a _ _).symm
      · cases hcs)
    refine ⟨l, ⟨some a, cap, by rw [hll], by omega, rfl, by unfold maxLen at hm; omega, fun _ => ⟨a, rfl, fun j p hp => ?_⟩⟩, ?_, by unfold maxLen at hm; omega, fun x hx => ?_⟩
    · obtain ⟨_, c, h1, h2, h3⟩ := hlr j p hp
      exact ⟨c, h1, h2, h3⟩
    · have := hw _ List.mem_cons_self
      rw [hB] at this
      simp only [List.length_map, hlen] at this
      rw [hll]
      unfold reachBytes at this
      exact Nat.le_trans (Nat.mul_le_mul_right _ (Nat.le_add_right _ _)) this
    · obtain ⟨i, hi, rfl⟩ := List.getElem_of_mem hx
      exact (hlr i _ (List.getElem?_eq_getElem hi)).1
def OpensFs {α : Type} (enc : TypeId × Value → H) (P : Program) (W : World) (fs : List Field) (off : Nat) (d : Kd α) (ok : α → Prop) : Prop :=
  ∀ (n : Nat) (cs : List Value) (xs : List (DataW H × List MemPlace)), cs.length = off + d.sz →
    xs.length = fs.length → (∀ (i : Nat) (f : Field), fs[i]? = some f → DataW.trod enc P W 0 (fun _ => true) true n f.type ((cs.drop f.offset).take (P.cellsOf f.type)) = xs[i]?) →
    (∀ m ∈ DataW.weightsEach P (fs.map (·.type)) (xs.map (·.1)), m ≤ reachBytes) → ∃ x, d.K W x (cs.drop off) ∧ ok x
theorem opensFs_last {α : Type} {f : Field} {off : Nat} {d : Kd α} {ok : α → Prop} (ho : f.offset = off) (hc : P.cellsOf f.type = d.sz) (h : Opens enc P W f.type d ok) : OpensFs enc P W [f] off d ok := by
  intro n cs xs hcs hx ht hz
  match xs, hx with
  | [x0], _ =>
    have h0 := ht 0 f rfl
    rw [ho, hc, List.take_of_length_le (by rw [List.length_drop]; omega)] at h0
    exact h n _ x0 (by simpa using h0) (fun m hm => hz m (by simp [DataW.weightsEach, hm]))
theorem opensFs_cons {α β : Type} {f : Field} {fs : List Field} {off : Nat} {d : Kd α} {d' : Kd β} {ok : α → Prop} {ok' : β → Prop} (ho : f.offset = off) (hc : P.cellsOf f.type = d.sz) (h : Opens enc P W f.type d ok)
    (hr : OpensFs enc P W fs (off + d.sz) d' ok') : OpensFs enc P W (f :: fs) off (Kd.pair d d') (fun x => ok x.1 ∧ ok' x.2) := by
  intro n cs xs hcs hx ht hz
  have hcs' : cs.length = off + (d.sz + d'.sz) := hcs
  match xs, hx with
  | x0 :: xs, hx =>
    have h0 := ht 0 f rfl
    rw [ho, hc] at h0
    obtain ⟨x, hK, hok⟩ := h n _ x0 (by simpa using h0) (fun m hm => hz m (by simp [DataW.weightsEach, hm]))
    obtain ⟨x', hK', hok'⟩ := hr n cs xs (by omega) (by simpa using hx) (fun i g hg => by simpa using ht (i + 1) g (by simpa using hg)) (fun m hm => hz m (by simp only [List.map_cons, DataW.weightsEach, List.mem_append]; exact .inr hm))
    refine ⟨(x, x'), ⟨_, _, ?_, hK, hK'⟩, hok, hok'⟩
    rw [← List.drop_drop, List.take_append_drop]
theorem opens_struct {α : Type} {t : TypeId} {fs : Array Field} {d : Kd α} {ok : α → Prop} (ht : P.underlying t = some (.struct fs)) (hc : P.cellsOf t = d.sz) (h : OpensFs enc P W fs.toList 0 d ok) : Opens enc P W t d ok := by
  intro fuel cs y hy hz
  obtain ⟨xs, n, _, rfl, hl, hlen, hf⟩ := DataW.trod_struct ht hy
  obtain ⟨x, hK, hok⟩ := h n cs xs (by omega) (by simpa using hlen) (fun i f hi => hf i f (by simpa using hi)) (fun m hm => hz m (by simp only [DataW.weights, ht]; exact hm))
  exact ⟨x, by simpa using hK, hok⟩
theorem opens_iso {α β : Type} {t : TypeId} {d : Kd α} {ok : α → Prop} (f : β → α) (g : α → β) (hfg : ∀ x, f (g x) = x) (h : Opens enc P W t d ok) : Opens enc P W t (Kd.iso d f) (fun y => ok (f y)) := by
  intro fuel cs y hy hz
  obtain ⟨x, hK, hok⟩ := h fuel cs y hy hz
  exact ⟨g x, by show d.K W (f (g x)) cs; rw [hfg]; exact hK, by show ok (f (g x)); rw [hfg]; exact hok⟩
theorem opens_imp {α : Type} {t : TypeId} {d : Kd α} {ok ok' : α → Prop} (h : Opens enc P W t d ok) (hi : ∀ x, ok x → ok' x) : Opens enc P W t d ok' := by
  intro fuel cs y hy hz
  obtain ⟨x, hK, hok⟩ := h fuel cs y hy hz
  exact ⟨x, hK, hi x hok⟩
theorem opens_arg {α : Type} {ts : List TypeId} {ds : List (DataW H)} {j : Nat} {t : TypeId} {v : Value} {dt : DataW H} {ps : List MemPlace} {d : Kd α} {ok : α → Prop} (h : Opens enc P W t d ok)
    (hsz : (DataW.weightsEach P ts ds).all (· ≤ reachBytes) = true) (ht : ts[j]? = some t) (hd : ds[j]? = some dt) (hr : DataW.Trod enc P W 0 (fun _ => true) true t v dt ps) : ∃ x, d.K W x v.cells.toList ∧ ok x := by
  obtain ⟨fuel, hf⟩ := hr
  exact h fuel _ _ hf (fun n hn => by simpa using List.all_eq_true.1 hsz n (DataW.weights_mem_each ht hd n hn))
end
theorem arr_of {cs : Array Value} {l : List Value} (h : (Value.agg cs).cells.toList = l) : cs = l.toArray := by
  have h' : cs.toList = l := h
  rw [← h', Array.toArray_toList]
end Go.Proofs.YtmockeaiccpogaaOpens
namespace Go.Proofs.YtmockeaiccpogaaOpens
open Go.ChangeShapes Go.WideShapes Go.RowKit Go.Proofs.YtmockeaiccpogaaW.PrintWords
end Go.Proofs.YtmockeaiccpogaaOpens
end
