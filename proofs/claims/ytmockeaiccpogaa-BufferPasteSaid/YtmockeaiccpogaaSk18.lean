-- The texts behind this claim's law, put together by a program of this session (shake.py): what no text uses is left out. Its words are print.sh's.
import Derived.Test.YtmockeaiccpogaaSk17
section
namespace Go.Proofs.Ytmockeaiccpogaa.All
open Go.Proofs.YtmockeaiccpogaaSq
open Go.RowKit Go.Proofs.YtmockeaiccpogaaW.PrintWords Go.Proofs.YtmockeaiccpogaaW.PrintLast Go.Proofs.YtmockeaiccpogaaW.PrintMore
attribute [local go_sem] max2_int min2_int max_two min_two max_three min_three max_four min_four
set_option linter.unusedVariables false
set_option linter.unusedSimpArgs false
abbrev zq10.q0 := Go.Proofs.YtmockeaiccpogaaHand.bz 8 0
abbrev zq10.q1 := Go.Proofs.YtmockeaiccpogaaHand.bz 8 1
abbrev zq10.q2 := Go.Proofs.YtmockeaiccpogaaHand.bz 8 5
abbrev zq10.q3 := Go.Proofs.YtmockeaiccpogaaHand.bz 8 63
abbrev zq10.q4 := Go.Proofs.YtmockeaiccpogaaHand.bz 8 31
abbrev zq10.q5 := Go.Proofs.YtmockeaiccpogaaHand.bz 8 47
abbrev zq10.q6 := Go.Proofs.YtmockeaiccpogaaHand.bz 8 55
abbrev zq10.q7 := Go.Proofs.YtmockeaiccpogaaHand.bz 8 15
abbrev zq10.q8 := Go.Proofs.YtmockeaiccpogaaHand.bz 8 23
abbrev zq10.q9 := Go.Proofs.YtmockeaiccpogaaHand.bz 8 39
abbrev zq10.q10 := Go.Proofs.YtmockeaiccpogaaHand.bz 8 53
abbrev zq10.q11 := Go.Proofs.YtmockeaiccpogaaHand.bz 8 7
abbrev zq10.q12 := Go.Proofs.YtmockeaiccpogaaHand.bz 8 21
abbrev zq10.q13 := Go.Proofs.YtmockeaiccpogaaHand.bz 8 37
abbrev zq10.q14 := Go.Proofs.YtmockeaiccpogaaHand.bz 8 127
abbrev zq10.q15 := Go.Proofs.YtmockeaiccpogaaHand.bz 8 255
mutual
def compositorlaw09_BufferPaste.j0 : Nat → Bool → Int → Int → List (S43) → Int → Int → List (S43) → Int → Int → Option (Bool)
 | 0, _, _, _, _, _, _, _, _, _ => none
 | k + 1, x23, x586000, x586001, x586002, x587000, x587001, x587002, x588000, x588001 => if x23 = true then ((compositorlaw09_exampleHolds.f k).bind fun t590 => (some t590)) else ((compositorlaw09_clone.f x586000 x586001 x586002).bind fun bt591 => ((compositorlaw09_clone.f x587000 x587001 x587002).bind fun bt596 => ((buffer_Paste.f x586000 x586001 x586002 x587000 x587001 x587002 x588000 x588001).bind fun bt603 => ((compositorref09_Paste.f k bt591.1 bt591.2.1 bt591.2.2 bt596.1 bt596.2.1 bt596.2.2 x588000 x588001).bind fun bt610 => (if bt603.2.2.2 = bt610.2.2.2 then ((compositorref09_Equal.f k bt603.1 bt603.2.1 bt603.2.2.1 bt610.1 bt610.2.1 bt610.2.2.1).bind fun t617 => (compositorlaw09_BufferPaste.j1 k x588000 x588001 (!t617) x586000 x586001 x586002 x587000 x587001 x587002 bt591.1 bt591.2.1 bt591.2.2 bt596.1 bt596.2.1 bt596.2.2)) else (compositorlaw09_BufferPaste.j1 k x588000 x588001 true x586000 x586001 x586002 x587000 x587001 x587002 bt591.1 bt591.2.1 bt591.2.2 bt596.1 bt596.2.1 bt596.2.2))))))
def compositorlaw09_BufferPaste.j1 : Nat → Int → Int → Bool → Int → Int → List (S43) → Int → Int → List (S43) → Int → Int → List (S43) → Int → Int → List (S43) → Option (Bool)
 | 0, _, _, _, _, _, _, _, _, _, _, _, _, _, _, _ => none
 | k + 1, x7, x8, x57, x586000, x586001, x586002, x587000, x587001, x587002, x602000, x602001, x602002, x603000, x603001, x603002 => if x57 = true then (some false) else ((buffer_BlendOver.f x586000 x586001 x586002 x587000 x587001 x587002 x7 x8).bind fun bt618 => ((compositorref09_BlendOver.f k x602000 x602001 x602002 x603000 x603001 x603002 x7 x8).bind fun bt624 => (if bt618.2.2.2 = bt624.2.2.2 then ((compositorref09_Equal.f k bt618.1 bt618.2.1 bt618.2.2.1 bt624.1 bt624.2.1 bt624.2.2.1).bind fun t630 => (compositorlaw09_BufferPaste.j2 k (!t630) x586000 x586001 x586002 x587000 x587001 x587002 x602000 x602001 x602002 x603000 x603001 x603002 bt618.1 bt618.2.1 bt618.2.2.1)) else (compositorlaw09_BufferPaste.j2 k true x586000 x586001 x586002 x587000 x587001 x587002 x602000 x602001 x602002 x603000 x603001 x603002 bt618.1 bt618.2.1 bt618.2.2.1))))
def compositorlaw09_BufferPaste.j2 : Nat → Bool → Int → Int → List (S43) → Int → Int → List (S43) → Int → Int → List (S43) → Int → Int → List (S43) → Int → Int → List (S43) → Option (Bool)
 | 0, _, _, _, _, _, _, _, _, _, _, _, _, _, _, _, _ => none
 | k + 1, x82, x586000, x586001, x586002, x587000, x587001, x587002, x602000, x602001, x602002, x603000, x603001, x603002, x610000, x610001, x610002 => if x82 = true then (some false) else (compositorlaw09_BufferPaste.l0 k (x610002.length : Int) 0 x586000 x586001 x586002 x587000 x587001 x587002 x602000 x602001 x602002 x603000 x603001 x603002 x610000 x610001 x610002)
def compositorlaw09_BufferPaste.l0 : Nat → Int → Int → Int → Int → List (S43) → Int → Int → List (S43) → Int → Int → List (S43) → Int → Int → List (S43) → Int → Int → List (S43) → Option (Bool)
 | 0, _, _, _, _, _, _, _, _, _, _, _, _, _, _, _, _, _ => none
 | k + 1, x85, x86, x586000, x586001, x586002, x587000, x587001, x587002, x602000, x602001, x602002, x603000, x603001, x603002, x610000, x610001, x610002 => if x86 < x85 then (if 0 ≤ x86 then (if x86 < (x610002.length : Int) then (compositorlaw09_BufferPaste.l0 k x85 (wrap64 (x86 + 1)) x586000 x586001 x586002 x587000 x587001 x587002 x602000 x602001 x602002 x603000 x603001 x603002 x610000 x610001 (x610002.set (x86 : Int).toNat (⟨1, 0, 0, 3⟩ : S43))) else (none)) else (none)) else ((compositorref09_Equal.f k x586000 x586001 x586002 x602000 x602001 x602002).bind fun t632 => (if t632 = true then ((compositorref09_Equal.f k x587000 x587001 x587002 x603000 x603001 x603002).bind fun t633 => (if t633 = true then ((compositorlaw09_exampleHolds.f k).bind fun t634 => (some t634)) else (some false))) else (some false)))
end
def compositorlaw09_BufferPaste.f (k : Nat) (a0_0 : Int) (a0_1 : Int) (l0_2 : List (S43)) (a1_0 : Int) (a1_1 : Int) (l1_2 : List (S43)) (a2_0 : Int) (a2_1 : Int) : Option (Bool) := (compositorlaw09_small.f a0_0 a0_1 l0_2).bind fun t588 => (if t588 = true then ((compositorlaw09_small.f a1_0 a1_1 l1_2).bind fun t589 => (compositorlaw09_BufferPaste.j0 k (!t589) a0_0 a0_1 l0_2 a1_0 a1_1 l1_2 a2_0 a2_1)) else (compositorlaw09_BufferPaste.j0 k true a0_0 a0_1 l0_2 a1_0 a1_1 l1_2 a2_0 a2_1))
def compositorlaw09_BufferPaste.T4 : Bool × List (List Nat × List Nat) := (true, [([], []), ([0], [0]), ([], []), ([2, 1], [2]), ([], []), ([], []), ([4, 1, 3, 0, 1, 4, 5], [1, 4]), ([5, 3, 6, 0, 1, 2, 3, 4, 5, 6], [3, 5])])
def compositorlaw09_BufferPaste.B4 : List Nat := [0, 1, 0, 7, 0, 0, 63, 127]
theorem compositorlaw09_BufferPaste.tab4 : rtab .any (opsOf Try.f10 4) = compositorlaw09_BufferPaste.T4 := by kernel_rfl
theorem compositorlaw09_BufferPaste.bits4 : waitsOk compositorlaw09_BufferPaste.T4.2 compositorlaw09_BufferPaste.B4 = true := by kernel_rfl
set_option maxHeartbeats 8000000 in
set_option maxRecDepth 100000 in
theorem compositorlaw09_BufferPaste.calls (k : Nat) (a0_0 : Int) (a0_1 : Int) (A0_2 : Option Addr) (c0_2 : Nat) (l0_2 : List (S43)) (a1_0 : Int) (a1_1 : Int) (A1_2 : Option Addr) (c1_2 : Nat) (l1_2 : List (S43)) (a2_0 : Int) (a2_1 : Int) (w : World) (hr0_2 : Kd.C k43 w A0_2 l0_2.length l0_2) (hc0_2 : l0_2.length ≤ c0_2) (hr1_2 : Kd.C k43 w A1_2 l1_2.length l1_2) (hc1_2 : l1_2.length ≤ c1_2) (h : compositorlaw09_BufferPaste.f k a0_0 a0_1 l0_2 a1_0 a1_1 l1_2 a2_0 a2_1 = some true) :
  Calls Try.prog 10 #[.agg #[.int .i64 a0_0, .int .i64 a0_1, .slice A0_2 l0_2.length c0_2], .agg #[.int .i64 a1_0, .int .i64 a1_1, .slice A1_2 l1_2.length c1_2], .agg #[.int .i64 a2_0, .int .i64 a2_1]] w fun e w' => e = .returned (.bool true) ∧ Below w.heap.size w w' := by
 have hu27 := Try.underlying27
 have hu41 := Try.underlying41
 have hu43 := Try.underlying43
 have HR0_2 := Aside0.mk hr0_2
 have HC0_2 := Aside0.mk hc0_2
 clear hr0_2 hc0_2
 have HR1_2 := Aside0.mk hr1_2
 have HC1_2 := Aside0.mk hc1_2
 clear hr1_2 hc1_2
 have HB := Aside0.mk (Below.refl w.heap.size w)
 have H : ((compositorlaw09_small.f a0_0 a0_1 l0_2).bind fun t588 => (if t588 = true then ((compositorlaw09_small.f a1_0 a1_1 l1_2).bind fun t589 => (compositorlaw09_BufferPaste.j0 k (!t589) a0_0 a0_1 l0_2 a1_0 a1_1 l1_2 a2_0 a2_1)) else (compositorlaw09_BufferPaste.j0 k true a0_0 a0_1 l0_2 a1_0 a1_1 l1_2 a2_0 a2_1))) = some true := h
 clear h
 have HC4 := Aside0.mk H
 clear H
 go_enter Try.func10, Try.ntmps10
 go_upto_region 1 with (first | ((with_reducible refine gate_dst (N := 3) rfl ?_); refine box_event ?hg (N := 3) ?hd (cs := #[.int .i64 a0_0, .int .i64 a0_1, .slice A0_2 l0_2.length c0_2]) (t := 27) ?hr ?_; (case hd => rfl); (case hg => rfl); (case hr => first | (go_simp; done) | (go_simp; rfl)); intro gb585 hg w5 hbox hb; have n0_ := hb_ HB hb; have n1_ := Aside0.mk (hbox); have n2_ := Aside0.mk ((by rw [hg]; exact (below_size (hq_ HB)) : w.heap.size ≤ gb585)); have n3_ := Aside0.mk ((by rw [hg]; exact (below_size (hq_ HB)) : w.heap.size ≤ gb585)); clear HB; have HB := n0_; have BK585 := n1_; have GW585 := n2_; have GE585 := n3_; clear n0_ n1_ n2_ n3_; clear hb hbox hg) | ((with_reducible refine gate_dst (N := 4) rfl ?_); refine box_event ?hg (N := 4) ?hd (cs := #[.int .i64 a1_0, .int .i64 a1_1, .slice A1_2 l1_2.length c1_2]) (t := 27) ?hr ?_; (case hd => rfl); (case hg => rfl); (case hr => first | (go_simp; done) | (go_simp; rfl)); intro gb586 hg w6 hbox hb; have n0_ := bb_ BK585 hb; have n1_ := hb_ HB hb; have n2_ := Aside0.mk (hbox); have n3_ := Aside0.mk ((by rw [hg]; exact (below_size (hq_ HB)) : w.heap.size ≤ gb586)); have n4_ := Aside0.mk ((by rw [hg]; exact (below_size (hq_ HB)) : w.heap.size ≤ gb586)); have n5_ := Aside0.mk ((by rw [hg]; exact Nat.ne_of_lt (blk_lt (g := gb585) (o := .cells #[.int .i64 a0_0, .int .i64 a0_1, .slice A0_2 l0_2.length c0_2] 27 (0, 0)) (bq_ BK585)) : gb585 ≠ gb586)); have n6_ := Aside0.mk ((by rw [hg]; exact Nat.ne_of_gt (blk_lt (g := gb585) (o := .cells #[.int .i64 a0_0, .int .i64 a0_1, .slice A0_2 l0_2.length c0_2] 27 (0, 0)) (bq_ BK585)) : gb586 ≠ gb585)); clear BK585; clear HB; have BK585 := n0_; have HB := n1_; have BK586 := n2_; have GW586 := n3_; have GE586 := n4_; have NB585_586 := n5_; have NB586_585 := n6_; clear n0_ n1_ n2_ n3_ n4_ n5_ n6_; clear hb hbox hg) | ((with_reducible refine gate_dst (N := 5) rfl ?_); refine box_event ?hg (N := 5) ?hd (cs := #[.int .i64 a2_0, .int .i64 a2_1]) (t := 41) ?hr ?_; (case hd => rfl); (case hg => rfl); (case hr => first | (go_simp; done) | (go_simp; rfl)); intro gb587 hg w7 hbox hb; have n0_ := bb_ BK585 hb; have n1_ := bb_ BK586 hb; have n2_ := hb_ HB hb; have n3_ := Aside0.mk (hbox); have n4_ := Aside0.mk ((by rw [hg]; exact (below_size (hq_ HB)) : w.heap.size ≤ gb587)); have n5_ := Aside0.mk ((by rw [hg]; exact (below_size (hq_ HB)) : w.heap.size ≤ gb587)); have n6_ := Aside0.mk ((by rw [hg]; exact Nat.ne_of_lt (blk_lt (g := gb585) (o := .cells #[.int .i64 a0_0, .int .i64 a0_1, .slice A0_2 l0_2.length c0_2] 27 (0, 0)) (bq_ BK585)) : gb585 ≠ gb587)); have n7_ := Aside0.mk ((by rw [hg]; exact Nat.ne_of_gt (blk_lt (g := gb585) (o := .cells #[.int .i64 a0_0, .int .i64 a0_1, .slice A0_2 l0_2.length c0_2] 27 (0, 0)) (bq_ BK585)) : gb587 ≠ gb585)); have n8_ := Aside0.mk ((by rw [hg]; exact Nat.ne_of_lt (blk_lt (g := gb586) (o := .cells #[.int .i64 a1_0, .int .i64 a1_1, .slice A1_2 l1_2.length c1_2] 27 (0, 0)) (bq_ BK586)) : gb586 ≠ gb587)); have n9_ := Aside0.mk ((by rw [hg]; exact Nat.ne_of_gt (blk_lt (g := gb586) (o := .cells #[.int .i64 a1_0, .int .i64 a1_1, .slice A1_2 l1_2.length c1_2] 27 (0, 0)) (bq_ BK586)) : gb587 ≠ gb586)); clear BK585; clear BK586; clear HB; have BK585 := n0_; have BK586 := n1_; have HB := n2_; have BK587 := n3_; have GW587 := n4_; have GE587 := n5_; have NB585_587 := n6_; have NB587_585 := n7_; have NB586_587 := n8_; have NB587_586 := n9_; clear n0_ n1_ n2_ n3_ n4_ n5_ n6_ n7_ n8_ n9_; clear hb hbox hg))
 (try simp only [Act.put, List.setIfInBounds_toArray, List.set_cons_zero, List.set_cons_succ])
 go_cut [23] (fun v23 wc => ∃ (kq : Nat) (x23_3 : Bool), v23 = .bool x23_3 ∧ Aside0 (compositorlaw09_BufferPaste.j0 kq x23_3 a0_0 a0_1 l0_2 a1_0 a1_1 l1_2 a2_0 a2_1 = some true) ∧ Aside0 (kq ≤ k) ∧ Aside0 (wc.heap[gb585]? = some (.cells #[.int .i64 a0_0, .int .i64 a0_1, (.slice A0_2 l0_2.length c0_2)] 27 (0, 0))) ∧ Aside0 (wc.heap[gb586]? = some (.cells #[.int .i64 a1_0, .int .i64 a1_1, (.slice A1_2 l1_2.length c1_2)] 27 (0, 0))) ∧ Aside0 (wc.heap[gb587]? = some (.cells #[.int .i64 a2_0, .int .i64 a2_1] 41 (0, 0))) ∧ Aside0 (Below w.heap.size w wc))
 case first =>
  have H := HC4.out
  clear HC4
  replace H := Option.bind_eq_some_iff.mp H
  obtain ⟨t588, A80, H⟩ := H
  try dsimp only at H
  have A8 := Aside0.mk A80
  clear A80
  by_cases c9 : t588 = true
  ·
   subst c9
   have H1 : ((compositorlaw09_small.f a1_0 a1_1 l1_2).bind fun t589 => (compositorlaw09_BufferPaste.j0 k (!t589) a0_0 a0_1 l0_2 a1_0 a1_1 l1_2 a2_0 a2_1)) = some true := by rw [if_pos rfl] at H; exact H
   clear H
   have H := H1
   clear H1
   replace H := Option.bind_eq_some_iff.mp H
   obtain ⟨t589, A100, H⟩ := H
   try dsimp only at H
   have A10 := Aside0.mk A100
   clear A100
   have H' := Aside0.mk H
   clear H
   have hnb11 := NB585_586.out
   have hnc11 := NB586_585.out
   have hnb12 := NB585_587.out
   have hnc12 := NB587_585.out
   have hcz13_0 : w7.cell? ⟨gb585, 0, none⟩ = some (.int .i64 a0_0) := (blk_cell BK585.out 0).trans rfl
   have hcz13_1 : w7.cell? ⟨gb585, 1, none⟩ = some (.int .i64 a0_1) := (blk_cell BK585.out 1).trans rfl
   have hcz13_2 : w7.cell? ⟨gb585, 2, none⟩ = some (.slice A0_2 l0_2.length c0_2) := (blk_cell BK585.out 2).trans rfl
   have hfz13_0 := blk_frozen BK585.out 0
   have hfz13_1 := blk_frozen BK585.out 1
   have hfz13_2 := blk_frozen BK585.out 2
   go_wp2_with (first | ((with_reducible refine gate_callee (f := 22) rfl ?_); refine goesL_ (some 17) rfl rfl Try.func22 (by kernel_rfl) rfl #[.agg #[.int .i64 a0_0, .int .i64 a0_1, .slice A0_2 l0_2.length c0_2]] rfl (by (try simp only [List.map_toArray, List.map_cons, List.map_nil]) <;> rfl) ?_; (with_reducible refine (compositorlaw09_small.calls a0_0 a0_1 _ _ l0_2 true _ ?side1 ?side2 A8.out).mono ?_); (case side1 => repeat (first | exact (Kd.C_below HR0_2.out HB.out) | (with_reducible refine Kd.C_alloc ?_ _) | (with_reducible refine Kd.C_drewN ?_ _) | (with_reducible refine Kd.C_drew ?_))); (case side2 => exact HC0_2.out); rintro e w14 ⟨rfl, hb⟩; refine ⟨_, rfl, ?_⟩; have n0_ := bb_ BK585 hb; have n1_ := bb_ BK586 hb; have n2_ := bb_ BK587 hb; have n3_ := hb_ HB hb; clear BK585; clear BK586; clear BK587; clear HB; have BK585 := n0_; have BK586 := n1_; have BK587 := n2_; have HB := n3_; clear n0_ n1_ n2_ n3_; (try clear hb); (try clear hb2); (try clear hk); (try clear hi); have hnb15 := NB586_587.out; have hnc15 := NB587_586.out; have hcz16_0 : w14.cell? ⟨gb586, 0, none⟩ = some (.int .i64 a1_0) := (blk_cell BK586.out 0).trans rfl; have hcz16_1 : w14.cell? ⟨gb586, 1, none⟩ = some (.int .i64 a1_1) := (blk_cell BK586.out 1).trans rfl; have hcz16_2 : w14.cell? ⟨gb586, 2, none⟩ = some (.slice A1_2 l1_2.length c1_2) := (blk_cell BK586.out 2).trans rfl; have hfz16_0 := blk_frozen BK586.out 0; have hfz16_1 := blk_frozen BK586.out 1; have hfz16_2 := blk_frozen BK586.out 2) | (go_at_call 22; (with_reducible refine (compositorlaw09_small.calls a1_0 a1_1 _ _ l1_2 t589 _ ?side1 ?side2 A10.out).mono ?_); (case side1 => repeat (first | exact (Kd.C_below HR1_2.out HB.out) | (with_reducible refine Kd.C_alloc ?_ _) | (with_reducible refine Kd.C_drewN ?_ _) | (with_reducible refine Kd.C_drew ?_))); (case side2 => exact HC1_2.out); rintro e w17 ⟨rfl, hb⟩; have n0_ := bb_ BK585 hb; have n1_ := bb_ BK586 hb; have n2_ := bb_ BK587 hb; have n3_ := hb_ HB hb; clear BK585; clear BK586; clear BK587; clear HB; have BK585 := n0_; have BK586 := n1_; have BK587 := n2_; have HB := n3_; clear n0_ n1_ n2_ n3_; (try clear hb); (try clear hb2); (try clear hk); (try clear hi)))
   go_meet
   case rel => exact ⟨_, (!t589), (by first | rfl | (simp; done) | (simp [*]; done)), H', ⟨by first | omega | exact Nat.le_refl _⟩, bf_ BK585, bf_ BK586, bf_ BK587, ⟨by repeat (first | (with_reducible first | exact HB.out | apply below_alloc | apply pw_below_drewN | apply below_drew1 | refine below_set ?_ GE585.out | refine below_set ?_ GE586.out | refine below_set ?_ GE587.out) | exact HB.out)⟩⟩
  ·
   replace c9 := Bool.eq_false_iff.mpr c9
   subst c9
   have H1 : (compositorlaw09_BufferPaste.j0 k true a0_0 a0_1 l0_2 a1_0 a1_1 l1_2 a2_0 a2_1) = some true := by rw [if_neg (show ¬ (false = true) by decide)] at H; exact H
   clear H
   have H := H1
   clear H1
   have H' := Aside0.mk H
   clear H
   have hnb18 := NB585_586.out
   have hnc18 := NB586_585.out
   have hnb19 := NB585_587.out
   have hnc19 := NB587_585.out
   have hcz20_0 : w7.cell? ⟨gb585, 0, none⟩ = some (.int .i64 a0_0) := (blk_cell BK585.out 0).trans rfl
   have hcz20_1 : w7.cell? ⟨gb585, 1, none⟩ = some (.int .i64 a0_1) := (blk_cell BK585.out 1).trans rfl
   have hcz20_2 : w7.cell? ⟨gb585, 2, none⟩ = some (.slice A0_2 l0_2.length c0_2) := (blk_cell BK585.out 2).trans rfl
   have hfz20_0 := blk_frozen BK585.out 0
   have hfz20_1 := blk_frozen BK585.out 1
   have hfz20_2 := blk_frozen BK585.out 2
   go_wp2_with (first | ((with_reducible refine gate_callee (f := 22) rfl ?_); refine goesL_ (some 17) rfl rfl Try.func22 (by kernel_rfl) rfl #[.agg #[.int .i64 a0_0, .int .i64 a0_1, .slice A0_2 l0_2.length c0_2]] rfl (by (try simp only [List.map_toArray, List.map_cons, List.map_nil]) <;> rfl) ?_; (with_reducible refine (compositorlaw09_small.calls a0_0 a0_1 _ _ l0_2 false _ ?side1 ?side2 A8.out).mono ?_); (case side1 => repeat (first | exact (Kd.C_below HR0_2.out HB.out) | (with_reducible refine Kd.C_alloc ?_ _) | (with_reducible refine Kd.C_drewN ?_ _) | (with_reducible refine Kd.C_drew ?_))); (case side2 => exact HC0_2.out); rintro e w21 ⟨rfl, hb⟩; refine ⟨_, rfl, ?_⟩; have n0_ := bb_ BK585 hb; have n1_ := bb_ BK586 hb; have n2_ := bb_ BK587 hb; have n3_ := hb_ HB hb; clear BK585; clear BK586; clear BK587; clear HB; have BK585 := n0_; have BK586 := n1_; have BK587 := n2_; have HB := n3_; clear n0_ n1_ n2_ n3_; (try clear hb); (try clear hb2); (try clear hk); (try clear hi)))
   go_meet
   case rel => exact ⟨_, (true), (by first | rfl | (simp; done) | (simp [*]; done)), H', ⟨by first | omega | exact Nat.le_refl _⟩, bf_ BK585, bf_ BK586, bf_ BK587, ⟨by repeat (first | (with_reducible first | exact HB.out | apply below_alloc | apply pw_below_drewN | apply below_drew1 | refine below_set ?_ GE585.out | refine below_set ?_ GE586.out | refine below_set ?_ GE587.out) | exact HB.out)⟩⟩
 case rest =>
  clear HC4
  try clear c1
  try clear c2
  try clear p2
  try clear c9
  try clear c10
  try clear c11
  try clear c12
  try clear c15
  try clear c18
  try clear c19
  try clear hcz13_0
  try clear hcz13_1
  try clear hcz13_2
  try clear hcz16_0
  try clear hcz16_1
  try clear hcz16_2
  try clear hcz20_0
  try clear hcz20_1
  try clear hcz20_2
  try clear hfz13_0
  try clear hfz13_1
  try clear hfz13_2
  try clear hfz16_0
  try clear hfz16_1
  try clear hfz16_2
  try clear hfz20_0
  try clear hfz20_1
  try clear hfz20_2
  obtain ⟨kq, x23_3, rfl, HA, HJ3, BK585, BK586, BK587, HB⟩ := hcut
  cases kq with
  | zero => exact absurd HA.out (by simp [compositorlaw09_BufferPaste.j0])
  | succ kj3 =>
   have H := HA.out
   clear HA
   simp only [compositorlaw09_BufferPaste.j0] at H
   by_cases c22 : x23_3 = true
   ·
    subst c22
    have H1 : ((compositorlaw09_exampleHolds.f kj3).bind fun t590 => (some t590)) = some true := by rw [if_pos rfl] at H; exact H
    clear H
    have H := H1
    clear H1
    replace H := Option.bind_eq_some_iff.mp H
    obtain ⟨t590, A230, H⟩ := H
    try dsimp only at H
    have A23 := Aside0.mk A230
    clear A230
    have Hq_ := Option.some.inj H
    go_wp2_with (first | ((with_reducible refine gate_callee (f := 13) rfl ?_); refine goesL_ (some 24) rfl rfl Try.func13 (by kernel_rfl) rfl #[] rfl (by (try simp only [List.map_toArray, List.map_cons, List.map_nil]) <;> rfl) ?_; (with_reducible refine (compositorlaw09_exampleHolds.calls kj3  t590 _ A23.out).mono ?_); rintro e w24 ⟨rfl, hb⟩; refine ⟨_, rfl, ?_⟩; have n0_ := bb_ BK585 hb; have n1_ := bb_ BK586 hb; have n2_ := bb_ BK587 hb; have n3_ := hb_ HB hb; clear BK585; clear BK586; clear BK587; clear HB; have BK585 := n0_; have BK586 := n1_; have BK587 := n2_; have HB := n3_; clear n0_ n1_ n2_ n3_; (try clear hb); (try clear hb2); (try clear hk); (try clear hi)))
    go_ret
    exact ⟨by first | rfl | (simp [errW_none, errW_some] <;> rfl) | (simp [*, errW_none, errW_some] <;> rfl), by repeat (first | (with_reducible first | exact HB.out | apply below_alloc | apply pw_below_drewN | apply below_drew1 | refine below_set ?_ GE585.out | refine below_set ?_ GE586.out | refine below_set ?_ GE587.out) | exact HB.out)⟩
   ·
    replace c22 := Bool.eq_false_iff.mpr c22
    subst c22
    have H1 : ((compositorlaw09_clone.f a0_0 a0_1 l0_2).bind fun bt591 => ((compositorlaw09_clone.f a1_0 a1_1 l1_2).bind fun bt596 => ((buffer_Paste.f a0_0 a0_1 l0_2 a1_0 a1_1 l1_2 a2_0 a2_1).bind fun bt603 => ((compositorref09_Paste.f kj3 bt591.1 bt591.2.1 bt591.2.2 bt596.1 bt596.2.1 bt596.2.2 a2_0 a2_1).bind fun bt610 => (if bt603.2.2.2 = bt610.2.2.2 then ((compositorref09_Equal.f kj3 bt603.1 bt603.2.1 bt603.2.2.1 bt610.1 bt610.2.1 bt610.2.2.1).bind fun t617 => (compositorlaw09_BufferPaste.j1 kj3 a2_0 a2_1 (!t617) a0_0 a0_1 l0_2 a1_0 a1_1 l1_2 bt591.1 bt591.2.1 bt591.2.2 bt596.1 bt596.2.1 bt596.2.2)) else (compositorlaw09_BufferPaste.j1 kj3 a2_0 a2_1 true a0_0 a0_1 l0_2 a1_0 a1_1 l1_2 bt591.1 bt591.2.1 bt591.2.2 bt596.1 bt596.2.1 bt596.2.2)))))) = some true := by rw [if_neg (show ¬ (false = true) by decide)] at H; exact H
    clear H
    have H := H1
    clear H1
    replace H := Option.bind_eq_some_iff.mp H
    obtain ⟨⟨t591, t592, t593⟩, A250, H⟩ := H
    try dsimp only at H
    have A25 := Aside0.mk A250
    clear A250
    replace H := Option.bind_eq_some_iff.mp H
    obtain ⟨⟨t596, t597, t598⟩, A260, H⟩ := H
    try dsimp only at H
    have A26 := Aside0.mk A260
    clear A260
    replace H := Option.bind_eq_some_iff.mp H
    obtain ⟨⟨t603, t604, t605, t608⟩, A270, H⟩ := H
    try dsimp only at H
    have A27 := Aside0.mk A270
    clear A270
    replace H := Option.bind_eq_some_iff.mp H
    obtain ⟨⟨t610, t611, t612, t615⟩, A280, H⟩ := H
    try dsimp only at H
    have A28 := Aside0.mk A280
    clear A280
    have HC29 := Aside0.mk H
    clear H
    try go_wp2
    replace BK585 := Aside0.mk (blk_drew BK585.out)
    replace BK586 := Aside0.mk (blk_drew BK586.out)
    replace BK587 := Aside0.mk (blk_drew BK587.out)
    replace HB := Aside0.mk (below_drew1 HB.out)
    refine start_ (n := 6) (S := fun w' => w'.cell? ⟨gb587, 0, none⟩ = some (.int .i64 a2_0) ∧ w'.cell? ⟨gb587, 1, none⟩ = some (.int .i64 a2_1)) (ds := []) #[false, false, false, false, false, false] (by kernel_rfl) rfl rfl ⟨c_ BK587 0, (c_ BK587 1)⟩ (fun hHeld => ?_)
    generalize wc.drew = w30 at BK585 BK586 BK587 HB hHeld ⊢
    refine pure_ (i := 0) (N := some 25) (v := ?_) (a' := ?_) #[true, false, false, false, false, false] rfl rfl (by kernel_rfl) (fun _ _ _ h => h) (Or.inl ⟨by rfl, ?_⟩) ?_ ?_
    rotate_left
    ·
     intro w'
     go_simp
     with_reducible rfl
    rotate_left
    ·
     simp only [Act.put, List.setIfInBounds_toArray, List.set_cons_zero, List.set_cons_succ, i64_w, i32_w]
     rfl
    refine pure_ (i := 2) (N := some 27) (v := ?_) (a' := ?_) #[true, false, true, false, false, false] rfl rfl (by kernel_rfl) (fun _ _ _ h => h) (Or.inl ⟨by rfl, ?_⟩) ?_ ?_
    rotate_left
    ·
     intro w'
     go_simp
     with_reducible rfl
    rotate_left
    ·
     simp only [Act.put, List.setIfInBounds_toArray, List.set_cons_zero, List.set_cons_succ, i64_w, i32_w]
     rfl
    refine take_ (i := 1) (N := some 26) (v := ?_) (a' := ?_) #[true, true, true, false, false, false] rfl rfl (by kernel_rfl) (fun _ _ _ h => h) (Or.inl ⟨by rfl, ?_⟩) hHeld ?_ ?_
    rotate_left
    ·
     rintro w' ⟨s0, s1⟩
     go_simp
     with_reducible rfl
    rotate_left
    ·
     simp only [Act.put, List.setIfInBounds_toArray, List.set_cons_zero, List.set_cons_succ, i64_w, i32_w]
     rfl
    refine pure_ (i := 4) (N := some 7) (v := ?_) (a' := ?_) #[true, true, true, false, true, false] rfl rfl (by kernel_rfl) (fun _ _ _ h => h) (Or.inl ⟨by rfl, ?_⟩) ?_ ?_
    rotate_left
    ·
     intro w'
     go_simp
     with_reducible rfl
    rotate_left
    ·
     simp only [Act.put, List.setIfInBounds_toArray, List.set_cons_zero, List.set_cons_succ, i64_w, i32_w]
     rfl
    refine take_ (i := 3) (N := some 28) (v := ?_) (a' := ?_) #[true, true, true, true, true, false] rfl rfl (by kernel_rfl) (fun _ _ _ h => h) (Or.inl ⟨by rfl, ?_⟩) hHeld ?_ ?_
    rotate_left
    ·
     rintro w' ⟨s0, s1⟩
     go_simp
     with_reducible rfl
    rotate_left
    ·
     simp only [Act.put, List.setIfInBounds_toArray, List.set_cons_zero, List.set_cons_succ, i64_w, i32_w]
     rfl
    refine pure_ (i := 5) (N := some 8) (v := ?_) (a' := ?_) #[true, true, true, true, true, true] rfl rfl (by kernel_rfl) (fun _ _ _ h => h) (Or.inl ⟨by rfl, ?_⟩) ?_ ?_
    rotate_left
    ·
     intro w'
     go_simp
     with_reducible rfl
    rotate_left
    ·
     simp only [Act.put, List.setIfInBounds_toArray, List.set_cons_zero, List.set_cons_succ, i64_w, i32_w]
     rfl
    refine done_ (by kernel_rfl) ?_
    try go_wp2
    replace BK585 := Aside0.mk (blk_drew BK585.out)
    replace BK586 := Aside0.mk (blk_drew BK586.out)
    replace BK587 := Aside0.mk (blk_drew BK587.out)
    replace HB := Aside0.mk (below_drew1 HB.out)
    refine start_ (n := 8) (S := fun w' => w'.cell? ⟨gb585, 0, none⟩ = some (.int .i64 a0_0) ∧ w'.cell? ⟨gb585, 1, none⟩ = some (.int .i64 a0_1) ∧ w'.cell? ⟨gb585, 2, none⟩ = some (.slice A0_2 l0_2.length c0_2) ∧ w'.cell? ⟨gb586, 0, none⟩ = some (.int .i64 a1_0) ∧ w'.cell? ⟨gb586, 1, none⟩ = some (.int .i64 a1_1) ∧ w'.cell? ⟨gb586, 2, none⟩ = some (.slice A1_2 l1_2.length c1_2)) (ds := []) zq10.q0 (by kernel_rfl) rfl rfl ⟨c_ BK585 0, ⟨c_ BK585 1, ⟨c_ BK585 2, ⟨c_ BK586 0, ⟨c_ BK586 1, (c_ BK586 2)⟩⟩⟩⟩⟩ (fun hHeld => ?_); refine with_tabW compositorlaw09_BufferPaste.tab4 compositorlaw09_BufferPaste.bits4 (fun HT_ HW_ => ?_)
    generalize w30.drew = w31 at BK585 BK586 BK587 HB hHeld ⊢
    refine tk6_ 0 29 zq10.q1 HT_ HW_ hHeld ?_
    refine tk6_ 2 31 zq10.q2 HT_ HW_ hHeld ?_
    refine join_ (σ := Value × Value × Nat × Nat) 2 zq10.q3 (fun s_ => [(30, .agg #[.int .i64 t591, .int .i64 t592, s_.1]), (32, .agg #[.int .i64 t596, .int .i64 t597, s_.2.1]), (9, .pointer (some ⟨s_.2.2.1, 0, none⟩)), (10, .pointer (some ⟨s_.2.2.2, 0, none⟩))]) (fun s_ w' => (w'.cell? ⟨gb585, 0, none⟩ = some (.int .i64 a0_0) ∧ w'.cell? ⟨gb585, 1, none⟩ = some (.int .i64 a0_1) ∧ w'.cell? ⟨gb585, 2, none⟩ = some (.slice A0_2 l0_2.length c0_2) ∧ w'.cell? ⟨gb586, 0, none⟩ = some (.int .i64 a1_0) ∧ w'.cell? ⟨gb586, 1, none⟩ = some (.int .i64 a1_1) ∧ w'.cell? ⟨gb586, 2, none⟩ = some (.slice A1_2 l1_2.length c1_2)) ∧ (Kd.R k43 43 w' w.heap.size (fun k_ => some k_ ≠ (s_.2.1 : Value).ownBlock) s_.1 t593) ∧ (Kd.R k43 43 w' w.heap.size (fun k_ => some k_ ≠ (s_.1 : Value).ownBlock) s_.2.1 t598) ∧ (w'.heap[gb585]? = some (.cells #[.int .i64 a0_0, .int .i64 a0_1, .slice A0_2 l0_2.length c0_2] 27 (0, 0))) ∧ (w'.heap[gb586]? = some (.cells #[.int .i64 a1_0, .int .i64 a1_1, .slice A1_2 l1_2.length c1_2] 27 (0, 0))) ∧ (w'.heap[gb587]? = some (.cells #[.int .i64 a2_0, .int .i64 a2_1] 41 (0, 0))) ∧ (w'.heap[s_.2.2.1]? = some (.cells #[.int .i64 0, .int .i64 0, .slice none 0 0] 27 (0, 0))) ∧ (w'.heap[s_.2.2.2]? = some (.cells #[.int .i64 0, .int .i64 0, .slice none 0 0] 27 (0, 0))) ∧ (w.heap.size ≤ s_.2.2.1) ∧ (w.heap.size ≤ s_.2.2.1) ∧ (gb585 ≠ s_.2.2.1) ∧ (s_.2.2.1 ≠ gb585) ∧ (gb586 ≠ s_.2.2.1) ∧ (s_.2.2.1 ≠ gb586) ∧ (gb587 ≠ s_.2.2.1) ∧ (s_.2.2.1 ≠ gb587) ∧ (s_.2.2.2 ≠ s_.2.2.1) ∧ (s_.2.2.1 ≠ s_.2.2.2) ∧ (w.heap.size ≤ s_.2.2.2) ∧ (w.heap.size ≤ s_.2.2.2) ∧ (gb585 ≠ s_.2.2.2) ∧ (s_.2.2.2 ≠ gb585) ∧ (gb586 ≠ s_.2.2.2) ∧ (s_.2.2.2 ≠ gb586) ∧ (gb587 ≠ s_.2.2.2) ∧ (s_.2.2.2 ≠ gb587) ∧ (Below w.heap.size w w')) ?_ ?_
    rotate_left
    ·
     intro hJ1_3_4_5
     refine join_ (σ := Value × Value × Nat) 3 zq10.q4 (fun s_ => [(30, .agg #[.int .i64 t591, .int .i64 t592, s_.1]), (32, .agg #[.int .i64 t596, .int .i64 t597, s_.2.1]), (9, .pointer (some ⟨s_.2.2, 0, none⟩))]) (fun s_ w' => (w'.cell? ⟨gb585, 0, none⟩ = some (.int .i64 a0_0) ∧ w'.cell? ⟨gb585, 1, none⟩ = some (.int .i64 a0_1) ∧ w'.cell? ⟨gb585, 2, none⟩ = some (.slice A0_2 l0_2.length c0_2) ∧ w'.cell? ⟨gb586, 0, none⟩ = some (.int .i64 a1_0) ∧ w'.cell? ⟨gb586, 1, none⟩ = some (.int .i64 a1_1) ∧ w'.cell? ⟨gb586, 2, none⟩ = some (.slice A1_2 l1_2.length c1_2)) ∧ (Kd.R k43 43 w' w.heap.size (fun k_ => some k_ ≠ (s_.2.1 : Value).ownBlock) s_.1 t593) ∧ (Kd.R k43 43 w' w.heap.size (fun k_ => some k_ ≠ (s_.1 : Value).ownBlock) s_.2.1 t598) ∧ (w'.heap[gb585]? = some (.cells #[.int .i64 a0_0, .int .i64 a0_1, .slice A0_2 l0_2.length c0_2] 27 (0, 0))) ∧ (w'.heap[gb586]? = some (.cells #[.int .i64 a1_0, .int .i64 a1_1, .slice A1_2 l1_2.length c1_2] 27 (0, 0))) ∧ (w'.heap[gb587]? = some (.cells #[.int .i64 a2_0, .int .i64 a2_1] 41 (0, 0))) ∧ (w'.heap[s_.2.2]? = some (.cells #[.int .i64 0, .int .i64 0, .slice none 0 0] 27 (0, 0))) ∧ (w.heap.size ≤ s_.2.2) ∧ (w.heap.size ≤ s_.2.2) ∧ (gb585 ≠ s_.2.2) ∧ (s_.2.2 ≠ gb585) ∧ (gb586 ≠ s_.2.2) ∧ (s_.2.2 ≠ gb586) ∧ (gb587 ≠ s_.2.2) ∧ (s_.2.2 ≠ gb587) ∧ (Below w.heap.size w w')) ?_ ?_
     rotate_left
     ·
      intro hJ1_3_4
      refine join_ (σ := Value × Value × Nat) 3 zq10.q5 (fun s_ => [(30, .agg #[.int .i64 t591, .int .i64 t592, s_.1]), (32, .agg #[.int .i64 t596, .int .i64 t597, s_.2.1]), (10, .pointer (some ⟨s_.2.2, 0, none⟩))]) (fun s_ w' => (w'.cell? ⟨gb585, 0, none⟩ = some (.int .i64 a0_0) ∧ w'.cell? ⟨gb585, 1, none⟩ = some (.int .i64 a0_1) ∧ w'.cell? ⟨gb585, 2, none⟩ = some (.slice A0_2 l0_2.length c0_2) ∧ w'.cell? ⟨gb586, 0, none⟩ = some (.int .i64 a1_0) ∧ w'.cell? ⟨gb586, 1, none⟩ = some (.int .i64 a1_1) ∧ w'.cell? ⟨gb586, 2, none⟩ = some (.slice A1_2 l1_2.length c1_2)) ∧ (Kd.R k43 43 w' w.heap.size (fun k_ => some k_ ≠ (s_.2.1 : Value).ownBlock) s_.1 t593) ∧ (Kd.R k43 43 w' w.heap.size (fun k_ => some k_ ≠ (s_.1 : Value).ownBlock) s_.2.1 t598) ∧ (w'.heap[gb585]? = some (.cells #[.int .i64 a0_0, .int .i64 a0_1, .slice A0_2 l0_2.length c0_2] 27 (0, 0))) ∧ (w'.heap[gb586]? = some (.cells #[.int .i64 a1_0, .int .i64 a1_1, .slice A1_2 l1_2.length c1_2] 27 (0, 0))) ∧ (w'.heap[gb587]? = some (.cells #[.int .i64 a2_0, .int .i64 a2_1] 41 (0, 0))) ∧ (w'.heap[s_.2.2]? = some (.cells #[.int .i64 0, .int .i64 0, .slice none 0 0] 27 (0, 0))) ∧ (w.heap.size ≤ s_.2.2) ∧ (w.heap.size ≤ s_.2.2) ∧ (gb585 ≠ s_.2.2) ∧ (s_.2.2 ≠ gb585) ∧ (gb586 ≠ s_.2.2) ∧ (s_.2.2 ≠ gb586) ∧ (gb587 ≠ s_.2.2) ∧ (s_.2.2 ≠ gb587) ∧ (Below w.heap.size w w')) ?_ ?_
      rotate_left
      ·
       intro hJ1_3_5
       refine join_ (σ := Value × Nat × Nat) 3 zq10.q6 (fun s_ => [(30, .agg #[.int .i64 t591, .int .i64 t592, s_.1]), (9, .pointer (some ⟨s_.2.1, 0, none⟩)), (10, .pointer (some ⟨s_.2.2, 0, none⟩))]) (fun s_ w' => (w'.cell? ⟨gb585, 0, none⟩ = some (.int .i64 a0_0) ∧ w'.cell? ⟨gb585, 1, none⟩ = some (.int .i64 a0_1) ∧ w'.cell? ⟨gb585, 2, none⟩ = some (.slice A0_2 l0_2.length c0_2) ∧ w'.cell? ⟨gb586, 0, none⟩ = some (.int .i64 a1_0) ∧ w'.cell? ⟨gb586, 1, none⟩ = some (.int .i64 a1_1) ∧ w'.cell? ⟨gb586, 2, none⟩ = some (.slice A1_2 l1_2.length c1_2)) ∧ (Kd.R k43 43 w' w.heap.size (fun _ => True) s_.1 t593) ∧ (w'.heap[gb585]? = some (.cells #[.int .i64 a0_0, .int .i64 a0_1, .slice A0_2 l0_2.length c0_2] 27 (0, 0))) ∧ (w'.heap[gb586]? = some (.cells #[.int .i64 a1_0, .int .i64 a1_1, .slice A1_2 l1_2.length c1_2] 27 (0, 0))) ∧ (w'.heap[gb587]? = some (.cells #[.int .i64 a2_0, .int .i64 a2_1] 41 (0, 0))) ∧ (w'.heap[s_.2.1]? = some (.cells #[.int .i64 0, .int .i64 0, .slice none 0 0] 27 (0, 0))) ∧ (w'.heap[s_.2.2]? = some (.cells #[.int .i64 0, .int .i64 0, .slice none 0 0] 27 (0, 0))) ∧ (w.heap.size ≤ s_.2.1) ∧ (w.heap.size ≤ s_.2.1) ∧ (gb585 ≠ s_.2.1) ∧ (s_.2.1 ≠ gb585) ∧ (gb586 ≠ s_.2.1) ∧ (s_.2.1 ≠ gb586) ∧ (gb587 ≠ s_.2.1) ∧ (s_.2.1 ≠ gb587) ∧ (s_.2.2 ≠ s_.2.1) ∧ (s_.2.1 ≠ s_.2.2) ∧ (w.heap.size ≤ s_.2.2) ∧ (w.heap.size ≤ s_.2.2) ∧ (gb585 ≠ s_.2.2) ∧ (s_.2.2 ≠ gb585) ∧ (gb586 ≠ s_.2.2) ∧ (s_.2.2 ≠ gb586) ∧ (gb587 ≠ s_.2.2) ∧ (s_.2.2 ≠ gb587) ∧ (Below w.heap.size w w')) ?_ ?_
       rotate_left
       ·
        intro hJ1_4_5
        refine join_ (σ := Value × Value) 4 zq10.q7 (fun s_ => [(30, .agg #[.int .i64 t591, .int .i64 t592, s_.1]), (32, .agg #[.int .i64 t596, .int .i64 t597, s_.2])]) (fun s_ w' => (w'.cell? ⟨gb585, 0, none⟩ = some (.int .i64 a0_0) ∧ w'.cell? ⟨gb585, 1, none⟩ = some (.int .i64 a0_1) ∧ w'.cell? ⟨gb585, 2, none⟩ = some (.slice A0_2 l0_2.length c0_2) ∧ w'.cell? ⟨gb586, 0, none⟩ = some (.int .i64 a1_0) ∧ w'.cell? ⟨gb586, 1, none⟩ = some (.int .i64 a1_1) ∧ w'.cell? ⟨gb586, 2, none⟩ = some (.slice A1_2 l1_2.length c1_2)) ∧ (Kd.R k43 43 w' w.heap.size (fun k_ => some k_ ≠ (s_.2 : Value).ownBlock) s_.1 t593) ∧ (Kd.R k43 43 w' w.heap.size (fun k_ => some k_ ≠ (s_.1 : Value).ownBlock) s_.2 t598) ∧ (w'.heap[gb585]? = some (.cells #[.int .i64 a0_0, .int .i64 a0_1, .slice A0_2 l0_2.length c0_2] 27 (0, 0))) ∧ (w'.heap[gb586]? = some (.cells #[.int .i64 a1_0, .int .i64 a1_1, .slice A1_2 l1_2.length c1_2] 27 (0, 0))) ∧ (w'.heap[gb587]? = some (.cells #[.int .i64 a2_0, .int .i64 a2_1] 41 (0, 0))) ∧ (Below w.heap.size w w')) ?_ ?_
        rotate_left
        ·
         intro hJ1_3
         refine join_ (σ := Value × Nat) 4 zq10.q8 (fun s_ => [(30, .agg #[.int .i64 t591, .int .i64 t592, s_.1]), (9, .pointer (some ⟨s_.2, 0, none⟩))]) (fun s_ w' => (w'.cell? ⟨gb585, 0, none⟩ = some (.int .i64 a0_0) ∧ w'.cell? ⟨gb585, 1, none⟩ = some (.int .i64 a0_1) ∧ w'.cell? ⟨gb585, 2, none⟩ = some (.slice A0_2 l0_2.length c0_2) ∧ w'.cell? ⟨gb586, 0, none⟩ = some (.int .i64 a1_0) ∧ w'.cell? ⟨gb586, 1, none⟩ = some (.int .i64 a1_1) ∧ w'.cell? ⟨gb586, 2, none⟩ = some (.slice A1_2 l1_2.length c1_2)) ∧ (Kd.R k43 43 w' w.heap.size (fun _ => True) s_.1 t593) ∧ (w'.heap[gb585]? = some (.cells #[.int .i64 a0_0, .int .i64 a0_1, .slice A0_2 l0_2.length c0_2] 27 (0, 0))) ∧ (w'.heap[gb586]? = some (.cells #[.int .i64 a1_0, .int .i64 a1_1, .slice A1_2 l1_2.length c1_2] 27 (0, 0))) ∧ (w'.heap[gb587]? = some (.cells #[.int .i64 a2_0, .int .i64 a2_1] 41 (0, 0))) ∧ (w'.heap[s_.2]? = some (.cells #[.int .i64 0, .int .i64 0, .slice none 0 0] 27 (0, 0))) ∧ (w.heap.size ≤ s_.2) ∧ (w.heap.size ≤ s_.2) ∧ (gb585 ≠ s_.2) ∧ (s_.2 ≠ gb585) ∧ (gb586 ≠ s_.2) ∧ (s_.2 ≠ gb586) ∧ (gb587 ≠ s_.2) ∧ (s_.2 ≠ gb587) ∧ (Below w.heap.size w w')) ?_ ?_
         rotate_left
         ·
          intro hJ1_4
          refine join_ (σ := Value × Nat) 4 zq10.q9 (fun s_ => [(30, .agg #[.int .i64 t591, .int .i64 t592, s_.1]), (10, .pointer (some ⟨s_.2, 0, none⟩))]) (fun s_ w' => (w'.cell? ⟨gb585, 0, none⟩ = some (.int .i64 a0_0) ∧ w'.cell? ⟨gb585, 1, none⟩ = some (.int .i64 a0_1) ∧ w'.cell? ⟨gb585, 2, none⟩ = some (.slice A0_2 l0_2.length c0_2) ∧ w'.cell? ⟨gb586, 0, none⟩ = some (.int .i64 a1_0) ∧ w'.cell? ⟨gb586, 1, none⟩ = some (.int .i64 a1_1) ∧ w'.cell? ⟨gb586, 2, none⟩ = some (.slice A1_2 l1_2.length c1_2)) ∧ (Kd.R k43 43 w' w.heap.size (fun _ => True) s_.1 t593) ∧ (w'.heap[gb585]? = some (.cells #[.int .i64 a0_0, .int .i64 a0_1, .slice A0_2 l0_2.length c0_2] 27 (0, 0))) ∧ (w'.heap[gb586]? = some (.cells #[.int .i64 a1_0, .int .i64 a1_1, .slice A1_2 l1_2.length c1_2] 27 (0, 0))) ∧ (w'.heap[gb587]? = some (.cells #[.int .i64 a2_0, .int .i64 a2_1] 41 (0, 0))) ∧ (w'.heap[s_.2]? = some (.cells #[.int .i64 0, .int .i64 0, .slice none 0 0] 27 (0, 0))) ∧ (w.heap.size ≤ s_.2) ∧ (w.heap.size ≤ s_.2) ∧ (gb585 ≠ s_.2) ∧ (s_.2 ≠ gb585) ∧ (gb586 ≠ s_.2) ∧ (s_.2 ≠ gb586) ∧ (gb587 ≠ s_.2) ∧ (s_.2 ≠ gb587) ∧ (Below w.heap.size w w')) ?_ ?_
          rotate_left
          ·
           intro hJ1_5
           refine join_ (σ := Nat × Nat) 4 zq10.q10 (fun s_ => [(9, .pointer (some ⟨s_.1, 0, none⟩)), (10, .pointer (some ⟨s_.2, 0, none⟩))]) (fun s_ w' => (w'.cell? ⟨gb585, 0, none⟩ = some (.int .i64 a0_0) ∧ w'.cell? ⟨gb585, 1, none⟩ = some (.int .i64 a0_1) ∧ w'.cell? ⟨gb585, 2, none⟩ = some (.slice A0_2 l0_2.length c0_2) ∧ w'.cell? ⟨gb586, 0, none⟩ = some (.int .i64 a1_0) ∧ w'.cell? ⟨gb586, 1, none⟩ = some (.int .i64 a1_1) ∧ w'.cell? ⟨gb586, 2, none⟩ = some (.slice A1_2 l1_2.length c1_2)) ∧ (w'.heap[gb585]? = some (.cells #[.int .i64 a0_0, .int .i64 a0_1, .slice A0_2 l0_2.length c0_2] 27 (0, 0))) ∧ (w'.heap[gb586]? = some (.cells #[.int .i64 a1_0, .int .i64 a1_1, .slice A1_2 l1_2.length c1_2] 27 (0, 0))) ∧ (w'.heap[gb587]? = some (.cells #[.int .i64 a2_0, .int .i64 a2_1] 41 (0, 0))) ∧ (w'.heap[s_.1]? = some (.cells #[.int .i64 0, .int .i64 0, .slice none 0 0] 27 (0, 0))) ∧ (w'.heap[s_.2]? = some (.cells #[.int .i64 0, .int .i64 0, .slice none 0 0] 27 (0, 0))) ∧ (w.heap.size ≤ s_.1) ∧ (w.heap.size ≤ s_.1) ∧ (gb585 ≠ s_.1) ∧ (s_.1 ≠ gb585) ∧ (gb586 ≠ s_.1) ∧ (s_.1 ≠ gb586) ∧ (gb587 ≠ s_.1) ∧ (s_.1 ≠ gb587) ∧ (s_.2 ≠ s_.1) ∧ (s_.1 ≠ s_.2) ∧ (w.heap.size ≤ s_.2) ∧ (w.heap.size ≤ s_.2) ∧ (gb585 ≠ s_.2) ∧ (s_.2 ≠ gb585) ∧ (gb586 ≠ s_.2) ∧ (s_.2 ≠ gb586) ∧ (gb587 ≠ s_.2) ∧ (s_.2 ≠ gb587) ∧ (Below w.heap.size w w')) ?_ ?_
           rotate_left
           ·
            intro hJ4_5
            refine join_ (σ := Value) 5 zq10.q11 (fun s_ => [(30, .agg #[.int .i64 t591, .int .i64 t592, s_])]) (fun s_ w' => (w'.cell? ⟨gb585, 0, none⟩ = some (.int .i64 a0_0) ∧ w'.cell? ⟨gb585, 1, none⟩ = some (.int .i64 a0_1) ∧ w'.cell? ⟨gb585, 2, none⟩ = some (.slice A0_2 l0_2.length c0_2) ∧ w'.cell? ⟨gb586, 0, none⟩ = some (.int .i64 a1_0) ∧ w'.cell? ⟨gb586, 1, none⟩ = some (.int .i64 a1_1) ∧ w'.cell? ⟨gb586, 2, none⟩ = some (.slice A1_2 l1_2.length c1_2)) ∧ (Kd.R k43 43 w' w.heap.size (fun _ => True) s_ t593) ∧ (w'.heap[gb585]? = some (.cells #[.int .i64 a0_0, .int .i64 a0_1, .slice A0_2 l0_2.length c0_2] 27 (0, 0))) ∧ (w'.heap[gb586]? = some (.cells #[.int .i64 a1_0, .int .i64 a1_1, .slice A1_2 l1_2.length c1_2] 27 (0, 0))) ∧ (w'.heap[gb587]? = some (.cells #[.int .i64 a2_0, .int .i64 a2_1] 41 (0, 0))) ∧ (Below w.heap.size w w')) ?_ ?_
            rotate_left
            ·
             intro hJ1
             refine join_ (σ := Nat) 5 zq10.q12 (fun s_ => [(9, .pointer (some ⟨s_, 0, none⟩))]) (fun s_ w' => (w'.cell? ⟨gb585, 0, none⟩ = some (.int .i64 a0_0) ∧ w'.cell? ⟨gb585, 1, none⟩ = some (.int .i64 a0_1) ∧ w'.cell? ⟨gb585, 2, none⟩ = some (.slice A0_2 l0_2.length c0_2) ∧ w'.cell? ⟨gb586, 0, none⟩ = some (.int .i64 a1_0) ∧ w'.cell? ⟨gb586, 1, none⟩ = some (.int .i64 a1_1) ∧ w'.cell? ⟨gb586, 2, none⟩ = some (.slice A1_2 l1_2.length c1_2)) ∧ (w'.heap[gb585]? = some (.cells #[.int .i64 a0_0, .int .i64 a0_1, .slice A0_2 l0_2.length c0_2] 27 (0, 0))) ∧ (w'.heap[gb586]? = some (.cells #[.int .i64 a1_0, .int .i64 a1_1, .slice A1_2 l1_2.length c1_2] 27 (0, 0))) ∧ (w'.heap[gb587]? = some (.cells #[.int .i64 a2_0, .int .i64 a2_1] 41 (0, 0))) ∧ (w'.heap[s_]? = some (.cells #[.int .i64 0, .int .i64 0, .slice none 0 0] 27 (0, 0))) ∧ (w.heap.size ≤ s_) ∧ (w.heap.size ≤ s_) ∧ (gb585 ≠ s_) ∧ (s_ ≠ gb585) ∧ (gb586 ≠ s_) ∧ (s_ ≠ gb586) ∧ (gb587 ≠ s_) ∧ (s_ ≠ gb587) ∧ (Below w.heap.size w w')) ?_ ?_
             rotate_left
             ·
              intro hJ4
              refine join_ (σ := Nat) 5 zq10.q13 (fun s_ => [(10, .pointer (some ⟨s_, 0, none⟩))]) (fun s_ w' => (w'.cell? ⟨gb585, 0, none⟩ = some (.int .i64 a0_0) ∧ w'.cell? ⟨gb585, 1, none⟩ = some (.int .i64 a0_1) ∧ w'.cell? ⟨gb585, 2, none⟩ = some (.slice A0_2 l0_2.length c0_2) ∧ w'.cell? ⟨gb586, 0, none⟩ = some (.int .i64 a1_0) ∧ w'.cell? ⟨gb586, 1, none⟩ = some (.int .i64 a1_1) ∧ w'.cell? ⟨gb586, 2, none⟩ = some (.slice A1_2 l1_2.length c1_2)) ∧ (w'.heap[gb585]? = some (.cells #[.int .i64 a0_0, .int .i64 a0_1, .slice A0_2 l0_2.length c0_2] 27 (0, 0))) ∧ (w'.heap[gb586]? = some (.cells #[.int .i64 a1_0, .int .i64 a1_1, .slice A1_2 l1_2.length c1_2] 27 (0, 0))) ∧ (w'.heap[gb587]? = some (.cells #[.int .i64 a2_0, .int .i64 a2_1] 41 (0, 0))) ∧ (w'.heap[s_]? = some (.cells #[.int .i64 0, .int .i64 0, .slice none 0 0] 27 (0, 0))) ∧ (w.heap.size ≤ s_) ∧ (w.heap.size ≤ s_) ∧ (gb585 ≠ s_) ∧ (s_ ≠ gb585) ∧ (gb586 ≠ s_) ∧ (s_ ≠ gb586) ∧ (gb587 ≠ s_) ∧ (s_ ≠ gb587) ∧ (Below w.heap.size w w')) ?_ ?_
              rotate_left
              ·
               intro hJ5
               refine three_ (i := 1) (j := 4) (k := 5) (Ni := some 30) (Nj := some 9) (Nk := some 10) zq10.q11 zq10.q12 zq10.q13 rfl rfl rfl rfl rfl rfl (three_of HT_.out (by kernel_rfl)) (by decide) (by decide) (by decide) (fun K hK => ?_) (fun K hK => ?_) (fun K hK => ?_)
               ·
                refine gs_ Try.func33 #[.agg #[.int .i64 a0_0, .int .i64 a0_1, .slice A0_2 l0_2.length c0_2]] ?_
                with_reducible refine (compositorlaw09_clone.calls a0_0 a0_1 _ _ l0_2 t591 t592 t593 _ ?side1 ?side2 A25.out).mono ?_
                (case side1 => repeat (first | exact (Kd.C_below HR0_2.out HB.out) | (with_reducible refine Kd.C_alloc ?_ _) | (with_reducible refine Kd.C_drewN ?_ _) | (with_reducible refine Kd.C_drew ?_)))
                (case side2 => exact HC0_2.out)
                rintro e w32 ⟨v594, rfl, ho0, hb⟩
                refine ⟨_, rfl, ?_⟩
                have HO595 := Aside0.mk (Kd.R_lower ho0 (below_size (hq_ HB)))
                replace BK585 := bb_ BK585 hb
                replace BK586 := bb_ BK586 hb
                replace BK587 := bb_ BK587 hb
                replace HB := hb_ HB hb
                (try clear hb); (try clear hb2); (try clear hk); (try clear hi)
                (try clear ho0)
                refine hK.out _ _ ⟨c_ BK585 0, ⟨c_ BK585 1, ⟨c_ BK585 2, ⟨c_ BK586 0, ⟨c_ BK586 1, (c_ BK586 2)⟩⟩⟩⟩⟩ (fun hHeld => ?_)
                clear hK K
                refine norm_ (a' := ?_) ?_ ?_
                rotate_left
                ·
                 show Act.put _ (some 30) _ = _
                 simp only [Act.put, List.setIfInBounds_toArray, List.set_cons_zero, List.set_cons_succ, i64_w, i32_w]
                 rfl
                exact norm_ (by simp only [putAll, Act.put, List.setIfInBounds_toArray, List.set_cons_zero, List.set_cons_succ] <;> rfl) (hJ1 (v594) _ ⟨hHeld, (by (with_reducible repeat (first | apply Kd.R_alloc | apply Kd.R_drewN | apply Kd.R_drew)); exact HO595.out), (bq_ BK585), (bq_ BK586), (bq_ BK587), (hq_ HB)⟩)
               ·
                refine box_step ?hg (N := 9) ?hd (cs := #[.int .i64 0, .int .i64 0, .slice none 0 0]) (t := 27) ?hr ?_; (case hd => rfl); (case hg => rfl); (case hr => first | (go_simp; done) | (go_simp; rfl))
                intro gb601 hg w32 hbox hb
                have BK601 := Aside0.mk (hbox)
                have GW601 := Aside0.mk ((by rw [hg]; exact (below_size (hq_ HB)) : w.heap.size ≤ gb601))
                have GE601 := Aside0.mk ((by rw [hg]; exact (below_size (hq_ HB)) : w.heap.size ≤ gb601))
                replace HB := hb_ HB hb
                have NB585_601 := Aside0.mk ((by rw [hg]; exact Nat.ne_of_lt (blk_lt (g := gb585) (o := .cells #[.int .i64 a0_0, .int .i64 a0_1, .slice A0_2 l0_2.length c0_2] 27 (0, 0)) (bq_ BK585)) : gb585 ≠ gb601))
                have NB601_585 := Aside0.mk ((by rw [hg]; exact Nat.ne_of_gt (blk_lt (g := gb585) (o := .cells #[.int .i64 a0_0, .int .i64 a0_1, .slice A0_2 l0_2.length c0_2] 27 (0, 0)) (bq_ BK585)) : gb601 ≠ gb585))
                replace BK585 := bb_ BK585 hb
                have NB586_601 := Aside0.mk ((by rw [hg]; exact Nat.ne_of_lt (blk_lt (g := gb586) (o := .cells #[.int .i64 a1_0, .int .i64 a1_1, .slice A1_2 l1_2.length c1_2] 27 (0, 0)) (bq_ BK586)) : gb586 ≠ gb601))
                have NB601_586 := Aside0.mk ((by rw [hg]; exact Nat.ne_of_gt (blk_lt (g := gb586) (o := .cells #[.int .i64 a1_0, .int .i64 a1_1, .slice A1_2 l1_2.length c1_2] 27 (0, 0)) (bq_ BK586)) : gb601 ≠ gb586))
                replace BK586 := bb_ BK586 hb
                have NB587_601 := Aside0.mk ((by rw [hg]; exact Nat.ne_of_lt (blk_lt (g := gb587) (o := .cells #[.int .i64 a2_0, .int .i64 a2_1] 41 (0, 0)) (bq_ BK587)) : gb587 ≠ gb601))
                have NB601_587 := Aside0.mk ((by rw [hg]; exact Nat.ne_of_gt (blk_lt (g := gb587) (o := .cells #[.int .i64 a2_0, .int .i64 a2_1] 41 (0, 0)) (bq_ BK587)) : gb601 ≠ gb587))
                replace BK587 := bb_ BK587 hb
                clear hb hbox hg
                refine hK.out _ _ ⟨c_ BK585 0, ⟨c_ BK585 1, ⟨c_ BK585 2, ⟨c_ BK586 0, ⟨c_ BK586 1, (c_ BK586 2)⟩⟩⟩⟩⟩ (fun hHeld => ?_)
                clear hK K
                refine norm_ (a' := ?_) ?_ ?_
                rotate_left
                ·
                 show Act.put _ (some 9) _ = _
                 simp only [Act.put, List.setIfInBounds_toArray, List.set_cons_zero, List.set_cons_succ, i64_w, i32_w]
                 rfl
                exact norm_ (by simp only [putAll, Act.put, List.setIfInBounds_toArray, List.set_cons_zero, List.set_cons_succ] <;> rfl) (hJ4 (gb601) _ ⟨hHeld, (bq_ BK585), (bq_ BK586), (bq_ BK587), (bq_ BK601), GW601.out, GE601.out, NB585_601.out, NB601_585.out, NB586_601.out, NB601_586.out, NB587_601.out, NB601_587.out, (hq_ HB)⟩)
               ·
                refine box_step ?hg (N := 10) ?hd (cs := #[.int .i64 0, .int .i64 0, .slice none 0 0]) (t := 27) ?hr ?_; (case hd => rfl); (case hg => rfl); (case hr => first | (go_simp; done) | (go_simp; rfl))
                intro gb602 hg w32 hbox hb
                have BK602 := Aside0.mk (hbox)
                have GW602 := Aside0.mk ((by rw [hg]; exact (below_size (hq_ HB)) : w.heap.size ≤ gb602))
                have GE602 := Aside0.mk ((by rw [hg]; exact (below_size (hq_ HB)) : w.heap.size ≤ gb602))
                replace HB := hb_ HB hb
                have NB585_602 := Aside0.mk ((by rw [hg]; exact Nat.ne_of_lt (blk_lt (g := gb585) (o := .cells #[.int .i64 a0_0, .int .i64 a0_1, .slice A0_2 l0_2.length c0_2] 27 (0, 0)) (bq_ BK585)) : gb585 ≠ gb602))
                have NB602_585 := Aside0.mk ((by rw [hg]; exact Nat.ne_of_gt (blk_lt (g := gb585) (o := .cells #[.int .i64 a0_0, .int .i64 a0_1, .slice A0_2 l0_2.length c0_2] 27 (0, 0)) (bq_ BK585)) : gb602 ≠ gb585))
                replace BK585 := bb_ BK585 hb
                have NB586_602 := Aside0.mk ((by rw [hg]; exact Nat.ne_of_lt (blk_lt (g := gb586) (o := .cells #[.int .i64 a1_0, .int .i64 a1_1, .slice A1_2 l1_2.length c1_2] 27 (0, 0)) (bq_ BK586)) : gb586 ≠ gb602))
                have NB602_586 := Aside0.mk ((by rw [hg]; exact Nat.ne_of_gt (blk_lt (g := gb586) (o := .cells #[.int .i64 a1_0, .int .i64 a1_1, .slice A1_2 l1_2.length c1_2] 27 (0, 0)) (bq_ BK586)) : gb602 ≠ gb586))
                replace BK586 := bb_ BK586 hb
                have NB587_602 := Aside0.mk ((by rw [hg]; exact Nat.ne_of_lt (blk_lt (g := gb587) (o := .cells #[.int .i64 a2_0, .int .i64 a2_1] 41 (0, 0)) (bq_ BK587)) : gb587 ≠ gb602))
                have NB602_587 := Aside0.mk ((by rw [hg]; exact Nat.ne_of_gt (blk_lt (g := gb587) (o := .cells #[.int .i64 a2_0, .int .i64 a2_1] 41 (0, 0)) (bq_ BK587)) : gb602 ≠ gb587))
                replace BK587 := bb_ BK587 hb
                clear hb hbox hg
                refine hK.out _ _ ⟨c_ BK585 0, ⟨c_ BK585 1, ⟨c_ BK585 2, ⟨c_ BK586 0, ⟨c_ BK586 1, (c_ BK586 2)⟩⟩⟩⟩⟩ (fun hHeld => ?_)
                clear hK K
                refine norm_ (a' := ?_) ?_ ?_
                rotate_left
                ·
                 show Act.put _ (some 10) _ = _
                 simp only [Act.put, List.setIfInBounds_toArray, List.set_cons_zero, List.set_cons_succ, i64_w, i32_w]
                 rfl
                exact norm_ (by simp only [putAll, Act.put, List.setIfInBounds_toArray, List.set_cons_zero, List.set_cons_succ] <;> rfl) (hJ5 (gb602) _ ⟨hHeld, (bq_ BK585), (bq_ BK586), (bq_ BK587), (bq_ BK602), GW602.out, GE602.out, NB585_602.out, NB602_585.out, NB586_602.out, NB602_586.out, NB587_602.out, NB602_587.out, (hq_ HB)⟩)
              ·
               rintro gb602 w33 ⟨hS_, h0_, h1_, h2_, h3_, h4_, h5_, h6_, h7_, h8_, h9_, h10_, h11_, h12_⟩
               replace BK585 := Aside0.mk h0_
               replace BK586 := Aside0.mk h1_
               replace BK587 := Aside0.mk h2_
               have BK602 := Aside0.mk h3_
               have GW602 := Aside0.mk h4_
               have GE602 := Aside0.mk h5_
               have NB585_602 := Aside0.mk h6_
               have NB602_585 := Aside0.mk h7_
               have NB586_602 := Aside0.mk h8_
               have NB602_586 := Aside0.mk h9_
               have NB587_602 := Aside0.mk h10_
               have NB602_587 := Aside0.mk h11_
               replace HB := Aside0.mk h12_
               clear h0_ h1_ h2_ h3_ h4_ h5_ h6_ h7_ h8_ h9_ h10_ h11_ h12_
               have hHeld := hS_
               refine norm_ (a' := ?_) ?_ ?_
               rotate_left
               ·
                simp only [putAll, Act.put, List.setIfInBounds_toArray, List.set_cons_zero, List.set_cons_succ]
                rfl
               refine two_ (i := 1) (j := 4) (Ni := some 30) (Nj := some 9) zq10.q9 zq10.q10 rfl rfl rfl rfl (two_of HT_.out (by kernel_rfl)) (by decide) (by decide) (fun K hK => ?_) (fun K hK => ?_)
               ·
                refine gs_ Try.func33 #[.agg #[.int .i64 a0_0, .int .i64 a0_1, .slice A0_2 l0_2.length c0_2]] ?_
                with_reducible refine (compositorlaw09_clone.calls a0_0 a0_1 _ _ l0_2 t591 t592 t593 _ ?side1 ?side2 A25.out).mono ?_
                (case side1 => repeat (first | exact (Kd.C_below HR0_2.out HB.out) | (with_reducible refine Kd.C_alloc ?_ _) | (with_reducible refine Kd.C_drewN ?_ _) | (with_reducible refine Kd.C_drew ?_)))
                (case side2 => exact HC0_2.out)
                rintro e w34 ⟨v594, rfl, ho0, hb⟩
                refine ⟨_, rfl, ?_⟩
                have HO595 := Aside0.mk (Kd.R_lower ho0 (below_size (hq_ HB)))
                replace BK585 := bb_ BK585 hb
                replace BK586 := bb_ BK586 hb
                replace BK587 := bb_ BK587 hb
                replace BK602 := bb_ BK602 hb
                replace HB := hb_ HB hb
                (try clear hb); (try clear hb2); (try clear hk); (try clear hi)
                (try clear ho0)
                refine hK.out _ _ ⟨c_ BK585 0, ⟨c_ BK585 1, ⟨c_ BK585 2, ⟨c_ BK586 0, ⟨c_ BK586 1, (c_ BK586 2)⟩⟩⟩⟩⟩ (fun hHeld => ?_)
                clear hK K
                refine norm_ (a' := ?_) ?_ ?_
                rotate_left
                ·
                 show Act.put _ (some 30) _ = _
                 simp only [Act.put, List.setIfInBounds_toArray, List.set_cons_zero, List.set_cons_succ, i64_w, i32_w]
                 rfl
                exact norm_ (by simp only [putAll, Act.put, List.setIfInBounds_toArray, List.set_cons_zero, List.set_cons_succ] <;> rfl) (hJ1_5 (v594, gb602) _ ⟨hHeld, (by (with_reducible repeat (first | apply Kd.R_alloc | apply Kd.R_drewN | apply Kd.R_drew)); exact HO595.out), (bq_ BK585), (bq_ BK586), (bq_ BK587), (bq_ BK602), GW602.out, GE602.out, NB585_602.out, NB602_585.out, NB586_602.out, NB602_586.out, NB587_602.out, NB602_587.out, (hq_ HB)⟩)
               ·
                refine box_step ?hg (N := 9) ?hd (cs := #[.int .i64 0, .int .i64 0, .slice none 0 0]) (t := 27) ?hr ?_; (case hd => rfl); (case hg => rfl); (case hr => first | (go_simp; done) | (go_simp; rfl))
                intro gb601 hg w34 hbox hb
                have BK601 := Aside0.mk (hbox)
                have GW601 := Aside0.mk ((by rw [hg]; exact (below_size (hq_ HB)) : w.heap.size ≤ gb601))
                have GE601 := Aside0.mk ((by rw [hg]; exact (below_size (hq_ HB)) : w.heap.size ≤ gb601))
                replace HB := hb_ HB hb
                have NB585_601 := Aside0.mk ((by rw [hg]; exact Nat.ne_of_lt (blk_lt (g := gb585) (o := .cells #[.int .i64 a0_0, .int .i64 a0_1, .slice A0_2 l0_2.length c0_2] 27 (0, 0)) (bq_ BK585)) : gb585 ≠ gb601))
                have NB601_585 := Aside0.mk ((by rw [hg]; exact Nat.ne_of_gt (blk_lt (g := gb585) (o := .cells #[.int .i64 a0_0, .int .i64 a0_1, .slice A0_2 l0_2.length c0_2] 27 (0, 0)) (bq_ BK585)) : gb601 ≠ gb585))
                replace BK585 := bb_ BK585 hb
                have NB586_601 := Aside0.mk ((by rw [hg]; exact Nat.ne_of_lt (blk_lt (g := gb586) (o := .cells #[.int .i64 a1_0, .int .i64 a1_1, .slice A1_2 l1_2.length c1_2] 27 (0, 0)) (bq_ BK586)) : gb586 ≠ gb601))
                have NB601_586 := Aside0.mk ((by rw [hg]; exact Nat.ne_of_gt (blk_lt (g := gb586) (o := .cells #[.int .i64 a1_0, .int .i64 a1_1, .slice A1_2 l1_2.length c1_2] 27 (0, 0)) (bq_ BK586)) : gb601 ≠ gb586))
                replace BK586 := bb_ BK586 hb
                have NB587_601 := Aside0.mk ((by rw [hg]; exact Nat.ne_of_lt (blk_lt (g := gb587) (o := .cells #[.int .i64 a2_0, .int .i64 a2_1] 41 (0, 0)) (bq_ BK587)) : gb587 ≠ gb601))
                have NB601_587 := Aside0.mk ((by rw [hg]; exact Nat.ne_of_gt (blk_lt (g := gb587) (o := .cells #[.int .i64 a2_0, .int .i64 a2_1] 41 (0, 0)) (bq_ BK587)) : gb601 ≠ gb587))
                replace BK587 := bb_ BK587 hb
                have NB602_601 := Aside0.mk ((by rw [hg]; exact Nat.ne_of_lt (blk_lt (g := gb602) (o := .cells #[.int .i64 0, .int .i64 0, .slice none 0 0] 27 (0, 0)) (bq_ BK602)) : gb602 ≠ gb601))
                have NB601_602 := Aside0.mk ((by rw [hg]; exact Nat.ne_of_gt (blk_lt (g := gb602) (o := .cells #[.int .i64 0, .int .i64 0, .slice none 0 0] 27 (0, 0)) (bq_ BK602)) : gb601 ≠ gb602))
                replace BK602 := bb_ BK602 hb
                clear hb hbox hg
                refine hK.out _ _ ⟨c_ BK585 0, ⟨c_ BK585 1, ⟨c_ BK585 2, ⟨c_ BK586 0, ⟨c_ BK586 1, (c_ BK586 2)⟩⟩⟩⟩⟩ (fun hHeld => ?_)
                clear hK K
                refine norm_ (a' := ?_) ?_ ?_
                rotate_left
                ·
                 show Act.put _ (some 9) _ = _
                 simp only [Act.put, List.setIfInBounds_toArray, List.set_cons_zero, List.set_cons_succ, i64_w, i32_w]
                 rfl
                exact norm_ (by simp only [putAll, Act.put, List.setIfInBounds_toArray, List.set_cons_zero, List.set_cons_succ] <;> rfl) (hJ4_5 (gb601, gb602) _ ⟨hHeld, (bq_ BK585), (bq_ BK586), (bq_ BK587), (bq_ BK601), (bq_ BK602), GW601.out, GE601.out, NB585_601.out, NB601_585.out, NB586_601.out, NB601_586.out, NB587_601.out, NB601_587.out, NB602_601.out, NB601_602.out, GW602.out, GE602.out, NB585_602.out, NB602_585.out, NB586_602.out, NB602_586.out, NB587_602.out, NB602_587.out, (hq_ HB)⟩)
             ·
              rintro gb601 w33 ⟨hS_, h0_, h1_, h2_, h3_, h4_, h5_, h6_, h7_, h8_, h9_, h10_, h11_, h12_⟩
              replace BK585 := Aside0.mk h0_
              replace BK586 := Aside0.mk h1_
              replace BK587 := Aside0.mk h2_
              have BK601 := Aside0.mk h3_
              have GW601 := Aside0.mk h4_
              have GE601 := Aside0.mk h5_
              have NB585_601 := Aside0.mk h6_
              have NB601_585 := Aside0.mk h7_
              have NB586_601 := Aside0.mk h8_
              have NB601_586 := Aside0.mk h9_
              have NB587_601 := Aside0.mk h10_
              have NB601_587 := Aside0.mk h11_
              replace HB := Aside0.mk h12_
              clear h0_ h1_ h2_ h3_ h4_ h5_ h6_ h7_ h8_ h9_ h10_ h11_ h12_
              have hHeld := hS_
              refine norm_ (a' := ?_) ?_ ?_
              rotate_left
              ·
               simp only [putAll, Act.put, List.setIfInBounds_toArray, List.set_cons_zero, List.set_cons_succ]
               rfl
              refine two_ (i := 1) (j := 5) (Ni := some 30) (Nj := some 10) zq10.q8 zq10.q10 rfl rfl rfl rfl (two_of HT_.out (by kernel_rfl)) (by decide) (by decide) (fun K hK => ?_) (fun K hK => ?_)
              ·
               refine gs_ Try.func33 #[.agg #[.int .i64 a0_0, .int .i64 a0_1, .slice A0_2 l0_2.length c0_2]] ?_
               with_reducible refine (compositorlaw09_clone.calls a0_0 a0_1 _ _ l0_2 t591 t592 t593 _ ?side1 ?side2 A25.out).mono ?_
               (case side1 => repeat (first | exact (Kd.C_below HR0_2.out HB.out) | (with_reducible refine Kd.C_alloc ?_ _) | (with_reducible refine Kd.C_drewN ?_ _) | (with_reducible refine Kd.C_drew ?_)))
               (case side2 => exact HC0_2.out)
               rintro e w34 ⟨v594, rfl, ho0, hb⟩
               refine ⟨_, rfl, ?_⟩
               have HO595 := Aside0.mk (Kd.R_lower ho0 (below_size (hq_ HB)))
               replace BK585 := bb_ BK585 hb
               replace BK586 := bb_ BK586 hb
               replace BK587 := bb_ BK587 hb
               replace BK601 := bb_ BK601 hb
               replace HB := hb_ HB hb
               (try clear hb); (try clear hb2); (try clear hk); (try clear hi)
               (try clear ho0)
               refine hK.out _ _ ⟨c_ BK585 0, ⟨c_ BK585 1, ⟨c_ BK585 2, ⟨c_ BK586 0, ⟨c_ BK586 1, (c_ BK586 2)⟩⟩⟩⟩⟩ (fun hHeld => ?_)
               clear hK K
               refine norm_ (a' := ?_) ?_ ?_
               rotate_left
               ·
                show Act.put _ (some 30) _ = _
                simp only [Act.put, List.setIfInBounds_toArray, List.set_cons_zero, List.set_cons_succ, i64_w, i32_w]
                rfl
               exact norm_ (by simp only [putAll, Act.put, List.setIfInBounds_toArray, List.set_cons_zero, List.set_cons_succ] <;> rfl) (hJ1_4 (v594, gb601) _ ⟨hHeld, (by (with_reducible repeat (first | apply Kd.R_alloc | apply Kd.R_drewN | apply Kd.R_drew)); exact HO595.out), (bq_ BK585), (bq_ BK586), (bq_ BK587), (bq_ BK601), GW601.out, GE601.out, NB585_601.out, NB601_585.out, NB586_601.out, NB601_586.out, NB587_601.out, NB601_587.out, (hq_ HB)⟩)
              ·
               refine box_step ?hg (N := 10) ?hd (cs := #[.int .i64 0, .int .i64 0, .slice none 0 0]) (t := 27) ?hr ?_; (case hd => rfl); (case hg => rfl); (case hr => first | (go_simp; done) | (go_simp; rfl))
               intro gb602 hg w34 hbox hb
               have BK602 := Aside0.mk (hbox)
               have GW602 := Aside0.mk ((by rw [hg]; exact (below_size (hq_ HB)) : w.heap.size ≤ gb602))
               have GE602 := Aside0.mk ((by rw [hg]; exact (below_size (hq_ HB)) : w.heap.size ≤ gb602))
               replace HB := hb_ HB hb
               have NB585_602 := Aside0.mk ((by rw [hg]; exact Nat.ne_of_lt (blk_lt (g := gb585) (o := .cells #[.int .i64 a0_0, .int .i64 a0_1, .slice A0_2 l0_2.length c0_2] 27 (0, 0)) (bq_ BK585)) : gb585 ≠ gb602))
               have NB602_585 := Aside0.mk ((by rw [hg]; exact Nat.ne_of_gt (blk_lt (g := gb585) (o := .cells #[.int .i64 a0_0, .int .i64 a0_1, .slice A0_2 l0_2.length c0_2] 27 (0, 0)) (bq_ BK585)) : gb602 ≠ gb585))
               replace BK585 := bb_ BK585 hb
               have NB586_602 := Aside0.mk ((by rw [hg]; exact Nat.ne_of_lt (blk_lt (g := gb586) (o := .cells #[.int .i64 a1_0, .int .i64 a1_1, .slice A1_2 l1_2.length c1_2] 27 (0, 0)) (bq_ BK586)) : gb586 ≠ gb602))
               have NB602_586 := Aside0.mk ((by rw [hg]; exact Nat.ne_of_gt (blk_lt (g := gb586) (o := .cells #[.int .i64 a1_0, .int .i64 a1_1, .slice A1_2 l1_2.length c1_2] 27 (0, 0)) (bq_ BK586)) : gb602 ≠ gb586))
               replace BK586 := bb_ BK586 hb
               have NB587_602 := Aside0.mk ((by rw [hg]; exact Nat.ne_of_lt (blk_lt (g := gb587) (o := .cells #[.int .i64 a2_0, .int .i64 a2_1] 41 (0, 0)) (bq_ BK587)) : gb587 ≠ gb602))
               have NB602_587 := Aside0.mk ((by rw [hg]; exact Nat.ne_of_gt (blk_lt (g := gb587) (o := .cells #[.int .i64 a2_0, .int .i64 a2_1] 41 (0, 0)) (bq_ BK587)) : gb602 ≠ gb587))
               replace BK587 := bb_ BK587 hb
               have NB601_602 := Aside0.mk ((by rw [hg]; exact Nat.ne_of_lt (blk_lt (g := gb601) (o := .cells #[.int .i64 0, .int .i64 0, .slice none 0 0] 27 (0, 0)) (bq_ BK601)) : gb601 ≠ gb602))
               have NB602_601 := Aside0.mk ((by rw [hg]; exact Nat.ne_of_gt (blk_lt (g := gb601) (o := .cells #[.int .i64 0, .int .i64 0, .slice none 0 0] 27 (0, 0)) (bq_ BK601)) : gb602 ≠ gb601))
               replace BK601 := bb_ BK601 hb
               clear hb hbox hg
               refine hK.out _ _ ⟨c_ BK585 0, ⟨c_ BK585 1, ⟨c_ BK585 2, ⟨c_ BK586 0, ⟨c_ BK586 1, (c_ BK586 2)⟩⟩⟩⟩⟩ (fun hHeld => ?_)
               clear hK K
               refine norm_ (a' := ?_) ?_ ?_
               rotate_left
               ·
                show Act.put _ (some 10) _ = _
                simp only [Act.put, List.setIfInBounds_toArray, List.set_cons_zero, List.set_cons_succ, i64_w, i32_w]
                rfl
               exact norm_ (by simp only [putAll, Act.put, List.setIfInBounds_toArray, List.set_cons_zero, List.set_cons_succ] <;> rfl) (hJ4_5 (gb601, gb602) _ ⟨hHeld, (bq_ BK585), (bq_ BK586), (bq_ BK587), (bq_ BK601), (bq_ BK602), GW601.out, GE601.out, NB585_601.out, NB601_585.out, NB586_601.out, NB601_586.out, NB587_601.out, NB601_587.out, NB602_601.out, NB601_602.out, GW602.out, GE602.out, NB585_602.out, NB602_585.out, NB586_602.out, NB602_586.out, NB587_602.out, NB602_587.out, (hq_ HB)⟩)
            ·
             rintro v594 w33 ⟨hS_, h0_, h1_, h2_, h3_, h4_⟩
             have HO595 := Aside0.mk h0_
             replace BK585 := Aside0.mk h1_
             replace BK586 := Aside0.mk h2_
             replace BK587 := Aside0.mk h3_
             replace HB := Aside0.mk h4_
             clear h0_ h1_ h2_ h3_ h4_
             have hHeld := hS_
             refine norm_ (a' := ?_) ?_ ?_
             rotate_left
             ·
              simp only [putAll, Act.put, List.setIfInBounds_toArray, List.set_cons_zero, List.set_cons_succ]
              rfl
             refine three_ (i := 3) (j := 4) (k := 5) (Ni := some 32) (Nj := some 9) (Nk := some 10) zq10.q7 zq10.q8 zq10.q9 rfl rfl rfl rfl rfl rfl (three_of HT_.out (by kernel_rfl)) (by decide) (by decide) (by decide) (fun K hK => ?_) (fun K hK => ?_) (fun K hK => ?_)
             ·
              refine gs_ Try.func33 #[.agg #[.int .i64 a1_0, .int .i64 a1_1, .slice A1_2 l1_2.length c1_2]] ?_
              with_reducible refine (compositorlaw09_clone.calls a1_0 a1_1 _ _ l1_2 t596 t597 t598 _ ?side1 ?side2 A26.out).mono ?_
              (case side1 => repeat (first | exact (Kd.C_below HR1_2.out HB.out) | (with_reducible refine Kd.C_alloc ?_ _) | (with_reducible refine Kd.C_drewN ?_ _) | (with_reducible refine Kd.C_drew ?_)))
              (case side2 => exact HC1_2.out)
              rintro e w34 ⟨v599, rfl, ho0, hb⟩
              refine ⟨_, rfl, ?_⟩
              have HO600 := Aside0.mk (Kd.R_lower (Kd.R_new' ho0 (Kd.R_lt (by (with_reducible repeat (first | apply Kd.R_alloc | apply Kd.R_drewN | apply Kd.R_drew)); exact HO595.out))) (below_size (hq_ HB)))
              replace HO595 := Aside0.mk (Kd.R_elder' (by (with_reducible repeat (first | apply Kd.R_alloc | apply Kd.R_drewN | apply Kd.R_drew)); exact HO595.out) (Kd.R_base ho0) hb)
              replace BK585 := bb_ BK585 hb
              replace BK586 := bb_ BK586 hb
              replace BK587 := bb_ BK587 hb
              replace HB := hb_ HB hb
              (try clear hb); (try clear hb2); (try clear hk); (try clear hi)
              (try clear ho0)
              refine hK.out _ _ ⟨c_ BK585 0, ⟨c_ BK585 1, ⟨c_ BK585 2, ⟨c_ BK586 0, ⟨c_ BK586 1, (c_ BK586 2)⟩⟩⟩⟩⟩ (fun hHeld => ?_)
              clear hK K
              refine norm_ (a' := ?_) ?_ ?_
              rotate_left
              ·
               show Act.put _ (some 32) _ = _
               simp only [Act.put, List.setIfInBounds_toArray, List.set_cons_zero, List.set_cons_succ, i64_w, i32_w]
               rfl
              exact norm_ (by simp only [putAll, Act.put, List.setIfInBounds_toArray, List.set_cons_zero, List.set_cons_succ] <;> rfl) (hJ1_3 (v594, v599) _ ⟨hHeld, (by (with_reducible repeat (first | apply Kd.R_alloc | apply Kd.R_drewN | apply Kd.R_drew)); exact Kd.R_mono HO595.out (fun _ hk => hk.2)), (by (with_reducible repeat (first | apply Kd.R_alloc | apply Kd.R_drewN | apply Kd.R_drew)); exact Kd.R_mono HO600.out (fun _ hk => hk.2)), (bq_ BK585), (bq_ BK586), (bq_ BK587), (hq_ HB)⟩)
             ·
              refine box_step ?hg (N := 9) ?hd (cs := #[.int .i64 0, .int .i64 0, .slice none 0 0]) (t := 27) ?hr ?_; (case hd => rfl); (case hg => rfl); (case hr => first | (go_simp; done) | (go_simp; rfl))
              intro gb601 hg w34 hbox hb
              replace HO595 := Aside0.mk (Kd.R_below (by (with_reducible repeat (first | apply Kd.R_alloc | apply Kd.R_drewN | apply Kd.R_drew)); exact HO595.out) hb)
              have BK601 := Aside0.mk (hbox)
              have GW601 := Aside0.mk ((by rw [hg]; exact (below_size (hq_ HB)) : w.heap.size ≤ gb601))
              have GE601 := Aside0.mk ((by rw [hg]; exact (below_size (hq_ HB)) : w.heap.size ≤ gb601))
              replace HB := hb_ HB hb
              have NB585_601 := Aside0.mk ((by rw [hg]; exact Nat.ne_of_lt (blk_lt (g := gb585) (o := .cells #[.int .i64 a0_0, .int .i64 a0_1, .slice A0_2 l0_2.length c0_2] 27 (0, 0)) (bq_ BK585)) : gb585 ≠ gb601))
              have NB601_585 := Aside0.mk ((by rw [hg]; exact Nat.ne_of_gt (blk_lt (g := gb585) (o := .cells #[.int .i64 a0_0, .int .i64 a0_1, .slice A0_2 l0_2.length c0_2] 27 (0, 0)) (bq_ BK585)) : gb601 ≠ gb585))
              replace BK585 := bb_ BK585 hb
              have NB586_601 := Aside0.mk ((by rw [hg]; exact Nat.ne_of_lt (blk_lt (g := gb586) (o := .cells #[.int .i64 a1_0, .int .i64 a1_1, .slice A1_2 l1_2.length c1_2] 27 (0, 0)) (bq_ BK586)) : gb586 ≠ gb601))
              have NB601_586 := Aside0.mk ((by rw [hg]; exact Nat.ne_of_gt (blk_lt (g := gb586) (o := .cells #[.int .i64 a1_0, .int .i64 a1_1, .slice A1_2 l1_2.length c1_2] 27 (0, 0)) (bq_ BK586)) : gb601 ≠ gb586))
              replace BK586 := bb_ BK586 hb
              have NB587_601 := Aside0.mk ((by rw [hg]; exact Nat.ne_of_lt (blk_lt (g := gb587) (o := .cells #[.int .i64 a2_0, .int .i64 a2_1] 41 (0, 0)) (bq_ BK587)) : gb587 ≠ gb601))
              have NB601_587 := Aside0.mk ((by rw [hg]; exact Nat.ne_of_gt (blk_lt (g := gb587) (o := .cells #[.int .i64 a2_0, .int .i64 a2_1] 41 (0, 0)) (bq_ BK587)) : gb601 ≠ gb587))
              replace BK587 := bb_ BK587 hb
              clear hb hbox hg
              refine hK.out _ _ ⟨c_ BK585 0, ⟨c_ BK585 1, ⟨c_ BK585 2, ⟨c_ BK586 0, ⟨c_ BK586 1, (c_ BK586 2)⟩⟩⟩⟩⟩ (fun hHeld => ?_)
              clear hK K
              refine norm_ (a' := ?_) ?_ ?_
              rotate_left
              ·
               show Act.put _ (some 9) _ = _
               simp only [Act.put, List.setIfInBounds_toArray, List.set_cons_zero, List.set_cons_succ, i64_w, i32_w]
               rfl
              exact norm_ (by simp only [putAll, Act.put, List.setIfInBounds_toArray, List.set_cons_zero, List.set_cons_succ] <;> rfl) (hJ1_4 (v594, gb601) _ ⟨hHeld, (by (with_reducible repeat (first | apply Kd.R_alloc | apply Kd.R_drewN | apply Kd.R_drew)); exact HO595.out), (bq_ BK585), (bq_ BK586), (bq_ BK587), (bq_ BK601), GW601.out, GE601.out, NB585_601.out, NB601_585.out, NB586_601.out, NB601_586.out, NB587_601.out, NB601_587.out, (hq_ HB)⟩)
             ·
              refine box_step ?hg (N := 10) ?hd (cs := #[.int .i64 0, .int .i64 0, .slice none 0 0]) (t := 27) ?hr ?_; (case hd => rfl); (case hg => rfl); (case hr => first | (go_simp; done) | (go_simp; rfl))
              intro gb602 hg w34 hbox hb
              replace HO595 := Aside0.mk (Kd.R_below (by (with_reducible repeat (first | apply Kd.R_alloc | apply Kd.R_drewN | apply Kd.R_drew)); exact HO595.out) hb)
              have BK602 := Aside0.mk (hbox)
              have GW602 := Aside0.mk ((by rw [hg]; exact (below_size (hq_ HB)) : w.heap.size ≤ gb602))
              have GE602 := Aside0.mk ((by rw [hg]; exact (below_size (hq_ HB)) : w.heap.size ≤ gb602))
              replace HB := hb_ HB hb
              have NB585_602 := Aside0.mk ((by rw [hg]; exact Nat.ne_of_lt (blk_lt (g := gb585) (o := .cells #[.int .i64 a0_0, .int .i64 a0_1, .slice A0_2 l0_2.length c0_2] 27 (0, 0)) (bq_ BK585)) : gb585 ≠ gb602))
              have NB602_585 := Aside0.mk ((by rw [hg]; exact Nat.ne_of_gt (blk_lt (g := gb585) (o := .cells #[.int .i64 a0_0, .int .i64 a0_1, .slice A0_2 l0_2.length c0_2] 27 (0, 0)) (bq_ BK585)) : gb602 ≠ gb585))
              replace BK585 := bb_ BK585 hb
              have NB586_602 := Aside0.mk ((by rw [hg]; exact Nat.ne_of_lt (blk_lt (g := gb586) (o := .cells #[.int .i64 a1_0, .int .i64 a1_1, .slice A1_2 l1_2.length c1_2] 27 (0, 0)) (bq_ BK586)) : gb586 ≠ gb602))
              have NB602_586 := Aside0.mk ((by rw [hg]; exact Nat.ne_of_gt (blk_lt (g := gb586) (o := .cells #[.int .i64 a1_0, .int .i64 a1_1, .slice A1_2 l1_2.length c1_2] 27 (0, 0)) (bq_ BK586)) : gb602 ≠ gb586))
              replace BK586 := bb_ BK586 hb
              have NB587_602 := Aside0.mk ((by rw [hg]; exact Nat.ne_of_lt (blk_lt (g := gb587) (o := .cells #[.int .i64 a2_0, .int .i64 a2_1] 41 (0, 0)) (bq_ BK587)) : gb587 ≠ gb602))
              have NB602_587 := Aside0.mk ((by rw [hg]; exact Nat.ne_of_gt (blk_lt (g := gb587) (o := .cells #[.int .i64 a2_0, .int .i64 a2_1] 41 (0, 0)) (bq_ BK587)) : gb602 ≠ gb587))
              replace BK587 := bb_ BK587 hb
              clear hb hbox hg
              refine hK.out _ _ ⟨c_ BK585 0, ⟨c_ BK585 1, ⟨c_ BK585 2, ⟨c_ BK586 0, ⟨c_ BK586 1, (c_ BK586 2)⟩⟩⟩⟩⟩ (fun hHeld => ?_)
              clear hK K
              refine norm_ (a' := ?_) ?_ ?_
              rotate_left
              ·
               show Act.put _ (some 10) _ = _
               simp only [Act.put, List.setIfInBounds_toArray, List.set_cons_zero, List.set_cons_succ, i64_w, i32_w]
               rfl
              exact norm_ (by simp only [putAll, Act.put, List.setIfInBounds_toArray, List.set_cons_zero, List.set_cons_succ] <;> rfl) (hJ1_5 (v594, gb602) _ ⟨hHeld, (by (with_reducible repeat (first | apply Kd.R_alloc | apply Kd.R_drewN | apply Kd.R_drew)); exact HO595.out), (bq_ BK585), (bq_ BK586), (bq_ BK587), (bq_ BK602), GW602.out, GE602.out, NB585_602.out, NB602_585.out, NB586_602.out, NB602_586.out, NB587_602.out, NB602_587.out, (hq_ HB)⟩)
           ·
            rintro ⟨gb601, gb602⟩ w34 ⟨hS_, h0_, h1_, h2_, h3_, h4_, h5_, h6_, h7_, h8_, h9_, h10_, h11_, h12_, h13_, h14_, h15_, h16_, h17_, h18_, h19_, h20_, h21_, h22_, h23_⟩
            replace BK585 := Aside0.mk h0_
            replace BK586 := Aside0.mk h1_
            replace BK587 := Aside0.mk h2_
            have BK601 := Aside0.mk h3_
            have BK602 := Aside0.mk h4_
            have GW601 := Aside0.mk h5_
            have GE601 := Aside0.mk h6_
            have NB585_601 := Aside0.mk h7_
            have NB601_585 := Aside0.mk h8_
            have NB586_601 := Aside0.mk h9_
            have NB601_586 := Aside0.mk h10_
            have NB587_601 := Aside0.mk h11_
            have NB601_587 := Aside0.mk h12_
            have NB602_601 := Aside0.mk h13_
            have NB601_602 := Aside0.mk h14_
            have GW602 := Aside0.mk h15_
            have GE602 := Aside0.mk h16_
            have NB585_602 := Aside0.mk h17_
            have NB602_585 := Aside0.mk h18_
            have NB586_602 := Aside0.mk h19_
            have NB602_586 := Aside0.mk h20_
            have NB587_602 := Aside0.mk h21_
            have NB602_587 := Aside0.mk h22_
            replace HB := Aside0.mk h23_
            clear h0_ h1_ h2_ h3_ h4_ h5_ h6_ h7_ h8_ h9_ h10_ h11_ h12_ h13_ h14_ h15_ h16_ h17_ h18_ h19_ h20_ h21_ h22_ h23_
            have hHeld := hS_
            refine norm_ (a' := ?_) ?_ ?_
            rotate_left
            ·
             simp only [putAll, Act.put, List.setIfInBounds_toArray, List.set_cons_zero, List.set_cons_succ]
             rfl
            refine one_ (i := 1) (N := some 30) zq10.q6 rfl rfl (one_of HT_.out (by kernel_rfl)) (by decide) (fun K hK => ?_)
            refine gs_ Try.func33 #[.agg #[.int .i64 a0_0, .int .i64 a0_1, .slice A0_2 l0_2.length c0_2]] ?_
            with_reducible refine (compositorlaw09_clone.calls a0_0 a0_1 _ _ l0_2 t591 t592 t593 _ ?side1 ?side2 A25.out).mono ?_
            (case side1 => repeat (first | exact (Kd.C_below HR0_2.out HB.out) | (with_reducible refine Kd.C_alloc ?_ _) | (with_reducible refine Kd.C_drewN ?_ _) | (with_reducible refine Kd.C_drew ?_)))
            (case side2 => exact HC0_2.out)
            rintro e w35 ⟨v594, rfl, ho0, hb⟩
            refine ⟨_, rfl, ?_⟩
            have HO595 := Aside0.mk (Kd.R_lower ho0 (below_size (hq_ HB)))
            replace BK585 := bb_ BK585 hb
            replace BK586 := bb_ BK586 hb
            replace BK587 := bb_ BK587 hb
            replace BK601 := bb_ BK601 hb
            replace BK602 := bb_ BK602 hb
            replace HB := hb_ HB hb
            (try clear hb); (try clear hb2); (try clear hk); (try clear hi)
            (try clear ho0)
            refine hK.out _ _ ⟨c_ BK585 0, ⟨c_ BK585 1, ⟨c_ BK585 2, ⟨c_ BK586 0, ⟨c_ BK586 1, (c_ BK586 2)⟩⟩⟩⟩⟩ (fun hHeld => ?_)
            clear hK K
            refine norm_ (a' := ?_) ?_ ?_
            rotate_left
            ·
             show Act.put _ (some 30) _ = _
             simp only [Act.put, List.setIfInBounds_toArray, List.set_cons_zero, List.set_cons_succ, i64_w, i32_w]
             rfl
            exact norm_ (by simp only [putAll, Act.put, List.setIfInBounds_toArray, List.set_cons_zero, List.set_cons_succ] <;> rfl) (hJ1_4_5 (v594, gb601, gb602) _ ⟨hHeld, (by (with_reducible repeat (first | apply Kd.R_alloc | apply Kd.R_drewN | apply Kd.R_drew)); exact HO595.out), (bq_ BK585), (bq_ BK586), (bq_ BK587), (bq_ BK601), (bq_ BK602), GW601.out, GE601.out, NB585_601.out, NB601_585.out, NB586_601.out, NB601_586.out, NB587_601.out, NB601_587.out, NB602_601.out, NB601_602.out, GW602.out, GE602.out, NB585_602.out, NB602_585.out, NB586_602.out, NB602_586.out, NB587_602.out, NB602_587.out, (hq_ HB)⟩)
          ·
           rintro ⟨v594, gb602⟩ w34 ⟨hS_, h0_, h1_, h2_, h3_, h4_, h5_, h6_, h7_, h8_, h9_, h10_, h11_, h12_, h13_⟩
           have HO595 := Aside0.mk h0_
           replace BK585 := Aside0.mk h1_
           replace BK586 := Aside0.mk h2_
           replace BK587 := Aside0.mk h3_
           have BK602 := Aside0.mk h4_
           have GW602 := Aside0.mk h5_
           have GE602 := Aside0.mk h6_
           have NB585_602 := Aside0.mk h7_
           have NB602_585 := Aside0.mk h8_
           have NB586_602 := Aside0.mk h9_
           have NB602_586 := Aside0.mk h10_
           have NB587_602 := Aside0.mk h11_
           have NB602_587 := Aside0.mk h12_
           replace HB := Aside0.mk h13_
           clear h0_ h1_ h2_ h3_ h4_ h5_ h6_ h7_ h8_ h9_ h10_ h11_ h12_ h13_
           have hHeld := hS_
           refine norm_ (a' := ?_) ?_ ?_
           rotate_left
           ·
            simp only [putAll, Act.put, List.setIfInBounds_toArray, List.set_cons_zero, List.set_cons_succ]
            rfl
           refine two_ (i := 3) (j := 4) (Ni := some 32) (Nj := some 9) zq10.q5 zq10.q6 rfl rfl rfl rfl (two_of HT_.out (by kernel_rfl)) (by decide) (by decide) (fun K hK => ?_) (fun K hK => ?_)
           ·
            refine gs_ Try.func33 #[.agg #[.int .i64 a1_0, .int .i64 a1_1, .slice A1_2 l1_2.length c1_2]] ?_
            with_reducible refine (compositorlaw09_clone.calls a1_0 a1_1 _ _ l1_2 t596 t597 t598 _ ?side1 ?side2 A26.out).mono ?_
            (case side1 => repeat (first | exact (Kd.C_below HR1_2.out HB.out) | (with_reducible refine Kd.C_alloc ?_ _) | (with_reducible refine Kd.C_drewN ?_ _) | (with_reducible refine Kd.C_drew ?_)))
            (case side2 => exact HC1_2.out)
            rintro e w35 ⟨v599, rfl, ho0, hb⟩
            refine ⟨_, rfl, ?_⟩
            have HO600 := Aside0.mk (Kd.R_lower (Kd.R_new' ho0 (Kd.R_lt (by (with_reducible repeat (first | apply Kd.R_alloc | apply Kd.R_drewN | apply Kd.R_drew)); exact HO595.out))) (below_size (hq_ HB)))
            replace HO595 := Aside0.mk (Kd.R_elder' (by (with_reducible repeat (first | apply Kd.R_alloc | apply Kd.R_drewN | apply Kd.R_drew)); exact HO595.out) (Kd.R_base ho0) hb)
            replace BK585 := bb_ BK585 hb
            replace BK586 := bb_ BK586 hb
            replace BK587 := bb_ BK587 hb
            replace BK602 := bb_ BK602 hb
            replace HB := hb_ HB hb
            (try clear hb); (try clear hb2); (try clear hk); (try clear hi)
            (try clear ho0)
            refine hK.out _ _ ⟨c_ BK585 0, ⟨c_ BK585 1, ⟨c_ BK585 2, ⟨c_ BK586 0, ⟨c_ BK586 1, (c_ BK586 2)⟩⟩⟩⟩⟩ (fun hHeld => ?_)
            clear hK K
            refine norm_ (a' := ?_) ?_ ?_
            rotate_left
            ·
             show Act.put _ (some 32) _ = _
             simp only [Act.put, List.setIfInBounds_toArray, List.set_cons_zero, List.set_cons_succ, i64_w, i32_w]
             rfl
            exact norm_ (by simp only [putAll, Act.put, List.setIfInBounds_toArray, List.set_cons_zero, List.set_cons_succ] <;> rfl) (hJ1_3_5 (v594, v599, gb602) _ ⟨hHeld, (by (with_reducible repeat (first | apply Kd.R_alloc | apply Kd.R_drewN | apply Kd.R_drew)); exact Kd.R_mono HO595.out (fun _ hk => hk.2)), (by (with_reducible repeat (first | apply Kd.R_alloc | apply Kd.R_drewN | apply Kd.R_drew)); exact Kd.R_mono HO600.out (fun _ hk => hk.2)), (bq_ BK585), (bq_ BK586), (bq_ BK587), (bq_ BK602), GW602.out, GE602.out, NB585_602.out, NB602_585.out, NB586_602.out, NB602_586.out, NB587_602.out, NB602_587.out, (hq_ HB)⟩)
           ·
            refine box_step ?hg (N := 9) ?hd (cs := #[.int .i64 0, .int .i64 0, .slice none 0 0]) (t := 27) ?hr ?_; (case hd => rfl); (case hg => rfl); (case hr => first | (go_simp; done) | (go_simp; rfl))
            intro gb601 hg w35 hbox hb
            replace HO595 := Aside0.mk (Kd.R_below (by (with_reducible repeat (first | apply Kd.R_alloc | apply Kd.R_drewN | apply Kd.R_drew)); exact HO595.out) hb)
            have BK601 := Aside0.mk (hbox)
            have GW601 := Aside0.mk ((by rw [hg]; exact (below_size (hq_ HB)) : w.heap.size ≤ gb601))
            have GE601 := Aside0.mk ((by rw [hg]; exact (below_size (hq_ HB)) : w.heap.size ≤ gb601))
            replace HB := hb_ HB hb
            have NB585_601 := Aside0.mk ((by rw [hg]; exact Nat.ne_of_lt (blk_lt (g := gb585) (o := .cells #[.int .i64 a0_0, .int .i64 a0_1, .slice A0_2 l0_2.length c0_2] 27 (0, 0)) (bq_ BK585)) : gb585 ≠ gb601))
            have NB601_585 := Aside0.mk ((by rw [hg]; exact Nat.ne_of_gt (blk_lt (g := gb585) (o := .cells #[.int .i64 a0_0, .int .i64 a0_1, .slice A0_2 l0_2.length c0_2] 27 (0, 0)) (bq_ BK585)) : gb601 ≠ gb585))
            replace BK585 := bb_ BK585 hb
            have NB586_601 := Aside0.mk ((by rw [hg]; exact Nat.ne_of_lt (blk_lt (g := gb586) (o := .cells #[.int .i64 a1_0, .int .i64 a1_1, .slice A1_2 l1_2.length c1_2] 27 (0, 0)) (bq_ BK586)) : gb586 ≠ gb601))
            have NB601_586 := Aside0.mk ((by rw [hg]; exact Nat.ne_of_gt (blk_lt (g := gb586) (o := .cells #[.int .i64 a1_0, .int .i64 a1_1, .slice A1_2 l1_2.length c1_2] 27 (0, 0)) (bq_ BK586)) : gb601 ≠ gb586))
            replace BK586 := bb_ BK586 hb
            have NB587_601 := Aside0.mk ((by rw [hg]; exact Nat.ne_of_lt (blk_lt (g := gb587) (o := .cells #[.int .i64 a2_0, .int .i64 a2_1] 41 (0, 0)) (bq_ BK587)) : gb587 ≠ gb601))
            have NB601_587 := Aside0.mk ((by rw [hg]; exact Nat.ne_of_gt (blk_lt (g := gb587) (o := .cells #[.int .i64 a2_0, .int .i64 a2_1] 41 (0, 0)) (bq_ BK587)) : gb601 ≠ gb587))
            replace BK587 := bb_ BK587 hb
            have NB602_601 := Aside0.mk ((by rw [hg]; exact Nat.ne_of_lt (blk_lt (g := gb602) (o := .cells #[.int .i64 0, .int .i64 0, .slice none 0 0] 27 (0, 0)) (bq_ BK602)) : gb602 ≠ gb601))
            have NB601_602 := Aside0.mk ((by rw [hg]; exact Nat.ne_of_gt (blk_lt (g := gb602) (o := .cells #[.int .i64 0, .int .i64 0, .slice none 0 0] 27 (0, 0)) (bq_ BK602)) : gb601 ≠ gb602))
            replace BK602 := bb_ BK602 hb
            clear hb hbox hg
            refine hK.out _ _ ⟨c_ BK585 0, ⟨c_ BK585 1, ⟨c_ BK585 2, ⟨c_ BK586 0, ⟨c_ BK586 1, (c_ BK586 2)⟩⟩⟩⟩⟩ (fun hHeld => ?_)
            clear hK K
            refine norm_ (a' := ?_) ?_ ?_
            rotate_left
            ·
             show Act.put _ (some 9) _ = _
             simp only [Act.put, List.setIfInBounds_toArray, List.set_cons_zero, List.set_cons_succ, i64_w, i32_w]
             rfl
            exact norm_ (by simp only [putAll, Act.put, List.setIfInBounds_toArray, List.set_cons_zero, List.set_cons_succ] <;> rfl) (hJ1_4_5 (v594, gb601, gb602) _ ⟨hHeld, (by (with_reducible repeat (first | apply Kd.R_alloc | apply Kd.R_drewN | apply Kd.R_drew)); exact HO595.out), (bq_ BK585), (bq_ BK586), (bq_ BK587), (bq_ BK601), (bq_ BK602), GW601.out, GE601.out, NB585_601.out, NB601_585.out, NB586_601.out, NB601_586.out, NB587_601.out, NB601_587.out, NB602_601.out, NB601_602.out, GW602.out, GE602.out, NB585_602.out, NB602_585.out, NB586_602.out, NB602_586.out, NB587_602.out, NB602_587.out, (hq_ HB)⟩)
         ·
          rintro ⟨v594, gb601⟩ w34 ⟨hS_, h0_, h1_, h2_, h3_, h4_, h5_, h6_, h7_, h8_, h9_, h10_, h11_, h12_, h13_⟩
          have HO595 := Aside0.mk h0_
          replace BK585 := Aside0.mk h1_
          replace BK586 := Aside0.mk h2_
          replace BK587 := Aside0.mk h3_
          have BK601 := Aside0.mk h4_
          have GW601 := Aside0.mk h5_
          have GE601 := Aside0.mk h6_
          have NB585_601 := Aside0.mk h7_
          have NB601_585 := Aside0.mk h8_
          have NB586_601 := Aside0.mk h9_
          have NB601_586 := Aside0.mk h10_
          have NB587_601 := Aside0.mk h11_
          have NB601_587 := Aside0.mk h12_
          replace HB := Aside0.mk h13_
          clear h0_ h1_ h2_ h3_ h4_ h5_ h6_ h7_ h8_ h9_ h10_ h11_ h12_ h13_
          have hHeld := hS_
          refine norm_ (a' := ?_) ?_ ?_
          rotate_left
          ·
           simp only [putAll, Act.put, List.setIfInBounds_toArray, List.set_cons_zero, List.set_cons_succ]
           rfl
          refine two_ (i := 3) (j := 5) (Ni := some 32) (Nj := some 10) zq10.q4 zq10.q6 rfl rfl rfl rfl (two_of HT_.out (by kernel_rfl)) (by decide) (by decide) (fun K hK => ?_) (fun K hK => ?_)
          ·
           refine gs_ Try.func33 #[.agg #[.int .i64 a1_0, .int .i64 a1_1, .slice A1_2 l1_2.length c1_2]] ?_
           with_reducible refine (compositorlaw09_clone.calls a1_0 a1_1 _ _ l1_2 t596 t597 t598 _ ?side1 ?side2 A26.out).mono ?_
           (case side1 => repeat (first | exact (Kd.C_below HR1_2.out HB.out) | (with_reducible refine Kd.C_alloc ?_ _) | (with_reducible refine Kd.C_drewN ?_ _) | (with_reducible refine Kd.C_drew ?_)))
           (case side2 => exact HC1_2.out)
           rintro e w35 ⟨v599, rfl, ho0, hb⟩
           refine ⟨_, rfl, ?_⟩
           have HO600 := Aside0.mk (Kd.R_lower (Kd.R_new' ho0 (Kd.R_lt (by (with_reducible repeat (first | apply Kd.R_alloc | apply Kd.R_drewN | apply Kd.R_drew)); exact HO595.out))) (below_size (hq_ HB)))
           replace HO595 := Aside0.mk (Kd.R_elder' (by (with_reducible repeat (first | apply Kd.R_alloc | apply Kd.R_drewN | apply Kd.R_drew)); exact HO595.out) (Kd.R_base ho0) hb)
           replace BK585 := bb_ BK585 hb
           replace BK586 := bb_ BK586 hb
           replace BK587 := bb_ BK587 hb
           replace BK601 := bb_ BK601 hb
           replace HB := hb_ HB hb
           (try clear hb); (try clear hb2); (try clear hk); (try clear hi)
           (try clear ho0)
           refine hK.out _ _ ⟨c_ BK585 0, ⟨c_ BK585 1, ⟨c_ BK585 2, ⟨c_ BK586 0, ⟨c_ BK586 1, (c_ BK586 2)⟩⟩⟩⟩⟩ (fun hHeld => ?_)
           clear hK K
           refine norm_ (a' := ?_) ?_ ?_
           rotate_left
           ·
            show Act.put _ (some 32) _ = _
            simp only [Act.put, List.setIfInBounds_toArray, List.set_cons_zero, List.set_cons_succ, i64_w, i32_w]
            rfl
           exact norm_ (by simp only [putAll, Act.put, List.setIfInBounds_toArray, List.set_cons_zero, List.set_cons_succ] <;> rfl) (hJ1_3_4 (v594, v599, gb601) _ ⟨hHeld, (by (with_reducible repeat (first | apply Kd.R_alloc | apply Kd.R_drewN | apply Kd.R_drew)); exact Kd.R_mono HO595.out (fun _ hk => hk.2)), (by (with_reducible repeat (first | apply Kd.R_alloc | apply Kd.R_drewN | apply Kd.R_drew)); exact Kd.R_mono HO600.out (fun _ hk => hk.2)), (bq_ BK585), (bq_ BK586), (bq_ BK587), (bq_ BK601), GW601.out, GE601.out, NB585_601.out, NB601_585.out, NB586_601.out, NB601_586.out, NB587_601.out, NB601_587.out, (hq_ HB)⟩)
          ·
           refine box_step ?hg (N := 10) ?hd (cs := #[.int .i64 0, .int .i64 0, .slice none 0 0]) (t := 27) ?hr ?_; (case hd => rfl); (case hg => rfl); (case hr => first | (go_simp; done) | (go_simp; rfl))
           intro gb602 hg w35 hbox hb
           replace HO595 := Aside0.mk (Kd.R_below (by (with_reducible repeat (first | apply Kd.R_alloc | apply Kd.R_drewN | apply Kd.R_drew)); exact HO595.out) hb)
           have BK602 := Aside0.mk (hbox)
           have GW602 := Aside0.mk ((by rw [hg]; exact (below_size (hq_ HB)) : w.heap.size ≤ gb602))
           have GE602 := Aside0.mk ((by rw [hg]; exact (below_size (hq_ HB)) : w.heap.size ≤ gb602))
           replace HB := hb_ HB hb
           have NB585_602 := Aside0.mk ((by rw [hg]; exact Nat.ne_of_lt (blk_lt (g := gb585) (o := .cells #[.int .i64 a0_0, .int .i64 a0_1, .slice A0_2 l0_2.length c0_2] 27 (0, 0)) (bq_ BK585)) : gb585 ≠ gb602))
           have NB602_585 := Aside0.mk ((by rw [hg]; exact Nat.ne_of_gt (blk_lt (g := gb585) (o := .cells #[.int .i64 a0_0, .int .i64 a0_1, .slice A0_2 l0_2.length c0_2] 27 (0, 0)) (bq_ BK585)) : gb602 ≠ gb585))
           replace BK585 := bb_ BK585 hb
           have NB586_602 := Aside0.mk ((by rw [hg]; exact Nat.ne_of_lt (blk_lt (g := gb586) (o := .cells #[.int .i64 a1_0, .int .i64 a1_1, .slice A1_2 l1_2.length c1_2] 27 (0, 0)) (bq_ BK586)) : gb586 ≠ gb602))
           have NB602_586 := Aside0.mk ((by rw [hg]; exact Nat.ne_of_gt (blk_lt (g := gb586) (o := .cells #[.int .i64 a1_0, .int .i64 a1_1, .slice A1_2 l1_2.length c1_2] 27 (0, 0)) (bq_ BK586)) : gb602 ≠ gb586))
           replace BK586 := bb_ BK586 hb
           have NB587_602 := Aside0.mk ((by rw [hg]; exact Nat.ne_of_lt (blk_lt (g := gb587) (o := .cells #[.int .i64 a2_0, .int .i64 a2_1] 41 (0, 0)) (bq_ BK587)) : gb587 ≠ gb602))
           have NB602_587 := Aside0.mk ((by rw [hg]; exact Nat.ne_of_gt (blk_lt (g := gb587) (o := .cells #[.int .i64 a2_0, .int .i64 a2_1] 41 (0, 0)) (bq_ BK587)) : gb602 ≠ gb587))
           replace BK587 := bb_ BK587 hb
           have NB601_602 := Aside0.mk ((by rw [hg]; exact Nat.ne_of_lt (blk_lt (g := gb601) (o := .cells #[.int .i64 0, .int .i64 0, .slice none 0 0] 27 (0, 0)) (bq_ BK601)) : gb601 ≠ gb602))
           have NB602_601 := Aside0.mk ((by rw [hg]; exact Nat.ne_of_gt (blk_lt (g := gb601) (o := .cells #[.int .i64 0, .int .i64 0, .slice none 0 0] 27 (0, 0)) (bq_ BK601)) : gb602 ≠ gb601))
           replace BK601 := bb_ BK601 hb
           clear hb hbox hg
           refine hK.out _ _ ⟨c_ BK585 0, ⟨c_ BK585 1, ⟨c_ BK585 2, ⟨c_ BK586 0, ⟨c_ BK586 1, (c_ BK586 2)⟩⟩⟩⟩⟩ (fun hHeld => ?_)
           clear hK K
           refine norm_ (a' := ?_) ?_ ?_
           rotate_left
           ·
            show Act.put _ (some 10) _ = _
            simp only [Act.put, List.setIfInBounds_toArray, List.set_cons_zero, List.set_cons_succ, i64_w, i32_w]
            rfl
           exact norm_ (by simp only [putAll, Act.put, List.setIfInBounds_toArray, List.set_cons_zero, List.set_cons_succ] <;> rfl) (hJ1_4_5 (v594, gb601, gb602) _ ⟨hHeld, (by (with_reducible repeat (first | apply Kd.R_alloc | apply Kd.R_drewN | apply Kd.R_drew)); exact HO595.out), (bq_ BK585), (bq_ BK586), (bq_ BK587), (bq_ BK601), (bq_ BK602), GW601.out, GE601.out, NB585_601.out, NB601_585.out, NB586_601.out, NB601_586.out, NB587_601.out, NB601_587.out, NB602_601.out, NB601_602.out, GW602.out, GE602.out, NB585_602.out, NB602_585.out, NB586_602.out, NB602_586.out, NB587_602.out, NB602_587.out, (hq_ HB)⟩)
        ·
         rintro ⟨v594, v599⟩ w34 ⟨hS_, h0_, h1_, h2_, h3_, h4_, h5_⟩
         have HO595 := Aside0.mk h0_
         have HO600 := Aside0.mk h1_
         replace BK585 := Aside0.mk h2_
         replace BK586 := Aside0.mk h3_
         replace BK587 := Aside0.mk h4_
         replace HB := Aside0.mk h5_
         clear h0_ h1_ h2_ h3_ h4_ h5_
         have hHeld := hS_
         refine norm_ (a' := ?_) ?_ ?_
         rotate_left
         ·
          simp only [putAll, Act.put, List.setIfInBounds_toArray, List.set_cons_zero, List.set_cons_succ]
          rfl
         refine two_ (i := 4) (j := 5) (Ni := some 9) (Nj := some 10) zq10.q4 zq10.q5 rfl rfl rfl rfl (two_of HT_.out (by kernel_rfl)) (by decide) (by decide) (fun K hK => ?_) (fun K hK => ?_)
         ·
          refine box_step ?hg (N := 9) ?hd (cs := #[.int .i64 0, .int .i64 0, .slice none 0 0]) (t := 27) ?hr ?_; (case hd => rfl); (case hg => rfl); (case hr => first | (go_simp; done) | (go_simp; rfl))
          intro gb601 hg w35 hbox hb
          replace HO595 := Aside0.mk (Kd.R_below (by (with_reducible repeat (first | apply Kd.R_alloc | apply Kd.R_drewN | apply Kd.R_drew)); exact HO595.out) hb)
          replace HO600 := Aside0.mk (Kd.R_below (by (with_reducible repeat (first | apply Kd.R_alloc | apply Kd.R_drewN | apply Kd.R_drew)); exact HO600.out) hb)
          have BK601 := Aside0.mk (hbox)
          have GW601 := Aside0.mk ((by rw [hg]; exact (below_size (hq_ HB)) : w.heap.size ≤ gb601))
          have GE601 := Aside0.mk ((by rw [hg]; exact (below_size (hq_ HB)) : w.heap.size ≤ gb601))
          replace HB := hb_ HB hb
          have NB585_601 := Aside0.mk ((by rw [hg]; exact Nat.ne_of_lt (blk_lt (g := gb585) (o := .cells #[.int .i64 a0_0, .int .i64 a0_1, .slice A0_2 l0_2.length c0_2] 27 (0, 0)) (bq_ BK585)) : gb585 ≠ gb601))
          have NB601_585 := Aside0.mk ((by rw [hg]; exact Nat.ne_of_gt (blk_lt (g := gb585) (o := .cells #[.int .i64 a0_0, .int .i64 a0_1, .slice A0_2 l0_2.length c0_2] 27 (0, 0)) (bq_ BK585)) : gb601 ≠ gb585))
          replace BK585 := bb_ BK585 hb
          have NB586_601 := Aside0.mk ((by rw [hg]; exact Nat.ne_of_lt (blk_lt (g := gb586) (o := .cells #[.int .i64 a1_0, .int .i64 a1_1, .slice A1_2 l1_2.length c1_2] 27 (0, 0)) (bq_ BK586)) : gb586 ≠ gb601))
          have NB601_586 := Aside0.mk ((by rw [hg]; exact Nat.ne_of_gt (blk_lt (g := gb586) (o := .cells #[.int .i64 a1_0, .int .i64 a1_1, .slice A1_2 l1_2.length c1_2] 27 (0, 0)) (bq_ BK586)) : gb601 ≠ gb586))
          replace BK586 := bb_ BK586 hb
          have NB587_601 := Aside0.mk ((by rw [hg]; exact Nat.ne_of_lt (blk_lt (g := gb587) (o := .cells #[.int .i64 a2_0, .int .i64 a2_1] 41 (0, 0)) (bq_ BK587)) : gb587 ≠ gb601))
          have NB601_587 := Aside0.mk ((by rw [hg]; exact Nat.ne_of_gt (blk_lt (g := gb587) (o := .cells #[.int .i64 a2_0, .int .i64 a2_1] 41 (0, 0)) (bq_ BK587)) : gb601 ≠ gb587))
          replace BK587 := bb_ BK587 hb
          clear hb hbox hg
          refine hK.out _ _ ⟨c_ BK585 0, ⟨c_ BK585 1, ⟨c_ BK585 2, ⟨c_ BK586 0, ⟨c_ BK586 1, (c_ BK586 2)⟩⟩⟩⟩⟩ (fun hHeld => ?_)
          clear hK K
          refine norm_ (a' := ?_) ?_ ?_
          rotate_left
          ·
           show Act.put _ (some 9) _ = _
           simp only [Act.put, List.setIfInBounds_toArray, List.set_cons_zero, List.set_cons_succ, i64_w, i32_w]
           rfl
          exact norm_ (by simp only [putAll, Act.put, List.setIfInBounds_toArray, List.set_cons_zero, List.set_cons_succ] <;> rfl) (hJ1_3_4 (v594, v599, gb601) _ ⟨hHeld, (by (with_reducible repeat (first | apply Kd.R_alloc | apply Kd.R_drewN | apply Kd.R_drew)); exact HO595.out), (by (with_reducible repeat (first | apply Kd.R_alloc | apply Kd.R_drewN | apply Kd.R_drew)); exact HO600.out), (bq_ BK585), (bq_ BK586), (bq_ BK587), (bq_ BK601), GW601.out, GE601.out, NB585_601.out, NB601_585.out, NB586_601.out, NB601_586.out, NB587_601.out, NB601_587.out, (hq_ HB)⟩)
         ·
          refine box_step ?hg (N := 10) ?hd (cs := #[.int .i64 0, .int .i64 0, .slice none 0 0]) (t := 27) ?hr ?_; (case hd => rfl); (case hg => rfl); (case hr => first | (go_simp; done) | (go_simp; rfl))
          intro gb602 hg w35 hbox hb
          replace HO595 := Aside0.mk (Kd.R_below (by (with_reducible repeat (first | apply Kd.R_alloc | apply Kd.R_drewN | apply Kd.R_drew)); exact HO595.out) hb)
          replace HO600 := Aside0.mk (Kd.R_below (by (with_reducible repeat (first | apply Kd.R_alloc | apply Kd.R_drewN | apply Kd.R_drew)); exact HO600.out) hb)
          have BK602 := Aside0.mk (hbox)
          have GW602 := Aside0.mk ((by rw [hg]; exact (below_size (hq_ HB)) : w.heap.size ≤ gb602))
          have GE602 := Aside0.mk ((by rw [hg]; exact (below_size (hq_ HB)) : w.heap.size ≤ gb602))
          replace HB := hb_ HB hb
          have NB585_602 := Aside0.mk ((by rw [hg]; exact Nat.ne_of_lt (blk_lt (g := gb585) (o := .cells #[.int .i64 a0_0, .int .i64 a0_1, .slice A0_2 l0_2.length c0_2] 27 (0, 0)) (bq_ BK585)) : gb585 ≠ gb602))
          have NB602_585 := Aside0.mk ((by rw [hg]; exact Nat.ne_of_gt (blk_lt (g := gb585) (o := .cells #[.int .i64 a0_0, .int .i64 a0_1, .slice A0_2 l0_2.length c0_2] 27 (0, 0)) (bq_ BK585)) : gb602 ≠ gb585))
          replace BK585 := bb_ BK585 hb
          have NB586_602 := Aside0.mk ((by rw [hg]; exact Nat.ne_of_lt (blk_lt (g := gb586) (o := .cells #[.int .i64 a1_0, .int .i64 a1_1, .slice A1_2 l1_2.length c1_2] 27 (0, 0)) (bq_ BK586)) : gb586 ≠ gb602))
          have NB602_586 := Aside0.mk ((by rw [hg]; exact Nat.ne_of_gt (blk_lt (g := gb586) (o := .cells #[.int .i64 a1_0, .int .i64 a1_1, .slice A1_2 l1_2.length c1_2] 27 (0, 0)) (bq_ BK586)) : gb602 ≠ gb586))
          replace BK586 := bb_ BK586 hb
          have NB587_602 := Aside0.mk ((by rw [hg]; exact Nat.ne_of_lt (blk_lt (g := gb587) (o := .cells #[.int .i64 a2_0, .int .i64 a2_1] 41 (0, 0)) (bq_ BK587)) : gb587 ≠ gb602))
          have NB602_587 := Aside0.mk ((by rw [hg]; exact Nat.ne_of_gt (blk_lt (g := gb587) (o := .cells #[.int .i64 a2_0, .int .i64 a2_1] 41 (0, 0)) (bq_ BK587)) : gb602 ≠ gb587))
          replace BK587 := bb_ BK587 hb
          clear hb hbox hg
          refine hK.out _ _ ⟨c_ BK585 0, ⟨c_ BK585 1, ⟨c_ BK585 2, ⟨c_ BK586 0, ⟨c_ BK586 1, (c_ BK586 2)⟩⟩⟩⟩⟩ (fun hHeld => ?_)
          clear hK K
          refine norm_ (a' := ?_) ?_ ?_
          rotate_left
          ·
           show Act.put _ (some 10) _ = _
           simp only [Act.put, List.setIfInBounds_toArray, List.set_cons_zero, List.set_cons_succ, i64_w, i32_w]
           rfl
          exact norm_ (by simp only [putAll, Act.put, List.setIfInBounds_toArray, List.set_cons_zero, List.set_cons_succ] <;> rfl) (hJ1_3_5 (v594, v599, gb602) _ ⟨hHeld, (by (with_reducible repeat (first | apply Kd.R_alloc | apply Kd.R_drewN | apply Kd.R_drew)); exact HO595.out), (by (with_reducible repeat (first | apply Kd.R_alloc | apply Kd.R_drewN | apply Kd.R_drew)); exact HO600.out), (bq_ BK585), (bq_ BK586), (bq_ BK587), (bq_ BK602), GW602.out, GE602.out, NB585_602.out, NB602_585.out, NB586_602.out, NB602_586.out, NB587_602.out, NB602_587.out, (hq_ HB)⟩)
       ·
        rintro ⟨v594, gb601, gb602⟩ w35 ⟨hS_, h0_, h1_, h2_, h3_, h4_, h5_, h6_, h7_, h8_, h9_, h10_, h11_, h12_, h13_, h14_, h15_, h16_, h17_, h18_, h19_, h20_, h21_, h22_, h23_, h24_⟩
        have HO595 := Aside0.mk h0_
        replace BK585 := Aside0.mk h1_
        replace BK586 := Aside0.mk h2_
        replace BK587 := Aside0.mk h3_
        have BK601 := Aside0.mk h4_
        have BK602 := Aside0.mk h5_
        have GW601 := Aside0.mk h6_
        have GE601 := Aside0.mk h7_
        have NB585_601 := Aside0.mk h8_
        have NB601_585 := Aside0.mk h9_
        have NB586_601 := Aside0.mk h10_
        have NB601_586 := Aside0.mk h11_
        have NB587_601 := Aside0.mk h12_
        have NB601_587 := Aside0.mk h13_
        have NB602_601 := Aside0.mk h14_
        have NB601_602 := Aside0.mk h15_
        have GW602 := Aside0.mk h16_
        have GE602 := Aside0.mk h17_
        have NB585_602 := Aside0.mk h18_
        have NB602_585 := Aside0.mk h19_
        have NB586_602 := Aside0.mk h20_
        have NB602_586 := Aside0.mk h21_
        have NB587_602 := Aside0.mk h22_
        have NB602_587 := Aside0.mk h23_
        replace HB := Aside0.mk h24_
        clear h0_ h1_ h2_ h3_ h4_ h5_ h6_ h7_ h8_ h9_ h10_ h11_ h12_ h13_ h14_ h15_ h16_ h17_ h18_ h19_ h20_ h21_ h22_ h23_ h24_
        have hHeld := hS_
        refine norm_ (a' := ?_) ?_ ?_
        rotate_left
        ·
         simp only [putAll, Act.put, List.setIfInBounds_toArray, List.set_cons_zero, List.set_cons_succ]
         rfl
        refine one_ (i := 3) (N := some 32) zq10.q3 rfl rfl (one_of HT_.out (by kernel_rfl)) (by decide) (fun K hK => ?_)
        refine gs_ Try.func33 #[.agg #[.int .i64 a1_0, .int .i64 a1_1, .slice A1_2 l1_2.length c1_2]] ?_
        with_reducible refine (compositorlaw09_clone.calls a1_0 a1_1 _ _ l1_2 t596 t597 t598 _ ?side1 ?side2 A26.out).mono ?_
        (case side1 => repeat (first | exact (Kd.C_below HR1_2.out HB.out) | (with_reducible refine Kd.C_alloc ?_ _) | (with_reducible refine Kd.C_drewN ?_ _) | (with_reducible refine Kd.C_drew ?_)))
        (case side2 => exact HC1_2.out)
        rintro e w36 ⟨v599, rfl, ho0, hb⟩
        refine ⟨_, rfl, ?_⟩
        have HO600 := Aside0.mk (Kd.R_lower (Kd.R_new' ho0 (Kd.R_lt (by (with_reducible repeat (first | apply Kd.R_alloc | apply Kd.R_drewN | apply Kd.R_drew)); exact HO595.out))) (below_size (hq_ HB)))
        replace HO595 := Aside0.mk (Kd.R_elder' (by (with_reducible repeat (first | apply Kd.R_alloc | apply Kd.R_drewN | apply Kd.R_drew)); exact HO595.out) (Kd.R_base ho0) hb)
        replace BK585 := bb_ BK585 hb
        replace BK586 := bb_ BK586 hb
        replace BK587 := bb_ BK587 hb
        replace BK601 := bb_ BK601 hb
        replace BK602 := bb_ BK602 hb
        replace HB := hb_ HB hb
        (try clear hb); (try clear hb2); (try clear hk); (try clear hi)
        (try clear ho0)
        refine hK.out _ _ ⟨c_ BK585 0, ⟨c_ BK585 1, ⟨c_ BK585 2, ⟨c_ BK586 0, ⟨c_ BK586 1, (c_ BK586 2)⟩⟩⟩⟩⟩ (fun hHeld => ?_)
        clear hK K
        refine norm_ (a' := ?_) ?_ ?_
        rotate_left
        ·
         show Act.put _ (some 32) _ = _
         simp only [Act.put, List.setIfInBounds_toArray, List.set_cons_zero, List.set_cons_succ, i64_w, i32_w]
         rfl
        exact norm_ (by simp only [putAll, Act.put, List.setIfInBounds_toArray, List.set_cons_zero, List.set_cons_succ] <;> rfl) (hJ1_3_4_5 (v594, v599, gb601, gb602) _ ⟨hHeld, (by (with_reducible repeat (first | apply Kd.R_alloc | apply Kd.R_drewN | apply Kd.R_drew)); exact Kd.R_mono HO595.out (fun _ hk => hk.2)), (by (with_reducible repeat (first | apply Kd.R_alloc | apply Kd.R_drewN | apply Kd.R_drew)); exact Kd.R_mono HO600.out (fun _ hk => hk.2)), (bq_ BK585), (bq_ BK586), (bq_ BK587), (bq_ BK601), (bq_ BK602), GW601.out, GE601.out, NB585_601.out, NB601_585.out, NB586_601.out, NB601_586.out, NB587_601.out, NB601_587.out, NB602_601.out, NB601_602.out, GW602.out, GE602.out, NB585_602.out, NB602_585.out, NB586_602.out, NB602_586.out, NB587_602.out, NB602_587.out, (hq_ HB)⟩)
      ·
       rintro ⟨v594, v599, gb602⟩ w35 ⟨hS_, h0_, h1_, h2_, h3_, h4_, h5_, h6_, h7_, h8_, h9_, h10_, h11_, h12_, h13_, h14_⟩
       have HO595 := Aside0.mk h0_
       have HO600 := Aside0.mk h1_
       replace BK585 := Aside0.mk h2_
       replace BK586 := Aside0.mk h3_
       replace BK587 := Aside0.mk h4_
       have BK602 := Aside0.mk h5_
       have GW602 := Aside0.mk h6_
       have GE602 := Aside0.mk h7_
       have NB585_602 := Aside0.mk h8_
       have NB602_585 := Aside0.mk h9_
       have NB586_602 := Aside0.mk h10_
       have NB602_586 := Aside0.mk h11_
       have NB587_602 := Aside0.mk h12_
       have NB602_587 := Aside0.mk h13_
       replace HB := Aside0.mk h14_
       clear h0_ h1_ h2_ h3_ h4_ h5_ h6_ h7_ h8_ h9_ h10_ h11_ h12_ h13_ h14_
       have hHeld := hS_
       refine norm_ (a' := ?_) ?_ ?_
       rotate_left
       ·
        simp only [putAll, Act.put, List.setIfInBounds_toArray, List.set_cons_zero, List.set_cons_succ]
        rfl
       refine one_ (i := 4) (N := some 9) zq10.q3 rfl rfl (one_of HT_.out (by kernel_rfl)) (by decide) (fun K hK => ?_)
       refine box_step ?hg (N := 9) ?hd (cs := #[.int .i64 0, .int .i64 0, .slice none 0 0]) (t := 27) ?hr ?_; (case hd => rfl); (case hg => rfl); (case hr => first | (go_simp; done) | (go_simp; rfl))
       intro gb601 hg w36 hbox hb
       replace HO595 := Aside0.mk (Kd.R_below (by (with_reducible repeat (first | apply Kd.R_alloc | apply Kd.R_drewN | apply Kd.R_drew)); exact HO595.out) hb)
       replace HO600 := Aside0.mk (Kd.R_below (by (with_reducible repeat (first | apply Kd.R_alloc | apply Kd.R_drewN | apply Kd.R_drew)); exact HO600.out) hb)
       have BK601 := Aside0.mk (hbox)
       have GW601 := Aside0.mk ((by rw [hg]; exact (below_size (hq_ HB)) : w.heap.size ≤ gb601))
       have GE601 := Aside0.mk ((by rw [hg]; exact (below_size (hq_ HB)) : w.heap.size ≤ gb601))
       replace HB := hb_ HB hb
       have NB585_601 := Aside0.mk ((by rw [hg]; exact Nat.ne_of_lt (blk_lt (g := gb585) (o := .cells #[.int .i64 a0_0, .int .i64 a0_1, .slice A0_2 l0_2.length c0_2] 27 (0, 0)) (bq_ BK585)) : gb585 ≠ gb601))
       have NB601_585 := Aside0.mk ((by rw [hg]; exact Nat.ne_of_gt (blk_lt (g := gb585) (o := .cells #[.int .i64 a0_0, .int .i64 a0_1, .slice A0_2 l0_2.length c0_2] 27 (0, 0)) (bq_ BK585)) : gb601 ≠ gb585))
       replace BK585 := bb_ BK585 hb
       have NB586_601 := Aside0.mk ((by rw [hg]; exact Nat.ne_of_lt (blk_lt (g := gb586) (o := .cells #[.int .i64 a1_0, .int .i64 a1_1, .slice A1_2 l1_2.length c1_2] 27 (0, 0)) (bq_ BK586)) : gb586 ≠ gb601))
       have NB601_586 := Aside0.mk ((by rw [hg]; exact Nat.ne_of_gt (blk_lt (g := gb586) (o := .cells #[.int .i64 a1_0, .int .i64 a1_1, .slice A1_2 l1_2.length c1_2] 27 (0, 0)) (bq_ BK586)) : gb601 ≠ gb586))
       replace BK586 := bb_ BK586 hb
       have NB587_601 := Aside0.mk ((by rw [hg]; exact Nat.ne_of_lt (blk_lt (g := gb587) (o := .cells #[.int .i64 a2_0, .int .i64 a2_1] 41 (0, 0)) (bq_ BK587)) : gb587 ≠ gb601))
       have NB601_587 := Aside0.mk ((by rw [hg]; exact Nat.ne_of_gt (blk_lt (g := gb587) (o := .cells #[.int .i64 a2_0, .int .i64 a2_1] 41 (0, 0)) (bq_ BK587)) : gb601 ≠ gb587))
       replace BK587 := bb_ BK587 hb
       have NB602_601 := Aside0.mk ((by rw [hg]; exact Nat.ne_of_lt (blk_lt (g := gb602) (o := .cells #[.int .i64 0, .int .i64 0, .slice none 0 0] 27 (0, 0)) (bq_ BK602)) : gb602 ≠ gb601))
       have NB601_602 := Aside0.mk ((by rw [hg]; exact Nat.ne_of_gt (blk_lt (g := gb602) (o := .cells #[.int .i64 0, .int .i64 0, .slice none 0 0] 27 (0, 0)) (bq_ BK602)) : gb601 ≠ gb602))
       replace BK602 := bb_ BK602 hb
       clear hb hbox hg
       refine hK.out _ _ ⟨c_ BK585 0, ⟨c_ BK585 1, ⟨c_ BK585 2, ⟨c_ BK586 0, ⟨c_ BK586 1, (c_ BK586 2)⟩⟩⟩⟩⟩ (fun hHeld => ?_)
       clear hK K
       refine norm_ (a' := ?_) ?_ ?_
       rotate_left
       ·
        show Act.put _ (some 9) _ = _
        simp only [Act.put, List.setIfInBounds_toArray, List.set_cons_zero, List.set_cons_succ, i64_w, i32_w]
        rfl
       exact norm_ (by simp only [putAll, Act.put, List.setIfInBounds_toArray, List.set_cons_zero, List.set_cons_succ] <;> rfl) (hJ1_3_4_5 (v594, v599, gb601, gb602) _ ⟨hHeld, (by (with_reducible repeat (first | apply Kd.R_alloc | apply Kd.R_drewN | apply Kd.R_drew)); exact HO595.out), (by (with_reducible repeat (first | apply Kd.R_alloc | apply Kd.R_drewN | apply Kd.R_drew)); exact HO600.out), (bq_ BK585), (bq_ BK586), (bq_ BK587), (bq_ BK601), (bq_ BK602), GW601.out, GE601.out, NB585_601.out, NB601_585.out, NB586_601.out, NB601_586.out, NB587_601.out, NB601_587.out, NB602_601.out, NB601_602.out, GW602.out, GE602.out, NB585_602.out, NB602_585.out, NB586_602.out, NB602_586.out, NB587_602.out, NB602_587.out, (hq_ HB)⟩)
     ·
      rintro ⟨v594, v599, gb601⟩ w35 ⟨hS_, h0_, h1_, h2_, h3_, h4_, h5_, h6_, h7_, h8_, h9_, h10_, h11_, h12_, h13_, h14_⟩
      have HO595 := Aside0.mk h0_
      have HO600 := Aside0.mk h1_
      replace BK585 := Aside0.mk h2_
      replace BK586 := Aside0.mk h3_
      replace BK587 := Aside0.mk h4_
      have BK601 := Aside0.mk h5_
      have GW601 := Aside0.mk h6_
      have GE601 := Aside0.mk h7_
      have NB585_601 := Aside0.mk h8_
      have NB601_585 := Aside0.mk h9_
      have NB586_601 := Aside0.mk h10_
      have NB601_586 := Aside0.mk h11_
      have NB587_601 := Aside0.mk h12_
      have NB601_587 := Aside0.mk h13_
      replace HB := Aside0.mk h14_
      clear h0_ h1_ h2_ h3_ h4_ h5_ h6_ h7_ h8_ h9_ h10_ h11_ h12_ h13_ h14_
      have hHeld := hS_
      refine norm_ (a' := ?_) ?_ ?_
      rotate_left
      ·
       simp only [putAll, Act.put, List.setIfInBounds_toArray, List.set_cons_zero, List.set_cons_succ]
       rfl
      refine one_ (i := 5) (N := some 10) zq10.q3 rfl rfl (one_of HT_.out (by kernel_rfl)) (by decide) (fun K hK => ?_)
      refine box_step ?hg (N := 10) ?hd (cs := #[.int .i64 0, .int .i64 0, .slice none 0 0]) (t := 27) ?hr ?_; (case hd => rfl); (case hg => rfl); (case hr => first | (go_simp; done) | (go_simp; rfl))
      intro gb602 hg w36 hbox hb
      replace HO595 := Aside0.mk (Kd.R_below (by (with_reducible repeat (first | apply Kd.R_alloc | apply Kd.R_drewN | apply Kd.R_drew)); exact HO595.out) hb)
      replace HO600 := Aside0.mk (Kd.R_below (by (with_reducible repeat (first | apply Kd.R_alloc | apply Kd.R_drewN | apply Kd.R_drew)); exact HO600.out) hb)
      have BK602 := Aside0.mk (hbox)
      have GW602 := Aside0.mk ((by rw [hg]; exact (below_size (hq_ HB)) : w.heap.size ≤ gb602))
      have GE602 := Aside0.mk ((by rw [hg]; exact (below_size (hq_ HB)) : w.heap.size ≤ gb602))
      replace HB := hb_ HB hb
      have NB585_602 := Aside0.mk ((by rw [hg]; exact Nat.ne_of_lt (blk_lt (g := gb585) (o := .cells #[.int .i64 a0_0, .int .i64 a0_1, .slice A0_2 l0_2.length c0_2] 27 (0, 0)) (bq_ BK585)) : gb585 ≠ gb602))
      have NB602_585 := Aside0.mk ((by rw [hg]; exact Nat.ne_of_gt (blk_lt (g := gb585) (o := .cells #[.int .i64 a0_0, .int .i64 a0_1, .slice A0_2 l0_2.length c0_2] 27 (0, 0)) (bq_ BK585)) : gb602 ≠ gb585))
      replace BK585 := bb_ BK585 hb
      have NB586_602 := Aside0.mk ((by rw [hg]; exact Nat.ne_of_lt (blk_lt (g := gb586) (o := .cells #[.int .i64 a1_0, .int .i64 a1_1, .slice A1_2 l1_2.length c1_2] 27 (0, 0)) (bq_ BK586)) : gb586 ≠ gb602))
      have NB602_586 := Aside0.mk ((by rw [hg]; exact Nat.ne_of_gt (blk_lt (g := gb586) (o := .cells #[.int .i64 a1_0, .int .i64 a1_1, .slice A1_2 l1_2.length c1_2] 27 (0, 0)) (bq_ BK586)) : gb602 ≠ gb586))
      replace BK586 := bb_ BK586 hb
      have NB587_602 := Aside0.mk ((by rw [hg]; exact Nat.ne_of_lt (blk_lt (g := gb587) (o := .cells #[.int .i64 a2_0, .int .i64 a2_1] 41 (0, 0)) (bq_ BK587)) : gb587 ≠ gb602))
      have NB602_587 := Aside0.mk ((by rw [hg]; exact Nat.ne_of_gt (blk_lt (g := gb587) (o := .cells #[.int .i64 a2_0, .int .i64 a2_1] 41 (0, 0)) (bq_ BK587)) : gb602 ≠ gb587))
      replace BK587 := bb_ BK587 hb
      have NB601_602 := Aside0.mk ((by rw [hg]; exact Nat.ne_of_lt (blk_lt (g := gb601) (o := .cells #[.int .i64 0, .int .i64 0, .slice none 0 0] 27 (0, 0)) (bq_ BK601)) : gb601 ≠ gb602))
      have NB602_601 := Aside0.mk ((by rw [hg]; exact Nat.ne_of_gt (blk_lt (g := gb601) (o := .cells #[.int .i64 0, .int .i64 0, .slice none 0 0] 27 (0, 0)) (bq_ BK601)) : gb602 ≠ gb601))
      replace BK601 := bb_ BK601 hb
      clear hb hbox hg
      refine hK.out _ _ ⟨c_ BK585 0, ⟨c_ BK585 1, ⟨c_ BK585 2, ⟨c_ BK586 0, ⟨c_ BK586 1, (c_ BK586 2)⟩⟩⟩⟩⟩ (fun hHeld => ?_)
      clear hK K
      refine norm_ (a' := ?_) ?_ ?_
      rotate_left
      ·
       show Act.put _ (some 10) _ = _
       simp only [Act.put, List.setIfInBounds_toArray, List.set_cons_zero, List.set_cons_succ, i64_w, i32_w]
       rfl
      exact norm_ (by simp only [putAll, Act.put, List.setIfInBounds_toArray, List.set_cons_zero, List.set_cons_succ] <;> rfl) (hJ1_3_4_5 (v594, v599, gb601, gb602) _ ⟨hHeld, (by (with_reducible repeat (first | apply Kd.R_alloc | apply Kd.R_drewN | apply Kd.R_drew)); exact HO595.out), (by (with_reducible repeat (first | apply Kd.R_alloc | apply Kd.R_drewN | apply Kd.R_drew)); exact HO600.out), (bq_ BK585), (bq_ BK586), (bq_ BK587), (bq_ BK601), (bq_ BK602), GW601.out, GE601.out, NB585_601.out, NB601_585.out, NB586_601.out, NB601_586.out, NB587_601.out, NB601_587.out, NB602_601.out, NB601_602.out, GW602.out, GE602.out, NB585_602.out, NB602_585.out, NB586_602.out, NB602_586.out, NB587_602.out, NB602_587.out, (hq_ HB)⟩)
    rintro ⟨v594, v599, gb601, gb602⟩ w36 ⟨hS_, h0_, h1_, h2_, h3_, h4_, h5_, h6_, h7_, h8_, h9_, h10_, h11_, h12_, h13_, h14_, h15_, h16_, h17_, h18_, h19_, h20_, h21_, h22_, h23_, h24_, h25_⟩
    have HO595 := Aside0.mk h0_
    have HO600 := Aside0.mk h1_
    replace BK585 := Aside0.mk h2_
    replace BK586 := Aside0.mk h3_
    replace BK587 := Aside0.mk h4_
    have BK601 := Aside0.mk h5_
    have BK602 := Aside0.mk h6_
    have GW601 := Aside0.mk h7_
    have GE601 := Aside0.mk h8_
    have NB585_601 := Aside0.mk h9_
    have NB601_585 := Aside0.mk h10_
    have NB586_601 := Aside0.mk h11_
    have NB601_586 := Aside0.mk h12_
    have NB587_601 := Aside0.mk h13_
    have NB601_587 := Aside0.mk h14_
    have NB602_601 := Aside0.mk h15_
    have NB601_602 := Aside0.mk h16_
    have GW602 := Aside0.mk h17_
    have GE602 := Aside0.mk h18_
    have NB585_602 := Aside0.mk h19_
    have NB602_585 := Aside0.mk h20_
    have NB586_602 := Aside0.mk h21_
    have NB602_586 := Aside0.mk h22_
    have NB587_602 := Aside0.mk h23_
    have NB602_587 := Aside0.mk h24_
    replace HB := Aside0.mk h25_
    clear h0_ h1_ h2_ h3_ h4_ h5_ h6_ h7_ h8_ h9_ h10_ h11_ h12_ h13_ h14_ h15_ h16_ h17_ h18_ h19_ h20_ h21_ h22_ h23_ h24_ h25_
    have hHeld := hS_
    obtain ⟨Ao39, co39, eo39⟩ := Kd.R_slice HO595.out
    (first | subst eo39 | (injection eo39 with f1_ f2_ f3_; have f4_ := f1_.symm; have f5_ := f3_.symm; clear f1_ f2_ f3_; subst f4_; subst f5_))
    obtain ⟨Ao43, co43, eo43⟩ := Kd.R_slice HO600.out
    (first | subst eo43 | (injection eo43 with f1_ f2_ f3_; have f4_ := f1_.symm; have f5_ := f3_.symm; clear f1_ f2_ f3_; subst f4_; subst f5_))
    refine norm_ (a' := ?_) ?_ ?_
    rotate_left
    ·
     simp only [putAll, Act.put, List.setIfInBounds_toArray, List.set_cons_zero, List.set_cons_succ]
     rfl
    refine one_ (i := 6) (N := none) zq10.q14 rfl rfl (one_of HT_.out (by kernel_rfl)) (by decide) (fun K hK => ?_)
    have hs37 : w36.cell? ⟨gb601, 0, none⟩ = some (.int .i64 0) := (blk_cell BK601.out 0).trans rfl
    have hfs37 := blk_frozen BK601.out 0
    have hns37_0 := NB585_601.out
    have hns37_1 := NB586_601.out
    have hns37_2 := NB587_601.out
    have hns37_4 := NB602_601.out
    have hms37_0 := NB601_585.out
    have hms37_1 := NB601_586.out
    have hms37_2 := NB601_587.out
    have hms37_4 := NB601_602.out
    have hs38 : w36.cell? ⟨gb601, 1, none⟩ = some (.int .i64 0) := (blk_cell BK601.out 1).trans rfl
    have hfs38 := blk_frozen BK601.out 1
    have hns38_0 := NB585_601.out
    have hns38_1 := NB586_601.out
    have hns38_2 := NB587_601.out
    have hns38_4 := NB602_601.out
    have hms38_0 := NB601_585.out
    have hms38_1 := NB601_586.out
    have hms38_2 := NB601_587.out
    have hms38_4 := NB601_602.out
    have hs40 : w36.cell? ⟨gb601, 2, none⟩ = some (.slice none 0 0) := (blk_cell BK601.out 2).trans rfl
    have hfs40 := blk_frozen BK601.out 2
    have hns40_0 := NB585_601.out
    have hns40_1 := NB586_601.out
    have hns40_2 := NB587_601.out
    have hns40_4 := NB602_601.out
    have hms40_0 := NB601_585.out
    have hms40_1 := NB601_586.out
    have hms40_2 := NB601_587.out
    have hms40_4 := NB601_602.out
    refine skip_ (w1 := ?_) (by rfl) rfl ?_ ?_
    rotate_left
    ·
     go_simp
     rfl
    refine hK.out _ _ ⟨((cell_far (p := ⟨gb601, _, none⟩) NB585_601.out _).trans (((cell_far (p := ⟨gb601, _, none⟩) NB585_601.out _).trans (((cell_far (p := ⟨gb601, _, none⟩) NB585_601.out _).trans (hHeld.1)))))), ((cell_far (p := ⟨gb601, _, none⟩) NB585_601.out _).trans (((cell_far (p := ⟨gb601, _, none⟩) NB585_601.out _).trans (((cell_far (p := ⟨gb601, _, none⟩) NB585_601.out _).trans (hHeld.2.1)))))), ((cell_far (p := ⟨gb601, _, none⟩) NB585_601.out _).trans (((cell_far (p := ⟨gb601, _, none⟩) NB585_601.out _).trans (((cell_far (p := ⟨gb601, _, none⟩) NB585_601.out _).trans (hHeld.2.2.1)))))), ((cell_far (p := ⟨gb601, _, none⟩) NB586_601.out _).trans (((cell_far (p := ⟨gb601, _, none⟩) NB586_601.out _).trans (((cell_far (p := ⟨gb601, _, none⟩) NB586_601.out _).trans (hHeld.2.2.2.1)))))), ((cell_far (p := ⟨gb601, _, none⟩) NB586_601.out _).trans (((cell_far (p := ⟨gb601, _, none⟩) NB586_601.out _).trans (((cell_far (p := ⟨gb601, _, none⟩) NB586_601.out _).trans (hHeld.2.2.2.2.1)))))), ((cell_far (p := ⟨gb601, _, none⟩) NB586_601.out _).trans (((cell_far (p := ⟨gb601, _, none⟩) NB586_601.out _).trans (((cell_far (p := ⟨gb601, _, none⟩) NB586_601.out _).trans (hHeld.2.2.2.2.2))))))⟩ (fun hHeld => ?_)
    clear hK K
    refine one_ (i := 7) (N := none) zq10.q15 rfl rfl (one_of HT_.out (by kernel_rfl)) (by decide) (fun K hK => ?_)
    have hs41 : w36.cell? ⟨gb602, 0, none⟩ = some (.int .i64 0) := (blk_cell BK602.out 0).trans rfl
    have hfs41 := blk_frozen BK602.out 0
    have hns41_0 := NB585_602.out
    have hns41_1 := NB586_602.out
    have hns41_2 := NB587_602.out
    have hns41_3 := NB601_602.out
    have hms41_0 := NB602_585.out
    have hms41_1 := NB602_586.out
    have hms41_2 := NB602_587.out
    have hms41_3 := NB602_601.out
    have hs42 : w36.cell? ⟨gb602, 1, none⟩ = some (.int .i64 0) := (blk_cell BK602.out 1).trans rfl
    have hfs42 := blk_frozen BK602.out 1
    have hns42_0 := NB585_602.out
    have hns42_1 := NB586_602.out
    have hns42_2 := NB587_602.out
    have hns42_3 := NB601_602.out
    have hms42_0 := NB602_585.out
    have hms42_1 := NB602_586.out
    have hms42_2 := NB602_587.out
    have hms42_3 := NB602_601.out
    have hs44 : w36.cell? ⟨gb602, 2, none⟩ = some (.slice none 0 0) := (blk_cell BK602.out 2).trans rfl
    have hfs44 := blk_frozen BK602.out 2
    have hns44_0 := NB585_602.out
    have hns44_1 := NB586_602.out
    have hns44_2 := NB587_602.out
    have hns44_3 := NB601_602.out
    have hms44_0 := NB602_585.out
    have hms44_1 := NB602_586.out
    have hms44_2 := NB602_587.out
    have hms44_3 := NB602_601.out
    refine skip_ (w1 := ?_) (by rfl) rfl ?_ ?_
    rotate_left
    ·
     go_simp
     rfl
    refine hK.out _ _ ⟨((cell_far (p := ⟨gb602, _, none⟩) NB585_602.out _).trans (((cell_far (p := ⟨gb602, _, none⟩) NB585_602.out _).trans (((cell_far (p := ⟨gb602, _, none⟩) NB585_602.out _).trans (hHeld.1)))))), ((cell_far (p := ⟨gb602, _, none⟩) NB585_602.out _).trans (((cell_far (p := ⟨gb602, _, none⟩) NB585_602.out _).trans (((cell_far (p := ⟨gb602, _, none⟩) NB585_602.out _).trans (hHeld.2.1)))))), ((cell_far (p := ⟨gb602, _, none⟩) NB585_602.out _).trans (((cell_far (p := ⟨gb602, _, none⟩) NB585_602.out _).trans (((cell_far (p := ⟨gb602, _, none⟩) NB585_602.out _).trans (hHeld.2.2.1)))))), ((cell_far (p := ⟨gb602, _, none⟩) NB586_602.out _).trans (((cell_far (p := ⟨gb602, _, none⟩) NB586_602.out _).trans (((cell_far (p := ⟨gb602, _, none⟩) NB586_602.out _).trans (hHeld.2.2.2.1)))))), ((cell_far (p := ⟨gb602, _, none⟩) NB586_602.out _).trans (((cell_far (p := ⟨gb602, _, none⟩) NB586_602.out _).trans (((cell_far (p := ⟨gb602, _, none⟩) NB586_602.out _).trans (hHeld.2.2.2.2.1)))))), ((cell_far (p := ⟨gb602, _, none⟩) NB586_602.out _).trans (((cell_far (p := ⟨gb602, _, none⟩) NB586_602.out _).trans (((cell_far (p := ⟨gb602, _, none⟩) NB586_602.out _).trans (hHeld.2.2.2.2.2))))))⟩ (fun hHeld => ?_)
    clear hK K
    refine done_ (done_of HT_.out (by kernel_rfl)) ?_
    have hnb45 := NB585_586.out
    have hnc45 := NB586_585.out
    have hnb46 := NB585_587.out
    have hnc46 := NB587_585.out
    have hnb47 := NB585_601.out
    have hnc47 := NB601_585.out
    have hnb48 := NB585_602.out
    have hnc48 := NB602_585.out
    have hcz49_0 : w36.cell? ⟨gb585, 0, none⟩ = some (.int .i64 a0_0) := (blk_cell BK585.out 0).trans rfl
    have hcz49_1 : w36.cell? ⟨gb585, 1, none⟩ = some (.int .i64 a0_1) := (blk_cell BK585.out 1).trans rfl
    have hcz49_2 : w36.cell? ⟨gb585, 2, none⟩ = some (.slice A0_2 l0_2.length c0_2) := (blk_cell BK585.out 2).trans rfl
    have hfz49_0 := blk_frozen BK585.out 0
    have hfz49_1 := blk_frozen BK585.out 1
    have hfz49_2 := blk_frozen BK585.out 2
    have hnb50 := NB586_587.out
    have hnc50 := NB587_586.out
    have hnb51 := NB586_601.out
    have hnc51 := NB601_586.out
    have hnb52 := NB586_602.out
    have hnc52 := NB602_586.out
    have hcz53_0 : w36.cell? ⟨gb586, 0, none⟩ = some (.int .i64 a1_0) := (blk_cell BK586.out 0).trans rfl
    have hcz53_1 : w36.cell? ⟨gb586, 1, none⟩ = some (.int .i64 a1_1) := (blk_cell BK586.out 1).trans rfl
    have hcz53_2 : w36.cell? ⟨gb586, 2, none⟩ = some (.slice A1_2 l1_2.length c1_2) := (blk_cell BK586.out 2).trans rfl
    have hfz53_0 := blk_frozen BK586.out 0
    have hfz53_1 := blk_frozen BK586.out 1
    have hfz53_2 := blk_frozen BK586.out 2
    go_upto_region 7 with (first | ((with_reducible refine gate_callee (f := 32) rfl ?_); refine goesL_ (some 38) rfl rfl Try.func32 (by kernel_rfl) rfl #[.agg #[.int .i64 a0_0, .int .i64 a0_1, .slice A0_2 l0_2.length c0_2], .agg #[.int .i64 a1_0, .int .i64 a1_1, .slice A1_2 l1_2.length c1_2], .int .i64 a2_0, .int .i64 a2_1] rfl (by (try simp only [List.map_toArray, List.map_cons, List.map_nil]) <;> rfl) ?_; (with_reducible refine (buffer_Paste.calls a0_0 a0_1 _ _ l0_2 a1_0 a1_1 _ _ l1_2 a2_0 a2_1 t603 t604 t605 t608 _ ?side1 ?side2 ?side3 ?side4 A27.out).mono ?_); (case side1 => exact Kd.C_below HR0_2.out (hq_ HB)); (case side2 => exact HC0_2.out); (case side3 => exact Kd.C_below HR1_2.out (hq_ HB)); (case side4 => exact HC1_2.out); rintro e w54 ⟨v606, rfl, ho0, hb⟩; refine ⟨_, rfl, ?_⟩; have n0_ := Aside0.mk (Kd.R_elder' (by (with_reducible repeat (first | apply Kd.R_alloc | apply Kd.R_drewN | apply Kd.R_drew)); exact (Kd.R_mono (Kd.R_mono (Kd.R_far (p := ⟨gb602, 2, none⟩) (Kd.R_far (p := ⟨gb602, 1, none⟩) (Kd.R_far (p := ⟨gb602, 0, none⟩) (Kd.R_far (p := ⟨gb601, 2, none⟩) (Kd.R_far (p := ⟨gb601, 1, none⟩) (Kd.R_far (p := ⟨gb601, 0, none⟩) (Kd.R_types (Kd.R_types HO595.out BK601.out (by decide)) BK602.out (by decide)) (fun _ hk => hk.1.2) (.int .i64 t591)) (fun _ hk => hk.1.2) (.int .i64 t592)) (fun _ hk => hk.1.2) (.slice Ao39 t593.length co39)) (fun _ hk => hk.2) (.int .i64 t596)) (fun _ hk => hk.2) (.int .i64 t597)) (fun _ hk => hk.2) (.slice Ao43 t598.length co43)) (fun _ h_ => h_.1)) (fun _ h_ => h_.1))) (Kd.R_base ho0) hb); have n1_ := Aside0.mk (Kd.R_elder' (by (with_reducible repeat (first | apply Kd.R_alloc | apply Kd.R_drewN | apply Kd.R_drew)); exact (Kd.R_mono (Kd.R_mono (Kd.R_far (p := ⟨gb602, 2, none⟩) (Kd.R_far (p := ⟨gb602, 1, none⟩) (Kd.R_far (p := ⟨gb602, 0, none⟩) (Kd.R_far (p := ⟨gb601, 2, none⟩) (Kd.R_far (p := ⟨gb601, 1, none⟩) (Kd.R_far (p := ⟨gb601, 0, none⟩) (Kd.R_types (Kd.R_types HO600.out BK601.out (by decide)) BK602.out (by decide)) (fun _ hk => hk.1.2) (.int .i64 t591)) (fun _ hk => hk.1.2) (.int .i64 t592)) (fun _ hk => hk.1.2) (.slice Ao39 t593.length co39)) (fun _ hk => hk.2) (.int .i64 t596)) (fun _ hk => hk.2) (.int .i64 t597)) (fun _ hk => hk.2) (.slice Ao43 t598.length co43)) (fun _ h_ => h_.1)) (fun _ h_ => h_.1))) (Kd.R_base ho0) hb); have n2_ := Aside0.mk (Kd.R_lower (Kd.R_new' (Kd.R_new' ho0 (Kd.R_lt (by (with_reducible repeat (first | apply Kd.R_alloc | apply Kd.R_drewN | apply Kd.R_drew)); exact (Kd.R_mono (Kd.R_mono (Kd.R_far (p := ⟨gb602, 2, none⟩) (Kd.R_far (p := ⟨gb602, 1, none⟩) (Kd.R_far (p := ⟨gb602, 0, none⟩) (Kd.R_far (p := ⟨gb601, 2, none⟩) (Kd.R_far (p := ⟨gb601, 1, none⟩) (Kd.R_far (p := ⟨gb601, 0, none⟩) (Kd.R_types (Kd.R_types HO595.out BK601.out (by decide)) BK602.out (by decide)) (fun _ hk => hk.1.2) (.int .i64 t591)) (fun _ hk => hk.1.2) (.int .i64 t592)) (fun _ hk => hk.1.2) (.slice Ao39 t593.length co39)) (fun _ hk => hk.2) (.int .i64 t596)) (fun _ hk => hk.2) (.int .i64 t597)) (fun _ hk => hk.2) (.slice Ao43 t598.length co43)) (fun _ h_ => h_.1)) (fun _ h_ => h_.1))))) (Kd.R_lt (by (with_reducible repeat (first | apply Kd.R_alloc | apply Kd.R_drewN | apply Kd.R_drew)); exact (Kd.R_mono (Kd.R_mono (Kd.R_far (p := ⟨gb602, 2, none⟩) (Kd.R_far (p := ⟨gb602, 1, none⟩) (Kd.R_far (p := ⟨gb602, 0, none⟩) (Kd.R_far (p := ⟨gb601, 2, none⟩) (Kd.R_far (p := ⟨gb601, 1, none⟩) (Kd.R_far (p := ⟨gb601, 0, none⟩) (Kd.R_types (Kd.R_types HO600.out BK601.out (by decide)) BK602.out (by decide)) (fun _ hk => hk.1.2) (.int .i64 t591)) (fun _ hk => hk.1.2) (.int .i64 t592)) (fun _ hk => hk.1.2) (.slice Ao39 t593.length co39)) (fun _ hk => hk.2) (.int .i64 t596)) (fun _ hk => hk.2) (.int .i64 t597)) (fun _ hk => hk.2) (.slice Ao43 t598.length co43)) (fun _ h_ => h_.1)) (fun _ h_ => h_.1))))) (below_size (hq_ HB))); have n3_ := Aside0.mk (blk_below (g := gb585) (o := .cells #[.int .i64 a0_0, .int .i64 a0_1, .slice A0_2 l0_2.length c0_2] 27 (0, 0)) (by (with_reducible repeat (first | refine blk_drewN ?_ _ | refine blk_drew ?_ | refine blk_alloc ?_ _)); refine blk_far ?_ NB585_602.out _; (with_reducible repeat (first | refine blk_drewN ?_ _ | refine blk_drew ?_ | refine blk_alloc ?_ _)); refine blk_far ?_ NB585_602.out _; (with_reducible repeat (first | refine blk_drewN ?_ _ | refine blk_drew ?_ | refine blk_alloc ?_ _)); refine blk_far ?_ NB585_602.out _; (with_reducible repeat (first | refine blk_drewN ?_ _ | refine blk_drew ?_ | refine blk_alloc ?_ _)); refine blk_far ?_ NB585_601.out _; (with_reducible repeat (first | refine blk_drewN ?_ _ | refine blk_drew ?_ | refine blk_alloc ?_ _)); refine blk_far ?_ NB585_601.out _; (with_reducible repeat (first | refine blk_drewN ?_ _ | refine blk_drew ?_ | refine blk_alloc ?_ _)); refine blk_far ?_ NB585_601.out _; (with_reducible repeat (first | refine blk_drewN ?_ _ | refine blk_drew ?_ | refine blk_alloc ?_ _)); exact BK585.out) hb); have n4_ := Aside0.mk (blk_below (g := gb586) (o := .cells #[.int .i64 a1_0, .int .i64 a1_1, .slice A1_2 l1_2.length c1_2] 27 (0, 0)) (by (with_reducible repeat (first | refine blk_drewN ?_ _ | refine blk_drew ?_ | refine blk_alloc ?_ _)); refine blk_far ?_ NB586_602.out _; (with_reducible repeat (first | refine blk_drewN ?_ _ | refine blk_drew ?_ | refine blk_alloc ?_ _)); refine blk_far ?_ NB586_602.out _; (with_reducible repeat (first | refine blk_drewN ?_ _ | refine blk_drew ?_ | refine blk_alloc ?_ _)); refine blk_far ?_ NB586_602.out _; (with_reducible repeat (first | refine blk_drewN ?_ _ | refine blk_drew ?_ | refine blk_alloc ?_ _)); refine blk_far ?_ NB586_601.out _; (with_reducible repeat (first | refine blk_drewN ?_ _ | refine blk_drew ?_ | refine blk_alloc ?_ _)); refine blk_far ?_ NB586_601.out _; (with_reducible repeat (first | refine blk_drewN ?_ _ | refine blk_drew ?_ | refine blk_alloc ?_ _)); refine blk_far ?_ NB586_601.out _; (with_reducible repeat (first | refine blk_drewN ?_ _ | refine blk_drew ?_ | refine blk_alloc ?_ _)); exact BK586.out) hb); have n5_ := Aside0.mk (blk_below (g := gb587) (o := .cells #[.int .i64 a2_0, .int .i64 a2_1] 41 (0, 0)) (by (with_reducible repeat (first | refine blk_drewN ?_ _ | refine blk_drew ?_ | refine blk_alloc ?_ _)); refine blk_far ?_ NB587_602.out _; (with_reducible repeat (first | refine blk_drewN ?_ _ | refine blk_drew ?_ | refine blk_alloc ?_ _)); refine blk_far ?_ NB587_602.out _; (with_reducible repeat (first | refine blk_drewN ?_ _ | refine blk_drew ?_ | refine blk_alloc ?_ _)); refine blk_far ?_ NB587_602.out _; (with_reducible repeat (first | refine blk_drewN ?_ _ | refine blk_drew ?_ | refine blk_alloc ?_ _)); refine blk_far ?_ NB587_601.out _; (with_reducible repeat (first | refine blk_drewN ?_ _ | refine blk_drew ?_ | refine blk_alloc ?_ _)); refine blk_far ?_ NB587_601.out _; (with_reducible repeat (first | refine blk_drewN ?_ _ | refine blk_drew ?_ | refine blk_alloc ?_ _)); refine blk_far ?_ NB587_601.out _; (with_reducible repeat (first | refine blk_drewN ?_ _ | refine blk_drew ?_ | refine blk_alloc ?_ _)); exact BK587.out) hb); have n6_ := Aside0.mk (blk_below (g := gb601) (o := .cells #[.int .i64 t591, .int .i64 t592, .slice Ao39 t593.length co39] 27 (0, 0)) (by (with_reducible repeat (first | refine blk_drewN ?_ _ | refine blk_drew ?_ | refine blk_alloc ?_ _)); refine blk_far ?_ NB601_602.out _; (with_reducible repeat (first | refine blk_drewN ?_ _ | refine blk_drew ?_ | refine blk_alloc ?_ _)); refine blk_far ?_ NB601_602.out _; (with_reducible repeat (first | refine blk_drewN ?_ _ | refine blk_drew ?_ | refine blk_alloc ?_ _)); refine blk_far ?_ NB601_602.out _; (with_reducible repeat (first | refine blk_drewN ?_ _ | refine blk_drew ?_ | refine blk_alloc ?_ _)); refine blk_put (cs := #[.int .i64 t591, .int .i64 t592, .slice none 0 0]) ?_ 2 _ rfl; (with_reducible repeat (first | refine blk_drewN ?_ _ | refine blk_drew ?_ | refine blk_alloc ?_ _)); refine blk_put (cs := #[.int .i64 t591, .int .i64 0, .slice none 0 0]) ?_ 1 _ rfl; (with_reducible repeat (first | refine blk_drewN ?_ _ | refine blk_drew ?_ | refine blk_alloc ?_ _)); refine blk_put (cs := #[.int .i64 0, .int .i64 0, .slice none 0 0]) ?_ 0 _ rfl; (with_reducible repeat (first | refine blk_drewN ?_ _ | refine blk_drew ?_ | refine blk_alloc ?_ _)); exact BK601.out) hb); have n7_ := Aside0.mk (blk_below (g := gb602) (o := .cells #[.int .i64 t596, .int .i64 t597, .slice Ao43 t598.length co43] 27 (0, 0)) (by (with_reducible repeat (first | refine blk_drewN ?_ _ | refine blk_drew ?_ | refine blk_alloc ?_ _)); refine blk_put (cs := #[.int .i64 t596, .int .i64 t597, .slice none 0 0]) ?_ 2 _ rfl; (with_reducible repeat (first | refine blk_drewN ?_ _ | refine blk_drew ?_ | refine blk_alloc ?_ _)); refine blk_put (cs := #[.int .i64 t596, .int .i64 0, .slice none 0 0]) ?_ 1 _ rfl; (with_reducible repeat (first | refine blk_drewN ?_ _ | refine blk_drew ?_ | refine blk_alloc ?_ _)); refine blk_put (cs := #[.int .i64 0, .int .i64 0, .slice none 0 0]) ?_ 0 _ rfl; (with_reducible repeat (first | refine blk_drewN ?_ _ | refine blk_drew ?_ | refine blk_alloc ?_ _)); refine blk_far ?_ NB602_601.out _; (with_reducible repeat (first | refine blk_drewN ?_ _ | refine blk_drew ?_ | refine blk_alloc ?_ _)); refine blk_far ?_ NB602_601.out _; (with_reducible repeat (first | refine blk_drewN ?_ _ | refine blk_drew ?_ | refine blk_alloc ?_ _)); refine blk_far ?_ NB602_601.out _; (with_reducible repeat (first | refine blk_drewN ?_ _ | refine blk_drew ?_ | refine blk_alloc ?_ _)); exact BK602.out) hb); have n8_ := hb_ HB hb; clear HO595; clear HO600; clear BK585; clear BK586; clear BK587; clear BK601; clear BK602; clear HB; have HO595 := n0_; have HO600 := n1_; have HO607 := n2_; have BK585 := n3_; have BK586 := n4_; have BK587 := n5_; have BK601 := n6_; have BK602 := n7_; have HB := n8_; clear n0_ n1_ n2_ n3_ n4_ n5_ n6_ n7_ n8_; (try clear hb); (try clear hb2); (try clear hk); (try clear hi); (try clear ho0)) | ((with_reducible refine gate_dst (N := 11) rfl ?_); refine box_event ?hg (N := 11) ?hd (cs := #[.int .i64 0, .int .i64 0, .slice none 0 0]) (t := 27) ?hr ?_; (case hd => rfl); (case hg => rfl); (case hr => first | (go_simp; done) | (go_simp; rfl)); intro gb609 hg w55 hbox hb; have n0_ := Aside0.mk (Kd.R_below (by (with_reducible repeat (first | apply Kd.R_alloc | apply Kd.R_drewN | apply Kd.R_drew)); exact HO595.out) hb); have n1_ := Aside0.mk (Kd.R_below (by (with_reducible repeat (first | apply Kd.R_alloc | apply Kd.R_drewN | apply Kd.R_drew)); exact HO600.out) hb); have n2_ := Aside0.mk (Kd.R_below (by (with_reducible repeat (first | apply Kd.R_alloc | apply Kd.R_drewN | apply Kd.R_drew)); exact HO607.out) hb); have n3_ := bb_ BK585 hb; have n4_ := bb_ BK586 hb; have n5_ := bb_ BK587 hb; have n6_ := bb_ BK601 hb; have n7_ := bb_ BK602 hb; have n8_ := hb_ HB hb; have n9_ := Aside0.mk (hbox); have n10_ := Aside0.mk ((by rw [hg]; exact (below_size (hq_ HB)) : w.heap.size ≤ gb609)); have n11_ := Aside0.mk ((by rw [hg]; exact (below_size (hq_ HB)) : w.heap.size ≤ gb609)); have n12_ := Aside0.mk ((by rw [hg]; exact Nat.ne_of_lt (blk_lt (g := gb585) (o := .cells #[.int .i64 a0_0, .int .i64 a0_1, .slice A0_2 l0_2.length c0_2] 27 (0, 0)) (bq_ BK585)) : gb585 ≠ gb609)); have n13_ := Aside0.mk ((by rw [hg]; exact Nat.ne_of_gt (blk_lt (g := gb585) (o := .cells #[.int .i64 a0_0, .int .i64 a0_1, .slice A0_2 l0_2.length c0_2] 27 (0, 0)) (bq_ BK585)) : gb609 ≠ gb585)); have n14_ := Aside0.mk ((by rw [hg]; exact Nat.ne_of_lt (blk_lt (g := gb586) (o := .cells #[.int .i64 a1_0, .int .i64 a1_1, .slice A1_2 l1_2.length c1_2] 27 (0, 0)) (bq_ BK586)) : gb586 ≠ gb609)); have n15_ := Aside0.mk ((by rw [hg]; exact Nat.ne_of_gt (blk_lt (g := gb586) (o := .cells #[.int .i64 a1_0, .int .i64 a1_1, .slice A1_2 l1_2.length c1_2] 27 (0, 0)) (bq_ BK586)) : gb609 ≠ gb586)); have n16_ := Aside0.mk ((by rw [hg]; exact Nat.ne_of_lt (blk_lt (g := gb587) (o := .cells #[.int .i64 a2_0, .int .i64 a2_1] 41 (0, 0)) (bq_ BK587)) : gb587 ≠ gb609)); have n17_ := Aside0.mk ((by rw [hg]; exact Nat.ne_of_gt (blk_lt (g := gb587) (o := .cells #[.int .i64 a2_0, .int .i64 a2_1] 41 (0, 0)) (bq_ BK587)) : gb609 ≠ gb587)); have n18_ := Aside0.mk ((by rw [hg]; exact Nat.ne_of_lt (blk_lt (g := gb601) (o := .cells #[.int .i64 t591, .int .i64 t592, .slice Ao39 t593.length co39] 27 (0, 0)) (bq_ BK601)) : gb601 ≠ gb609)); have n19_ := Aside0.mk ((by rw [hg]; exact Nat.ne_of_gt (blk_lt (g := gb601) (o := .cells #[.int .i64 t591, .int .i64 t592, .slice Ao39 t593.length co39] 27 (0, 0)) (bq_ BK601)) : gb609 ≠ gb601)); have n20_ := Aside0.mk ((by rw [hg]; exact Nat.ne_of_lt (blk_lt (g := gb602) (o := .cells #[.int .i64 t596, .int .i64 t597, .slice Ao43 t598.length co43] 27 (0, 0)) (bq_ BK602)) : gb602 ≠ gb609)); have n21_ := Aside0.mk ((by rw [hg]; exact Nat.ne_of_gt (blk_lt (g := gb602) (o := .cells #[.int .i64 t596, .int .i64 t597, .slice Ao43 t598.length co43] 27 (0, 0)) (bq_ BK602)) : gb609 ≠ gb602)); clear HO595; clear HO600; clear HO607; clear BK585; clear BK586; clear BK587; clear BK601; clear BK602; clear HB; have HO595 := n0_; have HO600 := n1_; have HO607 := n2_; have BK585 := n3_; have BK586 := n4_; have BK587 := n5_; have BK601 := n6_; have BK602 := n7_; have HB := n8_; have BK609 := n9_; have GW609 := n10_; have GE609 := n11_; have NB585_609 := n12_; have NB609_585 := n13_; have NB586_609 := n14_; have NB609_586 := n15_; have NB587_609 := n16_; have NB609_587 := n17_; have NB601_609 := n18_; have NB609_601 := n19_; have NB602_609 := n20_; have NB609_602 := n21_; clear n0_ n1_ n2_ n3_ n4_ n5_ n6_ n7_ n8_ n9_ n10_ n11_ n12_ n13_ n14_ n15_ n16_ n17_ n18_ n19_ n20_ n21_; clear hb hbox hg; have hnb56 := NB609_585.out; have hnc56 := NB585_609.out; have hnb57 := NB609_586.out; have hnc57 := NB586_609.out; have hnb58 := NB609_587.out; have hnc58 := NB587_609.out; have hnb59 := NB609_601.out; have hnc59 := NB601_609.out; have hnb60 := NB609_602.out; have hnc60 := NB602_609.out; have hcz61_0 : w55.cell? ⟨gb609, 0, none⟩ = some (.int .i64 0) := (blk_cell BK609.out 0).trans rfl; have hcz61_1 : w55.cell? ⟨gb609, 1, none⟩ = some (.int .i64 0) := (blk_cell BK609.out 1).trans rfl; have hcz61_2 : w55.cell? ⟨gb609, 2, none⟩ = some (.slice none 0 0) := (blk_cell BK609.out 2).trans rfl; have hfz61_0 := blk_frozen BK609.out 0; have hfz61_1 := blk_frozen BK609.out 1; have hfz61_2 := blk_frozen BK609.out 2; obtain ⟨Ao62, co62, eo62⟩ := Kd.R_slice HO607.out; subst eo62; have hnb63 := NB601_587.out; have hnc63 := NB587_601.out; have hnb64 := NB601_602.out; have hnc64 := NB602_601.out; have hcz65_0 : w55.cell? ⟨gb601, 0, none⟩ = some (.int .i64 t591) := (blk_cell BK601.out 0).trans rfl; have hcz65_1 : w55.cell? ⟨gb601, 1, none⟩ = some (.int .i64 t592) := (blk_cell BK601.out 1).trans rfl; have hcz65_2 : w55.cell? ⟨gb601, 2, none⟩ = some (.slice Ao39 t593.length co39) := (blk_cell BK601.out 2).trans rfl; have hfz65_0 := blk_frozen BK601.out 0; have hfz65_1 := blk_frozen BK601.out 1; have hfz65_2 := blk_frozen BK601.out 2; have hnb66 := NB602_587.out; have hnc66 := NB587_602.out; have hcz67_0 : w55.cell? ⟨gb602, 0, none⟩ = some (.int .i64 t596) := (blk_cell BK602.out 0).trans rfl; have hcz67_1 : w55.cell? ⟨gb602, 1, none⟩ = some (.int .i64 t597) := (blk_cell BK602.out 1).trans rfl; have hcz67_2 : w55.cell? ⟨gb602, 2, none⟩ = some (.slice Ao43 t598.length co43) := (blk_cell BK602.out 2).trans rfl; have hfz67_0 := blk_frozen BK602.out 0; have hfz67_1 := blk_frozen BK602.out 1; have hfz67_2 := blk_frozen BK602.out 2) | ((with_reducible refine gate_callee (f := 34) rfl ?_); refine goesL_ (some 46) rfl rfl Try.func34 (by kernel_rfl) rfl #[.agg #[.int .i64 t591, .int .i64 t592, .slice Ao39 t593.length co39], .agg #[.int .i64 t596, .int .i64 t597, .slice Ao43 t598.length co43], .int .i64 a2_0, .int .i64 a2_1] rfl (by (try simp only [List.map_toArray, List.map_cons, List.map_nil]) <;> rfl) ?_; (with_reducible refine (compositorref09_Paste.calls kj3 t591 t592 _ _ t593 t596 t597 _ _ t598 a2_0 a2_1 t610 t611 t612 t615 _ ?side1 ?side2 ?side3 ?side4 A28.out).mono ?_); (case side1 => refine (Kd.R_reads' (e := 43) (base := w.heap.size) (ok := fun k_ => (some k_ ≠ (.slice Ao43 t598.length co43 : Value).ownBlock ∧ some k_ ≠ (.slice Ao62 t605.length co62 : Value).ownBlock)) (n := t593.length) (c := co39) ?_).2.2; exact (by (with_reducible repeat (first | apply Kd.R_alloc | apply Kd.R_drewN | apply Kd.R_drew)); exact (Kd.R_mono (Kd.R_far (p := ⟨gb609, 2, none⟩) (Kd.R_far (p := ⟨gb609, 1, none⟩) (Kd.R_far (p := ⟨gb609, 0, none⟩) (Kd.R_types HO595.out BK609.out (by decide)) (fun _ hk => hk.2) (.int .i64 t603)) (fun _ hk => hk.2) (.int .i64 t604)) (fun _ hk => hk.2) (.slice Ao62 t605.length co62)) (fun _ h_ => h_.1)))); (case side2 => exact (Kd.R_reads' HO595.out).2.1); (case side3 => refine (Kd.R_reads' (e := 43) (base := w.heap.size) (ok := fun k_ => (some k_ ≠ (.slice Ao39 t593.length co39 : Value).ownBlock ∧ some k_ ≠ (.slice Ao62 t605.length co62 : Value).ownBlock)) (n := t598.length) (c := co43) ?_).2.2; exact (by (with_reducible repeat (first | apply Kd.R_alloc | apply Kd.R_drewN | apply Kd.R_drew)); exact (Kd.R_mono (Kd.R_far (p := ⟨gb609, 2, none⟩) (Kd.R_far (p := ⟨gb609, 1, none⟩) (Kd.R_far (p := ⟨gb609, 0, none⟩) (Kd.R_types HO600.out BK609.out (by decide)) (fun _ hk => hk.2) (.int .i64 t603)) (fun _ hk => hk.2) (.int .i64 t604)) (fun _ hk => hk.2) (.slice Ao62 t605.length co62)) (fun _ h_ => h_.1)))); (case side4 => exact (Kd.R_reads' HO600.out).2.1); rintro e w68 ⟨v613, rfl, ho0, hb⟩; refine ⟨_, rfl, ?_⟩; have n0_ := Aside0.mk (Kd.R_elder' (by (with_reducible repeat (first | apply Kd.R_alloc | apply Kd.R_drewN | apply Kd.R_drew)); exact (Kd.R_mono (Kd.R_far (p := ⟨gb609, 2, none⟩) (Kd.R_far (p := ⟨gb609, 1, none⟩) (Kd.R_far (p := ⟨gb609, 0, none⟩) (Kd.R_types HO595.out BK609.out (by decide)) (fun _ hk => hk.2) (.int .i64 t603)) (fun _ hk => hk.2) (.int .i64 t604)) (fun _ hk => hk.2) (.slice Ao62 t605.length co62)) (fun _ h_ => h_.1))) (Kd.R_base ho0) hb); have n1_ := Aside0.mk (Kd.R_elder' (by (with_reducible repeat (first | apply Kd.R_alloc | apply Kd.R_drewN | apply Kd.R_drew)); exact (Kd.R_mono (Kd.R_far (p := ⟨gb609, 2, none⟩) (Kd.R_far (p := ⟨gb609, 1, none⟩) (Kd.R_far (p := ⟨gb609, 0, none⟩) (Kd.R_types HO600.out BK609.out (by decide)) (fun _ hk => hk.2) (.int .i64 t603)) (fun _ hk => hk.2) (.int .i64 t604)) (fun _ hk => hk.2) (.slice Ao62 t605.length co62)) (fun _ h_ => h_.1))) (Kd.R_base ho0) hb); have n2_ := Aside0.mk (Kd.R_elder' (by (with_reducible repeat (first | apply Kd.R_alloc | apply Kd.R_drewN | apply Kd.R_drew)); exact (Kd.R_mono (Kd.R_far (p := ⟨gb609, 2, none⟩) (Kd.R_far (p := ⟨gb609, 1, none⟩) (Kd.R_far (p := ⟨gb609, 0, none⟩) (Kd.R_types HO607.out BK609.out (by decide)) (fun _ hk => hk.2) (.int .i64 t603)) (fun _ hk => hk.2) (.int .i64 t604)) (fun _ hk => hk.2) (.slice Ao62 t605.length co62)) (fun _ h_ => h_.1))) (Kd.R_base ho0) hb); have n3_ := Aside0.mk (Kd.R_lower (Kd.R_new' (Kd.R_new' (Kd.R_new' ho0 (Kd.R_lt (by (with_reducible repeat (first | apply Kd.R_alloc | apply Kd.R_drewN | apply Kd.R_drew)); exact (Kd.R_mono (Kd.R_far (p := ⟨gb609, 2, none⟩) (Kd.R_far (p := ⟨gb609, 1, none⟩) (Kd.R_far (p := ⟨gb609, 0, none⟩) (Kd.R_types HO595.out BK609.out (by decide)) (fun _ hk => hk.2) (.int .i64 t603)) (fun _ hk => hk.2) (.int .i64 t604)) (fun _ hk => hk.2) (.slice Ao62 t605.length co62)) (fun _ h_ => h_.1))))) (Kd.R_lt (by (with_reducible repeat (first | apply Kd.R_alloc | apply Kd.R_drewN | apply Kd.R_drew)); exact (Kd.R_mono (Kd.R_far (p := ⟨gb609, 2, none⟩) (Kd.R_far (p := ⟨gb609, 1, none⟩) (Kd.R_far (p := ⟨gb609, 0, none⟩) (Kd.R_types HO600.out BK609.out (by decide)) (fun _ hk => hk.2) (.int .i64 t603)) (fun _ hk => hk.2) (.int .i64 t604)) (fun _ hk => hk.2) (.slice Ao62 t605.length co62)) (fun _ h_ => h_.1))))) (Kd.R_lt (by (with_reducible repeat (first | apply Kd.R_alloc | apply Kd.R_drewN | apply Kd.R_drew)); exact (Kd.R_mono (Kd.R_far (p := ⟨gb609, 2, none⟩) (Kd.R_far (p := ⟨gb609, 1, none⟩) (Kd.R_far (p := ⟨gb609, 0, none⟩) (Kd.R_types HO607.out BK609.out (by decide)) (fun _ hk => hk.2) (.int .i64 t603)) (fun _ hk => hk.2) (.int .i64 t604)) (fun _ hk => hk.2) (.slice Ao62 t605.length co62)) (fun _ h_ => h_.1))))) (below_size (hq_ HB))); have n4_ := Aside0.mk (blk_below (g := gb585) (o := .cells #[.int .i64 a0_0, .int .i64 a0_1, .slice A0_2 l0_2.length c0_2] 27 (0, 0)) (by (with_reducible repeat (first | refine blk_drewN ?_ _ | refine blk_drew ?_ | refine blk_alloc ?_ _)); refine blk_far ?_ NB585_609.out _; (with_reducible repeat (first | refine blk_drewN ?_ _ | refine blk_drew ?_ | refine blk_alloc ?_ _)); refine blk_far ?_ NB585_609.out _; (with_reducible repeat (first | refine blk_drewN ?_ _ | refine blk_drew ?_ | refine blk_alloc ?_ _)); refine blk_far ?_ NB585_609.out _; (with_reducible repeat (first | refine blk_drewN ?_ _ | refine blk_drew ?_ | refine blk_alloc ?_ _)); exact BK585.out) hb); have n5_ := Aside0.mk (blk_below (g := gb586) (o := .cells #[.int .i64 a1_0, .int .i64 a1_1, .slice A1_2 l1_2.length c1_2] 27 (0, 0)) (by (with_reducible repeat (first | refine blk_drewN ?_ _ | refine blk_drew ?_ | refine blk_alloc ?_ _)); refine blk_far ?_ NB586_609.out _; (with_reducible repeat (first | refine blk_drewN ?_ _ | refine blk_drew ?_ | refine blk_alloc ?_ _)); refine blk_far ?_ NB586_609.out _; (with_reducible repeat (first | refine blk_drewN ?_ _ | refine blk_drew ?_ | refine blk_alloc ?_ _)); refine blk_far ?_ NB586_609.out _; (with_reducible repeat (first | refine blk_drewN ?_ _ | refine blk_drew ?_ | refine blk_alloc ?_ _)); exact BK586.out) hb); have n6_ := Aside0.mk (blk_below (g := gb587) (o := .cells #[.int .i64 a2_0, .int .i64 a2_1] 41 (0, 0)) (by (with_reducible repeat (first | refine blk_drewN ?_ _ | refine blk_drew ?_ | refine blk_alloc ?_ _)); refine blk_far ?_ NB587_609.out _; (with_reducible repeat (first | refine blk_drewN ?_ _ | refine blk_drew ?_ | refine blk_alloc ?_ _)); refine blk_far ?_ NB587_609.out _; (with_reducible repeat (first | refine blk_drewN ?_ _ | refine blk_drew ?_ | refine blk_alloc ?_ _)); refine blk_far ?_ NB587_609.out _; (with_reducible repeat (first | refine blk_drewN ?_ _ | refine blk_drew ?_ | refine blk_alloc ?_ _)); exact BK587.out) hb); have n7_ := Aside0.mk (blk_below (g := gb601) (o := .cells #[.int .i64 t591, .int .i64 t592, .slice Ao39 t593.length co39] 27 (0, 0)) (by (with_reducible repeat (first | refine blk_drewN ?_ _ | refine blk_drew ?_ | refine blk_alloc ?_ _)); refine blk_far ?_ NB601_609.out _; (with_reducible repeat (first | refine blk_drewN ?_ _ | refine blk_drew ?_ | refine blk_alloc ?_ _)); refine blk_far ?_ NB601_609.out _; (with_reducible repeat (first | refine blk_drewN ?_ _ | refine blk_drew ?_ | refine blk_alloc ?_ _)); refine blk_far ?_ NB601_609.out _; (with_reducible repeat (first | refine blk_drewN ?_ _ | refine blk_drew ?_ | refine blk_alloc ?_ _)); exact BK601.out) hb); have n8_ := Aside0.mk (blk_below (g := gb602) (o := .cells #[.int .i64 t596, .int .i64 t597, .slice Ao43 t598.length co43] 27 (0, 0)) (by (with_reducible repeat (first | refine blk_drewN ?_ _ | refine blk_drew ?_ | refine blk_alloc ?_ _)); refine blk_far ?_ NB602_609.out _; (with_reducible repeat (first | refine blk_drewN ?_ _ | refine blk_drew ?_ | refine blk_alloc ?_ _)); refine blk_far ?_ NB602_609.out _; (with_reducible repeat (first | refine blk_drewN ?_ _ | refine blk_drew ?_ | refine blk_alloc ?_ _)); refine blk_far ?_ NB602_609.out _; (with_reducible repeat (first | refine blk_drewN ?_ _ | refine blk_drew ?_ | refine blk_alloc ?_ _)); exact BK602.out) hb); have n9_ := Aside0.mk (blk_below (g := gb609) (o := .cells #[.int .i64 t603, .int .i64 t604, .slice Ao62 t605.length co62] 27 (0, 0)) (by (with_reducible repeat (first | refine blk_drewN ?_ _ | refine blk_drew ?_ | refine blk_alloc ?_ _)); refine blk_put (cs := #[.int .i64 t603, .int .i64 t604, .slice none 0 0]) ?_ 2 _ rfl; (with_reducible repeat (first | refine blk_drewN ?_ _ | refine blk_drew ?_ | refine blk_alloc ?_ _)); refine blk_put (cs := #[.int .i64 t603, .int .i64 0, .slice none 0 0]) ?_ 1 _ rfl; (with_reducible repeat (first | refine blk_drewN ?_ _ | refine blk_drew ?_ | refine blk_alloc ?_ _)); refine blk_put (cs := #[.int .i64 0, .int .i64 0, .slice none 0 0]) ?_ 0 _ rfl; (with_reducible repeat (first | refine blk_drewN ?_ _ | refine blk_drew ?_ | refine blk_alloc ?_ _)); exact BK609.out) hb); have n10_ := hb_ HB hb; clear HO595; clear HO600; clear HO607; clear BK585; clear BK586; clear BK587; clear BK601; clear BK602; clear BK609; clear HB; have HO595 := n0_; have HO600 := n1_; have HO607 := n2_; have HO614 := n3_; have BK585 := n4_; have BK586 := n5_; have BK587 := n6_; have BK601 := n7_; have BK602 := n8_; have BK609 := n9_; have HB := n10_; clear n0_ n1_ n2_ n3_ n4_ n5_ n6_ n7_ n8_ n9_ n10_; (try clear hb); (try clear hb2); (try clear hk); (try clear hi); (try clear ho0)) | ((with_reducible refine gate_dst (N := 13) rfl ?_); refine box_event ?hg (N := 13) ?hd (cs := #[.int .i64 0, .int .i64 0, .slice none 0 0]) (t := 27) ?hr ?_; (case hd => rfl); (case hg => rfl); (case hr => first | (go_simp; done) | (go_simp; rfl)); intro gb616 hg w69 hbox hb; have n0_ := Aside0.mk (Kd.R_below (by (with_reducible repeat (first | apply Kd.R_alloc | apply Kd.R_drewN | apply Kd.R_drew)); exact HO595.out) hb); have n1_ := Aside0.mk (Kd.R_below (by (with_reducible repeat (first | apply Kd.R_alloc | apply Kd.R_drewN | apply Kd.R_drew)); exact HO600.out) hb); have n2_ := Aside0.mk (Kd.R_below (by (with_reducible repeat (first | apply Kd.R_alloc | apply Kd.R_drewN | apply Kd.R_drew)); exact HO607.out) hb); have n3_ := Aside0.mk (Kd.R_below (by (with_reducible repeat (first | apply Kd.R_alloc | apply Kd.R_drewN | apply Kd.R_drew)); exact HO614.out) hb); have n4_ := bb_ BK585 hb; have n5_ := bb_ BK586 hb; have n6_ := bb_ BK587 hb; have n7_ := bb_ BK601 hb; have n8_ := bb_ BK602 hb; have n9_ := bb_ BK609 hb; have n10_ := hb_ HB hb; have n11_ := Aside0.mk (hbox); have n12_ := Aside0.mk ((by rw [hg]; exact (below_size (hq_ HB)) : w.heap.size ≤ gb616)); have n13_ := Aside0.mk ((by rw [hg]; exact (below_size (hq_ HB)) : w.heap.size ≤ gb616)); have n14_ := Aside0.mk ((by rw [hg]; exact Nat.ne_of_lt (blk_lt (g := gb585) (o := .cells #[.int .i64 a0_0, .int .i64 a0_1, .slice A0_2 l0_2.length c0_2] 27 (0, 0)) (bq_ BK585)) : gb585 ≠ gb616)); have n15_ := Aside0.mk ((by rw [hg]; exact Nat.ne_of_gt (blk_lt (g := gb585) (o := .cells #[.int .i64 a0_0, .int .i64 a0_1, .slice A0_2 l0_2.length c0_2] 27 (0, 0)) (bq_ BK585)) : gb616 ≠ gb585)); have n16_ := Aside0.mk ((by rw [hg]; exact Nat.ne_of_lt (blk_lt (g := gb586) (o := .cells #[.int .i64 a1_0, .int .i64 a1_1, .slice A1_2 l1_2.length c1_2] 27 (0, 0)) (bq_ BK586)) : gb586 ≠ gb616)); have n17_ := Aside0.mk ((by rw [hg]; exact Nat.ne_of_gt (blk_lt (g := gb586) (o := .cells #[.int .i64 a1_0, .int .i64 a1_1, .slice A1_2 l1_2.length c1_2] 27 (0, 0)) (bq_ BK586)) : gb616 ≠ gb586)); have n18_ := Aside0.mk ((by rw [hg]; exact Nat.ne_of_lt (blk_lt (g := gb587) (o := .cells #[.int .i64 a2_0, .int .i64 a2_1] 41 (0, 0)) (bq_ BK587)) : gb587 ≠ gb616)); have n19_ := Aside0.mk ((by rw [hg]; exact Nat.ne_of_gt (blk_lt (g := gb587) (o := .cells #[.int .i64 a2_0, .int .i64 a2_1] 41 (0, 0)) (bq_ BK587)) : gb616 ≠ gb587)); have n20_ := Aside0.mk ((by rw [hg]; exact Nat.ne_of_lt (blk_lt (g := gb601) (o := .cells #[.int .i64 t591, .int .i64 t592, .slice Ao39 t593.length co39] 27 (0, 0)) (bq_ BK601)) : gb601 ≠ gb616)); have n21_ := Aside0.mk ((by rw [hg]; exact Nat.ne_of_gt (blk_lt (g := gb601) (o := .cells #[.int .i64 t591, .int .i64 t592, .slice Ao39 t593.length co39] 27 (0, 0)) (bq_ BK601)) : gb616 ≠ gb601)); have n22_ := Aside0.mk ((by rw [hg]; exact Nat.ne_of_lt (blk_lt (g := gb602) (o := .cells #[.int .i64 t596, .int .i64 t597, .slice Ao43 t598.length co43] 27 (0, 0)) (bq_ BK602)) : gb602 ≠ gb616)); have n23_ := Aside0.mk ((by rw [hg]; exact Nat.ne_of_gt (blk_lt (g := gb602) (o := .cells #[.int .i64 t596, .int .i64 t597, .slice Ao43 t598.length co43] 27 (0, 0)) (bq_ BK602)) : gb616 ≠ gb602)); have n24_ := Aside0.mk ((by rw [hg]; exact Nat.ne_of_lt (blk_lt (g := gb609) (o := .cells #[.int .i64 t603, .int .i64 t604, .slice Ao62 t605.length co62] 27 (0, 0)) (bq_ BK609)) : gb609 ≠ gb616)); have n25_ := Aside0.mk ((by rw [hg]; exact Nat.ne_of_gt (blk_lt (g := gb609) (o := .cells #[.int .i64 t603, .int .i64 t604, .slice Ao62 t605.length co62] 27 (0, 0)) (bq_ BK609)) : gb616 ≠ gb609)); clear HO595; clear HO600; clear HO607; clear HO614; clear BK585; clear BK586; clear BK587; clear BK601; clear BK602; clear BK609; clear HB; have HO595 := n0_; have HO600 := n1_; have HO607 := n2_; have HO614 := n3_; have BK585 := n4_; have BK586 := n5_; have BK587 := n6_; have BK601 := n7_; have BK602 := n8_; have BK609 := n9_; have HB := n10_; have BK616 := n11_; have GW616 := n12_; have GE616 := n13_; have NB585_616 := n14_; have NB616_585 := n15_; have NB586_616 := n16_; have NB616_586 := n17_; have NB587_616 := n18_; have NB616_587 := n19_; have NB601_616 := n20_; have NB616_601 := n21_; have NB602_616 := n22_; have NB616_602 := n23_; have NB609_616 := n24_; have NB616_609 := n25_; clear n0_ n1_ n2_ n3_ n4_ n5_ n6_ n7_ n8_ n9_ n10_ n11_ n12_ n13_ n14_ n15_ n16_ n17_ n18_ n19_ n20_ n21_ n22_ n23_ n24_ n25_; clear hb hbox hg; have hnb70 := NB616_585.out; have hnc70 := NB585_616.out; have hnb71 := NB616_586.out; have hnc71 := NB586_616.out; have hnb72 := NB616_587.out; have hnc72 := NB587_616.out; have hnb73 := NB616_601.out; have hnc73 := NB601_616.out; have hnb74 := NB616_602.out; have hnc74 := NB602_616.out; have hnb75 := NB616_609.out; have hnc75 := NB609_616.out; have hcz76_0 : w69.cell? ⟨gb616, 0, none⟩ = some (.int .i64 0) := (blk_cell BK616.out 0).trans rfl; have hcz76_1 : w69.cell? ⟨gb616, 1, none⟩ = some (.int .i64 0) := (blk_cell BK616.out 1).trans rfl; have hcz76_2 : w69.cell? ⟨gb616, 2, none⟩ = some (.slice none 0 0) := (blk_cell BK616.out 2).trans rfl; have hfz76_0 := blk_frozen BK616.out 0; have hfz76_1 := blk_frozen BK616.out 1; have hfz76_2 := blk_frozen BK616.out 2; obtain ⟨Ao77, co77, eo77⟩ := Kd.R_slice HO614.out; subst eo77))
    (try simp only [Act.put, List.setIfInBounds_toArray, List.set_cons_zero, List.set_cons_succ])
    go_cut [57] (fun v57 wc => ∃ (kq : Nat) (x57_28 : Bool), v57 = .bool x57_28 ∧ Aside0 (compositorlaw09_BufferPaste.j1 kq a2_0 a2_1 x57_28 a0_0 a0_1 l0_2 a1_0 a1_1 l1_2 t591 t592 t593 t596 t597 t598 = some true) ∧ Aside0 (kq ≤ kj3) ∧ Aside0 (Kd.R k43 43 wc w.heap.size (fun k_ => some k_ ≠ ((.slice Ao43 t598.length co43) : Value).ownBlock ∧ some k_ ≠ ((.slice Ao62 t605.length co62) : Value).ownBlock ∧ some k_ ≠ ((.slice Ao77 t612.length co77) : Value).ownBlock) (.slice Ao39 t593.length co39) t593) ∧ Aside0 (Kd.R k43 43 wc w.heap.size (fun k_ => some k_ ≠ ((.slice Ao39 t593.length co39) : Value).ownBlock ∧ some k_ ≠ ((.slice Ao62 t605.length co62) : Value).ownBlock ∧ some k_ ≠ ((.slice Ao77 t612.length co77) : Value).ownBlock) (.slice Ao43 t598.length co43) t598) ∧ Aside0 (Kd.R k43 43 wc w.heap.size (fun k_ => some k_ ≠ ((.slice Ao39 t593.length co39) : Value).ownBlock ∧ some k_ ≠ ((.slice Ao43 t598.length co43) : Value).ownBlock ∧ some k_ ≠ ((.slice Ao77 t612.length co77) : Value).ownBlock) (.slice Ao62 t605.length co62) t605) ∧ Aside0 (Kd.R k43 43 wc w.heap.size (fun k_ => some k_ ≠ ((.slice Ao39 t593.length co39) : Value).ownBlock ∧ some k_ ≠ ((.slice Ao43 t598.length co43) : Value).ownBlock ∧ some k_ ≠ ((.slice Ao62 t605.length co62) : Value).ownBlock) (.slice Ao77 t612.length co77) t612) ∧ Aside0 (wc.heap[gb585]? = some (.cells #[.int .i64 a0_0, .int .i64 a0_1, (.slice A0_2 l0_2.length c0_2)] 27 (0, 0))) ∧ Aside0 (wc.heap[gb586]? = some (.cells #[.int .i64 a1_0, .int .i64 a1_1, (.slice A1_2 l1_2.length c1_2)] 27 (0, 0))) ∧ Aside0 (wc.heap[gb587]? = some (.cells #[.int .i64 a2_0, .int .i64 a2_1] 41 (0, 0))) ∧ Aside0 (wc.heap[gb601]? = some (.cells #[.int .i64 t591, .int .i64 t592, (.slice Ao39 t593.length co39)] 27 (0, 0))) ∧ Aside0 (wc.heap[gb602]? = some (.cells #[.int .i64 t596, .int .i64 t597, (.slice Ao43 t598.length co43)] 27 (0, 0))) ∧ Aside0 (wc.heap[gb609]? = some (.cells #[.int .i64 t603, .int .i64 t604, (.slice Ao62 t605.length co62)] 27 (0, 0))) ∧ Aside0 (wc.heap[gb616]? = some (.cells #[.int .i64 t610, .int .i64 t611, (.slice Ao77 t612.length co77)] 27 (0, 0))) ∧ Aside0 (Below w.heap.size w wc))
    case first =>
     have H := HC29.out
     clear HC29
     by_cases c78 : t608 = t615
     ·
      rw [if_pos c78] at H
      have c78b0 : (t608 == t615) = true := beq_iff_eq.mpr c78
      have c78b1 : (t608 != t615) = false := bne_eq_false_iff_eq.mpr c78
      clear c78
      (first | rw [c78b0] | (simp only [i64_w, i32_w]; rw [c78b0]) | skip)
      replace H := Option.bind_eq_some_iff.mp H
      obtain ⟨t617, A790, H⟩ := H
      try dsimp only at H
      have A79 := Aside0.mk A790
      clear A790
      have H' := Aside0.mk H
      clear H
      have hnb80 := NB609_585.out
      have hnc80 := NB585_609.out
      have hnb81 := NB609_586.out
      have hnc81 := NB586_609.out
      have hnb82 := NB609_587.out
      have hnc82 := NB587_609.out
      have hnb83 := NB609_601.out
      have hnc83 := NB601_609.out
      have hnb84 := NB609_602.out
      have hnc84 := NB602_609.out
      have hnb85 := NB609_616.out
      have hnc85 := NB616_609.out
      have hcz86_0 : w69.cell? ⟨gb609, 0, none⟩ = some (.int .i64 t603) := (blk_cell BK609.out 0).trans rfl
      have hcz86_1 : w69.cell? ⟨gb609, 1, none⟩ = some (.int .i64 t604) := (blk_cell BK609.out 1).trans rfl
      have hcz86_2 : w69.cell? ⟨gb609, 2, none⟩ = some (.slice Ao62 t605.length co62) := (blk_cell BK609.out 2).trans rfl
      have hfz86_0 := blk_frozen BK609.out 0
      have hfz86_1 := blk_frozen BK609.out 1
      have hfz86_2 := blk_frozen BK609.out 2
      have hnb87 := NB616_585.out
      have hnc87 := NB585_616.out
      have hnb88 := NB616_586.out
      have hnc88 := NB586_616.out
      have hnb89 := NB616_587.out
      have hnc89 := NB587_616.out
      have hnb90 := NB616_601.out
      have hnc90 := NB601_616.out
      have hnb91 := NB616_602.out
      have hnc91 := NB602_616.out
      have hcz92_0 : w69.cell? ⟨gb616, 0, none⟩ = some (.int .i64 0) := (blk_cell BK616.out 0).trans rfl
      have hcz92_1 : w69.cell? ⟨gb616, 1, none⟩ = some (.int .i64 0) := (blk_cell BK616.out 1).trans rfl
      have hcz92_2 : w69.cell? ⟨gb616, 2, none⟩ = some (.slice none 0 0) := (blk_cell BK616.out 2).trans rfl
      have hfz92_0 := blk_frozen BK616.out 0
      have hfz92_1 := blk_frozen BK616.out 1
      have hfz92_2 := blk_frozen BK616.out 2
      go_wp2_with (first | (go_at_call 16; (with_reducible refine (compositorref09_Equal.calls kj3 t603 t604 _ _ t605 t610 t611 _ _ t612 t617 _ ?side1 ?side2 ?side3 ?side4 A79.out).mono ?_); (case side1 => refine (Kd.R_reads' (e := 43) (base := w.heap.size) (ok := fun k_ => (((True ∧ some k_ ≠ (.slice Ao39 t593.length co39 : Value).ownBlock) ∧ some k_ ≠ (.slice Ao43 t598.length co43 : Value).ownBlock) ∧ some k_ ≠ (.slice Ao77 t612.length co77 : Value).ownBlock)) (n := t605.length) (c := co62) ?_).2.2; exact (by (with_reducible repeat (first | apply Kd.R_alloc | apply Kd.R_drewN | apply Kd.R_drew)); exact (Kd.R_mono (Kd.R_far (p := ⟨gb616, 2, none⟩) (Kd.R_far (p := ⟨gb616, 1, none⟩) (Kd.R_far (p := ⟨gb616, 0, none⟩) (Kd.R_types HO607.out BK616.out (by decide)) (fun _ hk => hk.2) (.int .i64 t610)) (fun _ hk => hk.2) (.int .i64 t611)) (fun _ hk => hk.2) (.slice Ao77 t612.length co77)) (fun _ h_ => h_.1)))); (case side2 => exact (Kd.R_reads' HO607.out).2.1); (case side3 => refine (Kd.R_reads' (e := 43) (base := w.heap.size) (ok := fun k_ => (((True ∧ some k_ ≠ (.slice Ao39 t593.length co39 : Value).ownBlock) ∧ some k_ ≠ (.slice Ao43 t598.length co43 : Value).ownBlock) ∧ some k_ ≠ (.slice Ao62 t605.length co62 : Value).ownBlock)) (n := t612.length) (c := co77) ?_).2.2; exact (by (with_reducible repeat (first | apply Kd.R_alloc | apply Kd.R_drewN | apply Kd.R_drew)); exact (Kd.R_mono (Kd.R_far (p := ⟨gb616, 2, none⟩) (Kd.R_far (p := ⟨gb616, 1, none⟩) (Kd.R_far (p := ⟨gb616, 0, none⟩) (Kd.R_types HO614.out BK616.out (by decide)) (fun _ hk => hk.2) (.int .i64 t610)) (fun _ hk => hk.2) (.int .i64 t611)) (fun _ hk => hk.2) (.slice Ao77 t612.length co77)) (fun _ h_ => h_.1)))); (case side4 => exact (Kd.R_reads' HO614.out).2.1); rintro e w93 ⟨rfl, hb⟩; have n0_ := Aside0.mk (Kd.R_below (by (with_reducible repeat (first | apply Kd.R_alloc | apply Kd.R_drewN | apply Kd.R_drew)); exact (Kd.R_mono (Kd.R_far (p := ⟨gb616, 2, none⟩) (Kd.R_far (p := ⟨gb616, 1, none⟩) (Kd.R_far (p := ⟨gb616, 0, none⟩) (Kd.R_types HO595.out BK616.out (by decide)) (fun _ hk => hk.2) (.int .i64 t610)) (fun _ hk => hk.2) (.int .i64 t611)) (fun _ hk => hk.2) (.slice Ao77 t612.length co77)) (fun _ h_ => h_.1))) hb); have n1_ := Aside0.mk (Kd.R_below (by (with_reducible repeat (first | apply Kd.R_alloc | apply Kd.R_drewN | apply Kd.R_drew)); exact (Kd.R_mono (Kd.R_far (p := ⟨gb616, 2, none⟩) (Kd.R_far (p := ⟨gb616, 1, none⟩) (Kd.R_far (p := ⟨gb616, 0, none⟩) (Kd.R_types HO600.out BK616.out (by decide)) (fun _ hk => hk.2) (.int .i64 t610)) (fun _ hk => hk.2) (.int .i64 t611)) (fun _ hk => hk.2) (.slice Ao77 t612.length co77)) (fun _ h_ => h_.1))) hb); have n2_ := Aside0.mk (Kd.R_below (by (with_reducible repeat (first | apply Kd.R_alloc | apply Kd.R_drewN | apply Kd.R_drew)); exact (Kd.R_mono (Kd.R_far (p := ⟨gb616, 2, none⟩) (Kd.R_far (p := ⟨gb616, 1, none⟩) (Kd.R_far (p := ⟨gb616, 0, none⟩) (Kd.R_types HO607.out BK616.out (by decide)) (fun _ hk => hk.2) (.int .i64 t610)) (fun _ hk => hk.2) (.int .i64 t611)) (fun _ hk => hk.2) (.slice Ao77 t612.length co77)) (fun _ h_ => h_.1))) hb); have n3_ := Aside0.mk (Kd.R_below (by (with_reducible repeat (first | apply Kd.R_alloc | apply Kd.R_drewN | apply Kd.R_drew)); exact (Kd.R_mono (Kd.R_far (p := ⟨gb616, 2, none⟩) (Kd.R_far (p := ⟨gb616, 1, none⟩) (Kd.R_far (p := ⟨gb616, 0, none⟩) (Kd.R_types HO614.out BK616.out (by decide)) (fun _ hk => hk.2) (.int .i64 t610)) (fun _ hk => hk.2) (.int .i64 t611)) (fun _ hk => hk.2) (.slice Ao77 t612.length co77)) (fun _ h_ => h_.1))) hb); have n4_ := Aside0.mk (blk_below (g := gb585) (o := .cells #[.int .i64 a0_0, .int .i64 a0_1, .slice A0_2 l0_2.length c0_2] 27 (0, 0)) (by (with_reducible repeat (first | refine blk_drewN ?_ _ | refine blk_drew ?_ | refine blk_alloc ?_ _)); refine blk_far ?_ NB585_616.out _; (with_reducible repeat (first | refine blk_drewN ?_ _ | refine blk_drew ?_ | refine blk_alloc ?_ _)); refine blk_far ?_ NB585_616.out _; (with_reducible repeat (first | refine blk_drewN ?_ _ | refine blk_drew ?_ | refine blk_alloc ?_ _)); refine blk_far ?_ NB585_616.out _; (with_reducible repeat (first | refine blk_drewN ?_ _ | refine blk_drew ?_ | refine blk_alloc ?_ _)); exact BK585.out) hb); have n5_ := Aside0.mk (blk_below (g := gb586) (o := .cells #[.int .i64 a1_0, .int .i64 a1_1, .slice A1_2 l1_2.length c1_2] 27 (0, 0)) (by (with_reducible repeat (first | refine blk_drewN ?_ _ | refine blk_drew ?_ | refine blk_alloc ?_ _)); refine blk_far ?_ NB586_616.out _; (with_reducible repeat (first | refine blk_drewN ?_ _ | refine blk_drew ?_ | refine blk_alloc ?_ _)); refine blk_far ?_ NB586_616.out _; (with_reducible repeat (first | refine blk_drewN ?_ _ | refine blk_drew ?_ | refine blk_alloc ?_ _)); refine blk_far ?_ NB586_616.out _; (with_reducible repeat (first | refine blk_drewN ?_ _ | refine blk_drew ?_ | refine blk_alloc ?_ _)); exact BK586.out) hb); have n6_ := Aside0.mk (blk_below (g := gb587) (o := .cells #[.int .i64 a2_0, .int .i64 a2_1] 41 (0, 0)) (by (with_reducible repeat (first | refine blk_drewN ?_ _ | refine blk_drew ?_ | refine blk_alloc ?_ _)); refine blk_far ?_ NB587_616.out _; (with_reducible repeat (first | refine blk_drewN ?_ _ | refine blk_drew ?_ | refine blk_alloc ?_ _)); refine blk_far ?_ NB587_616.out _; (with_reducible repeat (first | refine blk_drewN ?_ _ | refine blk_drew ?_ | refine blk_alloc ?_ _)); refine blk_far ?_ NB587_616.out _; (with_reducible repeat (first | refine blk_drewN ?_ _ | refine blk_drew ?_ | refine blk_alloc ?_ _)); exact BK587.out) hb); have n7_ := Aside0.mk (blk_below (g := gb601) (o := .cells #[.int .i64 t591, .int .i64 t592, .slice Ao39 t593.length co39] 27 (0, 0)) (by (with_reducible repeat (first | refine blk_drewN ?_ _ | refine blk_drew ?_ | refine blk_alloc ?_ _)); refine blk_far ?_ NB601_616.out _; (with_reducible repeat (first | refine blk_drewN ?_ _ | refine blk_drew ?_ | refine blk_alloc ?_ _)); refine blk_far ?_ NB601_616.out _; (with_reducible repeat (first | refine blk_drewN ?_ _ | refine blk_drew ?_ | refine blk_alloc ?_ _)); refine blk_far ?_ NB601_616.out _; (with_reducible repeat (first | refine blk_drewN ?_ _ | refine blk_drew ?_ | refine blk_alloc ?_ _)); exact BK601.out) hb); have n8_ := Aside0.mk (blk_below (g := gb602) (o := .cells #[.int .i64 t596, .int .i64 t597, .slice Ao43 t598.length co43] 27 (0, 0)) (by (with_reducible repeat (first | refine blk_drewN ?_ _ | refine blk_drew ?_ | refine blk_alloc ?_ _)); refine blk_far ?_ NB602_616.out _; (with_reducible repeat (first | refine blk_drewN ?_ _ | refine blk_drew ?_ | refine blk_alloc ?_ _)); refine blk_far ?_ NB602_616.out _; (with_reducible repeat (first | refine blk_drewN ?_ _ | refine blk_drew ?_ | refine blk_alloc ?_ _)); refine blk_far ?_ NB602_616.out _; (with_reducible repeat (first | refine blk_drewN ?_ _ | refine blk_drew ?_ | refine blk_alloc ?_ _)); exact BK602.out) hb); have n9_ := Aside0.mk (blk_below (g := gb609) (o := .cells #[.int .i64 t603, .int .i64 t604, .slice Ao62 t605.length co62] 27 (0, 0)) (by (with_reducible repeat (first | refine blk_drewN ?_ _ | refine blk_drew ?_ | refine blk_alloc ?_ _)); refine blk_far ?_ NB609_616.out _; (with_reducible repeat (first | refine blk_drewN ?_ _ | refine blk_drew ?_ | refine blk_alloc ?_ _)); refine blk_far ?_ NB609_616.out _; (with_reducible repeat (first | refine blk_drewN ?_ _ | refine blk_drew ?_ | refine blk_alloc ?_ _)); refine blk_far ?_ NB609_616.out _; (with_reducible repeat (first | refine blk_drewN ?_ _ | refine blk_drew ?_ | refine blk_alloc ?_ _)); exact BK609.out) hb); have n10_ := Aside0.mk (blk_below (g := gb616) (o := .cells #[.int .i64 t610, .int .i64 t611, .slice Ao77 t612.length co77] 27 (0, 0)) (by (with_reducible repeat (first | refine blk_drewN ?_ _ | refine blk_drew ?_ | refine blk_alloc ?_ _)); refine blk_put (cs := #[.int .i64 t610, .int .i64 t611, .slice none 0 0]) ?_ 2 _ rfl; (with_reducible repeat (first | refine blk_drewN ?_ _ | refine blk_drew ?_ | refine blk_alloc ?_ _)); refine blk_put (cs := #[.int .i64 t610, .int .i64 0, .slice none 0 0]) ?_ 1 _ rfl; (with_reducible repeat (first | refine blk_drewN ?_ _ | refine blk_drew ?_ | refine blk_alloc ?_ _)); refine blk_put (cs := #[.int .i64 0, .int .i64 0, .slice none 0 0]) ?_ 0 _ rfl; (with_reducible repeat (first | refine blk_drewN ?_ _ | refine blk_drew ?_ | refine blk_alloc ?_ _)); exact BK616.out) hb); have n11_ := hb_ HB hb; clear HO595; clear HO600; clear HO607; clear HO614; clear BK585; clear BK586; clear BK587; clear BK601; clear BK602; clear BK609; clear BK616; clear HB; have HO595 := n0_; have HO600 := n1_; have HO607 := n2_; have HO614 := n3_; have BK585 := n4_; have BK586 := n5_; have BK587 := n6_; have BK601 := n7_; have BK602 := n8_; have BK609 := n9_; have BK616 := n10_; have HB := n11_; clear n0_ n1_ n2_ n3_ n4_ n5_ n6_ n7_ n8_ n9_ n10_ n11_; (try clear hb); (try clear hb2); (try clear hk); (try clear hi)))
      go_meet
      case rel => exact ⟨_, (!t617), (by first | rfl | (simp; done) | (simp [*]; done)), H', ⟨by have := HJ3.out; first | omega | exact Nat.le_refl _⟩, ⟨by (with_reducible repeat (first | apply Kd.R_alloc | apply Kd.R_drewN | apply Kd.R_drew)); exact Kd.R_mono HO595.out (fun _ hk => ⟨hk.1.1, ⟨hk.1.2, hk.2⟩⟩)⟩, ⟨by (with_reducible repeat (first | apply Kd.R_alloc | apply Kd.R_drewN | apply Kd.R_drew)); exact Kd.R_mono HO600.out (fun _ hk => ⟨hk.1.1, ⟨hk.1.2, hk.2⟩⟩)⟩, ⟨by (with_reducible repeat (first | apply Kd.R_alloc | apply Kd.R_drewN | apply Kd.R_drew)); exact Kd.R_mono HO607.out (fun _ hk => ⟨hk.1.1.2, ⟨hk.1.2, hk.2⟩⟩)⟩, ⟨by (with_reducible repeat (first | apply Kd.R_alloc | apply Kd.R_drewN | apply Kd.R_drew)); exact Kd.R_mono HO614.out (fun _ hk => ⟨hk.1.1.2, ⟨hk.1.2, hk.2⟩⟩)⟩, bf_ BK585, bf_ BK586, bf_ BK587, bf_ BK601, bf_ BK602, bf_ BK609, bf_ BK616, ⟨by repeat (first | (with_reducible first | exact HB.out | apply below_alloc | apply pw_below_drewN | apply below_drew1 | refine below_set ?_ GE585.out | refine below_set ?_ GE586.out | refine below_set ?_ GE587.out | refine below_set ?_ GE601.out | refine below_set ?_ GE602.out | refine below_set ?_ GE609.out | refine below_set ?_ GE616.out) | exact HB.out)⟩⟩
     ·
      rw [if_neg c78] at H
      have c78b0 : (t608 == t615) = false := beq_eq_false_iff_ne.mpr c78
      have c78b1 : (t608 != t615) = true := bne_iff_ne.mpr c78
      (first | rw [c78b0] | (simp only [i64_w, i32_w]; rw [c78b0]) | skip)
      have H' := Aside0.mk H
      clear H
      go_wp2
      go_meet
      case rel => exact ⟨_, (true), (by first | rfl | (simp; done) | (simp [*]; done)), H', ⟨by have := HJ3.out; first | omega | exact Nat.le_refl _⟩, ⟨by (with_reducible repeat (first | apply Kd.R_alloc | apply Kd.R_drewN | apply Kd.R_drew)); exact Kd.R_mono (Kd.R_far (p := ⟨gb616, 2, none⟩) (Kd.R_far (p := ⟨gb616, 1, none⟩) (Kd.R_far (p := ⟨gb616, 0, none⟩) (Kd.R_types HO595.out BK616.out (by decide)) (fun _ hk => hk.2) (.int .i64 t610)) (fun _ hk => hk.2) (.int .i64 t611)) (fun _ hk => hk.2) (.slice Ao77 t612.length co77)) (fun _ hk => ⟨hk.1.1.1, ⟨hk.1.1.2, hk.1.2⟩⟩)⟩, ⟨by (with_reducible repeat (first | apply Kd.R_alloc | apply Kd.R_drewN | apply Kd.R_drew)); exact Kd.R_mono (Kd.R_far (p := ⟨gb616, 2, none⟩) (Kd.R_far (p := ⟨gb616, 1, none⟩) (Kd.R_far (p := ⟨gb616, 0, none⟩) (Kd.R_types HO600.out BK616.out (by decide)) (fun _ hk => hk.2) (.int .i64 t610)) (fun _ hk => hk.2) (.int .i64 t611)) (fun _ hk => hk.2) (.slice Ao77 t612.length co77)) (fun _ hk => ⟨hk.1.1.1, ⟨hk.1.1.2, hk.1.2⟩⟩)⟩, ⟨by (with_reducible repeat (first | apply Kd.R_alloc | apply Kd.R_drewN | apply Kd.R_drew)); exact Kd.R_mono (Kd.R_far (p := ⟨gb616, 2, none⟩) (Kd.R_far (p := ⟨gb616, 1, none⟩) (Kd.R_far (p := ⟨gb616, 0, none⟩) (Kd.R_types HO607.out BK616.out (by decide)) (fun _ hk => hk.2) (.int .i64 t610)) (fun _ hk => hk.2) (.int .i64 t611)) (fun _ hk => hk.2) (.slice Ao77 t612.length co77)) (fun _ hk => ⟨hk.1.1.1.2, ⟨hk.1.1.2, hk.1.2⟩⟩)⟩, ⟨by (with_reducible repeat (first | apply Kd.R_alloc | apply Kd.R_drewN | apply Kd.R_drew)); exact Kd.R_mono (Kd.R_far (p := ⟨gb616, 2, none⟩) (Kd.R_far (p := ⟨gb616, 1, none⟩) (Kd.R_far (p := ⟨gb616, 0, none⟩) (Kd.R_types HO614.out BK616.out (by decide)) (fun _ hk => hk.2) (.int .i64 t610)) (fun _ hk => hk.2) (.int .i64 t611)) (fun _ hk => hk.2) (.slice Ao77 t612.length co77)) (fun _ hk => ⟨hk.1.1.1.2, ⟨hk.1.1.2, hk.1.2⟩⟩)⟩, bf_ BK585, bf_ BK586, bf_ BK587, bf_ BK601, bf_ BK602, bf_ BK609, ⟨by (with_reducible repeat (first | refine blk_drewN ?_ _ | refine blk_drew ?_ | refine blk_alloc ?_ _)); refine blk_put (cs := #[.int .i64 t610, .int .i64 t611, .slice none 0 0]) ?_ 2 _ rfl; (with_reducible repeat (first | refine blk_drewN ?_ _ | refine blk_drew ?_ | refine blk_alloc ?_ _)); refine blk_put (cs := #[.int .i64 t610, .int .i64 0, .slice none 0 0]) ?_ 1 _ rfl; (with_reducible repeat (first | refine blk_drewN ?_ _ | refine blk_drew ?_ | refine blk_alloc ?_ _)); refine blk_put (cs := #[.int .i64 0, .int .i64 0, .slice none 0 0]) ?_ 0 _ rfl; (with_reducible repeat (first | refine blk_drewN ?_ _ | refine blk_drew ?_ | refine blk_alloc ?_ _)); exact BK616.out⟩, ⟨by repeat (first | (with_reducible first | exact HB.out | apply below_alloc | apply pw_below_drewN | apply below_drew1 | refine below_set ?_ GE585.out | refine below_set ?_ GE586.out | refine below_set ?_ GE587.out | refine below_set ?_ GE601.out | refine below_set ?_ GE602.out | refine below_set ?_ GE609.out | refine below_set ?_ GE616.out) | exact HB.out)⟩⟩
    case rest =>
     clear HC29
     try clear c1
     try clear p2
     try clear c3
     try clear c4
     try clear c5
     try clear c6
     try clear c7
     try clear c8
     try clear c9
     try clear c32
     try clear c33
     try clear c34
     try clear c45
     try clear c46
     try clear c47
     try clear c48
     try clear c50
     try clear c51
     try clear c52
     try clear c56
     try clear c57
     try clear c58
     try clear c59
     try clear c60
     try clear c63
     try clear c64
     try clear c66
     try clear c70
     try clear c71
     try clear c72
     try clear c73
     try clear c74
     try clear c75
     try clear c78
     try clear c78b0
     try clear c78b1
     try clear c80
     try clear c81
     try clear c82
     try clear c83
     try clear c84
     try clear c85
     try clear c87
     try clear c88
     try clear c89
     try clear c90
     try clear c91
     try clear hcz49_0
     try clear hcz49_1
     try clear hcz49_2
     try clear hcz53_0
     try clear hcz53_1
     try clear hcz53_2
     try clear hcz61_0
     try clear hcz61_1
     try clear hcz61_2
     try clear hcz65_0
     try clear hcz65_1
     try clear hcz65_2
     try clear hcz67_0
     try clear hcz67_1
     try clear hcz67_2
     try clear hcz76_0
     try clear hcz76_1
     try clear hcz76_2
     try clear hcz86_0
     try clear hcz86_1
     try clear hcz86_2
     try clear hcz92_0
     try clear hcz92_1
     try clear hcz92_2
     try clear hfz49_0
     try clear hfz49_1
     try clear hfz49_2
     try clear hfz53_0
     try clear hfz53_1
     try clear hfz53_2
     try clear hfz61_0
     try clear hfz61_1
     try clear hfz61_2
     try clear hfz65_0
     try clear hfz65_1
     try clear hfz65_2
     try clear hfz67_0
     try clear hfz67_1
     try clear hfz67_2
     try clear hfz76_0
     try clear hfz76_1
     try clear hfz76_2
     try clear hfz86_0
     try clear hfz86_1
     try clear hfz86_2
     try clear hfz92_0
     try clear hfz92_1
     try clear hfz92_2
     obtain ⟨kq, x57_28, rfl, HA, HJ28, HO_602002, HO_603002, HO_610002, HO_617002, BK585, BK586, BK587, BK601, BK602, BK609, BK616, HB⟩ := hcut
     cases kq with
     | zero => exact absurd HA.out (by simp [compositorlaw09_BufferPaste.j1])
     | succ kj28 =>
      have H := HA.out
      clear HA
      simp only [compositorlaw09_BufferPaste.j1] at H
      by_cases c94 : x57_28 = true
      ·
       subst c94
       have H1 : (some false) = some true := by rw [if_pos rfl] at H; exact H
       clear H
       have H := H1
       clear H1
       exact absurd H (by simp)
      ·
       replace c94 := Bool.eq_false_iff.mpr c94
       subst c94
       have H1 : ((buffer_BlendOver.f a0_0 a0_1 l0_2 a1_0 a1_1 l1_2 a2_0 a2_1).bind fun bt618 => ((compositorref09_BlendOver.f kj28 t591 t592 t593 t596 t597 t598 a2_0 a2_1).bind fun bt624 => (if bt618.2.2.2 = bt624.2.2.2 then ((compositorref09_Equal.f kj28 bt618.1 bt618.2.1 bt618.2.2.1 bt624.1 bt624.2.1 bt624.2.2.1).bind fun t630 => (compositorlaw09_BufferPaste.j2 kj28 (!t630) a0_0 a0_1 l0_2 a1_0 a1_1 l1_2 t591 t592 t593 t596 t597 t598 bt618.1 bt618.2.1 bt618.2.2.1)) else (compositorlaw09_BufferPaste.j2 kj28 true a0_0 a0_1 l0_2 a1_0 a1_1 l1_2 t591 t592 t593 t596 t597 t598 bt618.1 bt618.2.1 bt618.2.2.1)))) = some true := by rw [if_neg (show ¬ (false = true) by decide)] at H; exact H
       clear H
       have H := H1
       clear H1
       replace H := Option.bind_eq_some_iff.mp H
       obtain ⟨⟨t618, t619, t620, t623⟩, A950, H⟩ := H
       try dsimp only at H
       have A95 := Aside0.mk A950
       clear A950
       replace H := Option.bind_eq_some_iff.mp H
       obtain ⟨⟨t624, t625, t626, t629⟩, A960, H⟩ := H
       try dsimp only at H
       have A96 := Aside0.mk A960
       clear A960
       have HC97 := Aside0.mk H
       clear H
       have hnb98 := NB585_586.out
       have hnc98 := NB586_585.out
       have hnb99 := NB585_587.out
       have hnc99 := NB587_585.out
       have hnb100 := NB585_601.out
       have hnc100 := NB601_585.out
       have hnb101 := NB585_602.out
       have hnc101 := NB602_585.out
       have hnb102 := NB585_609.out
       have hnc102 := NB609_585.out
       have hnb103 := NB585_616.out
       have hnc103 := NB616_585.out
       have hcz104_0 : wc.cell? ⟨gb585, 0, none⟩ = some (.int .i64 a0_0) := (blk_cell BK585.out 0).trans rfl
       have hcz104_1 : wc.cell? ⟨gb585, 1, none⟩ = some (.int .i64 a0_1) := (blk_cell BK585.out 1).trans rfl
       have hcz104_2 : wc.cell? ⟨gb585, 2, none⟩ = some (.slice A0_2 l0_2.length c0_2) := (blk_cell BK585.out 2).trans rfl
       have hfz104_0 := blk_frozen BK585.out 0
       have hfz104_1 := blk_frozen BK585.out 1
       have hfz104_2 := blk_frozen BK585.out 2
       have hnb105 := NB586_587.out
       have hnc105 := NB587_586.out
       have hnb106 := NB586_601.out
       have hnc106 := NB601_586.out
       have hnb107 := NB586_602.out
       have hnc107 := NB602_586.out
       have hnb108 := NB586_609.out
       have hnc108 := NB609_586.out
       have hnb109 := NB586_616.out
       have hnc109 := NB616_586.out
       have hcz110_0 : wc.cell? ⟨gb586, 0, none⟩ = some (.int .i64 a1_0) := (blk_cell BK586.out 0).trans rfl
       have hcz110_1 : wc.cell? ⟨gb586, 1, none⟩ = some (.int .i64 a1_1) := (blk_cell BK586.out 1).trans rfl
       have hcz110_2 : wc.cell? ⟨gb586, 2, none⟩ = some (.slice A1_2 l1_2.length c1_2) := (blk_cell BK586.out 2).trans rfl
       have hfz110_0 := blk_frozen BK586.out 0
       have hfz110_1 := blk_frozen BK586.out 1
       have hfz110_2 := blk_frozen BK586.out 2
       go_upto_region 11 with (first | ((with_reducible refine gate_callee (f := 35) rfl ?_); refine goesL_ (some 63) rfl rfl Try.func35 (by kernel_rfl) rfl #[.agg #[.int .i64 a0_0, .int .i64 a0_1, .slice A0_2 l0_2.length c0_2], .agg #[.int .i64 a1_0, .int .i64 a1_1, .slice A1_2 l1_2.length c1_2], .int .i64 a2_0, .int .i64 a2_1] rfl (by (try simp only [List.map_toArray, List.map_cons, List.map_nil]) <;> rfl) ?_; (with_reducible refine (buffer_BlendOver.calls a0_0 a0_1 _ _ l0_2 a1_0 a1_1 _ _ l1_2 a2_0 a2_1 t618 t619 t620 t623 _ ?side1 ?side2 ?side3 ?side4 A95.out).mono ?_); (case side1 => repeat (first | exact (Kd.C_below HR0_2.out HB.out) | (with_reducible refine Kd.C_alloc ?_ _) | (with_reducible refine Kd.C_drewN ?_ _) | (with_reducible refine Kd.C_drew ?_))); (case side2 => exact HC0_2.out); (case side3 => repeat (first | exact (Kd.C_below HR1_2.out HB.out) | (with_reducible refine Kd.C_alloc ?_ _) | (with_reducible refine Kd.C_drewN ?_ _) | (with_reducible refine Kd.C_drew ?_))); (case side4 => exact HC1_2.out); rintro e w111 ⟨v621, rfl, ho0, hb⟩; refine ⟨_, rfl, ?_⟩; have n0_ := Aside0.mk (Kd.R_elder' (by (with_reducible repeat (first | apply Kd.R_alloc | apply Kd.R_drewN | apply Kd.R_drew)); exact HO_602002.out) (Kd.R_base ho0) hb); have n1_ := Aside0.mk (Kd.R_elder' (by (with_reducible repeat (first | apply Kd.R_alloc | apply Kd.R_drewN | apply Kd.R_drew)); exact HO_603002.out) (Kd.R_base ho0) hb); have n2_ := Aside0.mk (Kd.R_elder' (by (with_reducible repeat (first | apply Kd.R_alloc | apply Kd.R_drewN | apply Kd.R_drew)); exact HO_610002.out) (Kd.R_base ho0) hb); have n3_ := Aside0.mk (Kd.R_elder' (by (with_reducible repeat (first | apply Kd.R_alloc | apply Kd.R_drewN | apply Kd.R_drew)); exact HO_617002.out) (Kd.R_base ho0) hb); have n4_ := Aside0.mk (Kd.R_lower (Kd.R_new' (Kd.R_new' (Kd.R_new' (Kd.R_new' ho0 (Kd.R_lt (by (with_reducible repeat (first | apply Kd.R_alloc | apply Kd.R_drewN | apply Kd.R_drew)); exact HO_602002.out))) (Kd.R_lt (by (with_reducible repeat (first | apply Kd.R_alloc | apply Kd.R_drewN | apply Kd.R_drew)); exact HO_603002.out))) (Kd.R_lt (by (with_reducible repeat (first | apply Kd.R_alloc | apply Kd.R_drewN | apply Kd.R_drew)); exact HO_610002.out))) (Kd.R_lt (by (with_reducible repeat (first | apply Kd.R_alloc | apply Kd.R_drewN | apply Kd.R_drew)); exact HO_617002.out))) (below_size (hq_ HB))); have n5_ := bb_ BK585 hb; have n6_ := bb_ BK586 hb; have n7_ := bb_ BK587 hb; have n8_ := bb_ BK601 hb; have n9_ := bb_ BK602 hb; have n10_ := bb_ BK609 hb; have n11_ := bb_ BK616 hb; have n12_ := hb_ HB hb; clear HO_602002; clear HO_603002; clear HO_610002; clear HO_617002; clear BK585; clear BK586; clear BK587; clear BK601; clear BK602; clear BK609; clear BK616; clear HB; have HO_602002 := n0_; have HO_603002 := n1_; have HO_610002 := n2_; have HO_617002 := n3_; have HO622 := n4_; have BK585 := n5_; have BK586 := n6_; have BK587 := n7_; have BK601 := n8_; have BK602 := n9_; have BK609 := n10_; have BK616 := n11_; have HB := n12_; clear n0_ n1_ n2_ n3_ n4_ n5_ n6_ n7_ n8_ n9_ n10_ n11_ n12_; (try clear hb); (try clear hb2); (try clear hk); (try clear hi); (try clear ho0); have hnb112 := NB609_587.out; have hnc112 := NB587_609.out; have hnb113 := NB609_601.out; have hnc113 := NB601_609.out; have hnb114 := NB609_602.out; have hnc114 := NB602_609.out; have hnb115 := NB609_616.out; have hnc115 := NB616_609.out; have hcz116_0 : w111.cell? ⟨gb609, 0, none⟩ = some (.int .i64 t603) := (blk_cell BK609.out 0).trans rfl; have hcz116_1 : w111.cell? ⟨gb609, 1, none⟩ = some (.int .i64 t604) := (blk_cell BK609.out 1).trans rfl; have hcz116_2 : w111.cell? ⟨gb609, 2, none⟩ = some (.slice Ao62 t605.length co62) := (blk_cell BK609.out 2).trans rfl; have hfz116_0 := blk_frozen BK609.out 0; have hfz116_1 := blk_frozen BK609.out 1; have hfz116_2 := blk_frozen BK609.out 2; obtain ⟨Ao117, co117, eo117⟩ := Kd.R_slice HO622.out; subst eo117; have hnb118 := NB601_587.out; have hnc118 := NB587_601.out; have hnb119 := NB601_602.out; have hnc119 := NB602_601.out; have hnb120 := NB601_616.out; have hnc120 := NB616_601.out; have hcz121_0 : w111.cell? ⟨gb601, 0, none⟩ = some (.int .i64 t591) := (blk_cell BK601.out 0).trans rfl; have hcz121_1 : w111.cell? ⟨gb601, 1, none⟩ = some (.int .i64 t592) := (blk_cell BK601.out 1).trans rfl; have hcz121_2 : w111.cell? ⟨gb601, 2, none⟩ = some (.slice Ao39 t593.length co39) := (blk_cell BK601.out 2).trans rfl; have hfz121_0 := blk_frozen BK601.out 0; have hfz121_1 := blk_frozen BK601.out 1; have hfz121_2 := blk_frozen BK601.out 2; have hnb122 := NB602_587.out; have hnc122 := NB587_602.out; have hnb123 := NB602_616.out; have hnc123 := NB616_602.out; have hcz124_0 : w111.cell? ⟨gb602, 0, none⟩ = some (.int .i64 t596) := (blk_cell BK602.out 0).trans rfl; have hcz124_1 : w111.cell? ⟨gb602, 1, none⟩ = some (.int .i64 t597) := (blk_cell BK602.out 1).trans rfl; have hcz124_2 : w111.cell? ⟨gb602, 2, none⟩ = some (.slice Ao43 t598.length co43) := (blk_cell BK602.out 2).trans rfl; have hfz124_0 := blk_frozen BK602.out 0; have hfz124_1 := blk_frozen BK602.out 1; have hfz124_2 := blk_frozen BK602.out 2) | ((with_reducible refine gate_callee (f := 36) rfl ?_); refine goesL_ (some 71) rfl rfl Try.func36 (by kernel_rfl) rfl #[.agg #[.int .i64 t591, .int .i64 t592, .slice Ao39 t593.length co39], .agg #[.int .i64 t596, .int .i64 t597, .slice Ao43 t598.length co43], .int .i64 a2_0, .int .i64 a2_1] rfl (by (try simp only [List.map_toArray, List.map_cons, List.map_nil]) <;> rfl) ?_; (with_reducible refine (compositorref09_BlendOver.calls kj28 t591 t592 _ _ t593 t596 t597 _ _ t598 a2_0 a2_1 t624 t625 t626 t629 _ ?side1 ?side2 ?side3 ?side4 A96.out).mono ?_); (case side1 => refine (Kd.R_reads' (e := 43) (base := w.heap.size) (ok := fun k_ => ((some k_ ≠ (.slice Ao43 t598.length co43 : Value).ownBlock ∧ (some k_ ≠ (.slice Ao62 t605.length co62 : Value).ownBlock ∧ some k_ ≠ (.slice Ao77 t612.length co77 : Value).ownBlock)) ∧ some k_ ≠ (.slice Ao117 t620.length co117 : Value).ownBlock)) (n := t593.length) (c := co39) ?_).2.2; exact (by (with_reducible repeat (first | apply Kd.R_alloc | apply Kd.R_drewN | apply Kd.R_drew)); exact (Kd.R_mono (Kd.R_far (p := ⟨gb609, 2, none⟩) (Kd.R_far (p := ⟨gb609, 1, none⟩) (Kd.R_far (p := ⟨gb609, 0, none⟩) (Kd.R_types HO_602002.out BK609.out (by decide)) (fun _ hk => hk.2) (.int .i64 t618)) (fun _ hk => hk.2) (.int .i64 t619)) (fun _ hk => hk.2) (.slice Ao117 t620.length co117)) (fun _ h_ => h_.1)))); (case side2 => exact (Kd.R_reads' HO_602002.out).2.1); (case side3 => refine (Kd.R_reads' (e := 43) (base := w.heap.size) (ok := fun k_ => ((some k_ ≠ (.slice Ao39 t593.length co39 : Value).ownBlock ∧ (some k_ ≠ (.slice Ao62 t605.length co62 : Value).ownBlock ∧ some k_ ≠ (.slice Ao77 t612.length co77 : Value).ownBlock)) ∧ some k_ ≠ (.slice Ao117 t620.length co117 : Value).ownBlock)) (n := t598.length) (c := co43) ?_).2.2; exact (by (with_reducible repeat (first | apply Kd.R_alloc | apply Kd.R_drewN | apply Kd.R_drew)); exact (Kd.R_mono (Kd.R_far (p := ⟨gb609, 2, none⟩) (Kd.R_far (p := ⟨gb609, 1, none⟩) (Kd.R_far (p := ⟨gb609, 0, none⟩) (Kd.R_types HO_603002.out BK609.out (by decide)) (fun _ hk => hk.2) (.int .i64 t618)) (fun _ hk => hk.2) (.int .i64 t619)) (fun _ hk => hk.2) (.slice Ao117 t620.length co117)) (fun _ h_ => h_.1)))); (case side4 => exact (Kd.R_reads' HO_603002.out).2.1); rintro e w125 ⟨v627, rfl, ho0, hb⟩; refine ⟨_, rfl, ?_⟩; have n0_ := Aside0.mk (Kd.R_elder' (by (with_reducible repeat (first | apply Kd.R_alloc | apply Kd.R_drewN | apply Kd.R_drew)); exact (Kd.R_mono (Kd.R_far (p := ⟨gb609, 2, none⟩) (Kd.R_far (p := ⟨gb609, 1, none⟩) (Kd.R_far (p := ⟨gb609, 0, none⟩) (Kd.R_types HO_602002.out BK609.out (by decide)) (fun _ hk => hk.2) (.int .i64 t618)) (fun _ hk => hk.2) (.int .i64 t619)) (fun _ hk => hk.2) (.slice Ao117 t620.length co117)) (fun _ h_ => h_.1))) (Kd.R_base ho0) hb); have n1_ := Aside0.mk (Kd.R_elder' (by (with_reducible repeat (first | apply Kd.R_alloc | apply Kd.R_drewN | apply Kd.R_drew)); exact (Kd.R_mono (Kd.R_far (p := ⟨gb609, 2, none⟩) (Kd.R_far (p := ⟨gb609, 1, none⟩) (Kd.R_far (p := ⟨gb609, 0, none⟩) (Kd.R_types HO_603002.out BK609.out (by decide)) (fun _ hk => hk.2) (.int .i64 t618)) (fun _ hk => hk.2) (.int .i64 t619)) (fun _ hk => hk.2) (.slice Ao117 t620.length co117)) (fun _ h_ => h_.1))) (Kd.R_base ho0) hb); have n2_ := Aside0.mk (Kd.R_elder' (by (with_reducible repeat (first | apply Kd.R_alloc | apply Kd.R_drewN | apply Kd.R_drew)); exact (Kd.R_mono (Kd.R_far (p := ⟨gb609, 2, none⟩) (Kd.R_far (p := ⟨gb609, 1, none⟩) (Kd.R_far (p := ⟨gb609, 0, none⟩) (Kd.R_types HO_610002.out BK609.out (by decide)) (fun _ hk => hk.2) (.int .i64 t618)) (fun _ hk => hk.2) (.int .i64 t619)) (fun _ hk => hk.2) (.slice Ao117 t620.length co117)) (fun _ h_ => h_.1))) (Kd.R_base ho0) hb); have n3_ := Aside0.mk (Kd.R_elder' (by (with_reducible repeat (first | apply Kd.R_alloc | apply Kd.R_drewN | apply Kd.R_drew)); exact (Kd.R_mono (Kd.R_far (p := ⟨gb609, 2, none⟩) (Kd.R_far (p := ⟨gb609, 1, none⟩) (Kd.R_far (p := ⟨gb609, 0, none⟩) (Kd.R_types HO_617002.out BK609.out (by decide)) (fun _ hk => hk.2) (.int .i64 t618)) (fun _ hk => hk.2) (.int .i64 t619)) (fun _ hk => hk.2) (.slice Ao117 t620.length co117)) (fun _ h_ => h_.1))) (Kd.R_base ho0) hb); have n4_ := Aside0.mk (Kd.R_elder' (by (with_reducible repeat (first | apply Kd.R_alloc | apply Kd.R_drewN | apply Kd.R_drew)); exact (Kd.R_mono (Kd.R_far (p := ⟨gb609, 2, none⟩) (Kd.R_far (p := ⟨gb609, 1, none⟩) (Kd.R_far (p := ⟨gb609, 0, none⟩) (Kd.R_types HO622.out BK609.out (by decide)) (fun _ hk => hk.2) (.int .i64 t618)) (fun _ hk => hk.2) (.int .i64 t619)) (fun _ hk => hk.2) (.slice Ao117 t620.length co117)) (fun _ h_ => h_.1))) (Kd.R_base ho0) hb); have n5_ := Aside0.mk (Kd.R_lower (Kd.R_new' (Kd.R_new' (Kd.R_new' (Kd.R_new' (Kd.R_new' ho0 (Kd.R_lt (by (with_reducible repeat (first | apply Kd.R_alloc | apply Kd.R_drewN | apply Kd.R_drew)); exact (Kd.R_mono (Kd.R_far (p := ⟨gb609, 2, none⟩) (Kd.R_far (p := ⟨gb609, 1, none⟩) (Kd.R_far (p := ⟨gb609, 0, none⟩) (Kd.R_types HO_602002.out BK609.out (by decide)) (fun _ hk => hk.2) (.int .i64 t618)) (fun _ hk => hk.2) (.int .i64 t619)) (fun _ hk => hk.2) (.slice Ao117 t620.length co117)) (fun _ h_ => h_.1))))) (Kd.R_lt (by (with_reducible repeat (first | apply Kd.R_alloc | apply Kd.R_drewN | apply Kd.R_drew)); exact (Kd.R_mono (Kd.R_far (p := ⟨gb609, 2, none⟩) (Kd.R_far (p := ⟨gb609, 1, none⟩) (Kd.R_far (p := ⟨gb609, 0, none⟩) (Kd.R_types HO_603002.out BK609.out (by decide)) (fun _ hk => hk.2) (.int .i64 t618)) (fun _ hk => hk.2) (.int .i64 t619)) (fun _ hk => hk.2) (.slice Ao117 t620.length co117)) (fun _ h_ => h_.1))))) (Kd.R_lt (by (with_reducible repeat (first | apply Kd.R_alloc | apply Kd.R_drewN | apply Kd.R_drew)); exact (Kd.R_mono (Kd.R_far (p := ⟨gb609, 2, none⟩) (Kd.R_far (p := ⟨gb609, 1, none⟩) (Kd.R_far (p := ⟨gb609, 0, none⟩) (Kd.R_types HO_610002.out BK609.out (by decide)) (fun _ hk => hk.2) (.int .i64 t618)) (fun _ hk => hk.2) (.int .i64 t619)) (fun _ hk => hk.2) (.slice Ao117 t620.length co117)) (fun _ h_ => h_.1))))) (Kd.R_lt (by (with_reducible repeat (first | apply Kd.R_alloc | apply Kd.R_drewN | apply Kd.R_drew)); exact (Kd.R_mono (Kd.R_far (p := ⟨gb609, 2, none⟩) (Kd.R_far (p := ⟨gb609, 1, none⟩) (Kd.R_far (p := ⟨gb609, 0, none⟩) (Kd.R_types HO_617002.out BK609.out (by decide)) (fun _ hk => hk.2) (.int .i64 t618)) (fun _ hk => hk.2) (.int .i64 t619)) (fun _ hk => hk.2) (.slice Ao117 t620.length co117)) (fun _ h_ => h_.1))))) (Kd.R_lt (by (with_reducible repeat (first | apply Kd.R_alloc | apply Kd.R_drewN | apply Kd.R_drew)); exact (Kd.R_mono (Kd.R_far (p := ⟨gb609, 2, none⟩) (Kd.R_far (p := ⟨gb609, 1, none⟩) (Kd.R_far (p := ⟨gb609, 0, none⟩) (Kd.R_types HO622.out BK609.out (by decide)) (fun _ hk => hk.2) (.int .i64 t618)) (fun _ hk => hk.2) (.int .i64 t619)) (fun _ hk => hk.2) (.slice Ao117 t620.length co117)) (fun _ h_ => h_.1))))) (below_size (hq_ HB))); have n6_ := Aside0.mk (blk_below (g := gb585) (o := .cells #[.int .i64 a0_0, .int .i64 a0_1, .slice A0_2 l0_2.length c0_2] 27 (0, 0)) (by (with_reducible repeat (first | refine blk_drewN ?_ _ | refine blk_drew ?_ | refine blk_alloc ?_ _)); refine blk_far ?_ NB585_609.out _; (with_reducible repeat (first | refine blk_drewN ?_ _ | refine blk_drew ?_ | refine blk_alloc ?_ _)); refine blk_far ?_ NB585_609.out _; (with_reducible repeat (first | refine blk_drewN ?_ _ | refine blk_drew ?_ | refine blk_alloc ?_ _)); refine blk_far ?_ NB585_609.out _; (with_reducible repeat (first | refine blk_drewN ?_ _ | refine blk_drew ?_ | refine blk_alloc ?_ _)); exact BK585.out) hb); have n7_ := Aside0.mk (blk_below (g := gb586) (o := .cells #[.int .i64 a1_0, .int .i64 a1_1, .slice A1_2 l1_2.length c1_2] 27 (0, 0)) (by (with_reducible repeat (first | refine blk_drewN ?_ _ | refine blk_drew ?_ | refine blk_alloc ?_ _)); refine blk_far ?_ NB586_609.out _; (with_reducible repeat (first | refine blk_drewN ?_ _ | refine blk_drew ?_ | refine blk_alloc ?_ _)); refine blk_far ?_ NB586_609.out _; (with_reducible repeat (first | refine blk_drewN ?_ _ | refine blk_drew ?_ | refine blk_alloc ?_ _)); refine blk_far ?_ NB586_609.out _; (with_reducible repeat (first | refine blk_drewN ?_ _ | refine blk_drew ?_ | refine blk_alloc ?_ _)); exact BK586.out) hb); have n8_ := Aside0.mk (blk_below (g := gb587) (o := .cells #[.int .i64 a2_0, .int .i64 a2_1] 41 (0, 0)) (by (with_reducible repeat (first | refine blk_drewN ?_ _ | refine blk_drew ?_ | refine blk_alloc ?_ _)); refine blk_far ?_ NB587_609.out _; (with_reducible repeat (first | refine blk_drewN ?_ _ | refine blk_drew ?_ | refine blk_alloc ?_ _)); refine blk_far ?_ NB587_609.out _; (with_reducible repeat (first | refine blk_drewN ?_ _ | refine blk_drew ?_ | refine blk_alloc ?_ _)); refine blk_far ?_ NB587_609.out _; (with_reducible repeat (first | refine blk_drewN ?_ _ | refine blk_drew ?_ | refine blk_alloc ?_ _)); exact BK587.out) hb); have n9_ := Aside0.mk (blk_below (g := gb601) (o := .cells #[.int .i64 t591, .int .i64 t592, .slice Ao39 t593.length co39] 27 (0, 0)) (by (with_reducible repeat (first | refine blk_drewN ?_ _ | refine blk_drew ?_ | refine blk_alloc ?_ _)); refine blk_far ?_ NB601_609.out _; (with_reducible repeat (first | refine blk_drewN ?_ _ | refine blk_drew ?_ | refine blk_alloc ?_ _)); refine blk_far ?_ NB601_609.out _; (with_reducible repeat (first | refine blk_drewN ?_ _ | refine blk_drew ?_ | refine blk_alloc ?_ _)); refine blk_far ?_ NB601_609.out _; (with_reducible repeat (first | refine blk_drewN ?_ _ | refine blk_drew ?_ | refine blk_alloc ?_ _)); exact BK601.out) hb); have n10_ := Aside0.mk (blk_below (g := gb602) (o := .cells #[.int .i64 t596, .int .i64 t597, .slice Ao43 t598.length co43] 27 (0, 0)) (by (with_reducible repeat (first | refine blk_drewN ?_ _ | refine blk_drew ?_ | refine blk_alloc ?_ _)); refine blk_far ?_ NB602_609.out _; (with_reducible repeat (first | refine blk_drewN ?_ _ | refine blk_drew ?_ | refine blk_alloc ?_ _)); refine blk_far ?_ NB602_609.out _; (with_reducible repeat (first | refine blk_drewN ?_ _ | refine blk_drew ?_ | refine blk_alloc ?_ _)); refine blk_far ?_ NB602_609.out _; (with_reducible repeat (first | refine blk_drewN ?_ _ | refine blk_drew ?_ | refine blk_alloc ?_ _)); exact BK602.out) hb); have n11_ := Aside0.mk (blk_below (g := gb609) (o := .cells #[.int .i64 t618, .int .i64 t619, .slice Ao117 t620.length co117] 27 (0, 0)) (by (with_reducible repeat (first | refine blk_drewN ?_ _ | refine blk_drew ?_ | refine blk_alloc ?_ _)); refine blk_put (cs := #[.int .i64 t618, .int .i64 t619, .slice Ao62 t605.length co62]) ?_ 2 _ rfl; (with_reducible repeat (first | refine blk_drewN ?_ _ | refine blk_drew ?_ | refine blk_alloc ?_ _)); refine blk_put (cs := #[.int .i64 t618, .int .i64 t604, .slice Ao62 t605.length co62]) ?_ 1 _ rfl; (with_reducible repeat (first | refine blk_drewN ?_ _ | refine blk_drew ?_ | refine blk_alloc ?_ _)); refine blk_put (cs := #[.int .i64 t603, .int .i64 t604, .slice Ao62 t605.length co62]) ?_ 0 _ rfl; (with_reducible repeat (first | refine blk_drewN ?_ _ | refine blk_drew ?_ | refine blk_alloc ?_ _)); exact BK609.out) hb); have n12_ := Aside0.mk (blk_below (g := gb616) (o := .cells #[.int .i64 t610, .int .i64 t611, .slice Ao77 t612.length co77] 27 (0, 0)) (by (with_reducible repeat (first | refine blk_drewN ?_ _ | refine blk_drew ?_ | refine blk_alloc ?_ _)); refine blk_far ?_ NB616_609.out _; (with_reducible repeat (first | refine blk_drewN ?_ _ | refine blk_drew ?_ | refine blk_alloc ?_ _)); refine blk_far ?_ NB616_609.out _; (with_reducible repeat (first | refine blk_drewN ?_ _ | refine blk_drew ?_ | refine blk_alloc ?_ _)); refine blk_far ?_ NB616_609.out _; (with_reducible repeat (first | refine blk_drewN ?_ _ | refine blk_drew ?_ | refine blk_alloc ?_ _)); exact BK616.out) hb); have n13_ := hb_ HB hb; clear HO_602002; clear HO_603002; clear HO_610002; clear HO_617002; clear HO622; clear BK585; clear BK586; clear BK587; clear BK601; clear BK602; clear BK609; clear BK616; clear HB; have HO_602002 := n0_; have HO_603002 := n1_; have HO_610002 := n2_; have HO_617002 := n3_; have HO622 := n4_; have HO628 := n5_; have BK585 := n6_; have BK586 := n7_; have BK587 := n8_; have BK601 := n9_; have BK602 := n10_; have BK609 := n11_; have BK616 := n12_; have HB := n13_; clear n0_ n1_ n2_ n3_ n4_ n5_ n6_ n7_ n8_ n9_ n10_ n11_ n12_ n13_; (try clear hb); (try clear hb2); (try clear hk); (try clear hi); (try clear ho0); have hnb126 := NB616_587.out; have hnc126 := NB587_616.out; have hcz127_0 : w125.cell? ⟨gb616, 0, none⟩ = some (.int .i64 t610) := (blk_cell BK616.out 0).trans rfl; have hcz127_1 : w125.cell? ⟨gb616, 1, none⟩ = some (.int .i64 t611) := (blk_cell BK616.out 1).trans rfl; have hcz127_2 : w125.cell? ⟨gb616, 2, none⟩ = some (.slice Ao77 t612.length co77) := (blk_cell BK616.out 2).trans rfl; have hfz127_0 := blk_frozen BK616.out 0; have hfz127_1 := blk_frozen BK616.out 1; have hfz127_2 := blk_frozen BK616.out 2; obtain ⟨Ao128, co128, eo128⟩ := Kd.R_slice HO628.out; subst eo128))
       (try simp only [Act.put, List.setIfInBounds_toArray, List.set_cons_zero, List.set_cons_succ])
       go_cut [82] (fun v82 wc => ∃ (kq : Nat) (x82_96 : Bool), v82 = .bool x82_96 ∧ Aside0 (compositorlaw09_BufferPaste.j2 kq x82_96 a0_0 a0_1 l0_2 a1_0 a1_1 l1_2 t591 t592 t593 t596 t597 t598 t618 t619 t620 = some true) ∧ Aside0 (kq ≤ kj28) ∧ Aside0 (Kd.R k43 43 wc w.heap.size (fun k_ => some k_ ≠ ((.slice Ao43 t598.length co43) : Value).ownBlock ∧ some k_ ≠ ((.slice Ao117 t620.length co117) : Value).ownBlock ∧ some k_ ≠ ((.slice Ao128 t626.length co128) : Value).ownBlock) (.slice Ao39 t593.length co39) t593) ∧ Aside0 (Kd.R k43 43 wc w.heap.size (fun k_ => some k_ ≠ ((.slice Ao39 t593.length co39) : Value).ownBlock ∧ some k_ ≠ ((.slice Ao117 t620.length co117) : Value).ownBlock ∧ some k_ ≠ ((.slice Ao128 t626.length co128) : Value).ownBlock) (.slice Ao43 t598.length co43) t598) ∧ Aside0 (Kd.R k43 43 wc w.heap.size (fun k_ => some k_ ≠ ((.slice Ao39 t593.length co39) : Value).ownBlock ∧ some k_ ≠ ((.slice Ao43 t598.length co43) : Value).ownBlock ∧ some k_ ≠ ((.slice Ao128 t626.length co128) : Value).ownBlock) (.slice Ao117 t620.length co117) t620) ∧ Aside0 (Kd.R k43 43 wc w.heap.size (fun k_ => some k_ ≠ ((.slice Ao39 t593.length co39) : Value).ownBlock ∧ some k_ ≠ ((.slice Ao43 t598.length co43) : Value).ownBlock ∧ some k_ ≠ ((.slice Ao117 t620.length co117) : Value).ownBlock) (.slice Ao128 t626.length co128) t626) ∧ Aside0 (wc.heap[gb585]? = some (.cells #[.int .i64 a0_0, .int .i64 a0_1, (.slice A0_2 l0_2.length c0_2)] 27 (0, 0))) ∧ Aside0 (wc.heap[gb586]? = some (.cells #[.int .i64 a1_0, .int .i64 a1_1, (.slice A1_2 l1_2.length c1_2)] 27 (0, 0))) ∧ Aside0 (wc.heap[gb587]? = some (.cells #[.int .i64 a2_0, .int .i64 a2_1] 41 (0, 0))) ∧ Aside0 (wc.heap[gb601]? = some (.cells #[.int .i64 t591, .int .i64 t592, (.slice Ao39 t593.length co39)] 27 (0, 0))) ∧ Aside0 (wc.heap[gb602]? = some (.cells #[.int .i64 t596, .int .i64 t597, (.slice Ao43 t598.length co43)] 27 (0, 0))) ∧ Aside0 (wc.heap[gb609]? = some (.cells #[.int .i64 t618, .int .i64 t619, (.slice Ao117 t620.length co117)] 27 (0, 0))) ∧ Aside0 (wc.heap[gb616]? = some (.cells #[.int .i64 t624, .int .i64 t625, (.slice Ao128 t626.length co128)] 27 (0, 0))) ∧ Aside0 (Below w.heap.size w wc))
       case first =>
        have H := HC97.out
        clear HC97
        by_cases c129 : t623 = t629
        ·
         rw [if_pos c129] at H
         have c129b0 : (t623 == t629) = true := beq_iff_eq.mpr c129
         have c129b1 : (t623 != t629) = false := bne_eq_false_iff_eq.mpr c129
         clear c129
         (first | rw [c129b0] | (simp only [i64_w, i32_w]; rw [c129b0]) | skip)
         replace H := Option.bind_eq_some_iff.mp H
         obtain ⟨t630, A1300, H⟩ := H
         try dsimp only at H
         have A130 := Aside0.mk A1300
         clear A1300
         have H' := Aside0.mk H
         clear H
         have hnb131 := NB609_585.out
         have hnc131 := NB585_609.out
         have hnb132 := NB609_586.out
         have hnc132 := NB586_609.out
         have hnb133 := NB609_587.out
         have hnc133 := NB587_609.out
         have hnb134 := NB609_601.out
         have hnc134 := NB601_609.out
         have hnb135 := NB609_602.out
         have hnc135 := NB602_609.out
         have hnb136 := NB609_616.out
         have hnc136 := NB616_609.out
         have hcz137_0 : w125.cell? ⟨gb609, 0, none⟩ = some (.int .i64 t618) := (blk_cell BK609.out 0).trans rfl
         have hcz137_1 : w125.cell? ⟨gb609, 1, none⟩ = some (.int .i64 t619) := (blk_cell BK609.out 1).trans rfl
         have hcz137_2 : w125.cell? ⟨gb609, 2, none⟩ = some (.slice Ao117 t620.length co117) := (blk_cell BK609.out 2).trans rfl
         have hfz137_0 := blk_frozen BK609.out 0
         have hfz137_1 := blk_frozen BK609.out 1
         have hfz137_2 := blk_frozen BK609.out 2
         have hnb138 := NB616_585.out
         have hnc138 := NB585_616.out
         have hnb139 := NB616_586.out
         have hnc139 := NB586_616.out
         have hnb140 := NB616_587.out
         have hnc140 := NB587_616.out
         have hnb141 := NB616_601.out
         have hnc141 := NB601_616.out
         have hnb142 := NB616_602.out
         have hnc142 := NB602_616.out
         have hcz143_0 : w125.cell? ⟨gb616, 0, none⟩ = some (.int .i64 t610) := (blk_cell BK616.out 0).trans rfl
         have hcz143_1 : w125.cell? ⟨gb616, 1, none⟩ = some (.int .i64 t611) := (blk_cell BK616.out 1).trans rfl
         have hcz143_2 : w125.cell? ⟨gb616, 2, none⟩ = some (.slice Ao77 t612.length co77) := (blk_cell BK616.out 2).trans rfl
         have hfz143_0 := blk_frozen BK616.out 0
         have hfz143_1 := blk_frozen BK616.out 1
         have hfz143_2 := blk_frozen BK616.out 2
         go_wp2_with (first | (go_at_call 16; (with_reducible refine (compositorref09_Equal.calls kj28 t618 t619 _ _ t620 t624 t625 _ _ t626 t630 _ ?side1 ?side2 ?side3 ?side4 A130.out).mono ?_); (case side1 => refine (Kd.R_reads' (e := 43) (base := w.heap.size) (ok := fun k_ => (((((True ∧ some k_ ≠ (.slice Ao39 t593.length co39 : Value).ownBlock) ∧ some k_ ≠ (.slice Ao43 t598.length co43 : Value).ownBlock) ∧ some k_ ≠ (.slice Ao62 t605.length co62 : Value).ownBlock) ∧ some k_ ≠ (.slice Ao77 t612.length co77 : Value).ownBlock) ∧ some k_ ≠ (.slice Ao128 t626.length co128 : Value).ownBlock)) (n := t620.length) (c := co117) ?_).2.2; exact (by (with_reducible repeat (first | apply Kd.R_alloc | apply Kd.R_drewN | apply Kd.R_drew)); exact (Kd.R_mono (Kd.R_far (p := ⟨gb616, 2, none⟩) (Kd.R_far (p := ⟨gb616, 1, none⟩) (Kd.R_far (p := ⟨gb616, 0, none⟩) (Kd.R_types HO622.out BK616.out (by decide)) (fun _ hk => hk.2) (.int .i64 t624)) (fun _ hk => hk.2) (.int .i64 t625)) (fun _ hk => hk.2) (.slice Ao128 t626.length co128)) (fun _ h_ => h_.1)))); (case side2 => exact (Kd.R_reads' HO622.out).2.1); (case side3 => refine (Kd.R_reads' (e := 43) (base := w.heap.size) (ok := fun k_ => (((((True ∧ some k_ ≠ (.slice Ao39 t593.length co39 : Value).ownBlock) ∧ some k_ ≠ (.slice Ao43 t598.length co43 : Value).ownBlock) ∧ some k_ ≠ (.slice Ao62 t605.length co62 : Value).ownBlock) ∧ some k_ ≠ (.slice Ao77 t612.length co77 : Value).ownBlock) ∧ some k_ ≠ (.slice Ao117 t620.length co117 : Value).ownBlock)) (n := t626.length) (c := co128) ?_).2.2; exact (by (with_reducible repeat (first | apply Kd.R_alloc | apply Kd.R_drewN | apply Kd.R_drew)); exact (Kd.R_mono (Kd.R_far (p := ⟨gb616, 2, none⟩) (Kd.R_far (p := ⟨gb616, 1, none⟩) (Kd.R_far (p := ⟨gb616, 0, none⟩) (Kd.R_types HO628.out BK616.out (by decide)) (fun _ hk => hk.2) (.int .i64 t624)) (fun _ hk => hk.2) (.int .i64 t625)) (fun _ hk => hk.2) (.slice Ao128 t626.length co128)) (fun _ h_ => h_.1)))); (case side4 => exact (Kd.R_reads' HO628.out).2.1); rintro e w144 ⟨rfl, hb⟩; have n0_ := Aside0.mk (Kd.R_below (by (with_reducible repeat (first | apply Kd.R_alloc | apply Kd.R_drewN | apply Kd.R_drew)); exact (Kd.R_mono (Kd.R_far (p := ⟨gb616, 2, none⟩) (Kd.R_far (p := ⟨gb616, 1, none⟩) (Kd.R_far (p := ⟨gb616, 0, none⟩) (Kd.R_types HO_602002.out BK616.out (by decide)) (fun _ hk => hk.2) (.int .i64 t624)) (fun _ hk => hk.2) (.int .i64 t625)) (fun _ hk => hk.2) (.slice Ao128 t626.length co128)) (fun _ h_ => h_.1))) hb); have n1_ := Aside0.mk (Kd.R_below (by (with_reducible repeat (first | apply Kd.R_alloc | apply Kd.R_drewN | apply Kd.R_drew)); exact (Kd.R_mono (Kd.R_far (p := ⟨gb616, 2, none⟩) (Kd.R_far (p := ⟨gb616, 1, none⟩) (Kd.R_far (p := ⟨gb616, 0, none⟩) (Kd.R_types HO_603002.out BK616.out (by decide)) (fun _ hk => hk.2) (.int .i64 t624)) (fun _ hk => hk.2) (.int .i64 t625)) (fun _ hk => hk.2) (.slice Ao128 t626.length co128)) (fun _ h_ => h_.1))) hb); have n2_ := Aside0.mk (Kd.R_below (by (with_reducible repeat (first | apply Kd.R_alloc | apply Kd.R_drewN | apply Kd.R_drew)); exact (Kd.R_mono (Kd.R_far (p := ⟨gb616, 2, none⟩) (Kd.R_far (p := ⟨gb616, 1, none⟩) (Kd.R_far (p := ⟨gb616, 0, none⟩) (Kd.R_types HO_610002.out BK616.out (by decide)) (fun _ hk => hk.2) (.int .i64 t624)) (fun _ hk => hk.2) (.int .i64 t625)) (fun _ hk => hk.2) (.slice Ao128 t626.length co128)) (fun _ h_ => h_.1))) hb); have n3_ := Aside0.mk (Kd.R_below (by (with_reducible repeat (first | apply Kd.R_alloc | apply Kd.R_drewN | apply Kd.R_drew)); exact (Kd.R_mono (Kd.R_far (p := ⟨gb616, 2, none⟩) (Kd.R_far (p := ⟨gb616, 1, none⟩) (Kd.R_far (p := ⟨gb616, 0, none⟩) (Kd.R_types HO_617002.out BK616.out (by decide)) (fun _ hk => hk.2) (.int .i64 t624)) (fun _ hk => hk.2) (.int .i64 t625)) (fun _ hk => hk.2) (.slice Ao128 t626.length co128)) (fun _ h_ => h_.1))) hb); have n4_ := Aside0.mk (Kd.R_below (by (with_reducible repeat (first | apply Kd.R_alloc | apply Kd.R_drewN | apply Kd.R_drew)); exact (Kd.R_mono (Kd.R_far (p := ⟨gb616, 2, none⟩) (Kd.R_far (p := ⟨gb616, 1, none⟩) (Kd.R_far (p := ⟨gb616, 0, none⟩) (Kd.R_types HO622.out BK616.out (by decide)) (fun _ hk => hk.2) (.int .i64 t624)) (fun _ hk => hk.2) (.int .i64 t625)) (fun _ hk => hk.2) (.slice Ao128 t626.length co128)) (fun _ h_ => h_.1))) hb); have n5_ := Aside0.mk (Kd.R_below (by (with_reducible repeat (first | apply Kd.R_alloc | apply Kd.R_drewN | apply Kd.R_drew)); exact (Kd.R_mono (Kd.R_far (p := ⟨gb616, 2, none⟩) (Kd.R_far (p := ⟨gb616, 1, none⟩) (Kd.R_far (p := ⟨gb616, 0, none⟩) (Kd.R_types HO628.out BK616.out (by decide)) (fun _ hk => hk.2) (.int .i64 t624)) (fun _ hk => hk.2) (.int .i64 t625)) (fun _ hk => hk.2) (.slice Ao128 t626.length co128)) (fun _ h_ => h_.1))) hb); have n6_ := Aside0.mk (blk_below (g := gb585) (o := .cells #[.int .i64 a0_0, .int .i64 a0_1, .slice A0_2 l0_2.length c0_2] 27 (0, 0)) (by (with_reducible repeat (first | refine blk_drewN ?_ _ | refine blk_drew ?_ | refine blk_alloc ?_ _)); refine blk_far ?_ NB585_616.out _; (with_reducible repeat (first | refine blk_drewN ?_ _ | refine blk_drew ?_ | refine blk_alloc ?_ _)); refine blk_far ?_ NB585_616.out _; (with_reducible repeat (first | refine blk_drewN ?_ _ | refine blk_drew ?_ | refine blk_alloc ?_ _)); refine blk_far ?_ NB585_616.out _; (with_reducible repeat (first | refine blk_drewN ?_ _ | refine blk_drew ?_ | refine blk_alloc ?_ _)); exact BK585.out) hb); have n7_ := Aside0.mk (blk_below (g := gb586) (o := .cells #[.int .i64 a1_0, .int .i64 a1_1, .slice A1_2 l1_2.length c1_2] 27 (0, 0)) (by (with_reducible repeat (first | refine blk_drewN ?_ _ | refine blk_drew ?_ | refine blk_alloc ?_ _)); refine blk_far ?_ NB586_616.out _; (with_reducible repeat (first | refine blk_drewN ?_ _ | refine blk_drew ?_ | refine blk_alloc ?_ _)); refine blk_far ?_ NB586_616.out _; (with_reducible repeat (first | refine blk_drewN ?_ _ | refine blk_drew ?_ | refine blk_alloc ?_ _)); refine blk_far ?_ NB586_616.out _; (with_reducible repeat (first | refine blk_drewN ?_ _ | refine blk_drew ?_ | refine blk_alloc ?_ _)); exact BK586.out) hb); have n8_ := Aside0.mk (blk_below (g := gb587) (o := .cells #[.int .i64 a2_0, .int .i64 a2_1] 41 (0, 0)) (by (with_reducible repeat (first | refine blk_drewN ?_ _ | refine blk_drew ?_ | refine blk_alloc ?_ _)); refine blk_far ?_ NB587_616.out _; (with_reducible repeat (first | refine blk_drewN ?_ _ | refine blk_drew ?_ | refine blk_alloc ?_ _)); refine blk_far ?_ NB587_616.out _; (with_reducible repeat (first | refine blk_drewN ?_ _ | refine blk_drew ?_ | refine blk_alloc ?_ _)); refine blk_far ?_ NB587_616.out _; (with_reducible repeat (first | refine blk_drewN ?_ _ | refine blk_drew ?_ | refine blk_alloc ?_ _)); exact BK587.out) hb); have n9_ := Aside0.mk (blk_below (g := gb601) (o := .cells #[.int .i64 t591, .int .i64 t592, .slice Ao39 t593.length co39] 27 (0, 0)) (by (with_reducible repeat (first | refine blk_drewN ?_ _ | refine blk_drew ?_ | refine blk_alloc ?_ _)); refine blk_far ?_ NB601_616.out _; (with_reducible repeat (first | refine blk_drewN ?_ _ | refine blk_drew ?_ | refine blk_alloc ?_ _)); refine blk_far ?_ NB601_616.out _; (with_reducible repeat (first | refine blk_drewN ?_ _ | refine blk_drew ?_ | refine blk_alloc ?_ _)); refine blk_far ?_ NB601_616.out _; (with_reducible repeat (first | refine blk_drewN ?_ _ | refine blk_drew ?_ | refine blk_alloc ?_ _)); exact BK601.out) hb); have n10_ := Aside0.mk (blk_below (g := gb602) (o := .cells #[.int .i64 t596, .int .i64 t597, .slice Ao43 t598.length co43] 27 (0, 0)) (by (with_reducible repeat (first | refine blk_drewN ?_ _ | refine blk_drew ?_ | refine blk_alloc ?_ _)); refine blk_far ?_ NB602_616.out _; (with_reducible repeat (first | refine blk_drewN ?_ _ | refine blk_drew ?_ | refine blk_alloc ?_ _)); refine blk_far ?_ NB602_616.out _; (with_reducible repeat (first | refine blk_drewN ?_ _ | refine blk_drew ?_ | refine blk_alloc ?_ _)); refine blk_far ?_ NB602_616.out _; (with_reducible repeat (first | refine blk_drewN ?_ _ | refine blk_drew ?_ | refine blk_alloc ?_ _)); exact BK602.out) hb); have n11_ := Aside0.mk (blk_below (g := gb609) (o := .cells #[.int .i64 t618, .int .i64 t619, .slice Ao117 t620.length co117] 27 (0, 0)) (by (with_reducible repeat (first | refine blk_drewN ?_ _ | refine blk_drew ?_ | refine blk_alloc ?_ _)); refine blk_far ?_ NB609_616.out _; (with_reducible repeat (first | refine blk_drewN ?_ _ | refine blk_drew ?_ | refine blk_alloc ?_ _)); refine blk_far ?_ NB609_616.out _; (with_reducible repeat (first | refine blk_drewN ?_ _ | refine blk_drew ?_ | refine blk_alloc ?_ _)); refine blk_far ?_ NB609_616.out _; (with_reducible repeat (first | refine blk_drewN ?_ _ | refine blk_drew ?_ | refine blk_alloc ?_ _)); exact BK609.out) hb); have n12_ := Aside0.mk (blk_below (g := gb616) (o := .cells #[.int .i64 t624, .int .i64 t625, .slice Ao128 t626.length co128] 27 (0, 0)) (by (with_reducible repeat (first | refine blk_drewN ?_ _ | refine blk_drew ?_ | refine blk_alloc ?_ _)); refine blk_put (cs := #[.int .i64 t624, .int .i64 t625, .slice Ao77 t612.length co77]) ?_ 2 _ rfl; (with_reducible repeat (first | refine blk_drewN ?_ _ | refine blk_drew ?_ | refine blk_alloc ?_ _)); refine blk_put (cs := #[.int .i64 t624, .int .i64 t611, .slice Ao77 t612.length co77]) ?_ 1 _ rfl; (with_reducible repeat (first | refine blk_drewN ?_ _ | refine blk_drew ?_ | refine blk_alloc ?_ _)); refine blk_put (cs := #[.int .i64 t610, .int .i64 t611, .slice Ao77 t612.length co77]) ?_ 0 _ rfl; (with_reducible repeat (first | refine blk_drewN ?_ _ | refine blk_drew ?_ | refine blk_alloc ?_ _)); exact BK616.out) hb); have n13_ := hb_ HB hb; clear HO_602002; clear HO_603002; clear HO_610002; clear HO_617002; clear HO622; clear HO628; clear BK585; clear BK586; clear BK587; clear BK601; clear BK602; clear BK609; clear BK616; clear HB; have HO_602002 := n0_; have HO_603002 := n1_; have HO_610002 := n2_; have HO_617002 := n3_; have HO622 := n4_; have HO628 := n5_; have BK585 := n6_; have BK586 := n7_; have BK587 := n8_; have BK601 := n9_; have BK602 := n10_; have BK609 := n11_; have BK616 := n12_; have HB := n13_; clear n0_ n1_ n2_ n3_ n4_ n5_ n6_ n7_ n8_ n9_ n10_ n11_ n12_ n13_; (try clear hb); (try clear hb2); (try clear hk); (try clear hi)))
         go_meet
         case rel => exact ⟨_, (!t630), (by first | rfl | (simp; done) | (simp [*]; done)), H', ⟨by have := HJ3.out; have := HJ28.out; first | omega | exact Nat.le_refl _⟩, ⟨by (with_reducible repeat (first | apply Kd.R_alloc | apply Kd.R_drewN | apply Kd.R_drew)); exact Kd.R_mono HO_602002.out (fun _ hk => ⟨hk.1.1.1, ⟨hk.1.2, hk.2⟩⟩)⟩, ⟨by (with_reducible repeat (first | apply Kd.R_alloc | apply Kd.R_drewN | apply Kd.R_drew)); exact Kd.R_mono HO_603002.out (fun _ hk => ⟨hk.1.1.1, ⟨hk.1.2, hk.2⟩⟩)⟩, ⟨by (with_reducible repeat (first | apply Kd.R_alloc | apply Kd.R_drewN | apply Kd.R_drew)); exact Kd.R_mono HO622.out (fun _ hk => ⟨hk.1.1.1.1.2, ⟨hk.1.1.1.2, hk.2⟩⟩)⟩, ⟨by (with_reducible repeat (first | apply Kd.R_alloc | apply Kd.R_drewN | apply Kd.R_drew)); exact Kd.R_mono HO628.out (fun _ hk => ⟨hk.1.1.1.1.2, ⟨hk.1.1.1.2, hk.2⟩⟩)⟩, bf_ BK585, bf_ BK586, bf_ BK587, bf_ BK601, bf_ BK602, bf_ BK609, bf_ BK616, ⟨by repeat (first | (with_reducible first | exact HB.out | apply below_alloc | apply pw_below_drewN | apply below_drew1 | refine below_set ?_ GE585.out | refine below_set ?_ GE586.out | refine below_set ?_ GE587.out | refine below_set ?_ GE601.out | refine below_set ?_ GE602.out | refine below_set ?_ GE609.out | refine below_set ?_ GE616.out) | exact HB.out)⟩⟩
        ·
         rw [if_neg c129] at H
         have c129b0 : (t623 == t629) = false := beq_eq_false_iff_ne.mpr c129
         have c129b1 : (t623 != t629) = true := bne_iff_ne.mpr c129
         (first | rw [c129b0] | (simp only [i64_w, i32_w]; rw [c129b0]) | skip)
         have H' := Aside0.mk H
         clear H
         go_wp2
         go_meet
         case rel => exact ⟨_, (true), (by first | rfl | (simp; done) | (simp [*]; done)), H', ⟨by have := HJ3.out; have := HJ28.out; first | omega | exact Nat.le_refl _⟩, ⟨by (with_reducible repeat (first | apply Kd.R_alloc | apply Kd.R_drewN | apply Kd.R_drew)); exact Kd.R_mono (Kd.R_far (p := ⟨gb616, 2, none⟩) (Kd.R_far (p := ⟨gb616, 1, none⟩) (Kd.R_far (p := ⟨gb616, 0, none⟩) (Kd.R_types HO_602002.out BK616.out (by decide)) (fun _ hk => hk.2) (.int .i64 t624)) (fun _ hk => hk.2) (.int .i64 t625)) (fun _ hk => hk.2) (.slice Ao128 t626.length co128)) (fun _ hk => ⟨hk.1.1.1.1, ⟨hk.1.1.2, hk.1.2⟩⟩)⟩, ⟨by (with_reducible repeat (first | apply Kd.R_alloc | apply Kd.R_drewN | apply Kd.R_drew)); exact Kd.R_mono (Kd.R_far (p := ⟨gb616, 2, none⟩) (Kd.R_far (p := ⟨gb616, 1, none⟩) (Kd.R_far (p := ⟨gb616, 0, none⟩) (Kd.R_types HO_603002.out BK616.out (by decide)) (fun _ hk => hk.2) (.int .i64 t624)) (fun _ hk => hk.2) (.int .i64 t625)) (fun _ hk => hk.2) (.slice Ao128 t626.length co128)) (fun _ hk => ⟨hk.1.1.1.1, ⟨hk.1.1.2, hk.1.2⟩⟩)⟩, ⟨by (with_reducible repeat (first | apply Kd.R_alloc | apply Kd.R_drewN | apply Kd.R_drew)); exact Kd.R_mono (Kd.R_far (p := ⟨gb616, 2, none⟩) (Kd.R_far (p := ⟨gb616, 1, none⟩) (Kd.R_far (p := ⟨gb616, 0, none⟩) (Kd.R_types HO622.out BK616.out (by decide)) (fun _ hk => hk.2) (.int .i64 t624)) (fun _ hk => hk.2) (.int .i64 t625)) (fun _ hk => hk.2) (.slice Ao128 t626.length co128)) (fun _ hk => ⟨hk.1.1.1.1.1.2, ⟨hk.1.1.1.1.2, hk.1.2⟩⟩)⟩, ⟨by (with_reducible repeat (first | apply Kd.R_alloc | apply Kd.R_drewN | apply Kd.R_drew)); exact Kd.R_mono (Kd.R_far (p := ⟨gb616, 2, none⟩) (Kd.R_far (p := ⟨gb616, 1, none⟩) (Kd.R_far (p := ⟨gb616, 0, none⟩) (Kd.R_types HO628.out BK616.out (by decide)) (fun _ hk => hk.2) (.int .i64 t624)) (fun _ hk => hk.2) (.int .i64 t625)) (fun _ hk => hk.2) (.slice Ao128 t626.length co128)) (fun _ hk => ⟨hk.1.1.1.1.1.2, ⟨hk.1.1.1.1.2, hk.1.2⟩⟩)⟩, bf_ BK585, bf_ BK586, bf_ BK587, bf_ BK601, bf_ BK602, bf_ BK609, ⟨by (with_reducible repeat (first | refine blk_drewN ?_ _ | refine blk_drew ?_ | refine blk_alloc ?_ _)); refine blk_put (cs := #[.int .i64 t624, .int .i64 t625, .slice Ao77 t612.length co77]) ?_ 2 _ rfl; (with_reducible repeat (first | refine blk_drewN ?_ _ | refine blk_drew ?_ | refine blk_alloc ?_ _)); refine blk_put (cs := #[.int .i64 t624, .int .i64 t611, .slice Ao77 t612.length co77]) ?_ 1 _ rfl; (with_reducible repeat (first | refine blk_drewN ?_ _ | refine blk_drew ?_ | refine blk_alloc ?_ _)); refine blk_put (cs := #[.int .i64 t610, .int .i64 t611, .slice Ao77 t612.length co77]) ?_ 0 _ rfl; (with_reducible repeat (first | refine blk_drewN ?_ _ | refine blk_drew ?_ | refine blk_alloc ?_ _)); exact BK616.out⟩, ⟨by repeat (first | (with_reducible first | exact HB.out | apply below_alloc | apply pw_below_drewN | apply below_drew1 | refine below_set ?_ GE585.out | refine below_set ?_ GE586.out | refine below_set ?_ GE587.out | refine below_set ?_ GE601.out | refine below_set ?_ GE602.out | refine below_set ?_ GE609.out | refine below_set ?_ GE616.out) | exact HB.out)⟩⟩
       case rest =>
        clear HC97
        try clear c1
        try clear p2
        try clear c3
        try clear c4
        try clear c5
        try clear c6
        try clear c7
        try clear c8
        try clear c9
        try clear c10
        try clear c11
        try clear c12
        try clear c13
        try clear c14
        try clear c32
        try clear c33
        try clear c34
        try clear c35
        try clear c36
        try clear c45
        try clear c46
        try clear c47
        try clear c48
        try clear c50
        try clear c51
        try clear c52
        try clear c56
        try clear c57
        try clear c58
        try clear c59
        try clear c60
        try clear c63
        try clear c64
        try clear c66
        try clear c70
        try clear c71
        try clear c72
        try clear c73
        try clear c74
        try clear c75
        try clear c78
        try clear c78b0
        try clear c78b1
        try clear c80
        try clear c81
        try clear c82
        try clear c83
        try clear c84
        try clear c85
        try clear c87
        try clear c88
        try clear c89
        try clear c90
        try clear c91
        try clear c94
        try clear c98
        try clear c99
        try clear c100
        try clear c101
        try clear c102
        try clear c103
        try clear c105
        try clear c106
        try clear c107
        try clear c108
        try clear c109
        try clear c112
        try clear c113
        try clear c114
        try clear c115
        try clear c118
        try clear c119
        try clear c120
        try clear c122
        try clear c123
        try clear c126
        try clear c129
        try clear c129b0
        try clear c129b1
        try clear c131
        try clear c132
        try clear c133
        try clear c134
        try clear c135
        try clear c136
        try clear c138
        try clear c139
        try clear c140
        try clear c141
        try clear c142
        try clear hcz104_0
        try clear hcz104_1
        try clear hcz104_2
        try clear hcz110_0
        try clear hcz110_1
        try clear hcz110_2
        try clear hcz116_0
        try clear hcz116_1
        try clear hcz116_2
        try clear hcz121_0
        try clear hcz121_1
        try clear hcz121_2
        try clear hcz124_0
        try clear hcz124_1
        try clear hcz124_2
        try clear hcz127_0
        try clear hcz127_1
        try clear hcz127_2
        try clear hcz137_0
        try clear hcz137_1
        try clear hcz137_2
        try clear hcz143_0
        try clear hcz143_1
        try clear hcz143_2
        try clear hcz49_0
        try clear hcz49_1
        try clear hcz49_2
        try clear hcz53_0
        try clear hcz53_1
        try clear hcz53_2
        try clear hcz61_0
        try clear hcz61_1
        try clear hcz61_2
        try clear hcz65_0
        try clear hcz65_1
        try clear hcz65_2
        try clear hcz67_0
        try clear hcz67_1
        try clear hcz67_2
        try clear hcz76_0
        try clear hcz76_1
        try clear hcz76_2
        try clear hcz86_0
        try clear hcz86_1
        try clear hcz86_2
        try clear hcz92_0
        try clear hcz92_1
        try clear hcz92_2
        try clear hfz104_0
        try clear hfz104_1
        try clear hfz104_2
        try clear hfz110_0
        try clear hfz110_1
        try clear hfz110_2
        try clear hfz116_0
        try clear hfz116_1
        try clear hfz116_2
        try clear hfz121_0
        try clear hfz121_1
        try clear hfz121_2
        try clear hfz124_0
        try clear hfz124_1
        try clear hfz124_2
        try clear hfz127_0
        try clear hfz127_1
        try clear hfz127_2
        try clear hfz137_0
        try clear hfz137_1
        try clear hfz137_2
        try clear hfz143_0
        try clear hfz143_1
        try clear hfz143_2
        try clear hfz49_0
        try clear hfz49_1
        try clear hfz49_2
        try clear hfz53_0
        try clear hfz53_1
        try clear hfz53_2
        try clear hfz61_0
        try clear hfz61_1
        try clear hfz61_2
        try clear hfz65_0
        try clear hfz65_1
        try clear hfz65_2
        try clear hfz67_0
        try clear hfz67_1
        try clear hfz67_2
        try clear hfz76_0
        try clear hfz76_1
        try clear hfz76_2
        try clear hfz86_0
        try clear hfz86_1
        try clear hfz86_2
        try clear hfz92_0
        try clear hfz92_1
        try clear hfz92_2
        try clear p2
        obtain ⟨kq, x82_96, rfl, HA, HJ96, HO_602002, HO_603002, HO_610002, HO_617002, BK585, BK586, BK587, BK601, BK602, BK609, BK616, HB⟩ := hcut
        cases kq with
        | zero => exact absurd HA.out (by simp [compositorlaw09_BufferPaste.j2])
        | succ kj96 =>
         have H := HA.out
         clear HA
         simp only [compositorlaw09_BufferPaste.j2] at H
         by_cases c145 : x82_96 = true
         ·
          subst c145
          have H1 : (some false) = some true := by rw [if_pos rfl] at H; exact H
          clear H
          have H := H1
          clear H1
          exact absurd H (by simp)
         ·
          replace c145 := Bool.eq_false_iff.mpr c145
          subst c145
          have H1 : (compositorlaw09_BufferPaste.l0 kj96 (t620.length : Int) 0 a0_0 a0_1 l0_2 a1_0 a1_1 l1_2 t591 t592 t593 t596 t597 t598 t618 t619 t620) = some true := by rw [if_neg (show ¬ (false = true) by decide)] at H; exact H
          clear H
          have H := H1
          clear H1
          have H' := Aside0.mk H
          clear H
          have hnb146 := NB609_585.out
          have hnc146 := NB585_609.out
          have hnb147 := NB609_586.out
          have hnc147 := NB586_609.out
          have hnb148 := NB609_587.out
          have hnc148 := NB587_609.out
          have hnb149 := NB609_601.out
          have hnc149 := NB601_609.out
          have hnb150 := NB609_602.out
          have hnc150 := NB602_609.out
          have hnb151 := NB609_616.out
          have hnc151 := NB616_609.out
          have hcz152_0 : wc.cell? ⟨gb609, 0, none⟩ = some (.int .i64 t618) := (blk_cell BK609.out 0).trans rfl
          have hcz152_1 : wc.cell? ⟨gb609, 1, none⟩ = some (.int .i64 t619) := (blk_cell BK609.out 1).trans rfl
          have hcz152_2 : wc.cell? ⟨gb609, 2, none⟩ = some (.slice Ao117 t620.length co117) := (blk_cell BK609.out 2).trans rfl
          have hfz152_0 := blk_frozen BK609.out 0
          have hfz152_1 := blk_frozen BK609.out 1
          have hfz152_2 := blk_frozen BK609.out 2
          go_wp2
          go_loopg [86] kj96 (fun kq v86 w' => ∃ (x86_4 : Int) (x602002_4 : List (S43)) (x603002_4 : List (S43)) (x610002_4 : List (S43)) (x617002_4 : List (S43)) (u602002 : Value) (u603002 : Value) (u610002 : Value) (u617002 : Value), v86 = .int .i64 x86_4 ∧ Aside0 (compositorlaw09_BufferPaste.l0 kq (t620.length : Int) x86_4 a0_0 a0_1 l0_2 a1_0 a1_1 l1_2 t591 t592 x602002_4 t596 t597 x603002_4 t618 t619 x610002_4 = some true) ∧ Aside0 (kq ≤ kj96) ∧ Aside0 (Kd.R k43 43 w' w.heap.size (fun k_ => some k_ ≠ (u603002 : Value).ownBlock ∧ some k_ ≠ (u610002 : Value).ownBlock ∧ some k_ ≠ (u617002 : Value).ownBlock) u602002 x602002_4) ∧ Aside0 (Kd.R k43 43 w' w.heap.size (fun k_ => some k_ ≠ (u602002 : Value).ownBlock ∧ some k_ ≠ (u610002 : Value).ownBlock ∧ some k_ ≠ (u617002 : Value).ownBlock) u603002 x603002_4) ∧ Aside0 (Kd.R k43 43 w' w.heap.size (fun k_ => some k_ ≠ (u602002 : Value).ownBlock ∧ some k_ ≠ (u603002 : Value).ownBlock ∧ some k_ ≠ (u617002 : Value).ownBlock) u610002 x610002_4) ∧ Aside0 (Kd.R k43 43 w' w.heap.size (fun k_ => some k_ ≠ (u602002 : Value).ownBlock ∧ some k_ ≠ (u603002 : Value).ownBlock ∧ some k_ ≠ (u610002 : Value).ownBlock) u617002 x617002_4) ∧ Aside0 (w'.heap[gb585]? = some (.cells #[.int .i64 a0_0, .int .i64 a0_1, (.slice A0_2 l0_2.length c0_2)] 27 (0, 0))) ∧ Aside0 (w'.heap[gb586]? = some (.cells #[.int .i64 a1_0, .int .i64 a1_1, (.slice A1_2 l1_2.length c1_2)] 27 (0, 0))) ∧ Aside0 (w'.heap[gb587]? = some (.cells #[.int .i64 a2_0, .int .i64 a2_1] 41 (0, 0))) ∧ Aside0 (w'.heap[gb601]? = some (.cells #[.int .i64 t591, .int .i64 t592, u602002] 27 (0, 0))) ∧ Aside0 (w'.heap[gb602]? = some (.cells #[.int .i64 t596, .int .i64 t597, u603002] 27 (0, 0))) ∧ Aside0 (w'.heap[gb609]? = some (.cells #[.int .i64 t618, .int .i64 t619, u610002] 27 (0, 0))) ∧ Aside0 (w'.heap[gb616]? = some (.cells #[.int .i64 t624, .int .i64 t625, u617002] 27 (0, 0))) ∧ Aside0 (Below w.heap.size w w'))
          case atStart => exact ⟨(0), (t593), (t598), (t620), (t626), (.slice Ao39 t593.length co39), (.slice Ao43 t598.length co43), (.slice Ao117 t620.length co117), (.slice Ao128 t626.length co128), (by first | rfl | (simp; done) | (simp [*]; done)), H', ⟨Nat.le_refl _⟩, ⟨by (with_reducible repeat (first | apply Kd.R_alloc | apply Kd.R_drewN | apply Kd.R_drew)); exact HO_602002.out⟩, ⟨by (with_reducible repeat (first | apply Kd.R_alloc | apply Kd.R_drewN | apply Kd.R_drew)); exact HO_603002.out⟩, ⟨by (with_reducible repeat (first | apply Kd.R_alloc | apply Kd.R_drewN | apply Kd.R_drew)); exact HO_610002.out⟩, ⟨by (with_reducible repeat (first | apply Kd.R_alloc | apply Kd.R_drewN | apply Kd.R_drew)); exact HO_617002.out⟩, bf_ BK585, bf_ BK586, bf_ BK587, bf_ BK601, bf_ BK602, bf_ BK609, bf_ BK616, ⟨by repeat (first | (with_reducible first | exact HB.out | apply below_alloc | apply pw_below_drewN | apply below_drew1 | refine below_set ?_ GE585.out | refine below_set ?_ GE586.out | refine below_set ?_ GE587.out | refine below_set ?_ GE601.out | refine below_set ?_ GE602.out | refine below_set ?_ GE609.out | refine below_set ?_ GE616.out) | exact HB.out)⟩⟩
          case round =>
           clear H'
           try clear c1
           try clear p2
           try clear c3
           try clear c4
           try clear c5
           try clear c6
           try clear c7
           try clear c8
           try clear c9
           try clear c10
           try clear c11
           try clear c12
           try clear c13
           try clear c14
           try clear c15
           try clear c32
           try clear c33
           try clear c34
           try clear c35
           try clear c36
           try clear c45
           try clear c46
           try clear c47
           try clear c48
           try clear c50
           try clear c51
           try clear c52
           try clear c56
           try clear c57
           try clear c58
           try clear c59
           try clear c60
           try clear c63
           try clear c64
           try clear c66
           try clear c70
           try clear c71
           try clear c72
           try clear c73
           try clear c74
           try clear c75
           try clear c78
           try clear c78b0
           try clear c78b1
           try clear c80
           try clear c81
           try clear c82
           try clear c83
           try clear c84
           try clear c85
           try clear c87
           try clear c88
           try clear c89
           try clear c90
           try clear c91
           try clear c94
           try clear c98
           try clear c99
           try clear c100
           try clear c101
           try clear c102
           try clear c103
           try clear c105
           try clear c106
           try clear c107
           try clear c108
           try clear c109
           try clear c112
           try clear c113
           try clear c114
           try clear c115
           try clear c118
           try clear c119
           try clear c120
           try clear c122
           try clear c123
           try clear c126
           try clear c129
           try clear c129b0
           try clear c129b1
           try clear c131
           try clear c132
           try clear c133
           try clear c134
           try clear c135
           try clear c136
           try clear c138
           try clear c139
           try clear c140
           try clear c141
           try clear c142
           try clear c145
           try clear c146
           try clear c147
           try clear c148
           try clear c149
           try clear c150
           try clear c151
           try clear hcz104_0
           try clear hcz104_1
           try clear hcz104_2
           try clear hcz110_0
           try clear hcz110_1
           try clear hcz110_2
           try clear hcz116_0
           try clear hcz116_1
           try clear hcz116_2
           try clear hcz121_0
           try clear hcz121_1
           try clear hcz121_2
           try clear hcz124_0
           try clear hcz124_1
           try clear hcz124_2
           try clear hcz127_0
           try clear hcz127_1
           try clear hcz127_2
           try clear hcz137_0
           try clear hcz137_1
           try clear hcz137_2
           try clear hcz143_0
           try clear hcz143_1
           try clear hcz143_2
           try clear hcz152_0
           try clear hcz152_1
           try clear hcz152_2
           try clear hcz49_0
           try clear hcz49_1
           try clear hcz49_2
           try clear hcz53_0
           try clear hcz53_1
           try clear hcz53_2
           try clear hcz61_0
           try clear hcz61_1
           try clear hcz61_2
           try clear hcz65_0
           try clear hcz65_1
           try clear hcz65_2
           try clear hcz67_0
           try clear hcz67_1
           try clear hcz67_2
           try clear hcz76_0
           try clear hcz76_1
           try clear hcz76_2
           try clear hcz86_0
           try clear hcz86_1
           try clear hcz86_2
           try clear hcz92_0
           try clear hcz92_1
           try clear hcz92_2
           try clear hfz104_0
           try clear hfz104_1
           try clear hfz104_2
           try clear hfz110_0
           try clear hfz110_1
           try clear hfz110_2
           try clear hfz116_0
           try clear hfz116_1
           try clear hfz116_2
           try clear hfz121_0
           try clear hfz121_1
           try clear hfz121_2
           try clear hfz124_0
           try clear hfz124_1
           try clear hfz124_2
           try clear hfz127_0
           try clear hfz127_1
           try clear hfz127_2
           try clear hfz137_0
           try clear hfz137_1
           try clear hfz137_2
           try clear hfz143_0
           try clear hfz143_1
           try clear hfz143_2
           try clear hfz152_0
           try clear hfz152_1
           try clear hfz152_2
           try clear hfz49_0
           try clear hfz49_1
           try clear hfz49_2
           try clear hfz53_0
           try clear hfz53_1
           try clear hfz53_2
           try clear hfz61_0
           try clear hfz61_1
           try clear hfz61_2
           try clear hfz65_0
           try clear hfz65_1
           try clear hfz65_2
           try clear hfz67_0
           try clear hfz67_1
           try clear hfz67_2
           try clear hfz76_0
           try clear hfz76_1
           try clear hfz76_2
           try clear hfz86_0
           try clear hfz86_1
           try clear hfz86_2
           try clear hfz92_0
           try clear hfz92_1
           try clear hfz92_2
           try clear p2
           obtain ⟨x86_4, x602002_4, x603002_4, x610002_4, x617002_4, u602002, u603002, u610002, u617002, rfl, HA, HK4, HO_602002, HO_603002, HO_610002, HO_617002, BK585, BK586, BK587, BK601, BK602, BK609, BK616, HB⟩ := hrel
           cases gk with
           | zero => exact absurd HA.out (by simp [compositorlaw09_BufferPaste.l0])
           | succ k4 =>
            have H := HA.out
            clear HA
            simp only [compositorlaw09_BufferPaste.l0] at H
            by_cases c153 : x86_4 < (t620.length : Int)
            ·
             rw [if_pos c153] at H
             have c153b0 : decide (x86_4 < (t620.length : Int)) = true := decide_eq_true c153
             clear c153
             by_cases c154 : 0 ≤ x86_4
             ·
              rw [if_pos c154] at H
              have c154b0 : decide (0 ≤ x86_4) = true := decide_eq_true c154
              clear c154
              by_cases c155 : x86_4 < (x610002_4.length : Int)
              ·
               rw [if_pos c155] at H
               have c155b0 : decide (x86_4 < (x610002_4.length : Int)) = true := decide_eq_true c155
               clear c155
               obtain ⟨y631, hy631⟩ : ∃ y_ : List (S43), y_ = (x610002_4.set (x86_4 : Int).toNat (⟨1, 0, 0, 3⟩ : S43)) := ⟨_, rfl⟩
               replace H : (compositorlaw09_BufferPaste.l0 k4 (t620.length : Int) (wrap64 (x86_4 + 1)) a0_0 a0_1 l0_2 a1_0 a1_1 l1_2 t591 t592 x602002_4 t596 t597 x603002_4 t618 t619 y631) = some true := by first | (rw [hy631]; with_reducible exact H) | (have H2_ := (Option.bind_some _ _).symm.trans H; rw [hy631]; with_reducible exact H2_) | (have H2_ := (Option.bind_some _ _).symm.trans H; with_reducible exact H2_) | with_reducible exact H | (rw [hy631]; exact H) | exact H
               have Ny631 := Aside0.mk hy631
               clear hy631
               have H' := Aside0.mk H
               clear H
               have hnb157 := NB609_585.out
               have hnc157 := NB585_609.out
               have hnb158 := NB609_586.out
               have hnc158 := NB586_609.out
               have hnb159 := NB609_587.out
               have hnc159 := NB587_609.out
               have hnb160 := NB609_601.out
               have hnc160 := NB601_609.out
               have hnb161 := NB609_602.out
               have hnc161 := NB602_609.out
               have hnb162 := NB609_616.out
               have hnc162 := NB616_609.out
               have hcz163_0 : wr.cell? ⟨gb609, 0, none⟩ = some (.int .i64 t618) := (blk_cell BK609.out 0).trans rfl
               have hcz163_1 : wr.cell? ⟨gb609, 1, none⟩ = some (.int .i64 t619) := (blk_cell BK609.out 1).trans rfl
               have hcz163_2 : wr.cell? ⟨gb609, 2, none⟩ = some (u610002) := (blk_cell BK609.out 2).trans rfl
               have hfz163_0 := blk_frozen BK609.out 0
               have hfz163_1 := blk_frozen BK609.out 1
               have hfz163_2 := blk_frozen BK609.out 2
               have p156 : 0 ≤ (x86_4 : Int) := of_decide_eq_true (by first | (with_reducible assumption) | assumption)
               have q156 : (x86_4 : Int) < ((x610002_4.length : Int) : Int) := of_decide_eq_true (by first | (with_reducible assumption) | assumption)
               obtain ⟨go156, co156, eo156, gb156, gl156, cl156, HG156⟩ := Kd.R_form HO_610002.out (by omega)
               (first | cases eo156 | (injection eo156 with ea_ en_ ec_; (first | subst ea_ | (injection ea_ with ea_; subst ea_)); subst ec_; clear en_))
               have GB156 := Aside0.mk gb156
               have GG156 := Aside0.mk HG156
               clear gb156 gl156 HG156
               obtain ⟨ce156, hcl156, hM156, hcc156, hfr156⟩ := Kd.R_elem HO_610002.out z43 (x86_4 : Int) p156 q156
               obtain rfl := k43_openM hM156
               have hx156_0 : wr.cell? ⟨go156, (x86_4 : Int).toNat * 4, none⟩ = some (.int .u8 ((rd_T43 x610002_4 x86_4).f0)) := hcc156 0 _ rfl
               have hx156_1 : wr.cell? ⟨go156, (x86_4 : Int).toNat * 4 + 1, none⟩ = some (.int .u8 ((rd_T43 x610002_4 x86_4).f1)) := hcc156 1 _ rfl
               have hx156_2 : wr.cell? ⟨go156, (x86_4 : Int).toNat * 4 + 2, none⟩ = some (.int .u8 ((rd_T43 x610002_4 x86_4).f2)) := hcc156 2 _ rfl
               have hx156_3 : wr.cell? ⟨go156, (x86_4 : Int).toNat * 4 + 3, none⟩ = some (.int .u8 ((rd_T43 x610002_4 x86_4).f3)) := hcc156 3 _ rfl
               have hf156_0 : wr.frozen? ⟨go156, (x86_4 : Int).toNat * 4, none⟩ = false := hfr156 0
               have hf156_1 : wr.frozen? ⟨go156, (x86_4 : Int).toNat * 4 + 1, none⟩ = false := hfr156 1
               have hf156_2 : wr.frozen? ⟨go156, (x86_4 : Int).toNat * 4 + 2, none⟩ = false := hfr156 2
               have hf156_3 : wr.frozen? ⟨go156, (x86_4 : Int).toNat * 4 + 3, none⟩ = false := hfr156 3
               clear hcl156 hcc156 hfr156 hM156
               replace p156 := eq_true p156
               replace q156 := eq_true q156
               have HX164 := Aside0.mk (show Kd.R k43 43 wr w.heap.size (fun k_ => some k_ ≠ (u602002 : Value).ownBlock ∧ some k_ ≠ (u603002 : Value).ownBlock ∧ some k_ ≠ (u617002 : Value).ownBlock) (.slice (some ⟨go156, 0, none⟩) x610002_4.length co156) x610002_4 from (by (with_reducible repeat (first | apply Kd.R_alloc | apply Kd.R_drewN | apply Kd.R_drew)); exact HO_610002.out))
               obtain ⟨ce164, hcl164, hM164, hcc164, hfr164⟩ := Kd.R_elem HX164.out z43 (x86_4 : Int) (of_decide_eq_true (by first | (with_reducible assumption) | assumption)) (by have h_ : (x86_4 : Int) < ((x610002_4.length : Int) : Int) := of_decide_eq_true (by first | (with_reducible assumption) | assumption); first | exact h_ | (have e_ := (Kd.R_reads' HO_610002.out).1; omega) | simpa using h_)
               obtain rfl := k43_openM hM164
               have HP164 := Kd.R_seg HX164.out (x86_4 : Int) (of_decide_eq_true (by first | (with_reducible assumption) | assumption)) (by have h_ : (x86_4 : Int) < ((x610002_4.length : Int) : Int) := of_decide_eq_true (by first | (with_reducible assumption) | assumption); first | exact h_ | (have e_ := (Kd.R_reads' HO_610002.out).1; omega) | simpa using h_) (seg := [.int .u8 1, .int .u8 0, .int .u8 0, .int .u8 3]) (j := 0) hcl164 hcc164 (show 4 ≤ 4 from by decide) (x' := (⟨1, 0, 0, 3⟩ : S43)) (k43_mkM _ _ _ (⟨1, 0, 0, 3⟩ : S43) ) (fun _ hk => hk)
               have hx164_0 := hcc164 0 _ rfl
               (try simp only [show (k43).sz = 4 from rfl, Nat.mul_one, Nat.add_zero] at hx164_0)
               have hf164_0 := hfr164 0
               (try simp only [show (k43).sz = 4 from rfl, Nat.mul_one, Nat.add_zero] at hf164_0)
               have hx164_1 := hcc164 1 _ rfl
               (try simp only [show (k43).sz = 4 from rfl, Nat.mul_one, Nat.add_zero] at hx164_1)
               have hf164_1 := hfr164 1
               (try simp only [show (k43).sz = 4 from rfl, Nat.mul_one, Nat.add_zero] at hf164_1)
               have hx164_2 := hcc164 2 _ rfl
               (try simp only [show (k43).sz = 4 from rfl, Nat.mul_one, Nat.add_zero] at hx164_2)
               have hf164_2 := hfr164 2
               (try simp only [show (k43).sz = 4 from rfl, Nat.mul_one, Nat.add_zero] at hf164_2)
               have hx164_3 := hcc164 3 _ rfl
               (try simp only [show (k43).sz = 4 from rfl, Nat.mul_one, Nat.add_zero] at hx164_3)
               have hf164_3 := hfr164 3
               (try simp only [show (k43).sz = 4 from rfl, Nat.mul_one, Nat.add_zero] at hf164_3)
               clear hcl164 hcc164 hfr164 hM164
               go_wp2_with (first | ((with_reducible refine gate_store (t := 43) (p := 93) rfl ?_); refine store_event (t := 43) (p := 93) (v := ?vo_w165) (w1 := ((((wr.setCell ⟨go156, (x86_4 : Int).toNat * 4, none⟩ (.int .u8 1)).setCell ⟨go156, (x86_4 : Int).toNat * 4 + 1, none⟩ (.int .u8 0)).setCell ⟨go156, (x86_4 : Int).toNat * 4 + 2, none⟩ (.int .u8 0)).setCell ⟨go156, (x86_4 : Int).toNat * 4 + 3, none⟩ (.int .u8 3))) ?hg ?ho ?hn ?hr ?_; (case ho => rfl); (case hg => rfl); (case hn => rfl); (case hr => first | (go_simp; done) | (go_simp; rfl)); intro w165 hw; have hg : wr.grownBy w165 (some go156) := (by rw [hw]; exact HP164.2); have hp_ : Kd.R k43 43 w165 w.heap.size (fun k_ => some k_ ≠ (u602002 : Value).ownBlock ∧ some k_ ≠ (u603002 : Value).ownBlock ∧ some k_ ≠ (u617002 : Value).ownBlock) (.slice (some ⟨go156, 0, none⟩) x610002_4.length co156) y631 := (by rw [hw, Ny631.out]; exact HP164.1); clear HP164; have n0_ := Aside0.mk (Kd.R_after (v := (.slice (some ⟨go156, 0, none⟩) x610002_4.length co156)) (v1 := (.slice (some ⟨go156, 0, none⟩) x610002_4.length co156)) (ok := (fun k_ => some k_ ≠ (u603002 : Value).ownBlock ∧ some k_ ≠ (u617002 : Value).ownBlock)) (by (with_reducible repeat (first | apply Kd.R_alloc | apply Kd.R_drewN | apply Kd.R_drew)); exact Kd.R_mono HO_602002.out (fun _ hk => ⟨⟨hk.1, hk.2.2⟩, hk.2.1⟩)) hg (.inl rfl)); have n1_ := Aside0.mk (Kd.R_after (v := (.slice (some ⟨go156, 0, none⟩) x610002_4.length co156)) (v1 := (.slice (some ⟨go156, 0, none⟩) x610002_4.length co156)) (ok := (fun k_ => some k_ ≠ (u602002 : Value).ownBlock ∧ some k_ ≠ (u617002 : Value).ownBlock)) (by (with_reducible repeat (first | apply Kd.R_alloc | apply Kd.R_drewN | apply Kd.R_drew)); exact Kd.R_mono HO_603002.out (fun _ hk => ⟨⟨hk.1, hk.2.2⟩, hk.2.1⟩)) hg (.inl rfl)); have n2_ := Aside0.mk (hp_); have n3_ := Aside0.mk (Kd.R_after (v := (.slice (some ⟨go156, 0, none⟩) x610002_4.length co156)) (v1 := (.slice (some ⟨go156, 0, none⟩) x610002_4.length co156)) (ok := (fun k_ => some k_ ≠ (u602002 : Value).ownBlock ∧ some k_ ≠ (u603002 : Value).ownBlock)) (by (with_reducible repeat (first | apply Kd.R_alloc | apply Kd.R_drewN | apply Kd.R_drew)); exact Kd.R_mono HO_617002.out (fun _ hk => ⟨⟨hk.1, hk.2.1⟩, hk.2.2⟩)) hg (.inl rfl)); have n4_ := Aside0.mk (blk_grown (g := gb585) (o := .cells #[.int .i64 a0_0, .int .i64 a0_1, .slice A0_2 l0_2.length c0_2] 27 (0, 0)) (bq_ BK585) hg (Kd.R_ne HO_610002.out BK585.out (by decide))); have n5_ := Aside0.mk (blk_grown (g := gb586) (o := .cells #[.int .i64 a1_0, .int .i64 a1_1, .slice A1_2 l1_2.length c1_2] 27 (0, 0)) (bq_ BK586) hg (Kd.R_ne HO_610002.out BK586.out (by decide))); have n6_ := Aside0.mk (blk_grown (g := gb587) (o := .cells #[.int .i64 a2_0, .int .i64 a2_1] 41 (0, 0)) (bq_ BK587) hg (Kd.R_ne HO_610002.out BK587.out (by decide))); have n7_ := Aside0.mk (blk_grown (g := gb601) (o := .cells #[.int .i64 t591, .int .i64 t592, u602002] 27 (0, 0)) (bq_ BK601) hg (Kd.R_ne HO_610002.out BK601.out (by decide))); have n8_ := Aside0.mk (blk_grown (g := gb602) (o := .cells #[.int .i64 t596, .int .i64 t597, u603002] 27 (0, 0)) (bq_ BK602) hg (Kd.R_ne HO_610002.out BK602.out (by decide))); have n9_ := Aside0.mk (blk_grown (g := gb609) (o := .cells #[.int .i64 t618, .int .i64 t619, .slice (some ⟨go156, 0, none⟩) x610002_4.length co156] 27 (0, 0)) (bq_ BK609) hg (Kd.R_ne HO_610002.out BK609.out (by decide))); have n10_ := Aside0.mk (blk_grown (g := gb616) (o := .cells #[.int .i64 t624, .int .i64 t625, u617002] 27 (0, 0)) (bq_ BK616) hg (Kd.R_ne HO_610002.out BK616.out (by decide))); have n11_ := Aside0.mk ((by rw [hw]; exact below_set (below_set (below_set (below_set (HB.out) GB156.out) GB156.out) GB156.out) GB156.out : Below w.heap.size w w165)); clear HO_602002; clear HO_603002; clear HO_610002; clear HO_617002; clear BK585; clear BK586; clear BK587; clear BK601; clear BK602; clear BK609; clear BK616; clear HB; have HO_602002 := n0_; have HO_603002 := n1_; have HO_610002 := n2_; have HO_617002 := n3_; have BK585 := n4_; have BK586 := n5_; have BK587 := n6_; have BK601 := n7_; have BK602 := n8_; have BK609 := n9_; have BK616 := n10_; have HB := n11_; clear n0_ n1_ n2_ n3_ n4_ n5_ n6_ n7_ n8_ n9_ n10_ n11_; clear hg hw hp_))
               go_roundg k4
               case measure => have := HJ3.out; have := HJ28.out; have := HJ96.out; have := HK4.out; omega
               case rel => exact ⟨(wrap64 (x86_4 + 1)), (x602002_4), (x603002_4), (y631), (x617002_4), (u602002), (u603002), (.slice (some ⟨go156, 0, none⟩) x610002_4.length co156), (u617002), (by first | rfl | (simp; done) | (simp [*]; done)), H', ⟨by have := HJ3.out; have := HJ28.out; have := HJ96.out; have := HK4.out; omega⟩, ⟨by (with_reducible repeat (first | apply Kd.R_alloc | apply Kd.R_drewN | apply Kd.R_drew)); exact Kd.R_mono HO_602002.out (fun _ hk => ⟨hk.1.1, ⟨hk.2, hk.1.2⟩⟩)⟩, ⟨by (with_reducible repeat (first | apply Kd.R_alloc | apply Kd.R_drewN | apply Kd.R_drew)); exact Kd.R_mono HO_603002.out (fun _ hk => ⟨hk.1.1, ⟨hk.2, hk.1.2⟩⟩)⟩, ⟨by (with_reducible repeat (first | apply Kd.R_alloc | apply Kd.R_drewN | apply Kd.R_drew)); exact HO_610002.out⟩, ⟨by (with_reducible repeat (first | apply Kd.R_alloc | apply Kd.R_drewN | apply Kd.R_drew)); exact Kd.R_mono HO_617002.out (fun _ hk => ⟨hk.1.1, ⟨hk.1.2, hk.2⟩⟩)⟩, bf_ BK585, bf_ BK586, bf_ BK587, bf_ BK601, bf_ BK602, bf_ BK609, bf_ BK616, ⟨by repeat (first | (with_reducible first | exact HB.out | apply below_alloc | apply pw_below_drewN | apply below_drew1 | refine below_set ?_ GE585.out | refine below_set ?_ GE586.out | refine below_set ?_ GE587.out | refine below_set ?_ GE601.out | refine below_set ?_ GE602.out | refine below_set ?_ GE609.out | refine below_set ?_ GE616.out) | exact HB.out)⟩⟩
              ·
               rw [if_neg c155] at H
               exact absurd H (by simp)
             ·
              rw [if_neg c154] at H
              exact absurd H (by simp)
            ·
             rw [if_neg c153] at H
             have c153b0 : decide (x86_4 < (t620.length : Int)) = false := decide_eq_false c153
             clear c153
             replace H := Option.bind_eq_some_iff.mp H
             obtain ⟨t632, A1660, H⟩ := H
             try dsimp only at H
             have A166 := Aside0.mk A1660
             clear A1660
             by_cases c167 : t632 = true
             ·
              subst c167
              have H1 : ((compositorref09_Equal.f k4 a1_0 a1_1 l1_2 t596 t597 x603002_4).bind fun t633 => (if t633 = true then ((compositorlaw09_exampleHolds.f k4).bind fun t634 => (some t634)) else (some false))) = some true := by rw [if_pos rfl] at H; exact H
              clear H
              have H := H1
              clear H1
              replace H := Option.bind_eq_some_iff.mp H
              obtain ⟨t633, A1680, H⟩ := H
              try dsimp only at H
              have A168 := Aside0.mk A1680
              clear A1680
              by_cases c169 : t633 = true
              ·
               subst c169
               have H1 : ((compositorlaw09_exampleHolds.f k4).bind fun t634 => (some t634)) = some true := by rw [if_pos rfl] at H; exact H
               clear H
               have H := H1
               clear H1
               replace H := Option.bind_eq_some_iff.mp H
               obtain ⟨t634, A1700, H⟩ := H
               try dsimp only at H
               have A170 := Aside0.mk A1700
               clear A1700
               have Hq_ := Option.some.inj H
               have hnb171 := NB585_586.out
               have hnc171 := NB586_585.out
               have hnb172 := NB585_587.out
               have hnc172 := NB587_585.out
               have hnb173 := NB585_601.out
               have hnc173 := NB601_585.out
               have hnb174 := NB585_602.out
               have hnc174 := NB602_585.out
               have hnb175 := NB585_609.out
               have hnc175 := NB609_585.out
               have hnb176 := NB585_616.out
               have hnc176 := NB616_585.out
               have hcz177_0 : wr.cell? ⟨gb585, 0, none⟩ = some (.int .i64 a0_0) := (blk_cell BK585.out 0).trans rfl
               have hcz177_1 : wr.cell? ⟨gb585, 1, none⟩ = some (.int .i64 a0_1) := (blk_cell BK585.out 1).trans rfl
               have hcz177_2 : wr.cell? ⟨gb585, 2, none⟩ = some (.slice A0_2 l0_2.length c0_2) := (blk_cell BK585.out 2).trans rfl
               have hfz177_0 := blk_frozen BK585.out 0
               have hfz177_1 := blk_frozen BK585.out 1
               have hfz177_2 := blk_frozen BK585.out 2
               have hnb178 := NB601_586.out
               have hnc178 := NB586_601.out
               have hnb179 := NB601_587.out
               have hnc179 := NB587_601.out
               have hnb180 := NB601_602.out
               have hnc180 := NB602_601.out
               have hnb181 := NB601_609.out
               have hnc181 := NB609_601.out
               have hnb182 := NB601_616.out
               have hnc182 := NB616_601.out
               have hcz183_0 : wr.cell? ⟨gb601, 0, none⟩ = some (.int .i64 t591) := (blk_cell BK601.out 0).trans rfl
               have hcz183_1 : wr.cell? ⟨gb601, 1, none⟩ = some (.int .i64 t592) := (blk_cell BK601.out 1).trans rfl
               have hcz183_2 : wr.cell? ⟨gb601, 2, none⟩ = some (u602002) := (blk_cell BK601.out 2).trans rfl
               have hfz183_0 := blk_frozen BK601.out 0
               have hfz183_1 := blk_frozen BK601.out 1
               have hfz183_2 := blk_frozen BK601.out 2
               obtain ⟨Ao184, co184, eo184⟩ := Kd.R_slice HO_602002.out
               subst eo184
               go_wp2_with (first | ((with_reducible refine gate_callee (f := 16) rfl ?_); refine goesL_ (some 97) rfl rfl Try.func16 (by kernel_rfl) rfl #[.agg #[.int .i64 a0_0, .int .i64 a0_1, .slice A0_2 l0_2.length c0_2], .agg #[.int .i64 t591, .int .i64 t592, .slice Ao184 x602002_4.length co184]] rfl (by (try simp only [List.map_toArray, List.map_cons, List.map_nil]) <;> rfl) ?_; (with_reducible refine (compositorref09_Equal.calls k4 a0_0 a0_1 _ _ l0_2 t591 t592 _ _ x602002_4 true _ ?side1 ?side2 ?side3 ?side4 A166.out).mono ?_); (case side1 => repeat (first | exact (Kd.C_below HR0_2.out HB.out) | (with_reducible refine Kd.C_alloc ?_ _) | (with_reducible refine Kd.C_drewN ?_ _) | (with_reducible refine Kd.C_drew ?_))); (case side2 => exact HC0_2.out); (case side3 => repeat (first | exact (Kd.R_reads' HO_602002.out).2.2 | (with_reducible refine Kd.C_alloc ?_ _) | (with_reducible refine Kd.C_drewN ?_ _) | (with_reducible refine Kd.C_drew ?_))); (case side4 => exact (Kd.R_reads' HO_602002.out).2.1); rintro e w185 ⟨rfl, hb⟩; refine ⟨_, rfl, ?_⟩; have n0_ := Aside0.mk (Kd.R_below (by (with_reducible repeat (first | apply Kd.R_alloc | apply Kd.R_drewN | apply Kd.R_drew)); exact HO_602002.out) hb); have n1_ := Aside0.mk (Kd.R_below (by (with_reducible repeat (first | apply Kd.R_alloc | apply Kd.R_drewN | apply Kd.R_drew)); exact HO_603002.out) hb); have n2_ := Aside0.mk (Kd.R_below (by (with_reducible repeat (first | apply Kd.R_alloc | apply Kd.R_drewN | apply Kd.R_drew)); exact HO_610002.out) hb); have n3_ := Aside0.mk (Kd.R_below (by (with_reducible repeat (first | apply Kd.R_alloc | apply Kd.R_drewN | apply Kd.R_drew)); exact HO_617002.out) hb); have n4_ := bb_ BK585 hb; have n5_ := bb_ BK586 hb; have n6_ := bb_ BK587 hb; have n7_ := bb_ BK601 hb; have n8_ := bb_ BK602 hb; have n9_ := bb_ BK609 hb; have n10_ := bb_ BK616 hb; have n11_ := hb_ HB hb; clear HO_602002; clear HO_603002; clear HO_610002; clear HO_617002; clear BK585; clear BK586; clear BK587; clear BK601; clear BK602; clear BK609; clear BK616; clear HB; have HO_602002 := n0_; have HO_603002 := n1_; have HO_610002 := n2_; have HO_617002 := n3_; have BK585 := n4_; have BK586 := n5_; have BK587 := n6_; have BK601 := n7_; have BK602 := n8_; have BK609 := n9_; have BK616 := n10_; have HB := n11_; clear n0_ n1_ n2_ n3_ n4_ n5_ n6_ n7_ n8_ n9_ n10_ n11_; (try clear hb); (try clear hb2); (try clear hk); (try clear hi); have hnb186 := NB586_587.out; have hnc186 := NB587_586.out; have hnb187 := NB586_602.out; have hnc187 := NB602_586.out; have hnb188 := NB586_609.out; have hnc188 := NB609_586.out; have hnb189 := NB586_616.out; have hnc189 := NB616_586.out; have hcz190_0 : w185.cell? ⟨gb586, 0, none⟩ = some (.int .i64 a1_0) := (blk_cell BK586.out 0).trans rfl; have hcz190_1 : w185.cell? ⟨gb586, 1, none⟩ = some (.int .i64 a1_1) := (blk_cell BK586.out 1).trans rfl; have hcz190_2 : w185.cell? ⟨gb586, 2, none⟩ = some (.slice A1_2 l1_2.length c1_2) := (blk_cell BK586.out 2).trans rfl; have hfz190_0 := blk_frozen BK586.out 0; have hfz190_1 := blk_frozen BK586.out 1; have hfz190_2 := blk_frozen BK586.out 2; have hnb191 := NB602_587.out; have hnc191 := NB587_602.out; have hnb192 := NB602_609.out; have hnc192 := NB609_602.out; have hnb193 := NB602_616.out; have hnc193 := NB616_602.out; have hcz194_0 : w185.cell? ⟨gb602, 0, none⟩ = some (.int .i64 t596) := (blk_cell BK602.out 0).trans rfl; have hcz194_1 : w185.cell? ⟨gb602, 1, none⟩ = some (.int .i64 t597) := (blk_cell BK602.out 1).trans rfl; have hcz194_2 : w185.cell? ⟨gb602, 2, none⟩ = some (u603002) := (blk_cell BK602.out 2).trans rfl; have hfz194_0 := blk_frozen BK602.out 0; have hfz194_1 := blk_frozen BK602.out 1; have hfz194_2 := blk_frozen BK602.out 2; obtain ⟨Ao195, co195, eo195⟩ := Kd.R_slice HO_603002.out; subst eo195) | (go_at_call 16; (with_reducible refine (compositorref09_Equal.calls k4 a1_0 a1_1 _ _ l1_2 t596 t597 _ _ x603002_4 true _ ?side1 ?side2 ?side3 ?side4 A168.out).mono ?_); (case side1 => repeat (first | exact (Kd.C_below HR1_2.out HB.out) | (with_reducible refine Kd.C_alloc ?_ _) | (with_reducible refine Kd.C_drewN ?_ _) | (with_reducible refine Kd.C_drew ?_))); (case side2 => exact HC1_2.out); (case side3 => repeat (first | exact (Kd.R_reads' HO_603002.out).2.2 | (with_reducible refine Kd.C_alloc ?_ _) | (with_reducible refine Kd.C_drewN ?_ _) | (with_reducible refine Kd.C_drew ?_))); (case side4 => exact (Kd.R_reads' HO_603002.out).2.1); rintro e w196 ⟨rfl, hb⟩; have n0_ := Aside0.mk (Kd.R_below (by (with_reducible repeat (first | apply Kd.R_alloc | apply Kd.R_drewN | apply Kd.R_drew)); exact HO_602002.out) hb); have n1_ := Aside0.mk (Kd.R_below (by (with_reducible repeat (first | apply Kd.R_alloc | apply Kd.R_drewN | apply Kd.R_drew)); exact HO_603002.out) hb); have n2_ := Aside0.mk (Kd.R_below (by (with_reducible repeat (first | apply Kd.R_alloc | apply Kd.R_drewN | apply Kd.R_drew)); exact HO_610002.out) hb); have n3_ := Aside0.mk (Kd.R_below (by (with_reducible repeat (first | apply Kd.R_alloc | apply Kd.R_drewN | apply Kd.R_drew)); exact HO_617002.out) hb); have n4_ := bb_ BK585 hb; have n5_ := bb_ BK586 hb; have n6_ := bb_ BK587 hb; have n7_ := bb_ BK601 hb; have n8_ := bb_ BK602 hb; have n9_ := bb_ BK609 hb; have n10_ := bb_ BK616 hb; have n11_ := hb_ HB hb; clear HO_602002; clear HO_603002; clear HO_610002; clear HO_617002; clear BK585; clear BK586; clear BK587; clear BK601; clear BK602; clear BK609; clear BK616; clear HB; have HO_602002 := n0_; have HO_603002 := n1_; have HO_610002 := n2_; have HO_617002 := n3_; have BK585 := n4_; have BK586 := n5_; have BK587 := n6_; have BK601 := n7_; have BK602 := n8_; have BK609 := n9_; have BK616 := n10_; have HB := n11_; clear n0_ n1_ n2_ n3_ n4_ n5_ n6_ n7_ n8_ n9_ n10_ n11_; (try clear hb); (try clear hb2); (try clear hk); (try clear hi)) | (go_at_call 13; (with_reducible refine (compositorlaw09_exampleHolds.calls k4  t634 _ A170.out).mono ?_); rintro e w197 ⟨rfl, hb⟩; have n0_ := Aside0.mk (Kd.R_below (by (with_reducible repeat (first | apply Kd.R_alloc | apply Kd.R_drewN | apply Kd.R_drew)); exact HO_602002.out) hb); have n1_ := Aside0.mk (Kd.R_below (by (with_reducible repeat (first | apply Kd.R_alloc | apply Kd.R_drewN | apply Kd.R_drew)); exact HO_603002.out) hb); have n2_ := Aside0.mk (Kd.R_below (by (with_reducible repeat (first | apply Kd.R_alloc | apply Kd.R_drewN | apply Kd.R_drew)); exact HO_610002.out) hb); have n3_ := Aside0.mk (Kd.R_below (by (with_reducible repeat (first | apply Kd.R_alloc | apply Kd.R_drewN | apply Kd.R_drew)); exact HO_617002.out) hb); have n4_ := bb_ BK585 hb; have n5_ := bb_ BK586 hb; have n6_ := bb_ BK587 hb; have n7_ := bb_ BK601 hb; have n8_ := bb_ BK602 hb; have n9_ := bb_ BK609 hb; have n10_ := bb_ BK616 hb; have n11_ := hb_ HB hb; clear HO_602002; clear HO_603002; clear HO_610002; clear HO_617002; clear BK585; clear BK586; clear BK587; clear BK601; clear BK602; clear BK609; clear BK616; clear HB; have HO_602002 := n0_; have HO_603002 := n1_; have HO_610002 := n2_; have HO_617002 := n3_; have BK585 := n4_; have BK586 := n5_; have BK587 := n6_; have BK601 := n7_; have BK602 := n8_; have BK609 := n9_; have BK616 := n10_; have HB := n11_; clear n0_ n1_ n2_ n3_ n4_ n5_ n6_ n7_ n8_ n9_ n10_ n11_; (try clear hb); (try clear hb2); (try clear hk); (try clear hi)))
               go_ret
               exact ⟨by first | rfl | (simp [errW_none, errW_some] <;> rfl) | (simp [*, errW_none, errW_some] <;> rfl), by repeat (first | (with_reducible first | exact HB.out | apply below_alloc | apply pw_below_drewN | apply below_drew1 | refine below_set ?_ GE585.out | refine below_set ?_ GE586.out | refine below_set ?_ GE587.out | refine below_set ?_ GE601.out | refine below_set ?_ GE602.out | refine below_set ?_ GE609.out | refine below_set ?_ GE616.out) | exact HB.out)⟩
              ·
               replace c169 := Bool.eq_false_iff.mpr c169
               subst c169
               have H1 : (some false) = some true := by rw [if_neg (show ¬ (false = true) by decide)] at H; exact H
               clear H
               have H := H1
               clear H1
               exact absurd H (by simp)
             ·
              replace c167 := Bool.eq_false_iff.mpr c167
              subst c167
              have H1 : (some false) = some true := by rw [if_neg (show ¬ (false = true) by decide)] at H; exact H
              clear H
              have H := H1
              clear H1
              exact absurd H (by simp)
end Go.Proofs.Ytmockeaiccpogaa.All
end
section
namespace Go.Proofs.Ytmockeaiccpogaa.All
open Go.RowKit Go.Proofs.YtmockeaiccpogaaW.PrintWords Go.Proofs.YtmockeaiccpogaaW.PrintLast Go.Proofs.YtmockeaiccpogaaW.PrintMore
set_option linter.unusedVariables false
structure S22 where
  f0 : Int
  f1 : Int
  f2 : Int
  f3 : Int
structure S27 where
  f0 : Int
  f1 : Int
  f2 : List S43
def k27 : Kd S27 := Kd.iso (Kd.pair (Kd.int .i64) (Kd.pair (Kd.int .i64) (Kd.slice 43 k43))) (fun x : S27 => (x.f0, x.f1, x.f2))
theorem k27_open {w : World} {x : S27} {cs : List Value} (h : k27.K w x cs) : ∃ A2 c2, cs = [.int .i64 x.f0, .int .i64 x.f1, .slice A2 x.f2.length c2] ∧ x.f2.length ≤ c2 ∧ Kd.C k43 w A2 x.f2.length x.f2 := by
  obtain ⟨_, _, rfl, rfl, ⟨_, _, rfl, rfl, g2⟩⟩ := h
  obtain ⟨A2, c2, rfl, l2, h2⟩ := g2
  exact ⟨A2, c2, rfl, l2, h2⟩
structure S41 where
  f0 : Int
  f1 : Int
def k41 : Kd S41 := Kd.iso (Kd.pair (Kd.int .i64) (Kd.int .i64)) (fun x : S41 => (x.f0, x.f1))
theorem k41_open {w : World} {x : S41} {cs : List Value} (h : k41.K w x cs) : cs = [.int .i64 x.f0, .int .i64 x.f1] := by
  obtain ⟨_, _, rfl, rfl, rfl⟩ := h
  exact rfl
end Go.Proofs.Ytmockeaiccpogaa.All
end
