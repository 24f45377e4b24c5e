-- The texts behind this claim's law, put together by a program of this session (shake.py): what no text uses is left out. Its words are print.sh's.
import Derived.Test.YtpedlnebpibgaaaSRegistrySteps16
section
namespace Go.Proofs.Ytpedlnebpibgaaa.All
open Go.RowKit Go.Proofs.YtpedlnebpibgaaaW.PrintWords Go.Proofs.YtpedlnebpibgaaaW.PrintLast Go.Proofs.YtpedlnebpibgaaaW.PrintMore
attribute [local go_sem] max2_int min2_int max_two min_two max_three min_three max_four min_four
set_option linter.unusedVariables false
set_option linter.unusedSimpArgs false
def iface_find.l0 : Nat → ByteArray → List (S72) → Int → Int → Option (ByteArray × Int × List ByteArray × List ByteArray × Bool)
  | 0, _, _, _, _ => none
  | k + 1, x0, x6, x7, x8 => if x8 < x7 then (if 0 ≤ x8 then (if x8 < (x6.length : Int) then (if ((rd_T72 x6 x8).f0).toList = x0.toList then (some ((rd_T72 x6 x8).f0, (rd_T72 x6 x8).f1, (rd_T72 x6 x8).f2, (rd_T72 x6 x8).f3, true)) else (iface_find.l0 k x0 x6 x7 (wrap64 (x8 + 1)))) else (none)) else (none)) else (some ((⟨#[]⟩ : ByteArray), 0, ([] : List ByteArray), ([] : List ByteArray), false))
def iface_find.f (k : Nat) (a0 : ByteArray) : Option (ByteArray × Int × List ByteArray × List ByteArray × Bool) := (iface_table.f).bind fun t181 => (iface_find.l0 k a0 t181 (t181.length : Int) 0)
set_option maxHeartbeats 8000000 in
set_option maxRecDepth 100000 in
theorem iface_find.calls (k : Nat) (a0 : ByteArray) (r1 : ByteArray) (r2 : Int) (r3 : List ByteArray) (r4 : List ByteArray) (r5 : Bool) (w : World) (h : iface_find.f k a0 = some (r1, r2, r3, r4, r5)) :
    Calls Try.prog 38 #[.string a0] w fun e w' => ∃ v2_ v3_ : Value, e = .returned (.tuple #[.agg #[.string r1, .int .i64 r2, v2_, v3_], .bool r5]) ∧ Kd.V Kd.string 9 w' w.heap.size (fun k_ => (w.heap.size ≤ k_)) v2_ r3 ∧ Kd.V Kd.string 9 w' w.heap.size (fun k_ => (w.heap.size ≤ k_)) v3_ r4 ∧ Below w.heap.size w w' := by
  have hu72 := Try.underlying72
  have HB := Aside0.mk (Below.refl w.heap.size w)
  have H : ((iface_table.f).bind fun t181 => (iface_find.l0 k a0 t181 (t181.length : Int) 0)) = some (r1, r2, r3, r4, r5) := h
  clear h
  replace H := Option.bind_eq_some_iff.mp H
  obtain ⟨t181, A20, H⟩ := H
  replace H : (iface_find.l0 k a0 t181 (t181.length : Int) 0) = some (r1, r2, r3, r4, r5) := H
  have A2 := Aside0.mk A20
  clear A20
  have H' := Aside0.mk H
  clear H
  go_enter Try.func38, Try.ntmps38
  go_wp2_with (first | ((with_reducible refine gate_dst (N := 2) rfl ?_); refine box_event ?hg (N := 2) ?hd (cs := #[.string (⟨#[]⟩ : ByteArray), .int .i64 0, .slice none 0 0, .slice none 0 0]) (t := 72) ?hr ?_; (case hd => rfl); (case hg => rfl); (case hr => first | (go_simp; done) | (go_simp; rfl)); intro gb180 hg w3 hbox hb; have n0_ := Aside0.mk (below_step (by repeat (first | (with_reducible first | exact HB.out | apply below_alloc | apply pw_below_drewN | apply below_drew1) | exact HB.out)) hb); have n1_ := Aside0.mk (hbox); have n2_ := Aside0.mk ((by rw [hg]; exact (below_size (by repeat (first | (with_reducible first | exact HB.out | apply below_alloc | apply pw_below_drewN | apply below_drew1) | exact HB.out))) : w.heap.size ≤ gb180)); have n3_ := Aside0.mk ((by rw [hg]; exact (below_size (by repeat (first | (with_reducible first | exact HB.out | apply below_alloc | apply pw_below_drewN | apply below_drew1) | exact HB.out))) : w.heap.size ≤ gb180)); clear HB; have HB := n0_; have BK180 := n1_; have GW180 := n2_; have GE180 := n3_; clear n0_ n1_ n2_ n3_; clear hb hbox hg) | ((with_reducible refine gate_callee (f := 42) rfl ?_); refine goesL_ (some 6) rfl rfl Try.func42 (by kernel_rfl) rfl #[] rfl (by (try simp only [List.map_toArray, List.map_cons, List.map_nil]); first | done | rfl | (simp only [List.length_drop, List.length_take]; rfl)) ?_; (with_reducible refine (iface_table.calls  t181 _ A2.out).mono ?_); rintro e w4 ⟨v182, rfl, ho0, hb⟩; refine ⟨_, rfl, ?_⟩; have n0_ := Aside0.mk (Kd.N_lower (Kd.N_mono (ok' := fun k_ => (w.heap.size ≤ k_) ∧ k_ ≠ gb180) ho0 (fun k_ hk_ => ⟨(Nat.le_trans (below_size (by repeat (first | (with_reducible first | exact HB.out | apply below_alloc | apply pw_below_drewN | apply below_drew1 | refine below_set ?_ GE180.out) | exact HB.out))) hk_), (Kd.freshB (g := gb180) (o := .cells #[.string (⟨#[]⟩ : ByteArray), .int .i64 0, .slice none 0 0, .slice none 0 0] 72 (0, 0)) (by (with_reducible repeat (first | refine blk_drewN ?_ _ | refine blk_drew ?_ | refine blk_alloc ?_ _)); exact BK180.out) k_ hk_)⟩)) (below_size (by repeat (first | (with_reducible first | exact HB.out | apply below_alloc | apply pw_below_drewN | apply below_drew1 | refine below_set ?_ GE180.out) | exact HB.out)))); have n1_ := Aside0.mk (blk_below (g := gb180) (o := .cells #[.string (⟨#[]⟩ : ByteArray), .int .i64 0, .slice none 0 0, .slice none 0 0] 72 (0, 0)) (by (with_reducible repeat (first | refine blk_drewN ?_ _ | refine blk_drew ?_ | refine blk_alloc ?_ _)); exact BK180.out) hb); have n2_ := Aside0.mk (below_step (by repeat (first | (with_reducible first | exact HB.out | apply below_alloc | apply pw_below_drewN | apply below_drew1 | refine below_set ?_ GE180.out) | exact HB.out)) hb); clear BK180; clear HB; have HO183 := n0_; have BK180 := n1_; have HB := n2_; clear n0_ n1_ n2_; (try clear hb); (try clear hb2); (try clear hk); (try clear hi); (try clear ho0); obtain ⟨Ao5, co5, eo5⟩ := Kd.N_slice HO183.out; subst eo5))
  go_loopg [8] k (fun kq v8 w' => ∃ (x8_1 : Int) (x181000_1 : ByteArray) (x181001_1 : Int), v8 = .int .i64 x8_1 ∧ Aside0 (iface_find.l0 kq a0 t181 (t181.length : Int) x8_1 = some (r1, r2, r3, r4, r5)) ∧ Aside0 (kq ≤ k) ∧ Aside0 (Kd.N k72 72 w' w.heap.size (fun k_ => (w.heap.size ≤ k_) ∧ k_ ≠ gb180) (.slice Ao5 t181.length co5) t181) ∧ Aside0 (w'.heap[gb180]? = some (.cells #[.string x181000_1, .int .i64 x181001_1, (.slice none 0 0), (.slice none 0 0)] 72 (0, 0))) ∧ Aside0 (Below w.heap.size w w'))
  case atStart => exact ⟨(0), ((⟨#[]⟩ : ByteArray)), (0), (by first | rfl | (simp; done) | (simp [*]; done)), H', ⟨Nat.le_refl _⟩, ⟨by (with_reducible repeat (first | apply Kd.N_alloc | apply Kd.N_drewN | apply Kd.N_drew)); exact HO183.out⟩, ⟨by (with_reducible repeat (first | refine blk_drewN ?_ _ | refine blk_drew ?_ | refine blk_alloc ?_ _)); exact BK180.out⟩, ⟨by repeat (first | (with_reducible first | exact HB.out | apply below_alloc | apply pw_below_drewN | apply below_drew1 | refine below_set ?_ GE180.out) | exact HB.out)⟩⟩
  case round =>
    clear H'
    try clear p2
    try clear c3
    try clear c4
    obtain ⟨x8_1, x181000_1, x181001_1, rfl, HA, HK1, HO_6, BK180, HB⟩ := hrel
    cases gk with
    | zero => exact absurd HA.out (by simp [iface_find.l0])
    | succ k1 =>
      have H := HA.out
      clear HA
      simp only [iface_find.l0] at H
      by_cases c6 : x8_1 < (t181.length : Int)
      · rw [if_pos c6] at H
        have c6b0 : decide (x8_1 < (t181.length : Int)) = true := decide_eq_true c6
        clear c6
        by_cases c7 : 0 ≤ x8_1
        · rw [if_pos c7] at H
          have c7b0 : decide (0 ≤ x8_1) = true := decide_eq_true c7
          clear c7
          by_cases c8 : x8_1 < (t181.length : Int)
          · rw [if_pos c8] at H
            have c8b0 : decide (x8_1 < (t181.length : Int)) = true := decide_eq_true c8
            clear c8
            by_cases c9 : ((rd_T72 t181 x8_1).f0).toList = a0.toList
            · rw [if_pos c9] at H
              have c9b0 : (((rd_T72 t181 x8_1).f0).toList == a0.toList) = true := beq_iff_eq.mpr c9
              have c9b1 : (((rd_T72 t181 x8_1).f0).toList != a0.toList) = false := bne_eq_false_iff_eq.mpr c9
              clear c9
              simp only [Option.some.injEq, Prod.mk.injEq] at H
              obtain ⟨rfl, rfl, rfl, rfl, rfl⟩ := H
              have p184 : 0 ≤ (x8_1 : Int) := of_decide_eq_true (by first | (with_reducible assumption) | assumption)
              have q184 : x8_1 < (t181.length : Int) := of_decide_eq_true (by first | (with_reducible assumption) | assumption)
              obtain ⟨ad184, A184_2, c184_2, A184_3, c184_3, e184, hx184_0, hx184_1, hx184_2, hx184_3, hl184_2, hi184_2, hl184_3, hi184_3⟩ := at_T72 (Kd.N_reads' HO_6.out).2.2 x8_1 p184 q184
              cases e184
              obtain ⟨ce184, hce184, hMe184, hcc184⟩ := Kd.N_get HO_6.out z72 x8_1 p184 (by first | exact q184 | exact of_decide_eq_true (by first | (with_reducible assumption) | assumption) | (have e_ := (Kd.N_reads' HO_6.out).1; omega))
              obtain ⟨ua184_2, uc184_2, ua184_3, uc184_3, rfl, ul184_2, ge184_2, ul184_3, ge184_3⟩ := k72_openF hMe184
              have hv184_2 := hcc184 2 _ rfl
              rw [add_field _ _ 2 (by omega)] at hv184_2
              replace hv184_2 := Option.some.inj (hv184_2.symm.trans hx184_2)
              injection hv184_2 with hva_ hvn_ hvc_
              rw [hva_] at ge184_2
              rw [hvc_] at ul184_2
              have HL184_2 := Aside0.mk (show Kd.V Kd.string 9 _ w.heap.size _ _ ((rd_T72 t181 x8_1).f2) from Kd.V_mk ul184_2 ge184_2)
              clear hva_ hvn_ hvc_ ge184_2 ul184_2
              have hv184_3 := hcc184 3 _ rfl
              rw [add_field _ _ 3 (by omega)] at hv184_3
              replace hv184_3 := Option.some.inj (hv184_3.symm.trans hx184_3)
              injection hv184_3 with hva_ hvn_ hvc_
              rw [hva_] at ge184_3
              rw [hvc_] at ul184_3
              have HL184_3 := Aside0.mk (show Kd.V Kd.string 9 _ w.heap.size _ _ ((rd_T72 t181 x8_1).f3) from Kd.V_mk ul184_3 ge184_3)
              clear hva_ hvn_ hvc_ ge184_3 ul184_3
              clear hcc184 hce184
              have HR184_2 := Aside0.mk hi184_2
              have HC184_2 := Aside0.mk hl184_2
              clear hi184_2 hl184_2
              have HR184_3 := Aside0.mk hi184_3
              have HC184_3 := Aside0.mk hl184_3
              clear hi184_3 hl184_3
              replace p184 := eq_true p184
              replace q184 := eq_true q184
              go_wp2_with (first | ((with_reducible refine gate_dst (N := 5) rfl ?_); refine box_event ?hg (N := 5) ?hd (cs := #[.string (⟨#[]⟩ : ByteArray), .int .i64 0, .slice none 0 0, .slice none 0 0]) (t := 72) ?hr ?_; (case hd => rfl); (case hg => rfl); (case hr => first | (go_simp; done) | (go_simp; rfl)); intro gb185 hg w10 hbox hb; have n0_ := Aside0.mk (Kd.N_below (Kd.N_elderB (by (with_reducible repeat (first | apply Kd.N_alloc | apply Kd.N_drewN | apply Kd.N_drew)); exact HO_6.out) gb185 (Nat.le_of_eq hg.symm)) hb); have n1_ := Aside0.mk (Kd.V_below (Kd.V_elderB (by (with_reducible repeat (first | apply Kd.V_alloc | apply Kd.V_drewN | apply Kd.V_drew)); exact HL184_2.out) gb185 (Nat.le_of_eq hg.symm)) hb); have n2_ := Aside0.mk (Kd.V_below (Kd.V_elderB (by (with_reducible repeat (first | apply Kd.V_alloc | apply Kd.V_drewN | apply Kd.V_drew)); exact HL184_3.out) gb185 (Nat.le_of_eq hg.symm)) hb); have n3_ := Aside0.mk (blk_below (g := gb180) (o := .cells #[.string x181000_1, .int .i64 x181001_1, .slice none 0 0, .slice none 0 0] 72 (0, 0)) (by (with_reducible repeat (first | refine blk_drewN ?_ _ | refine blk_drew ?_ | refine blk_alloc ?_ _)); exact BK180.out) hb); have n4_ := Aside0.mk (Kd.C_below (by repeat (first | (with_reducible exact HR184_2.out) | (with_reducible refine Kd.C_alloc ?_ _) | (with_reducible refine Kd.C_drewN ?_ _) | (with_reducible refine Kd.C_drew ?_) | exact HR184_2.out)) hb); have n5_ := Aside0.mk (Kd.C_below (by repeat (first | (with_reducible exact HR184_3.out) | (with_reducible refine Kd.C_alloc ?_ _) | (with_reducible refine Kd.C_drewN ?_ _) | (with_reducible refine Kd.C_drew ?_) | exact HR184_3.out)) hb); have n6_ := Aside0.mk (below_step (by repeat (first | (with_reducible first | exact HB.out | apply below_alloc | apply pw_below_drewN | apply below_drew1 | refine below_set ?_ GE180.out) | exact HB.out)) hb); have n7_ := Aside0.mk (hbox); have n8_ := Aside0.mk ((by rw [hg]; exact (below_size (by repeat (first | (with_reducible first | exact HB.out | apply below_alloc | apply pw_below_drewN | apply below_drew1 | refine below_set ?_ GE180.out) | exact HB.out))) : w.heap.size ≤ gb185)); have n9_ := Aside0.mk ((by rw [hg]; exact (below_size (by repeat (first | (with_reducible first | exact HB.out | apply below_alloc | apply pw_below_drewN | apply below_drew1 | refine below_set ?_ GE180.out) | exact HB.out))) : w.heap.size ≤ gb185)); have n10_ := Aside0.mk ((by rw [hg]; exact Nat.ne_of_lt (blk_lt (g := gb180) (o := .cells #[.string x181000_1, .int .i64 x181001_1, .slice none 0 0, .slice none 0 0] 72 (0, 0)) (by (with_reducible repeat (first | refine blk_drewN ?_ _ | refine blk_drew ?_ | refine blk_alloc ?_ _)); exact BK180.out)) : gb180 ≠ gb185)); have n11_ := Aside0.mk ((by rw [hg]; exact Nat.ne_of_gt (blk_lt (g := gb180) (o := .cells #[.string x181000_1, .int .i64 x181001_1, .slice none 0 0, .slice none 0 0] 72 (0, 0)) (by (with_reducible repeat (first | refine blk_drewN ?_ _ | refine blk_drew ?_ | refine blk_alloc ?_ _)); exact BK180.out)) : gb185 ≠ gb180)); clear HO_6; clear HL184_2; clear HL184_3; clear BK180; clear HR184_2; clear HR184_3; clear HB; have HO_6 := n0_; have HL184_2 := n1_; have HL184_3 := n2_; have BK180 := n3_; have HR184_2 := n4_; have HR184_3 := n5_; have HB := n6_; have BK185 := n7_; have GW185 := n8_; have GE185 := n9_; have NB180_185 := n10_; have NB185_180 := n11_; clear n0_ n1_ n2_ n3_ n4_ n5_ n6_ n7_ n8_ n9_ n10_ n11_; clear hb hbox hg; have hnb11 := NB185_180.out; have hnc11 := NB180_185.out; have hcz12_0 : w10.cell? ⟨gb185, 0, none⟩ = some (.string (⟨#[]⟩ : ByteArray)) := (blk_cell BK185.out 0).trans rfl; have hcz12_1 : w10.cell? ⟨gb185, 1, none⟩ = some (.int .i64 0) := (blk_cell BK185.out 1).trans rfl; have hcz12_2 : w10.cell? ⟨gb185, 2, none⟩ = some (.slice none 0 0) := (blk_cell BK185.out 2).trans rfl; have hcz12_3 : w10.cell? ⟨gb185, 3, none⟩ = some (.slice none 0 0) := (blk_cell BK185.out 3).trans rfl; have hfz12_0 := blk_frozen BK185.out 0; have hfz12_1 := blk_frozen BK185.out 1; have hfz12_2 := blk_frozen BK185.out 2; have hfz12_3 := blk_frozen BK185.out 3; have hcz13_0 : w10.cell? ⟨gb180, 0, none⟩ = some (.string x181000_1) := (blk_cell BK180.out 0).trans rfl; have hcz13_1 : w10.cell? ⟨gb180, 1, none⟩ = some (.int .i64 x181001_1) := (blk_cell BK180.out 1).trans rfl; have hcz13_2 : w10.cell? ⟨gb180, 2, none⟩ = some (.slice none 0 0) := (blk_cell BK180.out 2).trans rfl; have hcz13_3 : w10.cell? ⟨gb180, 3, none⟩ = some (.slice none 0 0) := (blk_cell BK180.out 3).trans rfl; have hfz13_0 := blk_frozen BK180.out 0; have hfz13_1 := blk_frozen BK180.out 1; have hfz13_2 := blk_frozen BK180.out 2; have hfz13_3 := blk_frozen BK180.out 3))
              refine bodyPost_ret (results_ct rfl _ _ gb180 72 #[.string ((rd_T72 t181 x8_1).f0), .int .i64 ((rd_T72 t181 x8_1).f1), .slice A184_2 ((rd_T72 t181 x8_1).f2).length c184_2, .slice A184_3 ((rd_T72 t181 x8_1).f3).length c184_3] (0, 0) _ rfl (by (with_reducible repeat (first | refine blk_drewN ?_ _ | refine blk_drew ?_ | refine blk_alloc ?_ _)); refine blk_put (cs := #[.string ((rd_T72 t181 x8_1).f0), .int .i64 ((rd_T72 t181 x8_1).f1), .slice A184_2 ((rd_T72 t181 x8_1).f2).length c184_2, .slice none 0 0]) ?_ 3 _ rfl; (with_reducible repeat (first | refine blk_drewN ?_ _ | refine blk_drew ?_ | refine blk_alloc ?_ _)); refine blk_put (cs := #[.string ((rd_T72 t181 x8_1).f0), .int .i64 ((rd_T72 t181 x8_1).f1), .slice none 0 0, .slice none 0 0]) ?_ 2 _ rfl; (with_reducible repeat (first | refine blk_drewN ?_ _ | refine blk_drew ?_ | refine blk_alloc ?_ _)); refine blk_put (cs := #[.string ((rd_T72 t181 x8_1).f0), .int .i64 x181001_1, .slice none 0 0, .slice none 0 0]) ?_ 1 _ rfl; (with_reducible repeat (first | refine blk_drewN ?_ _ | refine blk_drew ?_ | refine blk_alloc ?_ _)); refine blk_put (cs := #[.string x181000_1, .int .i64 x181001_1, .slice none 0 0, .slice none 0 0]) ?_ 0 _ rfl; (with_reducible repeat (first | refine blk_drewN ?_ _ | refine blk_drew ?_ | refine blk_alloc ?_ _)); refine blk_far ?_ NB180_185.out _; (with_reducible repeat (first | refine blk_drewN ?_ _ | refine blk_drew ?_ | refine blk_alloc ?_ _)); refine blk_far ?_ NB180_185.out _; (with_reducible repeat (first | refine blk_drewN ?_ _ | refine blk_drew ?_ | refine blk_alloc ?_ _)); refine blk_far ?_ NB180_185.out _; (with_reducible repeat (first | refine blk_drewN ?_ _ | refine blk_drew ?_ | refine blk_alloc ?_ _)); refine blk_far ?_ NB180_185.out _; (with_reducible repeat (first | refine blk_drewN ?_ _ | refine blk_drew ?_ | refine blk_alloc ?_ _)); exact BK180.out) Try.underlying72 rfl (by kernel_rfl)) rfl ?_
              exact ⟨_, _, by first | rfl | (simp [errW_none, errW_some] <;> rfl) | (simp [*, errW_none, errW_some] <;> rfl), by (with_reducible repeat (first | apply Kd.V_alloc | apply Kd.V_drewN | apply Kd.V_drew)); exact Kd.V_mono (Kd.V_far (p := ⟨gb180, 3, none⟩) (Kd.V_far (p := ⟨gb180, 2, none⟩) (Kd.V_far (p := ⟨gb180, 1, none⟩) (Kd.V_far (p := ⟨gb180, 0, none⟩) (Kd.V_far (p := ⟨gb185, 3, none⟩) (Kd.V_far (p := ⟨gb185, 2, none⟩) (Kd.V_far (p := ⟨gb185, 1, none⟩) (Kd.V_far (p := ⟨gb185, 0, none⟩) (Kd.V_mono (Kd.V_mono HL184_2.out (fun k_ hk => (⟨hk, hk.2⟩ : _ ∧ k_ ≠ gb185))) (fun k_ hk => (⟨hk, hk.1.1.1.2⟩ : _ ∧ k_ ≠ gb180))) (fun _ hk => hk.1.2) (.string ((rd_T72 t181 x8_1).f0))) (fun _ hk => hk.1.2) (.int .i64 ((rd_T72 t181 x8_1).f1))) (fun _ hk => hk.1.2) (.slice A184_2 ((rd_T72 t181 x8_1).f2).length c184_2)) (fun _ hk => hk.1.2) (.slice A184_3 ((rd_T72 t181 x8_1).f3).length c184_3)) (fun _ hk => hk.2) (.string ((rd_T72 t181 x8_1).f0))) (fun _ hk => hk.2) (.int .i64 ((rd_T72 t181 x8_1).f1))) (fun _ hk => hk.2) (.slice A184_2 ((rd_T72 t181 x8_1).f2).length c184_2)) (fun _ hk => hk.2) (.slice A184_3 ((rd_T72 t181 x8_1).f3).length c184_3)) (fun _ hk => hk.1.1.1.1.1), by (with_reducible repeat (first | apply Kd.V_alloc | apply Kd.V_drewN | apply Kd.V_drew)); exact Kd.V_mono (Kd.V_far (p := ⟨gb180, 3, none⟩) (Kd.V_far (p := ⟨gb180, 2, none⟩) (Kd.V_far (p := ⟨gb180, 1, none⟩) (Kd.V_far (p := ⟨gb180, 0, none⟩) (Kd.V_far (p := ⟨gb185, 3, none⟩) (Kd.V_far (p := ⟨gb185, 2, none⟩) (Kd.V_far (p := ⟨gb185, 1, none⟩) (Kd.V_far (p := ⟨gb185, 0, none⟩) (Kd.V_mono (Kd.V_mono HL184_3.out (fun k_ hk => (⟨hk, hk.2⟩ : _ ∧ k_ ≠ gb185))) (fun k_ hk => (⟨hk, hk.1.1.1.2⟩ : _ ∧ k_ ≠ gb180))) (fun _ hk => hk.1.2) (.string ((rd_T72 t181 x8_1).f0))) (fun _ hk => hk.1.2) (.int .i64 ((rd_T72 t181 x8_1).f1))) (fun _ hk => hk.1.2) (.slice A184_2 ((rd_T72 t181 x8_1).f2).length c184_2)) (fun _ hk => hk.1.2) (.slice A184_3 ((rd_T72 t181 x8_1).f3).length c184_3)) (fun _ hk => hk.2) (.string ((rd_T72 t181 x8_1).f0))) (fun _ hk => hk.2) (.int .i64 ((rd_T72 t181 x8_1).f1))) (fun _ hk => hk.2) (.slice A184_2 ((rd_T72 t181 x8_1).f2).length c184_2)) (fun _ hk => hk.2) (.slice A184_3 ((rd_T72 t181 x8_1).f3).length c184_3)) (fun _ hk => hk.1.1.1.1.1), by repeat (first | (with_reducible first | exact HB.out | apply below_alloc | apply pw_below_drewN | apply below_drew1 | refine below_set ?_ GE180.out | refine below_set ?_ GE185.out) | exact HB.out)⟩
            · rw [if_neg c9] at H
              have c9b0 : (((rd_T72 t181 x8_1).f0).toList == a0.toList) = false := beq_eq_false_iff_ne.mpr c9
              have c9b1 : (((rd_T72 t181 x8_1).f0).toList != a0.toList) = true := bne_iff_ne.mpr c9
              have H' := Aside0.mk H
              clear H
              have p184 : 0 ≤ (x8_1 : Int) := of_decide_eq_true (by first | (with_reducible assumption) | assumption)
              have q184 : x8_1 < (t181.length : Int) := of_decide_eq_true (by first | (with_reducible assumption) | assumption)
              obtain ⟨ad184, A184_2, c184_2, A184_3, c184_3, e184, hx184_0, hx184_1, hx184_2, hx184_3, hl184_2, hi184_2, hl184_3, hi184_3⟩ := at_T72 (Kd.N_reads' HO_6.out).2.2 x8_1 p184 q184
              cases e184
              obtain ⟨ce184, hce184, hMe184, hcc184⟩ := Kd.N_get HO_6.out z72 x8_1 p184 (by first | exact q184 | exact of_decide_eq_true (by first | (with_reducible assumption) | assumption) | (have e_ := (Kd.N_reads' HO_6.out).1; omega))
              obtain ⟨ua184_2, uc184_2, ua184_3, uc184_3, rfl, ul184_2, ge184_2, ul184_3, ge184_3⟩ := k72_openF hMe184
              have hv184_2 := hcc184 2 _ rfl
              rw [add_field _ _ 2 (by omega)] at hv184_2
              replace hv184_2 := Option.some.inj (hv184_2.symm.trans hx184_2)
              injection hv184_2 with hva_ hvn_ hvc_
              rw [hva_] at ge184_2
              rw [hvc_] at ul184_2
              have HL184_2 := Aside0.mk (show Kd.V Kd.string 9 _ w.heap.size _ _ ((rd_T72 t181 x8_1).f2) from Kd.V_mk ul184_2 ge184_2)
              clear hva_ hvn_ hvc_ ge184_2 ul184_2
              have hv184_3 := hcc184 3 _ rfl
              rw [add_field _ _ 3 (by omega)] at hv184_3
              replace hv184_3 := Option.some.inj (hv184_3.symm.trans hx184_3)
              injection hv184_3 with hva_ hvn_ hvc_
              rw [hva_] at ge184_3
              rw [hvc_] at ul184_3
              have HL184_3 := Aside0.mk (show Kd.V Kd.string 9 _ w.heap.size _ _ ((rd_T72 t181 x8_1).f3) from Kd.V_mk ul184_3 ge184_3)
              clear hva_ hvn_ hvc_ ge184_3 ul184_3
              clear hcc184 hce184
              have HR184_2 := Aside0.mk hi184_2
              have HC184_2 := Aside0.mk hl184_2
              clear hi184_2 hl184_2
              have HR184_3 := Aside0.mk hi184_3
              have HC184_3 := Aside0.mk hl184_3
              clear hi184_3 hl184_3
              replace p184 := eq_true p184
              replace q184 := eq_true q184
              go_wp2_with (first | ((with_reducible refine gate_dst (N := 5) rfl ?_); refine box_event ?hg (N := 5) ?hd (cs := #[.string (⟨#[]⟩ : ByteArray), .int .i64 0, .slice none 0 0, .slice none 0 0]) (t := 72) ?hr ?_; (case hd => rfl); (case hg => rfl); (case hr => first | (go_simp; done) | (go_simp; rfl)); intro gb185 hg w14 hbox hb; have n0_ := Aside0.mk (Kd.N_below (Kd.N_elderB (by (with_reducible repeat (first | apply Kd.N_alloc | apply Kd.N_drewN | apply Kd.N_drew)); exact HO_6.out) gb185 (Nat.le_of_eq hg.symm)) hb); have n1_ := Aside0.mk (Kd.V_below (Kd.V_elderB (by (with_reducible repeat (first | apply Kd.V_alloc | apply Kd.V_drewN | apply Kd.V_drew)); exact HL184_2.out) gb185 (Nat.le_of_eq hg.symm)) hb); have n2_ := Aside0.mk (Kd.V_below (Kd.V_elderB (by (with_reducible repeat (first | apply Kd.V_alloc | apply Kd.V_drewN | apply Kd.V_drew)); exact HL184_3.out) gb185 (Nat.le_of_eq hg.symm)) hb); have n3_ := Aside0.mk (blk_below (g := gb180) (o := .cells #[.string x181000_1, .int .i64 x181001_1, .slice none 0 0, .slice none 0 0] 72 (0, 0)) (by (with_reducible repeat (first | refine blk_drewN ?_ _ | refine blk_drew ?_ | refine blk_alloc ?_ _)); exact BK180.out) hb); have n4_ := Aside0.mk (Kd.C_below (by repeat (first | (with_reducible exact HR184_2.out) | (with_reducible refine Kd.C_alloc ?_ _) | (with_reducible refine Kd.C_drewN ?_ _) | (with_reducible refine Kd.C_drew ?_) | exact HR184_2.out)) hb); have n5_ := Aside0.mk (Kd.C_below (by repeat (first | (with_reducible exact HR184_3.out) | (with_reducible refine Kd.C_alloc ?_ _) | (with_reducible refine Kd.C_drewN ?_ _) | (with_reducible refine Kd.C_drew ?_) | exact HR184_3.out)) hb); have n6_ := Aside0.mk (below_step (by repeat (first | (with_reducible first | exact HB.out | apply below_alloc | apply pw_below_drewN | apply below_drew1 | refine below_set ?_ GE180.out) | exact HB.out)) hb); have n7_ := Aside0.mk (hbox); have n8_ := Aside0.mk ((by rw [hg]; exact (below_size (by repeat (first | (with_reducible first | exact HB.out | apply below_alloc | apply pw_below_drewN | apply below_drew1 | refine below_set ?_ GE180.out) | exact HB.out))) : w.heap.size ≤ gb185)); have n9_ := Aside0.mk ((by rw [hg]; exact (below_size (by repeat (first | (with_reducible first | exact HB.out | apply below_alloc | apply pw_below_drewN | apply below_drew1 | refine below_set ?_ GE180.out) | exact HB.out))) : w.heap.size ≤ gb185)); have n10_ := Aside0.mk ((by rw [hg]; exact Nat.ne_of_lt (blk_lt (g := gb180) (o := .cells #[.string x181000_1, .int .i64 x181001_1, .slice none 0 0, .slice none 0 0] 72 (0, 0)) (by (with_reducible repeat (first | refine blk_drewN ?_ _ | refine blk_drew ?_ | refine blk_alloc ?_ _)); exact BK180.out)) : gb180 ≠ gb185)); have n11_ := Aside0.mk ((by rw [hg]; exact Nat.ne_of_gt (blk_lt (g := gb180) (o := .cells #[.string x181000_1, .int .i64 x181001_1, .slice none 0 0, .slice none 0 0] 72 (0, 0)) (by (with_reducible repeat (first | refine blk_drewN ?_ _ | refine blk_drew ?_ | refine blk_alloc ?_ _)); exact BK180.out)) : gb185 ≠ gb180)); clear HO_6; clear HL184_2; clear HL184_3; clear BK180; clear HR184_2; clear HR184_3; clear HB; have HO_6 := n0_; have HL184_2 := n1_; have HL184_3 := n2_; have BK180 := n3_; have HR184_2 := n4_; have HR184_3 := n5_; have HB := n6_; have BK185 := n7_; have GW185 := n8_; have GE185 := n9_; have NB180_185 := n10_; have NB185_180 := n11_; clear n0_ n1_ n2_ n3_ n4_ n5_ n6_ n7_ n8_ n9_ n10_ n11_; clear hb hbox hg; have hnb15 := NB185_180.out; have hnc15 := NB180_185.out; have hcz16_0 : w14.cell? ⟨gb185, 0, none⟩ = some (.string (⟨#[]⟩ : ByteArray)) := (blk_cell BK185.out 0).trans rfl; have hcz16_1 : w14.cell? ⟨gb185, 1, none⟩ = some (.int .i64 0) := (blk_cell BK185.out 1).trans rfl; have hcz16_2 : w14.cell? ⟨gb185, 2, none⟩ = some (.slice none 0 0) := (blk_cell BK185.out 2).trans rfl; have hcz16_3 : w14.cell? ⟨gb185, 3, none⟩ = some (.slice none 0 0) := (blk_cell BK185.out 3).trans rfl; have hfz16_0 := blk_frozen BK185.out 0; have hfz16_1 := blk_frozen BK185.out 1; have hfz16_2 := blk_frozen BK185.out 2; have hfz16_3 := blk_frozen BK185.out 3))
              go_roundg k1
              case measure => have := HK1.out; omega
              case rel => exact ⟨(wrap64 (x8_1 + 1)), (x181000_1), (x181001_1), (by first | rfl | (simp; done) | (simp [*]; done)), H', ⟨by have := HK1.out; omega⟩, ⟨by (with_reducible repeat (first | apply Kd.N_alloc | apply Kd.N_drewN | apply Kd.N_drew)); exact Kd.N_mono (Kd.N_far (p := ⟨gb185, 3, none⟩) (Kd.N_far (p := ⟨gb185, 2, none⟩) (Kd.N_far (p := ⟨gb185, 1, none⟩) (Kd.N_far (p := ⟨gb185, 0, none⟩) (Kd.N_mono HO_6.out (fun k_ hk => (⟨hk, hk.2⟩ : _ ∧ k_ ≠ gb185))) (fun _ hk => hk.2) (.string ((rd_T72 t181 x8_1).f0))) (fun _ hk => hk.2) (.int .i64 ((rd_T72 t181 x8_1).f1))) (fun _ hk => hk.2) (.slice A184_2 ((rd_T72 t181 x8_1).f2).length c184_2)) (fun _ hk => hk.2) (.slice A184_3 ((rd_T72 t181 x8_1).f3).length c184_3)) (fun _ hk => ⟨hk.1.1.1, hk.1.1.2⟩)⟩, ⟨by (with_reducible repeat (first | refine blk_drewN ?_ _ | refine blk_drew ?_ | refine blk_alloc ?_ _)); refine blk_far ?_ NB180_185.out _; (with_reducible repeat (first | refine blk_drewN ?_ _ | refine blk_drew ?_ | refine blk_alloc ?_ _)); refine blk_far ?_ NB180_185.out _; (with_reducible repeat (first | refine blk_drewN ?_ _ | refine blk_drew ?_ | refine blk_alloc ?_ _)); refine blk_far ?_ NB180_185.out _; (with_reducible repeat (first | refine blk_drewN ?_ _ | refine blk_drew ?_ | refine blk_alloc ?_ _)); refine blk_far ?_ NB180_185.out _; (with_reducible repeat (first | refine blk_drewN ?_ _ | refine blk_drew ?_ | refine blk_alloc ?_ _)); exact BK180.out⟩, ⟨by repeat (first | (with_reducible first | exact HB.out | apply below_alloc | apply pw_below_drewN | apply below_drew1 | refine below_set ?_ GE180.out | refine below_set ?_ GE185.out) | exact HB.out)⟩⟩
          · rw [if_neg c8] at H
            exact absurd H (by simp)
        · rw [if_neg c7] at H
          exact absurd H (by simp)
      · rw [if_neg c6] at H
        have c6b0 : decide (x8_1 < (t181.length : Int)) = false := decide_eq_false c6
        clear c6
        simp only [Option.some.injEq, Prod.mk.injEq] at H
        obtain ⟨rfl, rfl, rfl, rfl, rfl⟩ := H
        have hcz17_0 : wr.cell? ⟨gb180, 0, none⟩ = some (.string x181000_1) := (blk_cell BK180.out 0).trans rfl
        have hcz17_1 : wr.cell? ⟨gb180, 1, none⟩ = some (.int .i64 x181001_1) := (blk_cell BK180.out 1).trans rfl
        have hcz17_2 : wr.cell? ⟨gb180, 2, none⟩ = some (.slice none 0 0) := (blk_cell BK180.out 2).trans rfl
        have hcz17_3 : wr.cell? ⟨gb180, 3, none⟩ = some (.slice none 0 0) := (blk_cell BK180.out 3).trans rfl
        have hfz17_0 := blk_frozen BK180.out 0
        have hfz17_1 := blk_frozen BK180.out 1
        have hfz17_2 := blk_frozen BK180.out 2
        have hfz17_3 := blk_frozen BK180.out 3
        go_wp2
        refine bodyPost_ret (results_ct rfl _ _ gb180 72 #[.string (⟨#[]⟩ : ByteArray), .int .i64 0, .slice none 0 0, .slice none 0 0] (0, 0) _ rfl (by (with_reducible repeat (first | refine blk_drewN ?_ _ | refine blk_drew ?_ | refine blk_alloc ?_ _)); refine blk_put (cs := #[.string (⟨#[]⟩ : ByteArray), .int .i64 0, .slice none 0 0, .slice none 0 0]) ?_ 3 _ rfl; (with_reducible repeat (first | refine blk_drewN ?_ _ | refine blk_drew ?_ | refine blk_alloc ?_ _)); refine blk_put (cs := #[.string (⟨#[]⟩ : ByteArray), .int .i64 0, .slice none 0 0, .slice none 0 0]) ?_ 2 _ rfl; (with_reducible repeat (first | refine blk_drewN ?_ _ | refine blk_drew ?_ | refine blk_alloc ?_ _)); refine blk_put (cs := #[.string (⟨#[]⟩ : ByteArray), .int .i64 x181001_1, .slice none 0 0, .slice none 0 0]) ?_ 1 _ rfl; (with_reducible repeat (first | refine blk_drewN ?_ _ | refine blk_drew ?_ | refine blk_alloc ?_ _)); refine blk_put (cs := #[.string x181000_1, .int .i64 x181001_1, .slice none 0 0, .slice none 0 0]) ?_ 0 _ rfl; (with_reducible repeat (first | refine blk_drewN ?_ _ | refine blk_drew ?_ | refine blk_alloc ?_ _)); exact BK180.out) Try.underlying72 rfl (by kernel_rfl)) rfl ?_
        exact ⟨_, _, by first | rfl | (simp [errW_none, errW_some] <;> rfl) | (simp [*, errW_none, errW_some] <;> rfl), Kd.V_nil _ _ _ _ _, Kd.V_nil _ _ _ _ _, by repeat (first | (with_reducible first | exact HB.out | apply below_alloc | apply pw_below_drewN | apply below_drew1 | refine below_set ?_ GE180.out) | exact HB.out)⟩
end Go.Proofs.Ytpedlnebpibgaaa.All
end
section
namespace Go.Proofs.Ytpedlnebpibgaaa.All
open Go.RowKit Go.Proofs.YtpedlnebpibgaaaW.PrintWords Go.Proofs.YtpedlnebpibgaaaW.PrintLast Go.Proofs.YtpedlnebpibgaaaW.PrintMore
attribute [local go_sem] max2_int min2_int max_two min_two max_three min_three max_four min_four
set_option linter.unusedVariables false
set_option linter.unusedSimpArgs false
section
open Go.Proofs.YtpedlnebpibgaaaHand Go.Proofs.YtpedlnebpibgaaaSq
def iface_Version.f (k : Nat) (a0 : ByteArray) : Option (Int) := (iface_find.f k a0).bind fun bt180 => (some bt180.2.1)
theorem iface_Version.calls (k : Nat) (a0 : ByteArray) (r : Int) (w : World) (h : iface_Version.f k a0 = some r) :
    Calls Try.prog 28 #[.string a0] w fun e w' => e = .returned (.int .i64 r) ∧ Below w.heap.size w w' := by
  have hu72 := Try.underlying72
  have H : ((iface_find.f k a0).bind fun bt180 => (some bt180.2.1)) = some r := h
  clear h
  replace H := Option.bind_eq_some_iff.mp H
  obtain ⟨⟨t180, t181, t182, t185, t188⟩, A20, H⟩ := H
  replace H : (some t181) = some r := H
  have A2 := Aside0.mk A20
  clear A20
  obtain rfl := Option.some.inj H
  clear H
  go_enter Try.func28, Try.ntmps28
  go_wp2_with fail
  refine (iface_find.calls k a0 t180 t181 t182 t185 t188 _ A2.out).mono ?_
  rintro e w3 ⟨v1, v2, rfl, h1, h2, hb⟩
  have hb' := Aside0.mk hb
  obtain ⟨A1, c1, e1⟩ := Kd.V_slice h1
  subst e1
  obtain ⟨A2', c2, e2⟩ := Kd.V_slice h2
  subst e2
  clear hb h1 h2
  go_wp2_with fail
  go_ret
  exact ⟨rfl, by repeat (first | (with_reducible first | exact hb'.out | apply below_alloc | refine below_set ?_ hb'.out.size) | exact hb'.out)⟩
end
def compositorref12_Names.f  : Option (List ByteArray) := some (([(⟨#[100, 105, 115, 112, 108, 97, 121]⟩ : ByteArray), (⟨#[114, 101, 103, 105, 115, 116, 114, 121]⟩ : ByteArray), (⟨#[99, 97, 108, 108, 98, 97, 99, 107]⟩ : ByteArray), (⟨#[115, 104, 101, 108, 108]⟩ : ByteArray), (⟨#[98, 117, 102, 102, 101, 114]⟩ : ByteArray), (⟨#[115, 117, 114, 102, 97, 99, 101]⟩ : ByteArray), (⟨#[115, 117, 98, 115, 117, 114, 102, 97, 99, 101]⟩ : ByteArray), (⟨#[116, 111, 112, 108, 101, 118, 101, 108]⟩ : ByteArray), (⟨#[112, 111, 112, 117, 112]⟩ : ByteArray), (⟨#[115, 101, 97, 116]⟩ : ByteArray), (⟨#[112, 111, 105, 110, 116, 101, 114]⟩ : ByteArray), (⟨#[107, 101, 121, 98, 111, 97, 114, 100]⟩ : ByteArray), (⟨#[116, 111, 117, 99, 104]⟩ : ByteArray), (⟨#[111, 117, 116, 112, 117, 116]⟩ : ByteArray), (⟨#[112, 114, 101, 115, 101, 110, 116, 97, 116, 105, 111, 110]⟩ : ByteArray)] : List ByteArray))
set_option maxHeartbeats 8000000 in
set_option maxRecDepth 100000 in
theorem compositorref12_Names.calls  (r : List ByteArray) (w : World) (h : compositorref12_Names.f  = some r) :
    Calls Try.prog 25 #[] w fun e w' => ∃ v0_ : Value, e = .returned (v0_) ∧ Kd.R Kd.string 9 w' w.heap.size (fun _ => True) v0_ r ∧ Below w.heap.size w w' := by
  have HB := Aside0.mk (Below.refl w.heap.size w)
  have H : (some (([(⟨#[100, 105, 115, 112, 108, 97, 121]⟩ : ByteArray), (⟨#[114, 101, 103, 105, 115, 116, 114, 121]⟩ : ByteArray), (⟨#[99, 97, 108, 108, 98, 97, 99, 107]⟩ : ByteArray), (⟨#[115, 104, 101, 108, 108]⟩ : ByteArray), (⟨#[98, 117, 102, 102, 101, 114]⟩ : ByteArray), (⟨#[115, 117, 114, 102, 97, 99, 101]⟩ : ByteArray), (⟨#[115, 117, 98, 115, 117, 114, 102, 97, 99, 101]⟩ : ByteArray), (⟨#[116, 111, 112, 108, 101, 118, 101, 108]⟩ : ByteArray), (⟨#[112, 111, 112, 117, 112]⟩ : ByteArray), (⟨#[115, 101, 97, 116]⟩ : ByteArray), (⟨#[112, 111, 105, 110, 116, 101, 114]⟩ : ByteArray), (⟨#[107, 101, 121, 98, 111, 97, 114, 100]⟩ : ByteArray), (⟨#[116, 111, 117, 99, 104]⟩ : ByteArray), (⟨#[111, 117, 116, 112, 117, 116]⟩ : ByteArray), (⟨#[112, 114, 101, 115, 101, 110, 116, 97, 116, 105, 111, 110]⟩ : ByteArray)] : List ByteArray))) = some r := h
  clear h
  obtain ⟨y181, hy181⟩ : ∃ y_ : List ByteArray, y_ = (([(⟨#[100, 105, 115, 112, 108, 97, 121]⟩ : ByteArray), (⟨#[114, 101, 103, 105, 115, 116, 114, 121]⟩ : ByteArray), (⟨#[99, 97, 108, 108, 98, 97, 99, 107]⟩ : ByteArray), (⟨#[115, 104, 101, 108, 108]⟩ : ByteArray), (⟨#[98, 117, 102, 102, 101, 114]⟩ : ByteArray), (⟨#[115, 117, 114, 102, 97, 99, 101]⟩ : ByteArray), (⟨#[115, 117, 98, 115, 117, 114, 102, 97, 99, 101]⟩ : ByteArray), (⟨#[116, 111, 112, 108, 101, 118, 101, 108]⟩ : ByteArray), (⟨#[112, 111, 112, 117, 112]⟩ : ByteArray), (⟨#[115, 101, 97, 116]⟩ : ByteArray), (⟨#[112, 111, 105, 110, 116, 101, 114]⟩ : ByteArray), (⟨#[107, 101, 121, 98, 111, 97, 114, 100]⟩ : ByteArray), (⟨#[116, 111, 117, 99, 104]⟩ : ByteArray), (⟨#[111, 117, 116, 112, 117, 116]⟩ : ByteArray), (⟨#[112, 114, 101, 115, 101, 110, 116, 97, 116, 105, 111, 110]⟩ : ByteArray)] : List ByteArray)) := ⟨_, rfl⟩
  replace H : (some y181) = some r := by first | (rw [hy181]; with_reducible exact H) | (have H2_ := (Option.bind_some _ _).symm.trans H; rw [hy181]; with_reducible exact H2_) | (have H2_ := (Option.bind_some _ _).symm.trans H; with_reducible exact H2_) | with_reducible exact H | (rw [hy181]; exact H) | exact H
  have Ny181 := Aside0.mk hy181
  clear hy181
  obtain rfl := Option.some.inj H
  go_enter Try.func25, Try.ntmps25
  go_wp2_with (first | ((with_reducible refine gate_dst (N := 1) rfl ?_); refine Kd.R_lit Kd.string _ 9 ?hg (N := 1) ?hd (xs := ([(⟨#[100, 105, 115, 112, 108, 97, 121]⟩ : ByteArray), (⟨#[114, 101, 103, 105, 115, 116, 114, 121]⟩ : ByteArray), (⟨#[99, 97, 108, 108, 98, 97, 99, 107]⟩ : ByteArray), (⟨#[115, 104, 101, 108, 108]⟩ : ByteArray), (⟨#[98, 117, 102, 102, 101, 114]⟩ : ByteArray), (⟨#[115, 117, 114, 102, 97, 99, 101]⟩ : ByteArray), (⟨#[115, 117, 98, 115, 117, 114, 102, 97, 99, 101]⟩ : ByteArray), (⟨#[116, 111, 112, 108, 101, 118, 101, 108]⟩ : ByteArray), (⟨#[112, 111, 112, 117, 112]⟩ : ByteArray), (⟨#[115, 101, 97, 116]⟩ : ByteArray), (⟨#[112, 111, 105, 110, 116, 101, 114]⟩ : ByteArray), (⟨#[107, 101, 121, 98, 111, 97, 114, 100]⟩ : ByteArray), (⟨#[116, 111, 117, 99, 104]⟩ : ByteArray), (⟨#[111, 117, 116, 112, 117, 116]⟩ : ByteArray), (⟨#[112, 114, 101, 115, 101, 110, 116, 97, 116, 105, 111, 110]⟩ : ByteArray)] : List ByteArray)) (inner := [.string (⟨#[100, 105, 115, 112, 108, 97, 121]⟩ : ByteArray), .string (⟨#[114, 101, 103, 105, 115, 116, 114, 121]⟩ : ByteArray), .string (⟨#[99, 97, 108, 108, 98, 97, 99, 107]⟩ : ByteArray), .string (⟨#[115, 104, 101, 108, 108]⟩ : ByteArray), .string (⟨#[98, 117, 102, 102, 101, 114]⟩ : ByteArray), .string (⟨#[115, 117, 114, 102, 97, 99, 101]⟩ : ByteArray), .string (⟨#[115, 117, 98, 115, 117, 114, 102, 97, 99, 101]⟩ : ByteArray), .string (⟨#[116, 111, 112, 108, 101, 118, 101, 108]⟩ : ByteArray), .string (⟨#[112, 111, 112, 117, 112]⟩ : ByteArray), .string (⟨#[115, 101, 97, 116]⟩ : ByteArray), .string (⟨#[112, 111, 105, 110, 116, 101, 114]⟩ : ByteArray), .string (⟨#[107, 101, 121, 98, 111, 97, 114, 100]⟩ : ByteArray), .string (⟨#[116, 111, 117, 99, 104]⟩ : ByteArray), .string (⟨#[111, 117, 116, 112, 117, 116]⟩ : ByteArray), .string (⟨#[112, 114, 101, 115, 101, 110, 116, 97, 116, 105, 111, 110]⟩ : ByteArray)]) (ok := fun _ => True) (okp := fun _ => True) ?hr ?hp (fun _ hk => hk) trivial (Below.refl _ _) (Nat.le_refl _) (by simp) ?_; (case hd => rfl); (case hg => rfl); (case hr => first | (go_simp; done) | (go_simp; rfl)); (case hp => exact (Reps.one (show Kd.M Kd.string _ _ _ (⟨#[100, 105, 115, 112, 108, 97, 121]⟩ : ByteArray) [.string (⟨#[100, 105, 115, 112, 108, 97, 121]⟩ : ByteArray)] from rfl) (Reps.one (show Kd.M Kd.string _ _ _ (⟨#[114, 101, 103, 105, 115, 116, 114, 121]⟩ : ByteArray) [.string (⟨#[114, 101, 103, 105, 115, 116, 114, 121]⟩ : ByteArray)] from rfl) (Reps.one (show Kd.M Kd.string _ _ _ (⟨#[99, 97, 108, 108, 98, 97, 99, 107]⟩ : ByteArray) [.string (⟨#[99, 97, 108, 108, 98, 97, 99, 107]⟩ : ByteArray)] from rfl) (Reps.one (show Kd.M Kd.string _ _ _ (⟨#[115, 104, 101, 108, 108]⟩ : ByteArray) [.string (⟨#[115, 104, 101, 108, 108]⟩ : ByteArray)] from rfl) (Reps.one (show Kd.M Kd.string _ _ _ (⟨#[98, 117, 102, 102, 101, 114]⟩ : ByteArray) [.string (⟨#[98, 117, 102, 102, 101, 114]⟩ : ByteArray)] from rfl) (Reps.one (show Kd.M Kd.string _ _ _ (⟨#[115, 117, 114, 102, 97, 99, 101]⟩ : ByteArray) [.string (⟨#[115, 117, 114, 102, 97, 99, 101]⟩ : ByteArray)] from rfl) (Reps.one (show Kd.M Kd.string _ _ _ (⟨#[115, 117, 98, 115, 117, 114, 102, 97, 99, 101]⟩ : ByteArray) [.string (⟨#[115, 117, 98, 115, 117, 114, 102, 97, 99, 101]⟩ : ByteArray)] from rfl) (Reps.one (show Kd.M Kd.string _ _ _ (⟨#[116, 111, 112, 108, 101, 118, 101, 108]⟩ : ByteArray) [.string (⟨#[116, 111, 112, 108, 101, 118, 101, 108]⟩ : ByteArray)] from rfl) (Reps.one (show Kd.M Kd.string _ _ _ (⟨#[112, 111, 112, 117, 112]⟩ : ByteArray) [.string (⟨#[112, 111, 112, 117, 112]⟩ : ByteArray)] from rfl) (Reps.one (show Kd.M Kd.string _ _ _ (⟨#[115, 101, 97, 116]⟩ : ByteArray) [.string (⟨#[115, 101, 97, 116]⟩ : ByteArray)] from rfl) (Reps.one (show Kd.M Kd.string _ _ _ (⟨#[112, 111, 105, 110, 116, 101, 114]⟩ : ByteArray) [.string (⟨#[112, 111, 105, 110, 116, 101, 114]⟩ : ByteArray)] from rfl) (Reps.one (show Kd.M Kd.string _ _ _ (⟨#[107, 101, 121, 98, 111, 97, 114, 100]⟩ : ByteArray) [.string (⟨#[107, 101, 121, 98, 111, 97, 114, 100]⟩ : ByteArray)] from rfl) (Reps.one (show Kd.M Kd.string _ _ _ (⟨#[116, 111, 117, 99, 104]⟩ : ByteArray) [.string (⟨#[116, 111, 117, 99, 104]⟩ : ByteArray)] from rfl) (Reps.one (show Kd.M Kd.string _ _ _ (⟨#[111, 117, 116, 112, 117, 116]⟩ : ByteArray) [.string (⟨#[111, 117, 116, 112, 117, 116]⟩ : ByteArray)] from rfl) (Reps.one (show Kd.M Kd.string _ _ _ (⟨#[112, 114, 101, 115, 101, 110, 116, 97, 116, 105, 111, 110]⟩ : ByteArray) [.string (⟨#[112, 114, 101, 115, 101, 110, 116, 97, 116, 105, 111, 110]⟩ : ByteArray)] from rfl) (Reps.none _ _))))))))))))))))); intro v182 w1 ho2 hb hg_ hnew_; clear hg_ hnew_; (first | rw [← Ny181.out] at ho2 | (simp only [Int.reduceToNat] at ho2; rw [← Ny181.out] at ho2)); have n0_ := Aside0.mk (Kd.R_lower ho2 (below_size (by repeat (first | (with_reducible first | exact HB.out | apply below_alloc | apply pw_below_drewN | apply below_drew1) | exact HB.out)))); have n1_ := Aside0.mk (below_step (by repeat (first | (with_reducible first | exact HB.out | apply below_alloc | apply pw_below_drewN | apply below_drew1) | exact HB.out)) hb); clear HB; have HO183 := n0_; have HB := n1_; clear n0_ n1_; clear hb ho2))
  go_ret
  exact ⟨_, by first | rfl | (simp [errW_none, errW_some] <;> rfl) | (simp [*, errW_none, errW_some] <;> rfl), by (with_reducible repeat (first | apply Kd.R_alloc | apply Kd.R_drewN | apply Kd.R_drew)); exact HO183.out, by repeat (first | (with_reducible first | exact HB.out | apply below_alloc | apply pw_below_drewN | apply below_drew1) | exact HB.out)⟩
def compositorlaw14_first.f  : Option (ByteArray) := (compositorref12_Names.f).bind fun t184 => (if 0 < (t184.length : Int) then (some (rdOf ByteArray.empty t184 0)) else (none))
set_option maxHeartbeats 8000000 in
set_option maxRecDepth 100000 in
theorem compositorlaw14_first.calls  (r : ByteArray) (w : World) (h : compositorlaw14_first.f  = some r) :
    Calls Try.prog 24 #[] w fun e w' => e = .returned (.string r) ∧ Below w.heap.size w w' := by
  have HB := Aside0.mk (Below.refl w.heap.size w)
  have H : ((compositorref12_Names.f).bind fun t184 => (if 0 < (t184.length : Int) then (some (rdOf ByteArray.empty t184 0)) else (none))) = some r := h
  clear h
  replace H := Option.bind_eq_some_iff.mp H
  obtain ⟨t184, A10, H⟩ := H
  replace H : (if 0 < (t184.length : Int) then (some (rdOf ByteArray.empty t184 0)) else (none)) = some r := H
  have A1 := Aside0.mk A10
  clear A10
  by_cases c2 : 0 < (t184.length : Int)
  · rw [if_pos c2] at H
    have c2b0 : decide (0 < (t184.length : Int)) = true := decide_eq_true c2
    have c2b1 : decide (0 < t184.length) = true := decide_eq_true (by omega)
    clear c2
    obtain rfl := Option.some.inj H
    go_enter Try.func24, Try.ntmps24
    go_wp2_with (first | ((with_reducible refine gate_callee (f := 25) rfl ?_); refine goesL_ (some 1) rfl rfl Try.func25 (by kernel_rfl) rfl #[] rfl (by (try simp only [List.map_toArray, List.map_cons, List.map_nil]); first | done | rfl | (simp only [List.length_drop, List.length_take]; rfl)) ?_; (with_reducible refine (compositorref12_Names.calls  t184 _ A1.out).mono ?_); rintro e w3 ⟨v185, rfl, ho0, hb⟩; refine ⟨_, rfl, ?_⟩; have n0_ := Aside0.mk (Kd.R_lower ho0 (below_size (by repeat (first | (with_reducible first | exact HB.out | apply below_alloc | apply pw_below_drewN | apply below_drew1) | exact HB.out)))); have n1_ := Aside0.mk (below_step (by repeat (first | (with_reducible first | exact HB.out | apply below_alloc | apply pw_below_drewN | apply below_drew1) | exact HB.out)) hb); clear HB; have HO186 := n0_; have HB := n1_; clear n0_ n1_; (try clear hb); (try clear hb2); (try clear hk); (try clear hi); (try clear ho0); obtain ⟨Ao4, co4, eo4⟩ := Kd.R_slice HO186.out; subst eo4; have p187 : 0 ≤ (0 : Int) := (by omega); have q187 : 0 < (t184.length : Int) := of_decide_eq_true (by first | (with_reducible assumption) | assumption); obtain ⟨ad187, e187, hx187_0⟩ := Kd.at_string (Kd.R_reads' HO186.out).2.2 0 p187 q187; cases e187; have qi187 : (0 < t184.length) = True := eq_true (by omega); (try rw [show ((0 : Int)).toNat = 0 from rfl] at hx187_0); (try rw [Addr.add_zero'] at hx187_0); replace p187 := eq_true p187; replace q187 := eq_true q187))
    go_ret
    exact ⟨by first | rfl | (simp [errW_none, errW_some] <;> rfl) | (simp [*, errW_none, errW_some] <;> rfl), by repeat (first | (with_reducible first | exact HB.out | apply below_alloc | apply pw_below_drewN | apply below_drew1) | exact HB.out)⟩
  · rw [if_neg c2] at H
    exact absurd H (by simp)
end Go.Proofs.Ytpedlnebpibgaaa.All
end
section
namespace Go.Proofs.Ytpedlnebpibgaaa.All
open Go.Proofs.YtpedlnebpibgaaaSq
open Go.RowKit Go.Proofs.YtpedlnebpibgaaaW.PrintWords Go.Proofs.YtpedlnebpibgaaaW.PrintLast Go.Proofs.YtpedlnebpibgaaaW.PrintMore
attribute [local go_sem] max2_int min2_int max_two min_two max_three min_three max_four min_four
set_option linter.unusedVariables false
set_option linter.unusedSimpArgs false
section
open Go.Proofs.YtpedlnebpibgaaaHand Go.Proofs.YtpedlnebpibgaaaSq
theorem usable_is (w : World) (g : Nat) (b : Bool) (h0 : w.cell? ⟨g, 0, none⟩ = some (.bool b)) (hf : w.frozen? ⟨g, 0, none⟩ = false) : Calls Try.prog 27 #[.pointer (some ⟨g, 0, none⟩)] w fun e w' => e = .returned (.bool b) ∧ ∃ nd, w' = w.drewN nd := by
  have hu60 := Try.underlying60
  go_enter Try.func27, Try.ntmps27
  go_wp2_with fail
  go_ret
  exact ⟨rfl, 0, rfl⟩
def idxOf (p : S49 → Bool) : List S49 → Nat → Int
  | [], _ => -1
  | x :: r, i => if p x = true then (i : Int) else idxOf p r (i + 1)
theorem rd49_get (l : List S49) (k : Nat) (h : k < l.length) : rd_T49 l (k : Int) = l[k] := by
  unfold rd_T49
  rw [Int.toNat_natCast, List.getD_eq_getElem?_getD, List.getElem?_eq_getElem h]
  rfl
theorem idx_drop (p : S49 → Bool) (l : List S49) (k : Nat) (h : k < l.length) : idxOf p (l.drop k) k = if p (rd_T49 l (k : Int)) = true then (k : Int) else idxOf p (l.drop (k + 1)) (k + 1) := by
  rw [List.drop_eq_getElem_cons h, idxOf, rd49_get l k h]
theorem wm_ {k n : Nat} (h : k < n) (hn : n ≤ 1000000) : wrap64 ((k : Int) + 1) = ((k + 1 : Nat) : Int) := by unfold wrap64; omega
theorem meas_ {n k : Nat} (h : k < n) : n - (intOf (.int .i64 ((k + 1 : Nat) : Int))).toNat < n - (intOf (.int .i64 (k : Int))).toNat := by
  simp only [intOf, Int.toNat_natCast]
  omega
set_option maxHeartbeats 4000000 in
theorem index_calls (f : FuncId) (fn : Func) (caps : Array Value) (hf : Try.prog.funcs[f]? = some fn) (hname : (fn.name == "runtime.NumGoroutine") = false) (hbody : fn.body.isSome = true)
    (A : Option Addr) (c : Nat) (l : List S49) (w : World) (hr : Kd.C k49 w A l.length l) (hl : l.length ≤ 1000000) (p : S49 → Bool)
    (hcl : ∀ (x : S49) (W : World), Below w.heap.size w W → Calls Try.prog f (#[.agg #[.int .u32 x.f0, .string x.f1, .int .i64 x.f2]] ++ caps) W fun e w' => e = .returned (.bool (p x)) ∧ Below W.heap.size W w') :
    Calls Try.prog 39 #[.slice A l.length c, .func (.func f) #[] caps] w fun e w' => e = .returned (.int .i64 (idxOf p l 0)) ∧ Below w.heap.size w w' := by
  have hu26 := Try.underlying26
  have hu49 := Try.underlying49
  have HR := Aside0.mk hr
  have HL := Aside0.mk hl
  clear hr hl
  go_enter Try.func39, Try.ntmps39
  go_wp2_with fail
  go_loopw [8] (fun v w' => ∃ k : Nat, k ≤ l.length ∧ v = .int .i64 k ∧ Aside0 (idxOf p l 0 = idxOf p (l.drop k) k) ∧ Aside0 (Below w.heap.size w w')) (fun v _ => l.length - (intOf v).toNat)
  case atStart => exact ⟨0, Nat.zero_le _, rfl, ⟨rfl⟩, ⟨Below.refl _ _⟩⟩
  case round =>
    obtain ⟨k, hk, rfl, hE, hB⟩ := hrel
    by_cases hlt : k < l.length
    · have hlt' : (k : Int) < (l.length : Int) := by omega
      have hd := idx_drop p l k hlt
      have hE2 : Aside0 (idxOf p l 0 = if p (rd_T49 l (k : Int)) = true then (k : Int) else idxOf p (l.drop (k + 1)) (k + 1)) := ⟨hE.out.trans hd⟩
      have kw : Aside0 (wrap64 ((k : Int) + 1) = ((k + 1 : Nat) : Int)) := ⟨wm_ hlt HL.out⟩
      obtain ⟨ad, e0, x0, x1, x2⟩ := at_T49 HR.out (k : Int) (by omega) hlt'
      subst e0
      simp only [Int.toNat_natCast] at x0 x1 x2
      replace x0 := (hB.out.cell (World.block_lt_of_cell? w _ x0)).trans x0
      replace x1 := (hB.out.cell (World.block_lt_of_cell? w _ x1)).trans x1
      replace x2 := (hB.out.cell (World.block_lt_of_cell? w _ x2)).trans x2
      clear hd hE
      generalize rd_T49 l (k : Int) = x at x0 x1 x2 hE2
      go_wp2_with fail
      rw [enters_ hf hname hbody]
      refine (hcl x wr hB.out).mono ?_
      rintro e w1 ⟨rfl, hb1⟩
      have hB1 := Aside0.mk (below_step hB.out hb1)
      clear hb1 x0 x1 x2
      cases hp : p x with
      | true =>
        rw [hp, if_pos rfl] at hE2
        clear hp
        go_wp2_with fail
        try rw [Exit.noGoto_ret]
        go_ret
        exact ⟨by rw [hE2.out]; rfl, hB1.out⟩
      | false =>
        rw [hp, if_neg Bool.false_ne_true] at hE2
        clear hp
        go_wp2_with fail
        go_roundw
        case rel => exact ⟨k + 1, hlt, by rw [kw.out], hE2, hB1⟩
        case measure => rw [kw.out]; exact meas_ hlt
    · obtain rfl : k = l.length := by omega
      rw [List.drop_length] at hE
      go_wp2_with fail
      try rw [Exit.noGoto_ret]
      go_ret
      exact ⟨by rw [hE.out]; rfl, hB.out⟩
theorem find1_ok (w : World) (b : Nat) (nm : Int) (x : S49) (h : w.heap[b]? = some (.cells #[.int .u32 nm] 30 (0, 0))) : Calls Try.prog 40 (#[.agg #[.int .u32 x.f0, .string x.f1, .int .i64 x.f2]] ++ #[.pointer (some ⟨b, 0, none⟩)]) w fun e w' => e = .returned (.bool (x.f0 == nm)) ∧ Below w.heap.size w w' := by
  have hu49 := Try.underlying49
  obtain ⟨hR0, hb0⟩ := allocs1 w (Obj.cells #[.int .u32 x.f0, .string x.f1, .int .i64 x.f2] 49)
  have hH := Aside0.mk (blk_below h hb0)
  have hB := Aside0.mk hb0
  have c0 := (blk_cell hR0 0).trans rfl
  have c1 := (blk_cell hH.out 0).trans rfl
  have hR := Aside0.mk hR0
  clear hR0 hb0 h
  go_enter Try.func40, Try.ntmps40
  go_wp2_with fail
  go_ret
  exact ⟨rfl, hB.out⟩
theorem find_ok (A : Option Addr) (c : Nat) (l : List S49) (nm : Int) (w : World) (hr : Kd.C k49 w A l.length l) (hl : l.length ≤ 1000000) :
    Calls Try.prog 31 #[.slice A l.length c, .int .u32 nm] w fun e w' => e = .returned (.int .i64 (idxOf (fun x => x.f0 == nm) l 0)) ∧ Below w.heap.size w w' := by
  have HR := Aside0.mk hr
  have HL := Aside0.mk hl
  clear hr hl
  go_enter Try.func31, Try.ntmps31
  go_wp2_with fail
  obtain ⟨hR0, hb0⟩ := allocs1 w (Obj.cells #[.int .u32 nm] 30)
  generalize w.alloc (Obj.cells #[.int .u32 nm] 30) = w1 at hR0 hb0 ⊢
  generalize w.heap.size = b at hR0 ⊢
  refine (index_calls 40 Try.f40 #[.pointer (some ⟨b, 0, none⟩)] Try.func40 (by kernel_rfl) rfl A c l w1 (Kd.C_below HR.out hb0) HL.out (fun x => x.f0 == nm) (fun x W hW => find1_ok W b nm x (blk_below hR0 hW))).mono ?_
  rintro e w2 ⟨rfl, hb⟩
  have hB := Aside0.mk (below_step hb0 hb)
  clear hb hb0 hR0
  go_wp2_with fail
  go_ret
  exact ⟨rfl, hB.out⟩
theorem clone_ok (A0 : Option Addr) (c0 : Nat) (l0 : List S49) (w : World) (hr0 : Kd.C k49 w A0 l0.length l0) (hc0 : l0.length ≤ c0) (hl : l0.length ≤ 1000000) :
    Calls Try.prog 33 #[.slice A0 l0.length c0] w fun e w' => ∃ v, e = .returned v ∧ Kd.R k49 49 w' w.heap.size (fun _ => True) v l0 ∧ Below w.heap.size w w' := by
  have e0 := fun (w : World) (n c : Nat) => Go.Lib.run_eql_slice_nil (P := Try.prog) w 26 49 none n c 0 0 Try.underlying26
  have e1 := fun (w : World) (ad : Addr) (n c : Nat) => Go.Lib.run_eql_slice_nil (P := Try.prog) w 26 49 (some ad) n c 0 0 Try.underlying26
  cases A0 with
  | none =>
    obtain rfl : l0 = [] := by
      rcases Nat.eq_zero_or_pos l0.length with h0 | h0
      · exact List.eq_nil_of_length_eq_zero h0
      · obtain ⟨ad, h, _⟩ := hr0.2.2 h0
        cases h
    clear hr0 hc0 hl
    go_enter Try.func33, Try.ntmps33
    go_wp2
    go_ret
    exact ⟨_, rfl, Kd.R_nil _ _ _ _ _, Below.refl _ _⟩
  | some ad =>
    have hl2 := Aside0.mk hl
    have hR := Aside0.mk hr0
    clear hr0 hl
    go_enter Try.func33, Try.ntmps33
    have hO : Aside0 (Kd.R k49 49 (w.alloc (.cells #[] 49)) w.heap.size (fun _ => True) (.slice (some ⟨w.heap.size, 0, none⟩) 0 0) []) := ⟨⟨fun _ _ => trivial, OwnRow.lit (ps := []) w w.heap.size (Reps.none _ _) (Nat.le_refl _) (by simp)⟩⟩
    have hC := Aside0.mk (Kd.C_alloc hR.out (.cells #[] 49))
    have hB := Aside0.mk (below_alloc (Below.refl w.heap.size w) (.cells #[] 49))
    go_wp2_with (first | ((with_reducible refine gate_builtin (b := .append) (xs := #[.tmp 5, .tmp 6]) rfl ?_); at_builtin; refine Kd.R_append_rows k49 (w0 := w) w.heap.size rfl (.tmp 5) (.tmp 6) 26 49 (.agg #[(.int .u32 0), (.string ⟨#[]⟩), (.int .i64 0)]) 32 rfl Try.underlying26 info49 rfl (by decide) (by decide) (.slice (some ⟨w.heap.size, 0, none⟩) 0 0) [] l0 (some ad) l0.length c0 (fun _ => True) (fun _ => False) rfl rfl ?aO ?aR (fun _ _ h => h) (fun _ h => h.elim) ?aF ?aB ?aS ?aL ?_; (case aO => exact hO.out); (case aR => exact hC.out); (case aF => exact fun _ _ => trivial); (case aB => exact hB.out); (case aS => exact hB.out.size); (case aL => have := hl2.out; simp; omega); intro v1 w1 ho hb hg hat; have hF := Aside0.mk ho; have hB1 := Aside0.mk hb; clear ho hb hg hat))
    go_ret
    exact ⟨v1, rfl, hF.out, hB1.out⟩
theorem grow_ok (n : Nat) (hn : n ≤ 1000000) (w : World) :
    Calls Try.prog 41 #[.slice none 0 0, .int .i64 n] w fun e w' => ∃ v, e = .returned v ∧ Kd.R k49 49 w' w.heap.size (fun _ => True) v [] ∧ Below w.heap.size w w' := by
  have hu26 := Try.underlying26
  have q1 : decide ((n : Int) < 0) = false := decide_eq_false (by omega)
  have HN := Aside0.mk hn
  clear hn
  by_cases h0 : n = 0
  · subst h0
    go_enter Try.func41, Try.ntmps41
    go_wp2_with fail
    go_ret
    exact ⟨_, rfl, Kd.R_nil _ _ _ _ _, Below.refl _ _⟩
  · have q2 : decide (0 < n) = true := decide_eq_true (by omega)
    have q3 : decide (0 < (n : Int)) = true := decide_eq_true (by omega)
    have e1 : wrap64 (n : Int) = n := by have := HN.out; unfold wrap64; omega
    clear h0
    go_enter Try.func41, Try.ntmps41
    go_wp2_with (first | ((with_reducible refine gate_builtin (b := .append) (xs := #[.tmp 20, .tmp 21]) rfl ?_); at_builtin; refine Kd.R_append_zeros k49 (w0 := w) w.heap.size rfl (.tmp 20) (.tmp 21) 26 3 49 (.agg #[(.int .u32 0), (.string ⟨#[]⟩), (.int .i64 0)]) 32 rfl Try.underlying26 Try.underlying3 info49 rfl (by decide) (by decide) (.slice none 0 0) [] z49 (n : Int) (fun _ => True) rfl (congrArg (Value.int .i64) e1) (k49_mkM _ _ _ z49) (fun _ _ => trivial) (Kd.R_nil _ _ _ _ _) (by omega) (Below.refl _ _) (Nat.le_refl _) ?aL ?_; (case aL => have := HN.out; simp; omega); intro v1 w1 ho hb hg hat; have hO := Aside0.mk ho; have hB := Aside0.mk hb; clear ho hb hg hat; obtain ⟨A1, c1, ec⟩ := Kd.R_slice hO.out; subst ec))
    go_ret
    exact ⟨_, rfl, Kd.R_take (m := 0) hO.out (Nat.zero_le _), hB.out⟩
def ccat (a b : List S49) : Nat → List S49
  | 0 => []
  | 1 => a
  | _ => a ++ b
def csz (a b : Nat) : Nat → Nat
  | 0 => 0
  | 1 => a
  | _ => a + b
theorem concat_ok (A1 A2 : Option Addr) (c1 c2 : Nat) (l1 l2 : List S49) (b : Nat) (w : World) (hb : w.heap[b]? = some (.cells #[.slice A1 l1.length c1, .slice A2 l2.length c2] 26 (0, 0))) (hr1 : Kd.C k49 w A1 l1.length l1) (hr2 : Kd.C k49 w A2 l2.length l2) (hc1 : l1.length ≤ c1) (hc2 : l2.length ≤ c2) (hl : l1.length + l2.length ≤ 100000) :
    Calls Try.prog 36 #[.slice (some ⟨b, 0, none⟩) 2 2] w fun e w' => ∃ v, e = .returned v ∧ Kd.R k49 49 w' w.heap.size (fun _ => True) v (l1 ++ l2) ∧ Below w.heap.size w w' := by
  have hu26 := Try.underlying26
  have hu76 := Try.underlying76
  have HB := Aside0.mk hb
  have HR := Aside0.mk (And.intro (And.intro hr1 hc1) (And.intro hr2 hc2))
  have HL := Aside0.mk hl
  have n1 : 0 ≤ (l1.length : Int) := by omega
  have w0 : wrap64 (l1.length : Int) = l1.length := by unfold wrap64; omega
  have w2 : wrap64 ((l1.length : Int) + (l2.length : Int)) = ((l1.length + l2.length : Nat) : Int) := by unfold wrap64; omega
  have p1 : decide ((l1.length : Int) < 0) = false := decide_eq_false (by omega)
  have p2 : decide (((l1.length + l2.length : Nat) : Int) < 0) = false := decide_eq_false (by omega)
  have c0 : w.cell? ⟨b, 0, none⟩ = some (.slice A1 l1.length c1) := (blk_cell hb 0).trans rfl
  have c1' : w.cell? ⟨b, 1, none⟩ = some (.slice A2 l2.length c2) := (blk_cell hb 1).trans rfl
  clear hr1 hr2 hc1 hc2 hl hb
  go_enter Try.func36, Try.ntmps36
  go_wp2_with fail
  go_loop [3, 11] (fun v3 v11 => ∃ k : Nat, k ≤ 2 ∧ v11 = .int .i64 k ∧ v3 = .int .i64 (csz l1.length l2.length k : Nat)) (fun _ v => 2 - (intOf v).toNat)
  case atStart => exact ⟨0, Nat.zero_le _, rfl, rfl⟩
  case round =>
    obtain ⟨k, hk, rfl, rfl⟩ := hrel
    rcases (by omega : k = 0 ∨ k = 1 ∨ k = 2) with rfl | rfl | rfl
    · simp only [csz]
      go_wp2_with fail
      go_round
      case rel => exact ⟨1, by decide, rfl, by show Value.int .i64 (wrap64 _) = _; rw [w0]; rfl⟩
      case measure => decide
    · simp only [csz]
      go_wp2_with fail
      go_round
      case rel => exact ⟨2, by decide, rfl, by show Value.int .i64 (wrap64 _) = _; rw [w2]; rfl⟩
      case measure => decide
    · simp only [csz]
      clear w0 w2 p1 p2
      go_wp2_with fail
      rw [← Int.natCast_add]
      refine (grow_ok (l1.length + l2.length) (by have := HL.out; omega) w).mono ?_
      rintro e w3 ⟨v3, rfl, hR3, hB3⟩
      have HR3 := Aside0.mk hR3
      have HB3 := Aside0.mk hB3
      clear hR3 hB3 c0 c1'
      go_wp2_with fail
      go_loopw [6, 27] (fun v6 v27 w' => ∃ k : Nat, k ≤ 2 ∧ v27 = .int .i64 k ∧ Aside0 (Kd.R k49 49 w' w.heap.size (fun _ => True) v6 (ccat l1 l2 k)) ∧ Aside0 (Below w.heap.size w w')) (fun _ v _ => 2 - (intOf v).toNat)
      case atStart => exact ⟨0, Nat.zero_le _, rfl, HR3, HB3⟩
      case round =>
        obtain ⟨k, hk, rfl, hO, hB⟩ := hrel
        have c0 : wr.cell? ⟨b, 0, none⟩ = some (.slice A1 l1.length c1) := (blk_cell (blk_below HB.out hB.out) 0).trans rfl
        have c1' : wr.cell? ⟨b, 1, none⟩ = some (.slice A2 l2.length c2) := (blk_cell (blk_below HB.out hB.out) 1).trans rfl
        rcases (by omega : k = 0 ∨ k = 1 ∨ k = 2) with rfl | rfl | rfl
        · simp only [ccat] at hO
          go_wp2_with (first | ((with_reducible refine gate_builtin (b := .append) (xs := #[.tmp 31, .tmp 32]) rfl ?_); at_builtin; refine Kd.R_append_rows k49 (w0 := w) w.heap.size rfl (.tmp 31) (.tmp 32) 26 49 (.agg #[(.int .u32 0), (.string ⟨#[]⟩), (.int .i64 0)]) 32 rfl Try.underlying26 info49 rfl (by decide) (by decide) u6 [] l1 A1 l1.length c1 (fun _ => True) (fun _ => False) rfl rfl ?aO ?aR (fun _ _ h => h) (fun _ h => h.elim) ?aF ?aB ?aS ?aL ?_; (case aO => exact hO.out); (case aR => exact Kd.C_below HR.out.1.1 hB.out); (case aF => exact fun _ _ => trivial); (case aB => exact hB.out); (case aS => exact hB.out.size); (case aL => have := HL.out; simp; omega); intro v1 w1 ho hb hg hat; have hF := Aside0.mk ho; have hB1 := Aside0.mk hb; clear ho hb hg hat))
          go_roundw
          case rel => exact ⟨1, by decide, rfl, hF, hB1⟩
          case measure => decide
        · simp only [ccat] at hO
          go_wp2_with (first | ((with_reducible refine gate_builtin (b := .append) (xs := #[.tmp 31, .tmp 32]) rfl ?_); at_builtin; refine Kd.R_append_rows k49 (w0 := w) w.heap.size rfl (.tmp 31) (.tmp 32) 26 49 (.agg #[(.int .u32 0), (.string ⟨#[]⟩), (.int .i64 0)]) 32 rfl Try.underlying26 info49 rfl (by decide) (by decide) u6 l1 l2 A2 l2.length c2 (fun _ => True) (fun _ => False) rfl rfl ?aO ?aR (fun _ _ h => h) (fun _ h => h.elim) ?aF ?aB ?aS ?aL ?_; (case aO => exact hO.out); (case aR => exact Kd.C_below HR.out.2.1 hB.out); (case aF => exact fun _ _ => trivial); (case aB => exact hB.out); (case aS => exact hB.out.size); (case aL => have := HL.out; simp; omega); intro v1 w1 ho hb hg hat; have hF := Aside0.mk ho; have hB1 := Aside0.mk hb; clear ho hb hg hat))
          go_roundw
          case rel => exact ⟨2, by decide, rfl, hF, hB1⟩
          case measure => decide
        · simp only [ccat] at hO
          go_wp2_with fail
          go_ret
          exact ⟨_, rfl, hO.out, hB.out⟩
theorem below_sets {w0 : World} {g : Nat} (hlow : w0.heap.size ≤ g) : ∀ (vs : List Value) (o : Nat) {W : World}, Below w0.heap.size w0 W → Below w0.heap.size w0 (W.setCells g o vs)
  | [], _, _, h => h
  | v :: r, o, W, h => below_sets hlow r (o + 1) (below_set h hlow)
theorem R_cleared {w : World} {base : Nat} {ok : Nat → Prop} {g N c : Nat} {xs : List S49} (h : Kd.R k49 49 w base ok (.slice (some ⟨g, 0, none⟩) N c) xs) (n : Nat) (hn : n ≤ xs.length) (vs : List Value) (hvs : vs.length = (N - n) * 3) :
    Kd.R k49 49 (w.setCells g (n * 3) vs) base ok (.slice (some ⟨g, 0, none⟩) n c) (xs.take n) := by
  obtain ⟨hN, hNc, _⟩ := Kd.R_reads' h
  obtain ⟨h0, inner, ho, hr⟩ := Kd.R_take h hn
  obtain ⟨hl, hcase⟩ := ho
  have hln : (xs.take n).length = n := by rw [List.length_take, Nat.min_eq_left hn]
  rcases hcase with ⟨hv, _⟩ | ⟨g', cap, cur, hv, hb, hg, hnc, hcm, hcs, ht⟩
  · cases hv
  · injection hv with ha hnn hcc
    injection ha with ha
    injection ha with ha
    subst ha hcc
    have hs3 : k49.sz = 3 := rfl
    rw [hs3] at hcs ht hl
    obtain ⟨cur', h3, h4, h5⟩ := setCells_row vs (n * 3) w cur hg (by rw [hvs, hcs, ← Nat.add_mul]; exact Nat.mul_le_mul_right _ (by omega))
    refine ⟨h0, inner, ⟨hl, .inr ⟨g, c, cur', by rw [hln], hb, h3, hnc, hcm, by rw [h4, hcs]; rfl, ?_⟩⟩, hr.imp_ (fun p cs hp => by obtain rfl := k49_openM hp; exact k49_mkM _ _ _ p)⟩
    rw [hs3, h5, List.append_assoc, hln, List.take_left' (by rw [List.length_take, Array.length_toList, hcs]; exact Nat.min_eq_left (Nat.mul_le_mul_right _ (by omega)))]
    rw [hln] at ht
    exact ht
theorem zeros49 (n : Nat) : (Builtin.zeroCells #[.int .u32 0, .string ⟨#[]⟩, .int .i64 0] n).toList.length = n * 3 ∧ ∀ u ∈ (Builtin.zeroCells #[.int .u32 0, .string ⟨#[]⟩, .int .i64 0] n).toList, u.oneCell' = true := by
  constructor
  · simp [Builtin.zeroCells]
  · intro u hu
    simp only [Builtin.zeroCells, Array.toList_map, List.mem_map] at hu
    obtain ⟨i, _, rfl⟩ := hu
    have h3 : i % 3 < 3 := Nat.mod_lt _ (by decide)
    show (#[Value.int .u32 0, .string ⟨#[]⟩, .int .i64 0][i % 3]!).oneCell' = true
    rcases (by omega : i % 3 = 0 ∨ i % 3 = 1 ∨ i % 3 = 2) with e | e | e <;> rw [e] <;> rfl
theorem zero49 (w : World) : (zeroValue 49).run Try.prog w = .ok (.agg #[.int .u32 0, .string ⟨#[]⟩, .int .i64 0]) w := by
  obtain ⟨i0, hi, hzz⟩ := Option.map_eq_some_iff.1 info49
  simp only [Prod.mk.injEq] at hzz
  simp [zeroValue, typeInfo, hi, hzz.1]
theorem run_clear49 (w : World) (ty : TypeId) (b o n c : Nat) (hn : 0 < n) (hc : ∀ j, j < n * 3 → (w.cell? ⟨b, o + j, none⟩).isSome = true) (hf : ∀ j, j < n * 3 → w.frozen? ⟨b, o + j, none⟩ = false) :
    (Builtin.clear_ #[26] ty #[.slice (some ⟨b, o, none⟩) n c]).run Try.prog w = .ok (.tuple #[]) (w.setCells b o (Builtin.zeroCells #[.int .u32 0, .string ⟨#[]⟩, .int .i64 0] n).toList) := by
  obtain ⟨z1, z2⟩ := zeros49 n
  have hst := run_storeCells_cells (P := Try.prog) b o (Builtin.zeroCells #[.int .u32 0, .string ⟨#[]⟩, .int .i64 0] n).toList 0 w (by rw [z1]; simpa using hc) (by rw [z1]; simpa using hf) z2
  simp only [Nat.add_zero] at hst
  obtain ⟨m, rfl⟩ : ∃ m, n = m + 1 := ⟨n - 1, by omega⟩
  simp [Builtin.clear_, run_underlying Try.underlying26, zero49, Value.cells, hst]
theorem clear_row {w : World} {base : Nat} {ok : Nat → Prop} {g N c : Nat} {xs : List S49} (h : Kd.R k49 49 w base ok (.slice (some ⟨g, 0, none⟩) N c) xs) (n : Nat) (hn : n < N) (cc : Nat) :
    ∃ vs : List Value, vs.length = (N - n) * 3 ∧ ∀ ty, (Builtin.clear_ #[26] ty #[.slice (some ⟨g, n * 3, none⟩) (N - n) cc]).run Try.prog w = .ok (.tuple #[]) (w.setCells g (n * 3) vs) := by
  obtain ⟨hN, hNc, _⟩ := Kd.R_reads' h
  obtain ⟨h0, inner, ho, hr⟩ := h
  obtain ⟨hl, hcase⟩ := ho
  rcases hcase with ⟨hv, _⟩ | ⟨g', cap, cur, hv, hb, hg, hnc, hcm, hcs, ht⟩
  · cases hv
  · injection hv with ha hnn hcc
    injection ha with ha
    injection ha with ha
    subst ha hcc
    have hs3 : k49.sz = 3 := rfl
    rw [hs3] at hcs
    refine ⟨_, (zeros49 (N - n)).1, fun ty => run_clear49 w ty g (n * 3) (N - n) cc (by omega) (fun j hj => ?_) (fun j _ => blk_frozen hg _)⟩
    rw [cell_of_row w g _ cur 49 (0, 0) hg]
    simp
    omega
theorem filter_take (p : S49 → Bool) (l : List S49) (k : Nat) (h : k < l.length) : (l.take (k + 1)).filter (fun x => !p x) = if p (rd_T49 l (k : Int)) = true then (l.take k).filter (fun x => !p x) else (l.take k).filter (fun x => !p x) ++ [rd_T49 l (k : Int)] := by
  rw [List.take_add_one, List.getElem?_eq_getElem h, Option.toList_some, List.filter_append, rd49_get l k h]
  cases hp : p l[k]
  · rw [if_neg Bool.false_ne_true]
    simp [hp]
  · rw [if_pos rfl]
    simp [hp]
theorem idx_some (p : S49 → Bool) : ∀ (l : List S49) (i : Nat), l.any p = true → ∃ k : Nat, idxOf p l i = ((i + k : Nat) : Int) ∧ k < l.length ∧ p (rd_T49 l (k : Int)) = true ∧ (l.take k).filter (fun x => !p x) = l.take k
  | [], i => fun h => by simp at h
  | x :: r, i => fun h => by
    rw [idxOf]
    by_cases hx : p x = true
    · rw [if_pos hx]
      exact ⟨0, rfl, by simp, hx, rfl⟩
    · rw [if_neg hx]
      rw [List.any_cons, Bool.eq_false_iff.mpr hx, Bool.false_or] at h
      obtain ⟨k, e, hk, hp, hf⟩ := idx_some p r (i + 1) h
      refine ⟨k + 1, by rw [e]; congr 1; omega, by rw [List.length_cons]; omega, ?_, ?_⟩
      · rw [rd49_get _ _ (by rw [List.length_cons]; omega)]
        rw [rd49_get _ _ hk] at hp
        exact hp
      · rw [List.take_succ_cons, List.filter_cons, Bool.eq_false_iff.mpr hx, hf]
        rfl
theorem idx_none (p : S49 → Bool) : ∀ (l : List S49) (i : Nat), l.any p = false → idxOf p l i = -1
  | [], i => fun _ => rfl
  | x :: r, i => fun h => by
    rw [List.any_cons, Bool.or_eq_false_iff] at h
    rw [idxOf, h.1, if_neg Bool.false_ne_true, idx_none p r (i + 1) h.2]
theorem rd_drop (a b : List S49) (k : Nat) (h : a.drop k = b.drop k) : rd_T49 a (k : Int) = rd_T49 b (k : Int) := by
  unfold rd_T49
  rw [Int.toNat_natCast, List.getD_eq_getElem?_getD, List.getD_eq_getElem?_getD]
  have e : (a.drop k)[0]? = (b.drop k)[0]? := by rw [h]
  rw [List.getElem?_drop, List.getElem?_drop, Nat.add_zero] at e
  rw [e]
def dinv (p : S49 → Bool) (l L : List S49) (k n : Nat) : Prop := L.length = l.length ∧ L.take n = (l.take k).filter (fun x => !p x) ∧ L.drop k = l.drop k
theorem dinv_skip (p : S49 → Bool) {l L : List S49} {k n : Nat} (h : dinv p l L k n) (hk : k < l.length) (hp : p (rd_T49 l (k : Int)) = true) : dinv p l L (k + 1) n :=
  ⟨h.1, by rw [filter_take p l k hk, if_pos hp]; exact h.2.1, by rw [← List.drop_drop, h.2.2, List.drop_drop]⟩
theorem dinv_keep (p : S49 → Bool) {l L : List S49} {k n : Nat} (h : dinv p l L k n) (hk : k < l.length) (hn : n < k) (hp : ¬ p (rd_T49 l (k : Int)) = true) : dinv p l (L.set n (rd_T49 l (k : Int))) (k + 1) (n + 1) := by
  refine ⟨by rw [List.length_set]; exact h.1, ?_, ?_⟩
  · rw [filter_take p l k hk, if_neg hp, ← h.2.1, List.take_add_one, List.getElem?_set_self (by have := h.1; omega), List.take_set_of_le (Nat.le_refl _)]
    rfl
  · rw [List.drop_set_of_lt (by omega), ← List.drop_drop, h.2.2, List.drop_drop]
set_option maxHeartbeats 4000000 in
theorem delete_calls (f : FuncId) (fn : Func) (caps : Array Value) (hf : Try.prog.funcs[f]? = some fn) (hname : (fn.name == "runtime.NumGoroutine") = false) (hbody : fn.body.isSome = true)
    (w0 w : World) (A : Option Addr) (c : Nat) (l : List S49) (hr : Kd.R k49 49 w w0.heap.size (fun _ => True) (.slice A l.length c) l) (hB : Below w0.heap.size w0 w) (hl : l.length ≤ 100000) (p : S49 → Bool) (hany : l.any p = true)
    (hcl : ∀ (x : S49) (W : World), Below w0.heap.size w0 W → Calls Try.prog f (#[.agg #[.int .u32 x.f0, .string x.f1, .int .i64 x.f2]] ++ caps) W fun e w' => e = .returned (.bool (p x)) ∧ Below W.heap.size W w') :
    Calls Try.prog 32 #[.slice A l.length c, .func (.func f) #[] caps] w fun e w' => ∃ v, e = .returned v ∧ Kd.R k49 49 w' w0.heap.size (fun _ => True) v (l.filter fun x => !p x) ∧ Below w0.heap.size w0 w' := by
  have hu26 := Try.underlying26
  have hu49 := Try.underlying49
  obtain ⟨k0, e0, hk0, hp0, hf0⟩ := idx_some p l 0 hany
  rw [Nat.zero_add] at e0
  obtain ⟨g, cap, eA, gb, gl, cells, hg⟩ := Kd.R_form hr (by omega)
  injection eA with ea _ ec
  subst ea ec
  have HR := Aside0.mk hr
  have HB := Aside0.mk hB
  have HL := Aside0.mk hl
  have HE := Aside0.mk e0
  have HI : Aside0 (dinv p l l (k0 + 1) k0) := ⟨⟨rfl, by rw [filter_take p l k0 hk0, if_pos hp0, hf0], rfl⟩⟩
  have HK := Aside0.mk hk0
  have HG := Aside0.mk gb
  clear hr hB hl e0 hp0 hf0 hany cells hg gl hk0 gb
  go_enter Try.func32, Try.ntmps32
  go_wp2_with fail
  refine (index_calls f fn caps hf hname hbody (some ⟨g, 0, none⟩) c l w (Kd.R_reads' HR.out).2.2 (by have := HL.out; omega) p (fun x W hW => hcl x W (below_step HB.out hW))).mono ?_
  rintro e w1 ⟨rfl, hb1⟩
  rw [HE.out]
  have HR1 := Aside0.mk (Kd.R_below HR.out hb1)
  have HB1 := Aside0.mk (below_step HB.out hb1)
  have kw0 : Aside0 (wrap64 ((k0 : Int) + 1) = ((k0 + 1 : Nat) : Int)) := ⟨wm_ HK.out (by have := HL.out; omega)⟩
  clear hb1 HR HB HE
  have kb : ((k0 : Int) == -1) = false := beq_false_of_ne (by omega)
  have kc : ¬ (k0 : Int) = -1 := by omega
  go_wp2_with fail
  go_loopw [5, 6] (fun v5 v6 w' => ∃ (k n : Nat) (L : List S49), k ≤ l.length ∧ n < k ∧ v6 = .int .i64 k ∧ v5 = .int .i64 n ∧ Aside0 (dinv p l L k n) ∧ Aside0 (Kd.R k49 49 w' w0.heap.size (fun _ => True) (.slice (some ⟨g, 0, none⟩) l.length c) L) ∧ Aside0 (Below w0.heap.size w0 w')) (fun _ v _ => l.length - (intOf v).toNat)
  case atStart => exact ⟨k0 + 1, k0, l, HK.out, Nat.lt_succ_self _, by rw [kw0.out], rfl, HI, HR1, HB1⟩
  case round =>
    obtain ⟨k, n, L, hk, hnk, rfl, rfl, hI, hR, hB⟩ := hrel
    clear HR1 HB1 HI
    by_cases hlt : k < l.length
    · have hlt' : (k : Int) < (l.length : Int) := by omega
      have hnl' : (n : Int) < (l.length : Int) := by omega
      have kw : Aside0 (wrap64 ((k : Int) + 1) = ((k + 1 : Nat) : Int)) := ⟨wm_ hlt (by have := HL.out; omega)⟩
      have nw : Aside0 (wrap64 ((n : Int) + 1) = ((n + 1 : Nat) : Int)) := ⟨wm_ (Nat.lt_trans hnk hlt) (by have := HL.out; omega)⟩
      have hsk := Aside0.mk (dinv_skip p hI.out hlt)
      have hke := Aside0.mk (dinv_keep p hI.out hlt hnk)
      have hll := Aside0.mk hI.out.1
      obtain ⟨cs, hcs, hM, hcc, hfr⟩ := Kd.R_elem hR.out z49 (k : Int) (by omega) hlt'
      rw [show L.getD (k : Int).toNat z49 = rd_T49 l (k : Int) from rd_drop L l k hI.out.2.2] at hM
      obtain rfl := k49_openM hM
      have x0 : wr.cell? ⟨g, k * 3, none⟩ = some (.int .u32 (rd_T49 l (k : Int)).f0) := hcc 0 _ rfl
      have x1 : wr.cell? ⟨g, k * 3 + 1, none⟩ = some (.string (rd_T49 l (k : Int)).f1) := hcc 1 _ rfl
      have x2 : wr.cell? ⟨g, k * 3 + 2, none⟩ = some (.int .i64 (rd_T49 l (k : Int)).f2) := hcc 2 _ rfl
      clear hcs hM hcc hfr
      generalize rd_T49 l (k : Int) = x at x0 x1 x2 hsk hke
      clear hI
      go_wp2_with fail
      obtain ⟨hR0, hb0⟩ := allocs1 wr (Obj.cells #[.int .u32 x.f0, .string x.f1, .int .i64 x.f2] 49)
      have hR2 := Aside0.mk (Kd.R_below hR.out hb0)
      have hB2 := Aside0.mk (below_step hB.out hb0)
      generalize wr.alloc (Obj.cells #[.int .u32 x.f0, .string x.f1, .int .i64 x.f2] 49) = w2 at hR0 hb0 hR2 hB2 ⊢
      have hX2 := Aside0.mk hR0
      clear hR0 hb0 x0 x1 x2 hR hB
      generalize wr.heap.size = gz at hX2 ⊢
      rw [enters_ hf hname hbody]
      refine (hcl x w2 hB2.out).mono ?_
      rintro e w3 ⟨rfl, hb3⟩
      have hR3 := Aside0.mk (Kd.R_below hR2.out hb3)
      have hB3 := Aside0.mk (below_step hB2.out hb3)
      have hX3 := Aside0.mk (blk_below hX2.out hb3)
      clear hb3 hR2 hB2 hX2
      cases hp : p x with
      | true =>
        have hD := Aside0.mk (hsk.out hp)
        clear hp hsk hke
        go_wp2_with fail
        go_roundw
        case rel => exact ⟨k + 1, n, L, hlt, by omega, by rw [kw.out], rfl, hD, hR3, hB3⟩
        case measure => rw [kw.out]; exact meas_ hlt
      | false =>
        have hD := Aside0.mk (hke.out (by rw [hp]; decide))
        clear hp hsk hke
        have z0 : w3.cell? ⟨gz, 0, none⟩ = some (.int .u32 x.f0) := (blk_cell hX3.out 0).trans rfl
        have z1 : w3.cell? ⟨gz, 1, none⟩ = some (.string x.f1) := (blk_cell hX3.out 1).trans rfl
        have z2 : w3.cell? ⟨gz, 2, none⟩ = some (.int .i64 x.f2) := (blk_cell hX3.out 2).trans rfl
        obtain ⟨cs, hcs, hM, hcc, hfr⟩ := Kd.R_elem hR3.out z49 (n : Int) (by omega) hnl'
        obtain rfl := k49_openM hM
        have hP := Kd.R_seg hR3.out (n : Int) (by omega) hnl' (seg := [.int .u32 x.f0, .string x.f1, .int .i64 x.f2]) (j := 0) hcs hcc (show 3 ≤ 3 from by decide) (x' := x) (k49_mkM _ _ _ x) (fun _ hk => hk)
        have hR4 : Aside0 (Kd.R k49 49 (((w3.setCell ⟨g, n * 3, none⟩ (.int .u32 x.f0)).setCell ⟨g, n * 3 + 1, none⟩ (.string x.f1)).setCell ⟨g, n * 3 + 2, none⟩ (.int .i64 x.f2)) w0.heap.size (fun _ => True) (.slice (some ⟨g, 0, none⟩) l.length c) (L.set n x)) := ⟨hP.1⟩
        have hB4 : Aside0 (Below w0.heap.size w0 (((w3.setCell ⟨g, n * 3, none⟩ (.int .u32 x.f0)).setCell ⟨g, n * 3 + 1, none⟩ (.string x.f1)).setCell ⟨g, n * 3 + 2, none⟩ (.int .i64 x.f2))) := ⟨below_sets HG.out [.int .u32 x.f0, .string x.f1, .int .i64 x.f2] (n * 3) hB3.out⟩
        have y0 : w3.cell? ⟨g, n * 3, none⟩ = some (.int .u32 _) := hcc 0 _ rfl
        have y1 : w3.cell? ⟨g, n * 3 + 1, none⟩ = some (.string _) := hcc 1 _ rfl
        have y2 : w3.cell? ⟨g, n * 3 + 2, none⟩ = some (.int .i64 _) := hcc 2 _ rfl
        have f0 : w3.frozen? ⟨g, n * 3, none⟩ = false := hfr 0
        have f1 : w3.frozen? ⟨g, n * 3 + 1, none⟩ = false := hfr 1
        have f2 : w3.frozen? ⟨g, n * 3 + 2, none⟩ = false := hfr 2
        clear hcs hM hcc hfr hP
        go_wp2_with fail
        exact ⟨⟨k + 1, n + 1, L.set n x, hlt, by omega, by rw [kw.out], by rw [nw.out], hD, hR4, hB4⟩, by rw [kw.out]; exact meas_ hlt⟩
    · obtain rfl : k = l.length := by omega
      have hnl : n < l.length := hnk
      obtain ⟨vs, hvs, hcr⟩ := clear_row hR.out n hnl (c - n)
      have hFin : Aside0 (Kd.R k49 49 (wr.setCells g (n * 3) vs) w0.heap.size (fun _ => True) (.slice (some ⟨g, 0, none⟩) n c) (l.filter fun x => !p x)) := ⟨by
        have h := R_cleared hR.out n (by rw [hI.out.1]; omega) vs hvs
        rw [hI.out.2.1, List.take_length] at h
        exact h⟩
      have hBF : Aside0 (Below w0.heap.size w0 (wr.setCells g (n * 3) vs)) := ⟨below_sets HG.out vs (n * 3) hB.out⟩
      have hnc : n ≤ c := by have := (Kd.R_reads' hR.out).2.1; have := (Kd.R_reads' hR.out).1; have := hI.out.1; omega
      have hcn : ¬ c = n := by have := (Kd.R_reads' hR.out).2.1; have := (Kd.R_reads' hR.out).1; have := hI.out.1; omega
      clear hR hI hB hvs
      go_wp2_with fail
      go_ret
      exact ⟨_, rfl, hFin.out, hBF.out⟩
def eqB (x y : S49) : Bool := decide (x.f0 = y.f0) && decide (x.f1.toList = y.f1.toList) && decide (x.f2 = y.f2)
set_option maxHeartbeats 4000000 in
theorem rem1_ok (w : World) (b : Nat) (x y : S49) (h : w.heap[b]? = some (.cells #[.int .u32 y.f0, .string y.f1, .int .i64 y.f2] 49 (0, 0))) : Calls Try.prog 34 (#[.agg #[.int .u32 x.f0, .string x.f1, .int .i64 x.f2]] ++ #[.pointer (some ⟨b, 0, none⟩)]) w fun e w' => e = .returned (.bool (eqB x y)) ∧ Below w.heap.size w w' := by
  have hu49 := Try.underlying49
  obtain ⟨hR0, hb0⟩ := allocs1 w (Obj.cells #[.int .u32 x.f0, .string x.f1, .int .i64 x.f2] 49)
  have hH := Aside0.mk (blk_below h hb0)
  have c0 := (blk_cell hR0 0).trans rfl
  have c1 := (blk_cell hR0 1).trans rfl
  have c2 := (blk_cell hR0 2).trans rfl
  have d0 := (blk_cell hH.out 0).trans rfl
  have d1 := (blk_cell hH.out 1).trans rfl
  have d2 := (blk_cell hH.out 2).trans rfl
  clear hR0 hb0 h
  go_enter Try.func34, Try.ntmps34
  go_wp2_with fail
  all_goals
    go_ret
    exact ⟨by simp [eqB, *], below_alloc (Below.refl _ _) _⟩
def cellsOf49 (xs : List S49) : List Value := xs.flatMap fun x => [.int .u32 x.f0, .string x.f1, .int .i64 x.f2]
theorem reps49 : ∀ (xs : List S49), Reps (fun (x : S49) cs => cs = [.int .u32 x.f0, .string x.f1, .int .i64 x.f2]) 3 xs (cellsOf49 xs)
  | [] => Reps.none _ _
  | x :: r => by
    have h1 : Reps (fun (x : S49) cs => cs = [.int .u32 x.f0, .string x.f1, .int .i64 x.f2]) 3 [x] [.int .u32 x.f0, .string x.f1, .int .i64 x.f2] := by
      have h := Reps.snoc (Reps.none (fun (x : S49) cs => cs = [.int .u32 x.f0, .string x.f1, .int .i64 x.f2]) 3) (p := x) (c := [.int .u32 x.f0, .string x.f1, .int .i64 x.f2]) rfl rfl
      exact h
    exact Kd.reps_append h1 (reps49 r)
theorem cells49_read {w : World} {ad : Addr} {xs : List S49} (h : Kd.C k49 w (some ad) xs.length xs) : ∀ j u, (cellsOf49 xs)[j]? = some u → w.cell? (ad.add j) = some u := by
  intro j u hj
  obtain ⟨hl, hr⟩ := reps49 xs
  have hjl : j < xs.length * 3 := by rw [← hl]; exact (List.getElem?_eq_some_iff.1 hj).1
  have hi : j / 3 < xs.length := by omega
  obtain ⟨ad', c, e, hc, hK, hcell⟩ := Kd.C_get h z49 ((j / 3 : Nat) : Int) (by omega) (by omega)
  cases e
  rw [Int.toNat_natCast] at hK hcell
  have hx : xs[j / 3]? = some (xs.getD (j / 3) z49) := by rw [List.getD_eq_getElem?_getD, List.getElem?_eq_getElem hi]; rfl
  have h3 := hr _ _ hx
  have hk := k49_open hK
  subst hk
  have h4 : ((cellsOf49 xs).drop (j / 3 * 3))[j % 3]? = some u := by
    rw [List.getElem?_drop, show j / 3 * 3 + j % 3 = j by omega]
    exact hj
  have h5 : (((cellsOf49 xs).drop (j / 3 * 3)).take 3)[j % 3]? = some u := by
    rw [List.getElem?_take, if_pos (by omega)]
    exact h4
  rw [h3] at h5
  have h6 := hcell (j % 3) u h5
  have h7 : j / 3 * k49.sz + j % 3 = j := by
    show j / 3 * 3 + j % 3 = j
    omega
  rw [h7] at h6
  exact h6
def Rem (w : World) (base : Nat) (v : Value) (xs : List S49) : Prop :=
  Kd.R k49 49 w base (fun _ => True) v xs ∨ ∃ ad, v = .slice (some ad) xs.length xs.length ∧ base ≤ ad.block ∧ (∃ cells, w.heap[ad.block]? = some (.cells cells 49 (0, 0))) ∧ Kd.F k49 w (fun k => k = ad.block) (some ad) xs.length xs
theorem own_some {A : Option Addr} {n c k : Nat} (h : (Value.slice A n c).ownBlock = some k) : ∃ ad, A = some ad ∧ ad.block = k := by
  cases A with
  | none => simp [Value.ownBlock] at h
  | some ad => exact ⟨ad, rfl, by simpa [Value.ownBlock] using h⟩
theorem Rem.reads {w : World} {base : Nat} {v : Value} {xs : List S49} (h : Rem w base v xs) : ∃ A c, v = .slice A xs.length c ∧ xs.length ≤ c ∧ Kd.C k49 w A xs.length xs := by
  rcases h with h | ⟨ad, rfl, hb, ht, hf⟩
  · exact Kd.R_reads h
  · exact ⟨_, _, rfl, Nat.le_refl _, Kd.F_now hf⟩
theorem Rem.base {w : World} {base : Nat} {v : Value} {xs : List S49} (h : Rem w base v xs) : ∀ k, v.ownBlock = some k → base ≤ k ∧ k < w.heap.size ∧ ∃ cells, w.heap[k]? = some (.cells cells 49 (0, 0)) := by
  intro k hk
  rcases h with h | ⟨ad, rfl, hb, ht, hf⟩
  · exact ⟨Kd.R_base h k hk, Kd.R_lt h k hk, Kd.R_typed h k hk⟩
  · obtain ⟨ad', e, rfl⟩ := own_some hk
    cases e
    obtain ⟨cells, ht⟩ := ht
    exact ⟨hb, blk_lt ht, cells, ht⟩
theorem R_same {w w1 : World} {base : Nat} {v : Value} {xs : List S49} (h : Kd.R k49 49 w base (fun _ => True) v xs) (hm : ∀ k, v.ownBlock = some k → w1.heap[k]? = w.heap[k]?) : Kd.R k49 49 w1 base (fun _ => True) v xs :=
  Kd.R_mono (Kd.R_step (Kd.R_tight rfl h) (fun k hk _ => hm k hk.symm)) (fun _ _ => trivial)
theorem Rem.same {w w1 : World} {base : Nat} {v : Value} {xs : List S49} (h : Rem w base v xs) (hm : ∀ k, v.ownBlock = some k → w1.heap[k]? = w.heap[k]?) : Rem w1 base v xs := by
  rcases h with h | ⟨ad, rfl, hb, ⟨cells, ht⟩, hf⟩
  · exact .inl (R_same h hm)
  · have h1 := hm ad.block (by simp [Value.ownBlock])
    exact .inr ⟨ad, rfl, hb, ⟨cells, h1.trans ht⟩, Kd.F_step hf (fun k hk _ => by rw [hk]; exact h1)⟩
structure Reg (w0 w : World) (g : Nat) (last : Int) (va vr vl : Value) (qa qr ql : List S49) : Prop where
  blk : w.heap[g]? = some (.cells #[.bool true, .int .u32 last, va, vr, vl] 60 (0, 0))
  low : w0.heap.size ≤ g
  a : Kd.R k49 49 w w0.heap.size (fun _ => True) va qa
  r : Rem w w0.heap.size vr qr
  l : Kd.R k49 49 w w0.heap.size (fun _ => True) vl ql
  nal : ∀ k, va.ownBlock = some k → vl.ownBlock ≠ some k
  nar : ∀ k, va.ownBlock = some k → vr.ownBlock ≠ some k
  nrl : ∀ k, vr.ownBlock = some k → vl.ownBlock ≠ some k
  below : Below w0.heap.size w0 w
theorem Reg.cells {w0 w : World} {g : Nat} {last : Int} {va vr vl : Value} {qa qr ql : List S49} (h : Reg w0 w g last va vr vl qa qr ql) : (w.cell? ⟨g, 0, none⟩ = some (.bool true) ∧ w.frozen? ⟨g, 0, none⟩ = false) ∧ (w.cell? ⟨g, 1, none⟩ = some (.int .u32 last) ∧ w.frozen? ⟨g, 1, none⟩ = false) ∧ (w.cell? ⟨g, 2, none⟩ = some va ∧ w.frozen? ⟨g, 2, none⟩ = false) ∧ (w.cell? ⟨g, 3, none⟩ = some vr ∧ w.frozen? ⟨g, 3, none⟩ = false) ∧ (w.cell? ⟨g, 4, none⟩ = some vl ∧ w.frozen? ⟨g, 4, none⟩ = false) :=
  ⟨⟨(blk_cell h.blk 0).trans rfl, blk_frozen h.blk 0⟩, ⟨(blk_cell h.blk 1).trans rfl, blk_frozen h.blk 1⟩, ⟨(blk_cell h.blk 2).trans rfl, blk_frozen h.blk 2⟩, ⟨(blk_cell h.blk 3).trans rfl, blk_frozen h.blk 3⟩, (blk_cell h.blk 4).trans rfl, blk_frozen h.blk 4⟩
theorem Reg.after {w0 w w1 : World} {g : Nat} {last : Int} {va vr vl : Value} {qa qr ql : List S49} (h : Reg w0 w g last va vr vl qa qr ql) (hb : Below w.heap.size w w1) : Reg w0 w1 g last va vr vl qa qr ql :=
  ⟨blk_below h.blk hb, h.low, Kd.R_below h.a hb, h.r.same (fun k hk => hb.block k (h.r.base k hk).2.1), Kd.R_below h.l hb, h.nal, h.nar, h.nrl, below_step h.below hb⟩
theorem Reg.drewN {w0 w : World} {g : Nat} {last : Int} {va vr vl : Value} {qa qr ql : List S49} (h : Reg w0 w g last va vr vl qa qr ql) (n : Nat) : Reg w0 (w.drewN n) g last va vr vl qa qr ql := h.after (pw_below_drewN (Below.refl _ _) n)
theorem Reg.drew {w0 w : World} {g : Nat} {last : Int} {va vr vl : Value} {qa qr ql : List S49} (h : Reg w0 w g last va vr vl qa qr ql) : Reg w0 w.drew g last va vr vl qa qr ql := h.after (below_drew1 (Below.refl _ _))
theorem Reg.off {w0 w : World} {g : Nat} {last : Int} {va vr vl : Value} {qa qr ql : List S49} (h : Reg w0 w g last va vr vl qa qr ql) : va.ownBlock ≠ some g ∧ vr.ownBlock ≠ some g ∧ vl.ownBlock ≠ some g := by
  refine ⟨fun e => ?_, fun e => ?_, fun e => ?_⟩
  · obtain ⟨c, hc⟩ := Kd.R_typed h.a g e
    rw [h.blk] at hc
    simp at hc
  · obtain ⟨c, hc⟩ := (h.r.base g e).2.2
    rw [h.blk] at hc
    simp at hc
  · obtain ⟨c, hc⟩ := Kd.R_typed h.l g e
    rw [h.blk] at hc
    simp at hc
theorem set_same {w : World} {g o : Nat} {v : Value} {k : Nat} (h : k ≠ g) : (w.setCell ⟨g, o, none⟩ v).heap[k]? = w.heap[k]? := Below.heap_setCell w ⟨g, o, none⟩ v k h
theorem apart_new {w : World} {v v1 u : Value} (hn : ∀ k, v.ownBlock = some k → u.ownBlock ≠ some k) (hat : v1.ownBlock = v.ownBlock ∨ ∃ b, v1.ownBlock = some b ∧ w.heap.size ≤ b) (hu : ∀ k, u.ownBlock = some k → k < w.heap.size) : ∀ k, v1.ownBlock = some k → u.ownBlock ≠ some k := by
  intro k hk hu'
  rcases hat with e | ⟨b, hb, hle⟩
  · exact hn k (by rw [← e]; exact hk) hu'
  · rw [hk] at hb
    injection hb with hb
    exact Nat.lt_irrefl _ (Nat.lt_of_lt_of_le (hu k hu') (hb ▸ hle))
theorem Reg.appA {w0 w w1 : World} {g : Nat} {last : Int} {va vr vl v1 : Value} {qa qr ql q1 : List S49} (h : Reg w0 w g last va vr vl qa qr ql) (ho : Kd.R k49 49 w1 w0.heap.size (fun _ => True) v1 q1) (hb : Below w0.heap.size w0 w1) (hg : w.grownBy w1 va.ownBlock) (hat : v1.ownBlock = va.ownBlock ∨ ∃ b, v1.ownBlock = some b ∧ w.heap.size ≤ b) : Reg w0 (w1.setCell ⟨g, 2, none⟩ v1) g last v1 vr vl q1 qr ql := by
  have hgb : w1.heap[g]? = some (.cells #[.bool true, .int .u32 last, va, vr, vl] 60 (0, 0)) := blk_grown h.blk hg (Ne.symm h.off.1)
  have hr1 : Rem w1 w0.heap.size vr qr := h.r.same (fun k hk => hg.block k (h.r.base k hk).2.1 (fun e => h.nar k e.symm hk))
  have hl1 : Kd.R k49 49 w1 w0.heap.size (fun _ => True) vl ql := R_same h.l (fun k hk => hg.block k (Kd.R_lt h.l k hk) (fun e => h.nal k e.symm hk))
  have n1 : v1.ownBlock ≠ some g := fun e => by
    obtain ⟨c, hc⟩ := Kd.R_typed ho g e
    rw [hgb] at hc
    simp at hc
  exact ⟨blk_put (cs := #[.bool true, .int .u32 last, va, vr, vl]) hgb 2 _ rfl, h.low, R_same ho (fun k hk => set_same (fun e => n1 (e ▸ hk))), hr1.same (fun k hk => set_same (fun e => h.off.2.1 (e ▸ hk))), R_same hl1 (fun k hk => set_same (fun e => h.off.2.2 (e ▸ hk))), apart_new h.nal hat (Kd.R_lt h.l), apart_new h.nar hat (fun k hk => (h.r.base k hk).2.1), h.nrl, below_set hb h.low⟩
theorem Reg.appL {w0 w w1 : World} {g : Nat} {last : Int} {va vr vl v1 : Value} {qa qr ql q1 : List S49} (h : Reg w0 w g last va vr vl qa qr ql) (ho : Kd.R k49 49 w1 w0.heap.size (fun _ => True) v1 q1) (hb : Below w0.heap.size w0 w1) (hg : w.grownBy w1 vl.ownBlock) (hat : v1.ownBlock = vl.ownBlock ∨ ∃ b, v1.ownBlock = some b ∧ w.heap.size ≤ b) : Reg w0 (w1.setCell ⟨g, 4, none⟩ v1) g last va vr v1 qa qr q1 := by
  have hgb : w1.heap[g]? = some (.cells #[.bool true, .int .u32 last, va, vr, vl] 60 (0, 0)) := blk_grown h.blk hg (Ne.symm h.off.2.2)
  have hr1 : Rem w1 w0.heap.size vr qr := h.r.same (fun k hk => hg.block k (h.r.base k hk).2.1 (fun e => h.nrl k hk e.symm))
  have ha1 : Kd.R k49 49 w1 w0.heap.size (fun _ => True) va qa := R_same h.a (fun k hk => hg.block k (Kd.R_lt h.a k hk) (fun e => h.nal k hk e.symm))
  have n1 : v1.ownBlock ≠ some g := fun e => by
    obtain ⟨c, hc⟩ := Kd.R_typed ho g e
    rw [hgb] at hc
    simp at hc
  exact ⟨blk_put (cs := #[.bool true, .int .u32 last, va, vr, vl]) hgb 4 _ rfl, h.low, R_same ha1 (fun k hk => set_same (fun e => h.off.1 (e ▸ hk))), hr1.same (fun k hk => set_same (fun e => h.off.2.1 (e ▸ hk))), R_same ho (fun k hk => set_same (fun e => n1 (e ▸ hk))), fun k hk e => apart_new (fun k hk e => h.nal k e hk) hat (Kd.R_lt h.a) k e hk, h.nar, fun k hk e => apart_new (fun k hk e => h.nrl k e hk) hat (fun k hk => (h.r.base k hk).2.1) k e hk, below_set hb h.low⟩
theorem Reg.appR {w0 w w1 : World} {g : Nat} {last : Int} {va vr vl v1 : Value} {qa qr ql q1 : List S49} (h : Reg w0 w g last va vr vl qa qr ql) (ho : Kd.R k49 49 w1 w0.heap.size (fun _ => True) v1 q1) (hb : Below w0.heap.size w0 w1) (hg : w.grownBy w1 vr.ownBlock) (hat : v1.ownBlock = vr.ownBlock ∨ ∃ b, v1.ownBlock = some b ∧ w.heap.size ≤ b) : Reg w0 (w1.setCell ⟨g, 3, none⟩ v1) g last va v1 vl qa q1 ql := by
  have hgb : w1.heap[g]? = some (.cells #[.bool true, .int .u32 last, va, vr, vl] 60 (0, 0)) := blk_grown h.blk hg (Ne.symm h.off.2.1)
  have hl1 : Kd.R k49 49 w1 w0.heap.size (fun _ => True) vl ql := R_same h.l (fun k hk => hg.block k (Kd.R_lt h.l k hk) (fun e => h.nrl k e.symm hk))
  have ha1 : Kd.R k49 49 w1 w0.heap.size (fun _ => True) va qa := R_same h.a (fun k hk => hg.block k (Kd.R_lt h.a k hk) (fun e => h.nar k hk e.symm))
  have n1 : v1.ownBlock ≠ some g := fun e => by
    obtain ⟨c, hc⟩ := Kd.R_typed ho g e
    rw [hgb] at hc
    simp at hc
  exact ⟨blk_put (cs := #[.bool true, .int .u32 last, va, vr, vl]) hgb 3 _ rfl, h.low, R_same ha1 (fun k hk => set_same (fun e => h.off.1 (e ▸ hk))), .inl (R_same ho (fun k hk => set_same (fun e => n1 (e ▸ hk)))), R_same hl1 (fun k hk => set_same (fun e => h.off.2.2 (e ▸ hk))), h.nal, fun k hk e => apart_new (fun k hk e => h.nar k e hk) hat (Kd.R_lt h.a) k e hk, apart_new h.nrl hat (Kd.R_lt h.l), below_set hb h.low⟩
theorem Reg.setA {w0 w : World} {g : Nat} {last : Int} {va vr vl v1 : Value} {qa qr ql q1 : List S49} (h : Reg w0 w g last va vr vl qa qr ql) (ho : Kd.R k49 49 w w0.heap.size (fun _ => True) v1 q1) (h1 : ∀ k, v1.ownBlock = some k → vl.ownBlock ≠ some k ∧ vr.ownBlock ≠ some k) : Reg w0 (w.setCell ⟨g, 2, none⟩ v1) g last v1 vr vl q1 qr ql := by
  have n1 : v1.ownBlock ≠ some g := fun e => by
    obtain ⟨c, hc⟩ := Kd.R_typed ho g e
    rw [h.blk] at hc
    simp at hc
  exact ⟨blk_put (cs := #[.bool true, .int .u32 last, va, vr, vl]) h.blk 2 _ rfl, h.low, R_same ho (fun k hk => set_same (fun e => n1 (e ▸ hk))), h.r.same (fun k hk => set_same (fun e => h.off.2.1 (e ▸ hk))), R_same h.l (fun k hk => set_same (fun e => h.off.2.2 (e ▸ hk))), fun k hk => (h1 k hk).1, fun k hk => (h1 k hk).2, h.nrl, below_set h.below h.low⟩
theorem Reg.setLast {w0 w : World} {g : Nat} {last : Int} {va vr vl : Value} {qa qr ql : List S49} (h : Reg w0 w g last va vr vl qa qr ql) (n : Int) : Reg w0 (w.setCell ⟨g, 1, none⟩ (.int .u32 n)) g n va vr vl qa qr ql :=
  ⟨blk_put (cs := #[.bool true, .int .u32 last, va, vr, vl]) h.blk 1 _ rfl, h.low, R_same h.a (fun k hk => set_same (fun e => h.off.1 (e ▸ hk))), h.r.same (fun k hk => set_same (fun e => h.off.2.1 (e ▸ hk))), R_same h.l (fun k hk => set_same (fun e => h.off.2.2 (e ▸ hk))), h.nal, h.nar, h.nrl, below_set h.below h.low⟩
section
variable {P : Program} {ops : Array Oper} {o : Oper} {a : Act} {Q : Exit → Act → World → Prop} {Kc : Act → World → Prop}
theorem full_append_step {w0 W : World} (base : Nat) (hw : Region.wanted o (yielded ops a.tmps) = true) (s x : Operand)
    (ho : o.op = .call { callee := .builtin .append, args := #[s, x], argTypes := #[26, 26] })
    (ad : Addr) (xs : List S49) (p : S49) (hs : a.eval s = .slice (some ad) xs.length xs.length) (hx : a.eval x = .slice (some ⟨W.heap.size, 0, none⟩) 1 1)
    (HC : Kd.C k49 W (some ad) xs.length xs) (HB : Below base w0 W) (hbase : base ≤ W.heap.size) (hl : xs.length ≤ 100000)
    (h : ∀ v1 w1, Kd.R k49 49 w1 base (fun _ => True) v1 (xs ++ [p]) → Below base w0 w1 → W.grownBy w1 none → (∃ b, v1.ownBlock = some b ∧ W.heap.size ≤ b) → Kc (a.put o.dst v1) w1) :
    if Region.wanted o (yielded ops a.tmps) = true then Oper.wp Try.prog o a (W.alloc (.cells #[.int .u32 p.f0, .string p.f1, .int .i64 p.f2] 49)) Kc Q else Kc (a.put o.dst undef) (W.alloc (.cells #[.int .u32 p.f0, .string p.f1, .int .i64 p.f2] 49)) := by
  obtain ⟨i0, hi, hzz⟩ := Option.map_eq_some_iff.1 info49
  simp only [Prod.mk.injEq] at hzz
  obtain ⟨hz0, hz1, hz2⟩ := hzz
  rw [if_pos hw]
  have hb1 := below_alloc (Below.refl W.heap.size W) (.cells #[.int .u32 p.f0, .string p.f1, .int .i64 p.f2] 49)
  obtain ⟨v1, w1, hr, hown, hg⟩ := run_append_arg_grows (P := Try.prog) (w := W.alloc (.cells #[.int .u32 p.f0, .string p.f1, .int .i64 p.f2] 49)) 26 o.type 49 i0 (.agg #[(.int .u32 0), (.string ⟨#[]⟩), (.int .i64 0)]) 3 32 Try.underlying26 hi hz0 hz1 hz2 rfl (by decide) ad xs.length xs.length (cellsOf49 xs) (reps49 xs).1 (cells49_read (Kd.C_below HC hb1)) ⟨W.heap.size, 0, none⟩ 1 1 [.int .u32 p.f0, .string p.f1, .int .i64 p.f2] rfl
    (by simpa using World.news_of_block (cs := #[.int .u32 p.f0, .string p.f1, .int .i64 p.f2]) (t := 49) (fr := (0, 0)) (heap_alloc_new W (.cells #[.int .u32 p.f0, .string p.f1, .int .i64 p.f2] 49))) (by omega) (by simp only [maxLen]; omega) (by omega)
  have hat : ∃ b, v1.ownBlock = some b ∧ W.heap.size ≤ b := by
    obtain ⟨g', cap', he, hb, _⟩ := hown.form (by omega)
    exact ⟨g', by rw [he]; simp [Value.ownBlock], by have := hb1.size; omega⟩
  have hR : Kd.R k49 49 w1 base (fun _ => True) v1 (xs ++ [p]) := by
    refine ⟨fun _ _ => trivial, _, by rw [List.length_append, List.length_singleton]; exact own_weaken hown (Nat.le_trans hbase hb1.size), ?_⟩
    have h1 := reps49 (xs ++ [p])
    have e : cellsOf49 (xs ++ [p]) = cellsOf49 xs ++ [.int .u32 p.f0, .string p.f1, .int .i64 p.f2] := by unfold cellsOf49; rw [List.flatMap_append, List.flatMap_cons, List.flatMap_nil, List.append_nil]
    rw [e] at h1
    exact h1.imp_ (fun y cs hy => by rw [hy]; exact k49_mkM _ _ _ y)
  unfold Oper.wp execOp
  simp only [ho, resolve, invoke, builtin, Sem.run_bind, Sem.run_pure, Result.andThen_ok, List.map_toArray, List.map_cons, List.map_nil, hs, hx, hr]
  exact h v1 w1 hR ((HB.alloc hbase _).grown hg (Nat.le_trans hbase hb1.size) (fun k hk => by cases hk)) (World.grownBy.trans (World.grownBy_alloc W _ _) hg) hat
theorem Rem_append_step {w0 W : World} (hw : Region.wanted o (yielded ops a.tmps) = true) (s x : Operand)
    (ho : o.op = .call { callee := .builtin .append, args := #[s, x], argTypes := #[26, 26] })
    (v : Value) (xs : List S49) (p : S49) (hs : a.eval s = v) (hx : a.eval x = .slice (some ⟨W.heap.size, 0, none⟩) 1 1)
    (HO : Rem W w0.heap.size v xs) (HB : Below w0.heap.size w0 W) (hl : xs.length ≤ 100000)
    (h : ∀ v1 w1, Kd.R k49 49 w1 w0.heap.size (fun _ => True) v1 (xs ++ [p]) → Below w0.heap.size w0 w1 → W.grownBy w1 v.ownBlock → (v1.ownBlock = v.ownBlock ∨ ∃ b, v1.ownBlock = some b ∧ W.heap.size ≤ b) → Kc (a.put o.dst v1) w1) :
    if Region.wanted o (yielded ops a.tmps) = true then Oper.wp Try.prog o a (W.alloc (.cells #[.int .u32 p.f0, .string p.f1, .int .i64 p.f2] 49)) Kc Q else Kc (a.put o.dst undef) (W.alloc (.cells #[.int .u32 p.f0, .string p.f1, .int .i64 p.f2] 49)) := by
  rcases HO with HO | ⟨ad, rfl, hb, ht, hf⟩
  · exact Kd.R_append_step k49 (w0 := w0) w0.heap.size hw s x 26 49 (.agg #[(.int .u32 0), (.string ⟨#[]⟩), (.int .i64 0)]) 32 ho Try.underlying26 info49 rfl (by decide) (by omega) v xs p [.int .u32 p.f0, .string p.f1, .int .i64 p.f2] (fun _ => True) (fun _ => False) hs hx (k49_mkM _ _ _ p) (fun _ hk => hk.elim) (fun _ _ => trivial) HO HB HB.size (by omega) h
  · exact full_append_step w0.heap.size hw s x ho ad xs p hs hx (Kd.F_now hf) HB HB.size hl (fun v1 w1 h1 h2 h3 h4 => h v1 w1 h1 h2 ⟨h3.os, h3.tape, h3.output, h3.size, fun k hk _ => h3.block k hk (by simp)⟩ (.inr h4))
end
theorem C_drop1 {W : World} {gb n : Nat} {xs : List S49} (h : Kd.C k49 W (some ⟨gb, 0, none⟩) (n + 1) xs) : Kd.C k49 W (some ⟨gb, 3, none⟩) n (xs.drop 1) := by
  obtain ⟨h1, h2, h3⟩ := h
  obtain ⟨ad, e, hc⟩ := h3 (by omega)
  cases e
  refine ⟨by rw [List.length_drop, h1]; omega, by omega, fun _ => ⟨_, rfl, fun j p hj => ?_⟩⟩
  rw [List.getElem?_drop] at hj
  obtain ⟨c, hcl, hK, hcc⟩ := hc (1 + j) p hj
  refine ⟨c, hcl, hK, fun i u hu => ?_⟩
  have := hcc i u hu
  rw [Addr.add_lit] at this ⊢
  rw [← this]
  congr 2
  show 3 + (j * 3 + i) = 0 + ((1 + j) * 3 + i)
  omega
theorem Reg.cutR {w0 w : World} {g : Nat} {last : Int} {va vr vl : Value} {qa qr ql : List S49} (h : Reg w0 w g last va vr vl qa qr ql) (hR : Kd.R k49 49 w w0.heap.size (fun _ => True) vr qr) (hl : qr.length = 17) : ∃ gb c, vr = .slice (some ⟨gb, 0, none⟩) 17 c ∧ 17 ≤ c ∧ Reg w0 (w.setCell ⟨g, 3, none⟩ (.slice (some ⟨gb, 3, none⟩) 16 16)) g last va (.slice (some ⟨gb, 3, none⟩) 16 16) vl qa (qr.drop 1) ql := by
  obtain ⟨gb, c, e, hb, hlt, cells, hcells⟩ := Kd.R_form hR (by omega)
  have hown : vr.ownBlock = some gb := by rw [e]; rfl
  rw [hl] at e
  have hcc : 17 ≤ c := by
    rw [e] at hR
    exact (Kd.R_reads' hR).2.1
  refine ⟨gb, c, e, hcc, ?_⟩
  have hF : Kd.F k49 w (fun k => k = gb) (some ⟨gb, 0, none⟩) 17 qr := by
    have h1 := Kd.R_tight rfl hR
    rw [e] at h1
    have h2 := Kd.R_F h1
    exact Kd.F_mono h2 (fun k hk => by simpa [Value.ownBlock] using hk)
  have hF2 : Kd.F k49 w (fun k => k = gb) (some ⟨gb, 3, none⟩) 16 (qr.drop 1) := fun W' hW => C_drop1 (hF W' hW)
  have hld : (qr.drop 1).length = 16 := by rw [List.length_drop, hl]
  have hrem : Rem w w0.heap.size (.slice (some ⟨gb, 3, none⟩) 16 16) (qr.drop 1) := .inr ⟨⟨gb, 3, none⟩, by rw [hld], hb, ⟨cells, hcells⟩, by rw [hld]; exact hF2⟩
  have hgn : gb ≠ g := fun e => h.off.2.1 (by rw [hown, e])
  exact ⟨blk_put (cs := #[.bool true, .int .u32 last, va, vr, vl]) h.blk 3 _ rfl, h.low, R_same h.a (fun k hk => set_same (fun e => h.off.1 (e ▸ hk))), hrem.same (fun k hk => set_same (fun e => hgn (by obtain ⟨ad, e1, e2⟩ := own_some hk; cases e1; exact e2.trans e))), R_same h.l (fun k hk => set_same (fun e => h.off.2.2 (e ▸ hk))), h.nal, fun k hk e => h.nar k hk (by rw [hown]; exact e), fun k hk => h.nrl k (by rw [hown]; exact hk), below_set h.below h.low⟩
theorem add_zero (w : World) (g : Nat) (s : ByteArray) (v : Int) (h0 : w.cell? ⟨g, 0, none⟩ = some (.bool false)) (hf : w.frozen? ⟨g, 0, none⟩ = false) : Calls Try.prog 12 #[.pointer (some ⟨g, 0, none⟩), .string s, .int .i64 v] w fun e w' => e = .returned (.tuple #[.int .u32 0, .int .i64 1]) ∧ ∃ nd, w' = w.drewN nd := by
  have hh := Aside0.mk (And.intro h0 hf)
  clear h0 hf
  go_enter Try.func12, Try.ntmps12
  go_wp2_with (first | (go_at_call 27; (with_reducible refine (usable_is _ g false (by exact hh.out.1) (by exact hh.out.2)).mono ?_); rintro e w' ⟨rfl, ⟨nd, rfl⟩⟩))
  go_ret2
  exact ⟨rfl, _, rfl⟩
def addErr (r v n : Int) : Int := if r = 0 then 8 else if v < 1 ∨ v > r then 11 else if n ≥ 64 then 5 else 0
set_option maxHeartbeats 8000000 in
set_option maxRecDepth 100000 in
theorem add_err (w0 w : World) (g : Nat) (last : Int) (va vr vl : Value) (qa qr ql : List S49) (s : ByteArray) (v : Int) (k : Nat) (r : Int) (hK : Reg w0 w g last va vr vl qa qr ql) (hv : iface_Version.f k s = some r) (he : addErr r v qa.length ≠ 0) : Calls Try.prog 12 #[.pointer (some ⟨g, 0, none⟩), .string s, .int .i64 v] w fun e w' => e = .returned (.tuple #[.int .u32 0, .int .i64 (addErr r v qa.length)]) ∧ Reg w0 w' g last va vr vl qa qr ql := by
  have hu60 := Try.underlying60
  have hu49 := Try.underlying49
  obtain ⟨Aa, ca, rfl⟩ := Kd.R_slice hK.a
  have hh := Aside0.mk hK.cells
  have HK := Aside0.mk hK
  have hV := Aside0.mk hv
  unfold addErr at he ⊢
  by_cases h1 : r = 0
  · rw [if_pos h1] at he ⊢
    have d1 : (r == 0) = true := by rw [h1]; rfl
    have hr := Aside0.mk h1
    clear he h1
    clear hK hv
    go_enter Try.func12, Try.ntmps12
    go_wp2_with (first | (go_at_call 27; (with_reducible refine (usable_is _ g true (by exact hh.out.1.1) (by exact hh.out.1.2)).mono ?_); rintro e w' ⟨rfl, ⟨nd, rfl⟩⟩))
    refine (iface_Version.calls k s r _ hV.out).mono ?_
    rintro e w2 ⟨rfl, hb2⟩
    have HK2 := Aside0.mk (HK.out.after (below_step (pw_below_drewN (Below.refl _ _) _) hb2))
    clear hb2 hh HK
    go_wp2_with fail
    go_ret2
    exact ⟨rfl, HK2.out⟩
  · rw [if_neg h1] at he ⊢
    have d1 : (r == 0) = false := beq_false_of_ne h1
    by_cases h2 : v < 1 ∨ v > r
    · rw [if_pos h2] at he ⊢
      by_cases h3 : v < 1
      · have d2 : decide (v < 1) = true := decide_eq_true h3
        clear he h2 h3
        clear hK hv
        go_enter Try.func12, Try.ntmps12
        go_wp2_with (first | (go_at_call 27; (with_reducible refine (usable_is _ g true (by exact hh.out.1.1) (by exact hh.out.1.2)).mono ?_); rintro e w' ⟨rfl, ⟨nd, rfl⟩⟩))
        refine (iface_Version.calls k s r _ hV.out).mono ?_
        rintro e w2 ⟨rfl, hb2⟩
        have HK2 := Aside0.mk (HK.out.after (below_step (pw_below_drewN (Below.refl _ _) _) hb2))
        clear hb2 hh HK
        go_wp2_with fail
        go_ret2
        exact ⟨rfl, HK2.out⟩
      · have d2 : decide (v < 1) = false := decide_eq_false h3
        have d3 : decide (r < v) = true := decide_eq_true (h2.resolve_left h3)
        clear he h2 h3
        clear hK hv
        go_enter Try.func12, Try.ntmps12
        go_wp2_with (first | (go_at_call 27; (with_reducible refine (usable_is _ g true (by exact hh.out.1.1) (by exact hh.out.1.2)).mono ?_); rintro e w' ⟨rfl, ⟨nd, rfl⟩⟩))
        refine (iface_Version.calls k s r _ hV.out).mono ?_
        rintro e w2 ⟨rfl, hb2⟩
        have HK2 := Aside0.mk (HK.out.after (below_step (pw_below_drewN (Below.refl _ _) _) hb2))
        clear hb2 hh HK
        go_wp2_with fail
        go_ret2
        exact ⟨rfl, HK2.out⟩
    · rw [if_neg h2] at he ⊢
      have d2 : decide (v < 1) = false := decide_eq_false (fun h => h2 (.inl h))
      have d3 : decide (r < v) = false := decide_eq_false (fun h => h2 (.inr h))
      by_cases h3 : (qa.length : Int) ≥ 64
      · rw [if_pos h3] at he ⊢
        have d4 : decide (64 ≤ qa.length) = true := decide_eq_true (by omega)
        have d5 : decide (64 ≤ (qa.length : Int)) = true := decide_eq_true (by omega)
        clear he h2 h3
        clear hK hv
        go_enter Try.func12, Try.ntmps12
        go_wp2_with (first | (go_at_call 27; (with_reducible refine (usable_is _ g true (by exact hh.out.1.1) (by exact hh.out.1.2)).mono ?_); rintro e w' ⟨rfl, ⟨nd, rfl⟩⟩))
        refine (iface_Version.calls k s r _ hV.out).mono ?_
        rintro e w2 ⟨rfl, hb2⟩
        have HK2 := Aside0.mk (HK.out.after (below_step (pw_below_drewN (Below.refl _ _) _) hb2))
        clear hb2 hh HK
        have z1 := HK2.out.cells.2.2.1.1
        go_wp2_with fail
        go_ret2
        exact ⟨rfl, HK2.out⟩
      · rw [if_neg h3] at he
        exact absurd rfl he
set_option maxHeartbeats 8000000 in
set_option maxRecDepth 100000 in
theorem add_ok (w0 w : World) (g : Nat) (last : Int) (va vr vl : Value) (qa qr ql : List S49) (s : ByteArray) (v : Int) (k : Nat) (r : Int) (hK : Reg w0 w g last va vr vl qa qr ql) (hv : iface_Version.f k s = some r) (he : addErr r v qa.length = 0) (hlast : 0 ≤ last) (hlast2 : last ≤ 1000000) (hq : qa.length ≤ 100000 ∧ qr.length ≤ 100000 ∧ ql.length ≤ 100000) : Calls Try.prog 12 #[.pointer (some ⟨g, 0, none⟩), .string s, .int .i64 v] w fun e w' => e = .returned (.tuple #[.int .u32 (last + 1), .int .i64 0]) ∧ ∃ va' vl', Reg w0 w' g (last + 1) va' vr vl' (qa ++ [⟨last + 1, s, v⟩]) qr (ql ++ [⟨last + 1, s, v⟩]) := by
  have hu60 := Try.underlying60
  have hu49 := Try.underlying49
  obtain ⟨Aa, ca, rfl⟩ := Kd.R_slice hK.a
  have hh := Aside0.mk hK.cells
  have HK := Aside0.mk hK
  have hV := Aside0.mk hv
  unfold addErr at he
  by_cases h1 : r = 0
  · rw [if_pos h1] at he
    cases he
  rw [if_neg h1] at he
  by_cases h2 : v < 1 ∨ v > r
  · rw [if_pos h2] at he
    cases he
  rw [if_neg h2] at he
  by_cases h3 : (qa.length : Int) ≥ 64
  · rw [if_pos h3] at he
    cases he
  have d1 : (r == 0) = false := beq_false_of_ne h1
  have d2 : decide (v < 1) = false := decide_eq_false (fun h => h2 (.inl h))
  have d3 : decide (r < v) = false := decide_eq_false (fun h => h2 (.inr h))
  have d4 : decide (64 ≤ qa.length) = false := decide_eq_false (by omega)
  have d5 : decide (64 ≤ (qa.length : Int)) = false := decide_eq_false (by omega)
  have lw : (last + 1) % 4294967296 = last + 1 := by omega
  have HQ : Aside0 (qa.length ≤ 100000 ∧ qr.length ≤ 100000 ∧ ql.length ≤ 100000) := ⟨hq⟩
  clear he h1 h2 h3 hq
  clear hK hv
  go_enter Try.func12, Try.ntmps12
  go_wp2_with (first | (go_at_call 27; (with_reducible refine (usable_is _ g true (by exact hh.out.1.1) (by exact hh.out.1.2)).mono ?_); rintro e w' ⟨rfl, ⟨nd, rfl⟩⟩))
  refine (iface_Version.calls k s r _ hV.out).mono ?_
  rintro e w2 ⟨rfl, hb2⟩
  have HK2 := Aside0.mk (HK.out.after (below_step (pw_below_drewN (Below.refl _ _) _) hb2))
  clear hb2 hh HK
  have z1 := HK2.out.cells.2.2.1.1
  have z2 := HK2.out.cells.2.1.1
  have z3 := HK2.out.cells.2.1.2
  go_wp2_with fail
  have hsz : (w2.setCell ⟨g, 1, none⟩ (.int .u32 (last + 1))).heap.size = w2.heap.size := by simp [World.setCell]
  have HK3 := Aside0.mk (HK2.out.setLast (last + 1))
  obtain ⟨hR4, hb4⟩ := allocs1 (w2.setCell ⟨g, 1, none⟩ (.int .u32 (last + 1))) (Obj.cells #[.int .u32 (last + 1), .string s, .int .i64 v] 49)
  have HK5 := Aside0.mk (HK3.out.after hb4)
  rw [hsz] at hR4
  have hgz2 : Aside0 (some w2.heap.size ≠ (Value.slice Aa qa.length ca).ownBlock) := ⟨fun e => Nat.lt_irrefl _ (Kd.R_lt HK2.out.a _ e.symm)⟩
  have hgz4 : Aside0 (some w2.heap.size ≠ vl.ownBlock) := ⟨fun e => Nat.lt_irrefl _ (Kd.R_lt HK2.out.l _ e.symm)⟩
  have hgg : Aside0 (w2.heap.size ≠ g) := ⟨fun e => Nat.lt_irrefl _ (e ▸ blk_lt HK2.out.blk)⟩
  generalize (w2.setCell ⟨g, 1, none⟩ (.int .u32 (last + 1))).alloc (Obj.cells #[.int .u32 (last + 1), .string s, .int .i64 v] 49) = w5 at hR4 hb4 HK5 ⊢
  generalize w2.heap.size = gz at hR4 hgz2 hgz4 hgg ⊢
  have HG5 := Aside0.mk hR4
  clear hR4 hb4 HK3 HK2 z1 z2 z3 hsz
  have HK5d := Aside0.mk HK5.out.drew
  have HG5d := Aside0.mk (blk_drew HG5.out)
  refine start_ (n := 11) (S := fun w' => w'.cell? ⟨g, 2, none⟩ = some (.slice Aa qa.length ca) ∧ w'.frozen? ⟨g, 2, none⟩ = false ∧ w'.cell? ⟨gz, 0, none⟩ = some (.int .u32 (last + 1)) ∧ w'.cell? ⟨gz, 1, none⟩ = some (.string s) ∧ w'.cell? ⟨gz, 2, none⟩ = some (.int .i64 v)) (ds := [10]) #[false, false, false, false, false, false, false, false, false, false, false] (by kernel_rfl) rfl rfl ⟨HK5d.out.cells.2.2.1.1, HK5d.out.cells.2.2.1.2, (blk_cell HG5d.out 0).trans rfl, (blk_cell HG5d.out 1).trans rfl, (blk_cell HG5d.out 2).trans rfl⟩ (fun hHeld => ?_)
  clear HK5 HG5
  generalize w5.drew = W at HK5d HG5d hHeld ⊢
  have HT_ : Aside0 (rtab .any (opsOf Try.f12 12) = rtab .any (opsOf Try.f12 12)) := ⟨rfl⟩
  refine pv_ 0 47 #[true, false, false, false, false, false, false, false, false, false, false] HT_ ?_
  refine pv_ 1 48 #[true, true, false, false, false, false, false, false, false, false, false] HT_ ?_
  refine pv_ 2 49 #[true, true, true, false, false, false, false, false, false, false, false] HT_ ?_
  refine pv_ 3 50 #[true, true, true, true, false, false, false, false, false, false, false] HT_ ?_
  refine take_ (i := 4) (N := some 51) (v := ?_) (a' := ?_) #[true, true, true, true, true, false, false, false, false, false, false] rfl rfl (take_of HT_.out (by kernel_rfl)) (fun _ _ _ h => h) (Or.inl ⟨by rfl, ?_⟩) hHeld ?_ ?_
  rotate_left
  · rintro w' ⟨s0, s1, s2, s3, s4⟩
    go_simp
    with_reducible rfl
  rotate_left
  · simp only [Act.put, List.setIfInBounds_toArray, List.set_cons_zero, List.set_cons_succ, i64_w, i32_w]
    rfl
  refine take_ (i := 5) (N := some 52) (v := ?_) (a' := ?_) #[true, true, true, true, true, true, false, false, false, false, false] rfl rfl (take_of HT_.out (by kernel_rfl)) (fun _ _ _ h => h) (Or.inl ⟨by rfl, ?_⟩) hHeld ?_ ?_
  rotate_left
  · rintro w' ⟨s0, s1, s2, s3, s4⟩
    go_simp
    with_reducible rfl
  rotate_left
  · simp only [Act.put, List.setIfInBounds_toArray, List.set_cons_zero, List.set_cons_succ, i64_w, i32_w]
    rfl
  refine one_ (i := 6) (N := some 53) #[true, true, true, true, true, true, true, false, false, false, false] rfl rfl (one_of HT_.out (by kernel_rfl)) (by decide) (fun K hK => ?_)
  refine event_step (by rfl) (v := .slice (some ⟨W.heap.size, 0, none⟩) 1 1) (w1 := W.alloc (.cells #[.int .u32 ((⟨last + 1, s, v⟩ : S49)).f0, .string ((⟨last + 1, s, v⟩ : S49)).f1, .int .i64 ((⟨last + 1, s, v⟩ : S49)).f2] 49 (0, 0))) ?hr ?_
  case hr => first | (go_simp; done) | (go_simp; rfl)
  have HKb := Aside0.mk (HK5d.out.after (below_alloc (Below.refl _ _) (.cells #[.int .u32 ((⟨last + 1, s, v⟩ : S49)).f0, .string ((⟨last + 1, s, v⟩ : S49)).f1, .int .i64 ((⟨last + 1, s, v⟩ : S49)).f2] 49 (0, 0))))
  have HGb := Aside0.mk (blk_alloc HG5d.out (.cells #[.int .u32 ((⟨last + 1, s, v⟩ : S49)).f0, .string ((⟨last + 1, s, v⟩ : S49)).f1, .int .i64 ((⟨last + 1, s, v⟩ : S49)).f2] 49 (0, 0)))
  refine hK.out _ _ ⟨HKb.out.cells.2.2.1.1, HKb.out.cells.2.2.1.2, (blk_cell HGb.out 0).trans rfl, (blk_cell HGb.out 1).trans rfl, (blk_cell HGb.out 2).trans rfl⟩ (fun hHeld => ?_)
  clear hK K HKb HGb
  refine norm_ (a' := ?_) ?_ ?_
  rotate_left
  · show Act.put _ (some 53) _ = _
    simp only [Act.put, List.setIfInBounds_toArray, List.set_cons_zero, List.set_cons_succ, i64_w, i32_w]
    rfl
  refine one_ (i := 7) (N := some 54) #[true, true, true, true, true, true, true, true, false, false, false] rfl rfl (one_of HT_.out (by kernel_rfl)) (by decide) (fun K hK => ?_)
  refine Kd.R_append_step k49 (w0 := w0) w0.heap.size (by rfl) (.tmp 51) (.tmp 53) 26 49 (.agg #[(.int .u32 0), (.string ⟨#[]⟩), (.int .i64 0)]) 32 (by rfl) Try.underlying26 info49 rfl (by decide) (by omega) (.slice Aa qa.length ca) qa (⟨last + 1, s, v⟩ : S49) [.int .u32 ((⟨last + 1, s, v⟩ : S49)).f0, .string ((⟨last + 1, s, v⟩ : S49)).f1, .int .i64 ((⟨last + 1, s, v⟩ : S49)).f2] (fun _ => True) (fun _ => False) rfl rfl (k49_mkM _ _ _ (⟨last + 1, s, v⟩ : S49)) (fun _ hk => hk.elim) (fun _ _ => trivial) HK5d.out.a HK5d.out.below HK5d.out.below.size (by have := HQ.out; omega) ?_
  intro v3 w3 ho hb hg hat
  have HRA := Aside0.mk ho
  have HGA : Aside0 (w3.heap[gz]? = _) := ⟨blk_grown HG5d.out hg (hgz2.out)⟩
  have BKA := Aside0.mk (blk_grown HK5d.out.blk hg (Ne.symm HK5d.out.off.1))
  obtain ⟨A3, c3, e3⟩ := Kd.R_slice ho
  subst e3
  have HKA := Aside0.mk (HK5d.out.appA ho hb hg hat)
  have hatA := Aside0.mk hat
  have hszA := Aside0.mk hg.size
  have fz := blk_frozen BKA.out 2
  have cz : w3.cell? ⟨g, 2, none⟩ = some (.slice Aa qa.length ca) := (blk_cell BKA.out 2).trans rfl
  refine hK.out _ _ ⟨cz, fz, (blk_cell HGA.out 0).trans rfl, (blk_cell HGA.out 1).trans rfl, (blk_cell HGA.out 2).trans rfl⟩ (fun hHeld => ?_)
  clear hK K ho hb hg hat HK5d HG5d cz fz
  refine norm_ (a' := ?_) ?_ ?_
  rotate_left
  · show Act.put _ (some 54) _ = _
    simp only [Act.put, List.setIfInBounds_toArray, List.set_cons_zero, List.set_cons_succ, i64_w, i32_w]
    rfl
  refine pv_ 8 55 #[true, true, true, true, true, true, true, true, true, false, false] HT_ ?_
  refine pv_ 9 56 #[true, true, true, true, true, true, true, true, true, true, false] HT_ ?_
  refine last_ (i := 10) (N := none) #[true, true, true, true, true, true, true, true, true, true, true] rfl rfl (one_of HT_.out (by kernel_rfl)) (by decide) (fun K hK => ?_)
  have fz := blk_frozen BKA.out 2
  have cz : w3.cell? ⟨g, 2, none⟩ = some (.slice Aa qa.length ca) := (blk_cell BKA.out 2).trans rfl
  have HRB := HRA.out
  have HKB := HKA.out
  simp only [List.length_append, List.length_cons, List.length_nil, Nat.zero_add] at HRB HKB
  have HKC := Aside0.mk HKB
  have HRC := Aside0.mk HRB
  clear HKA HRA HRB HKB
  refine skip_ (w1 := ?_) (by rfl) rfl ?_ ?_
  rotate_left
  · go_simp
    rfl
  refine hK.out _ _ ?_
  clear hK K cz fz BKA
  refine done_ (done_of HT_.out (by kernel_rfl)) ?_
  have hne : gz ≠ g := fun e => hgg.out e
  have HG6 := Aside0.mk (blk_far HGA.out (p := ⟨g, 2, none⟩) hne (.slice A3 (qa.length + 1) c3))
  have HK6 := HKC
  clear HKC HRC HGA hatA hszA hne
  generalize w3.setCell ⟨g, 2, none⟩ (.slice A3 (qa.length + 1) c3) = w6 at HG6 HK6 ⊢
  go_wp2_with fail
  have HK6d := Aside0.mk HK6.out.drew
  have HG6d := Aside0.mk (blk_drew HG6.out)
  refine start_ (n := 11) (S := fun w' => w'.cell? ⟨g, 4, none⟩ = some vl ∧ w'.frozen? ⟨g, 4, none⟩ = false ∧ w'.cell? ⟨gz, 0, none⟩ = some (.int .u32 (last + 1)) ∧ w'.cell? ⟨gz, 1, none⟩ = some (.string s) ∧ w'.cell? ⟨gz, 2, none⟩ = some (.int .i64 v)) (ds := [10]) #[false, false, false, false, false, false, false, false, false, false, false] (by kernel_rfl) rfl rfl ⟨HK6d.out.cells.2.2.2.2.1, HK6d.out.cells.2.2.2.2.2, (blk_cell HG6d.out 0).trans rfl, (blk_cell HG6d.out 1).trans rfl, (blk_cell HG6d.out 2).trans rfl⟩ (fun hHeld => ?_)
  clear HK6 HG6
  generalize w6.drew = W at HK6d HG6d hHeld ⊢
  have HT_ : Aside0 (rtab .any (opsOf Try.f12 13) = rtab .any (opsOf Try.f12 13)) := ⟨rfl⟩
  refine pv_ 0 57 #[true, false, false, false, false, false, false, false, false, false, false] HT_ ?_
  refine pv_ 1 58 #[true, true, false, false, false, false, false, false, false, false, false] HT_ ?_
  refine pv_ 2 59 #[true, true, true, false, false, false, false, false, false, false, false] HT_ ?_
  refine pv_ 3 60 #[true, true, true, true, false, false, false, false, false, false, false] HT_ ?_
  refine take_ (i := 4) (N := some 61) (v := ?_) (a' := ?_) #[true, true, true, true, true, false, false, false, false, false, false] rfl rfl (take_of HT_.out (by kernel_rfl)) (fun _ _ _ h => h) (Or.inl ⟨by rfl, ?_⟩) hHeld ?_ ?_
  rotate_left
  · rintro w' ⟨s0, s1, s2, s3, s4⟩
    go_simp
    with_reducible rfl
  rotate_left
  · simp only [Act.put, List.setIfInBounds_toArray, List.set_cons_zero, List.set_cons_succ, i64_w, i32_w]
    rfl
  refine take_ (i := 5) (N := some 62) (v := ?_) (a' := ?_) #[true, true, true, true, true, true, false, false, false, false, false] rfl rfl (take_of HT_.out (by kernel_rfl)) (fun _ _ _ h => h) (Or.inl ⟨by rfl, ?_⟩) hHeld ?_ ?_
  rotate_left
  · rintro w' ⟨s0, s1, s2, s3, s4⟩
    go_simp
    with_reducible rfl
  rotate_left
  · simp only [Act.put, List.setIfInBounds_toArray, List.set_cons_zero, List.set_cons_succ, i64_w, i32_w]
    rfl
  refine one_ (i := 6) (N := some 63) #[true, true, true, true, true, true, true, false, false, false, false] rfl rfl (one_of HT_.out (by kernel_rfl)) (by decide) (fun K hK => ?_)
  refine event_step (by rfl) (v := .slice (some ⟨W.heap.size, 0, none⟩) 1 1) (w1 := W.alloc (.cells #[.int .u32 ((⟨last + 1, s, v⟩ : S49)).f0, .string ((⟨last + 1, s, v⟩ : S49)).f1, .int .i64 ((⟨last + 1, s, v⟩ : S49)).f2] 49 (0, 0))) ?hr ?_
  case hr => first | (go_simp; done) | (go_simp; rfl)
  have HKb := Aside0.mk (HK6d.out.after (below_alloc (Below.refl _ _) (.cells #[.int .u32 ((⟨last + 1, s, v⟩ : S49)).f0, .string ((⟨last + 1, s, v⟩ : S49)).f1, .int .i64 ((⟨last + 1, s, v⟩ : S49)).f2] 49 (0, 0))))
  have HGb := Aside0.mk (blk_alloc HG6d.out (.cells #[.int .u32 ((⟨last + 1, s, v⟩ : S49)).f0, .string ((⟨last + 1, s, v⟩ : S49)).f1, .int .i64 ((⟨last + 1, s, v⟩ : S49)).f2] 49 (0, 0)))
  refine hK.out _ _ ⟨HKb.out.cells.2.2.2.2.1, HKb.out.cells.2.2.2.2.2, (blk_cell HGb.out 0).trans rfl, (blk_cell HGb.out 1).trans rfl, (blk_cell HGb.out 2).trans rfl⟩ (fun hHeld => ?_)
  clear hK K HKb HGb
  refine norm_ (a' := ?_) ?_ ?_
  rotate_left
  · show Act.put _ (some 63) _ = _
    simp only [Act.put, List.setIfInBounds_toArray, List.set_cons_zero, List.set_cons_succ, i64_w, i32_w]
    rfl
  refine one_ (i := 7) (N := some 64) #[true, true, true, true, true, true, true, true, false, false, false] rfl rfl (one_of HT_.out (by kernel_rfl)) (by decide) (fun K hK => ?_)
  refine Kd.R_append_step k49 (w0 := w0) w0.heap.size (by rfl) (.tmp 61) (.tmp 63) 26 49 (.agg #[(.int .u32 0), (.string ⟨#[]⟩), (.int .i64 0)]) 32 (by rfl) Try.underlying26 info49 rfl (by decide) (by omega) vl ql (⟨last + 1, s, v⟩ : S49) [.int .u32 ((⟨last + 1, s, v⟩ : S49)).f0, .string ((⟨last + 1, s, v⟩ : S49)).f1, .int .i64 ((⟨last + 1, s, v⟩ : S49)).f2] (fun _ => True) (fun _ => False) rfl rfl (k49_mkM _ _ _ (⟨last + 1, s, v⟩ : S49)) (fun _ hk => hk.elim) (fun _ _ => trivial) HK6d.out.l HK6d.out.below HK6d.out.below.size (by have := HQ.out; omega) ?_
  intro v3 w3 ho hb hg hat
  have HRA := Aside0.mk ho
  have HGA : Aside0 (w3.heap[gz]? = _) := ⟨blk_grown HG6d.out hg (hgz4.out)⟩
  have BKA := Aside0.mk (blk_grown HK6d.out.blk hg (Ne.symm HK6d.out.off.2.2))
  obtain ⟨A3, c3, e3⟩ := Kd.R_slice ho
  subst e3
  have HKA := Aside0.mk (HK6d.out.appL ho hb hg hat)
  have hatA := Aside0.mk hat
  have hszA := Aside0.mk hg.size
  have fz := blk_frozen BKA.out 4
  have cz : w3.cell? ⟨g, 4, none⟩ = some vl := (blk_cell BKA.out 4).trans rfl
  refine hK.out _ _ ⟨cz, fz, (blk_cell HGA.out 0).trans rfl, (blk_cell HGA.out 1).trans rfl, (blk_cell HGA.out 2).trans rfl⟩ (fun hHeld => ?_)
  clear hK K ho hb hg hat HK6d HG6d cz fz
  refine norm_ (a' := ?_) ?_ ?_
  rotate_left
  · show Act.put _ (some 64) _ = _
    simp only [Act.put, List.setIfInBounds_toArray, List.set_cons_zero, List.set_cons_succ, i64_w, i32_w]
    rfl
  refine pv_ 8 65 #[true, true, true, true, true, true, true, true, true, false, false] HT_ ?_
  refine pv_ 9 66 #[true, true, true, true, true, true, true, true, true, true, false] HT_ ?_
  refine last_ (i := 10) (N := none) #[true, true, true, true, true, true, true, true, true, true, true] rfl rfl (one_of HT_.out (by kernel_rfl)) (by decide) (fun K hK => ?_)
  have fz := blk_frozen BKA.out 4
  have cz : w3.cell? ⟨g, 4, none⟩ = some vl := (blk_cell BKA.out 4).trans rfl
  have HRB := HRA.out
  have HKB := HKA.out
  simp only [List.length_append, List.length_cons, List.length_nil, Nat.zero_add] at HRB HKB
  have HKC := Aside0.mk HKB
  have HRC := Aside0.mk HRB
  clear HKA HRA HRB HKB
  refine skip_ (w1 := ?_) (by rfl) rfl ?_ ?_
  rotate_left
  · go_simp
    rfl
  refine hK.out _ _ ?_
  clear hK K cz fz BKA
  refine done_ (done_of HT_.out (by kernel_rfl)) ?_
  have hne : gz ≠ g := fun e => hgg.out e
  have HG7 := Aside0.mk (blk_far HGA.out (p := ⟨g, 4, none⟩) hne (.slice A3 (ql.length + 1) c3))
  clear HGA hatA hszA hne
  generalize w3.setCell ⟨g, 4, none⟩ (.slice A3 (ql.length + 1) c3) = w7 at HG7 HKC ⊢
  have z0 := (blk_cell HG7.out 0).trans rfl
  go_wp2_with fail
  go_ret2
  exact ⟨rfl, _, _, HKC.out⟩
set_option maxHeartbeats 8000000 in
set_option maxRecDepth 100000 in
theorem remove_err (w0 w : World) (g : Nat) (last nm : Int) (va vr vl : Value) (qa qr ql : List S49) (hK : Reg w0 w g last va vr vl qa qr ql) (hq : qa.length ≤ 100000 ∧ qr.length ≤ 100000 ∧ ql.length ≤ 100000) (hn : (qa.any fun x => x.f0 == nm) = false) : Calls Try.prog 14 #[.pointer (some ⟨g, 0, none⟩), .int .u32 nm] w fun e w' => e = .returned (.int .i64 8) ∧ Reg w0 w' g last va vr vl qa qr ql := by
  have hu60 := Try.underlying60
  have hu49 := Try.underlying49
  have hu26 := Try.underlying26
  obtain ⟨Aa, ca, rfl⟩ := Kd.R_slice hK.a
  have hh := Aside0.mk hK.cells
  have HK := Aside0.mk hK
  have HQ : Aside0 (qa.length ≤ 100000 ∧ qr.length ≤ 100000 ∧ ql.length ≤ 100000) := ⟨hq⟩
  have hi := Aside0.mk (idx_none (fun x : S49 => x.f0 == nm) qa 0 hn)
  clear hK hq hn
  have z1 := hh.out.2.2.1.1
  go_enter Try.func14, Try.ntmps14
  go_wp2_with (first | (go_at_call 27; (with_reducible refine (usable_is _ g true (by exact hh.out.1.1) (by exact hh.out.1.2)).mono ?_); rintro e w' ⟨rfl, ⟨nd, rfl⟩⟩))
  have HK1 := Aside0.mk (HK.out.drewN nd)
  generalize w.drewN nd = w1 at HK1 ⊢
  clear hh HK z1
  refine (find_ok Aa ca qa nm w1 (Kd.R_reads' HK1.out.a).2.2 (by have := HQ.out; omega)).mono ?_
  rintro e w2 ⟨rfl, hb2⟩
  have HK2 := Aside0.mk (HK1.out.after hb2)
  clear hb2 HK1
  rw [hi.out]
  go_wp2_with fail
  go_ret
  exact ⟨rfl, HK2.out⟩
def keep16 (l : List S49) : List S49 := if l.length > 16 then l.drop 1 else l
set_option maxHeartbeats 8000000 in
set_option maxRecDepth 100000 in
theorem remove_ok (w0 w : World) (g : Nat) (last nm : Int) (va vr vl : Value) (qa qr ql : List S49) (hK : Reg w0 w g last va vr vl qa qr ql) (hq : qa.length ≤ 100000 ∧ qr.length ≤ 100000 ∧ ql.length ≤ 100000) (x : S49) (at_ : Nat) (hi0 : idxOf (fun x : S49 => x.f0 == nm) qa 0 = (at_ : Int)) (hat0 : at_ < qa.length) (hx0 : rd_T49 qa (at_ : Int) = x) (hr16 : qr.length ≤ 16) : Calls Try.prog 14 #[.pointer (some ⟨g, 0, none⟩), .int .u32 nm] w fun e w' => e = .returned (.int .i64 0) ∧ ∃ va' vr' vl', Reg w0 w' g last va' vr' vl' (qa.filter fun y => !eqB y x) (keep16 (qr ++ [x])) (ql ++ [⟨x.f0, x.f1, 0⟩]) := by
  have hu60 := Try.underlying60
  have hu49 := Try.underlying49
  have hu26 := Try.underlying26
  obtain ⟨Aa, ca, rfl⟩ := Kd.R_slice hK.a
  have hh := Aside0.mk hK.cells
  have HK := Aside0.mk hK
  have HQ : Aside0 (qa.length ≤ 100000 ∧ qr.length ≤ 100000 ∧ ql.length ≤ 100000) := ⟨hq⟩
  have hi := Aside0.mk hi0
  have hA := Aside0.mk (And.intro hat0 hx0)
  have hr := Aside0.mk hr16
  have hil : (at_ : Int) < (qa.length : Int) := by omega
  clear hK hq hi0 hat0 hx0 hr16
  have z1 := hh.out.2.2.1.1
  go_enter Try.func14, Try.ntmps14
  go_wp2_with (first | (go_at_call 27; (with_reducible refine (usable_is _ g true (by exact hh.out.1.1) (by exact hh.out.1.2)).mono ?_); rintro e w' ⟨rfl, ⟨nd, rfl⟩⟩))
  have HK1 := Aside0.mk (HK.out.drewN nd)
  generalize w.drewN nd = w1 at HK1 ⊢
  clear hh HK z1
  refine (find_ok Aa ca qa nm w1 (Kd.R_reads' HK1.out.a).2.2 (by have := HQ.out; omega)).mono ?_
  rintro e w2 ⟨rfl, hb2⟩
  have HK2 := Aside0.mk (HK1.out.after hb2)
  clear hb2 HK1
  rw [hi.out]
  obtain ⟨ad, e0, x0, x1, x2⟩ := at_T49 (Kd.R_reads' HK2.out.a).2.2 (at_ : Int) (by omega) hil
  subst e0
  rw [hA.out.2] at x0 x1 x2
  simp only [Int.toNat_natCast] at x0 x1 x2
  have z2 := HK2.out.cells.2.2.1.1
  obtain ⟨hR3, hb3⟩ := allocs1 w2 (Obj.cells #[.int .u32 x.f0, .string x.f1, .int .i64 x.f2] 49)
  have HK3 := Aside0.mk (HK2.out.after hb3)
  have HG3 := Aside0.mk hR3
  have hgg : Aside0 (w2.heap.size ≠ g) := ⟨fun e => Nat.lt_irrefl _ (e ▸ blk_lt HK2.out.blk)⟩
  have hgz3 : Aside0 (some w2.heap.size ≠ vr.ownBlock) := ⟨fun e => Nat.lt_irrefl _ (HK2.out.r.base _ e.symm).2.1⟩
  have hgz4 : Aside0 (some w2.heap.size ≠ vl.ownBlock) := ⟨fun e => Nat.lt_irrefl _ (Kd.R_lt HK2.out.l _ e.symm)⟩
  have z3 : (w2.alloc (Obj.cells #[.int .u32 x.f0, .string x.f1, .int .i64 x.f2] 49)).cell? ⟨g, 2, none⟩ = some (.slice (some ad) qa.length ca) := HK3.out.cells.2.2.1.1
  have dat : decide ((at_ : Int) < 0) = false := decide_eq_false (by omega)
  clear hR3 hb3
  go_wp2_with fail
  generalize w2.alloc (Obj.cells #[.int .u32 x.f0, .string x.f1, .int .i64 x.f2] 49) = w3 at HK3 HG3 z3 ⊢
  clear z2 z3 x0 x1 x2 HK2
  generalize w2.heap.size = gz at HG3 hgg hgz3 hgz4 ⊢
  refine (clone_ok (some ad) ca qa w3 (Kd.R_reads' HK3.out.a).2.2 (Kd.R_reads' HK3.out.a).2.1 (by have := HQ.out; omega)).mono ?_
  rintro e w4 ⟨v4, rfl, hR4, hb4⟩
  obtain ⟨A4, c4, e4⟩ := Kd.R_slice hR4
  subst e4
  have HR4 := Aside0.mk hR4
  have HB4 := Aside0.mk hb4
  clear hR4 hb4
  go_wp2_with fail
  have hmem : x ∈ qa := by
    have h := hA.out.2
    rw [rd49_get qa at_ hA.out.1] at h
    rw [← h]
    exact List.getElem_mem _
  have hany : qa.any (fun y => eqB y x) = true := List.any_eq_true.2 ⟨x, hmem, by simp [eqB]⟩
  refine (delete_calls 34 Try.f34 #[.pointer (some ⟨gz, 0, none⟩)] Try.func34 (by kernel_rfl) rfl w3 w4 A4 c4 qa HR4.out HB4.out (by have := HQ.out; omega) (fun y => eqB y x) hany (fun y W hW => rem1_ok W gz y x (blk_below HG3.out hW))).mono ?_
  clear hany hmem
  rintro e w5 ⟨v5, rfl, hR5, hb5⟩
  obtain ⟨A5, c5, e5⟩ := Kd.R_slice hR5
  subst e5
  have hsep : Aside0 (∀ k, (Value.slice A5 (qa.filter fun y => !eqB y x).length c5).ownBlock = some k → vl.ownBlock ≠ some k ∧ vr.ownBlock ≠ some k) := ⟨fun k hk => ⟨fun e => Nat.lt_irrefl _ (Nat.lt_of_lt_of_le (Kd.R_lt HK3.out.l k e) (Kd.R_base hR5 k hk)), fun e => Nat.lt_irrefl _ (Nat.lt_of_lt_of_le (HK3.out.r.base k e).2.1 (Kd.R_base hR5 k hk))⟩⟩
  have HKs := Aside0.mk (HK3.out.after hb5)
  have HG4 := Aside0.mk (blk_below HG3.out hb5)
  have HR5 := Aside0.mk (Kd.R_lower hR5 HK3.out.below.size)
  have z4 := HKs.out.cells.2.2.1
  obtain ⟨z5, z6⟩ := z4
  clear hR5 hb5 HR4 HB4 HK3 HG3
  have HK5 := Aside0.mk (HKs.out.setA HR5.out hsep.out)
  have HG5 := Aside0.mk (blk_far HG4.out (p := ⟨g, 2, none⟩) hgg.out (.slice A5 (qa.filter fun y => !eqB y x).length c5))
  obtain ⟨qf, hqf⟩ : ∃ qf, qf = qa.filter (fun y => !eqB y x) := ⟨_, rfl⟩
  rw [← hqf] at HK5 HG5 HR5 hsep ⊢
  have HQF := Aside0.mk hqf
  clear hqf
  go_wp2_with fail
  generalize w5.setCell ⟨g, 2, none⟩ (.slice A5 qf.length c5) = w6 at HK5 HG5 ⊢
  clear z5 z6 HKs HG4 HR5 hsep
  have HK5d := Aside0.mk HK5.out.drew
  have HG5d := Aside0.mk (blk_drew HG5.out)
  refine start_ (n := 11) (S := fun w' => w'.cell? ⟨g, 3, none⟩ = some vr ∧ w'.frozen? ⟨g, 3, none⟩ = false ∧ w'.cell? ⟨gz, 0, none⟩ = some (.int .u32 x.f0) ∧ w'.cell? ⟨gz, 1, none⟩ = some (.string x.f1) ∧ w'.cell? ⟨gz, 2, none⟩ = some (.int .i64 x.f2)) (ds := [10]) #[false, false, false, false, false, false, false, false, false, false, false] (by kernel_rfl) rfl rfl ⟨HK5d.out.cells.2.2.2.1.1, HK5d.out.cells.2.2.2.1.2, (blk_cell HG5d.out 0).trans rfl, (blk_cell HG5d.out 1).trans rfl, (blk_cell HG5d.out 2).trans rfl⟩ (fun hHeld => ?_)
  clear HK5 HG5
  generalize w6.drew = W at HK5d HG5d hHeld ⊢
  have HT_ : Aside0 (rtab .any (opsOf Try.f14 8) = rtab .any (opsOf Try.f14 8)) := ⟨rfl⟩
  refine pv_ 0 36 #[true, false, false, false, false, false, false, false, false, false, false] HT_ ?_
  refine pv_ 1 37 #[true, true, false, false, false, false, false, false, false, false, false] HT_ ?_
  refine pv_ 2 38 #[true, true, true, false, false, false, false, false, false, false, false] HT_ ?_
  refine pv_ 3 39 #[true, true, true, true, false, false, false, false, false, false, false] HT_ ?_
  refine take_ (i := 4) (N := some 40) (v := ?_) (a' := ?_) #[true, true, true, true, true, false, false, false, false, false, false] rfl rfl (take_of HT_.out (by kernel_rfl)) (fun _ _ _ h => h) (Or.inl ⟨by rfl, ?_⟩) hHeld ?_ ?_
  rotate_left
  · rintro w' ⟨s0, s1, s2, s3, s4⟩
    go_simp
    with_reducible rfl
  rotate_left
  · simp only [Act.put, List.setIfInBounds_toArray, List.set_cons_zero, List.set_cons_succ, i64_w, i32_w]
    rfl
  refine take_ (i := 5) (N := some 41) (v := ?_) (a' := ?_) #[true, true, true, true, true, true, false, false, false, false, false] rfl rfl (take_of HT_.out (by kernel_rfl)) (fun _ _ _ h => h) (Or.inl ⟨by rfl, ?_⟩) hHeld ?_ ?_
  rotate_left
  · rintro w' ⟨s0, s1, s2, s3, s4⟩
    go_simp
    with_reducible rfl
  rotate_left
  · simp only [Act.put, List.setIfInBounds_toArray, List.set_cons_zero, List.set_cons_succ, i64_w, i32_w]
    rfl
  refine one_ (i := 6) (N := some 42) #[true, true, true, true, true, true, true, false, false, false, false] rfl rfl (one_of HT_.out (by kernel_rfl)) (by decide) (fun K hK => ?_)
  refine event_step (by rfl) (v := .slice (some ⟨W.heap.size, 0, none⟩) 1 1) (w1 := W.alloc (.cells #[.int .u32 (x).f0, .string (x).f1, .int .i64 (x).f2] 49 (0, 0))) ?hr ?_
  case hr => first | (go_simp; done) | (go_simp; rfl)
  have HKb := Aside0.mk (HK5d.out.after (below_alloc (Below.refl _ _) (.cells #[.int .u32 (x).f0, .string (x).f1, .int .i64 (x).f2] 49 (0, 0))))
  have HGb := Aside0.mk (blk_alloc HG5d.out (.cells #[.int .u32 (x).f0, .string (x).f1, .int .i64 (x).f2] 49 (0, 0)))
  refine hK.out _ _ ⟨HKb.out.cells.2.2.2.1.1, HKb.out.cells.2.2.2.1.2, (blk_cell HGb.out 0).trans rfl, (blk_cell HGb.out 1).trans rfl, (blk_cell HGb.out 2).trans rfl⟩ (fun hHeld => ?_)
  clear hK K HKb HGb
  refine norm_ (a' := ?_) ?_ ?_
  rotate_left
  · show Act.put _ (some 42) _ = _
    simp only [Act.put, List.setIfInBounds_toArray, List.set_cons_zero, List.set_cons_succ, i64_w, i32_w]
    rfl
  refine one_ (i := 7) (N := some 43) #[true, true, true, true, true, true, true, true, false, false, false] rfl rfl (one_of HT_.out (by kernel_rfl)) (by decide) (fun K hK => ?_)
  refine Rem_append_step (w0 := w0) (by rfl) (.tmp 40) (.tmp 42) (by rfl) vr qr x rfl rfl HK5d.out.r HK5d.out.below (by have := HQ.out; omega) ?_
  intro v3 w3 ho hb hg hat
  have HRA := Aside0.mk ho
  have HGA : Aside0 (w3.heap[gz]? = _) := ⟨blk_grown HG5d.out hg (hgz3.out)⟩
  have BKA := Aside0.mk (blk_grown HK5d.out.blk hg (Ne.symm HK5d.out.off.2.1))
  obtain ⟨A3, c3, e3⟩ := Kd.R_slice ho
  subst e3
  have HKA := Aside0.mk (HK5d.out.appR ho hb hg hat)
  have hatA := Aside0.mk hat
  have hszA := Aside0.mk hg.size
  have fz := blk_frozen BKA.out 3
  have cz : w3.cell? ⟨g, 3, none⟩ = some vr := (blk_cell BKA.out 3).trans rfl
  refine hK.out _ _ ⟨cz, fz, (blk_cell HGA.out 0).trans rfl, (blk_cell HGA.out 1).trans rfl, (blk_cell HGA.out 2).trans rfl⟩ (fun hHeld => ?_)
  clear hK K ho hb hg hat HK5d HG5d cz fz
  refine norm_ (a' := ?_) ?_ ?_
  rotate_left
  · show Act.put _ (some 43) _ = _
    simp only [Act.put, List.setIfInBounds_toArray, List.set_cons_zero, List.set_cons_succ, i64_w, i32_w]
    rfl
  refine pv_ 8 44 #[true, true, true, true, true, true, true, true, true, false, false] HT_ ?_
  refine pv_ 9 45 #[true, true, true, true, true, true, true, true, true, true, false] HT_ ?_
  refine last_ (i := 10) (N := none) #[true, true, true, true, true, true, true, true, true, true, true] rfl rfl (one_of HT_.out (by kernel_rfl)) (by decide) (fun K hK => ?_)
  have fz := blk_frozen BKA.out 3
  have cz : w3.cell? ⟨g, 3, none⟩ = some vr := (blk_cell BKA.out 3).trans rfl
  have HRB := HRA.out
  have HKB := HKA.out
  simp only [List.length_append, List.length_cons, List.length_nil, Nat.zero_add] at HRB HKB
  have HKC := Aside0.mk HKB
  have HRC := Aside0.mk HRB
  clear HKA HRA HRB HKB
  refine skip_ (w1 := ?_) (by rfl) rfl ?_ ?_
  rotate_left
  · go_simp
    rfl
  refine hK.out _ _ ?_
  clear hK K cz fz BKA
  refine done_ (done_of HT_.out (by kernel_rfl)) ?_
  have HG7 := Aside0.mk (blk_far HGA.out (p := ⟨g, 3, none⟩) hgg.out (.slice A3 (qr.length + 1) c3))
  have HRR : Aside0 (Kd.R k49 49 (w3.setCell ⟨g, 3, none⟩ (.slice A3 (qr.length + 1) c3)) w0.heap.size (fun _ => True) (.slice A3 (qr.length + 1) c3) (qr ++ [x])) := ⟨R_same HRC.out (fun k hk => set_same (fun e => HKC.out.off.2.1 (e ▸ hk)))⟩
  clear HGA hatA hszA HRC
  generalize w3.setCell ⟨g, 3, none⟩ (.slice A3 (qr.length + 1) c3) = w7 at HG7 HKC HRR ⊢
  have z0 := HKC.out.cells.2.2.2.1.1
  have z1 := HKC.out.cells.2.2.2.1.2
  by_cases h16 : qr.length = 16
  · obtain ⟨gb, c, hv3, h17, hcut⟩ := HKC.out.cutR HRR.out (by rw [List.length_append, h16]; rfl)
    have e17 : qr.length + 1 = 17 := by omega
    rw [e17] at hv3 z0 HKC HRR
    injection hv3 with hA3 _ hc3
    subst hA3
    have HC := Aside0.mk hcut
    have HG9 := Aside0.mk (blk_far HG7.out (p := ⟨g, 3, none⟩) hgg.out (.slice (some ⟨gb, 3, none⟩) 16 16))
    have h17' : ¬ c3 < 17 := by omega
    have h17a : 17 ≤ c3 := by omega
    have hk16 : Aside0 (keep16 (qr ++ [x]) = (qr ++ [x]).drop 1) := ⟨by unfold keep16; rw [if_pos (by rw [List.length_append, h16, List.length_singleton]; decide)]⟩
    clear hcut HKC HRR HG7 h17 hc3 e17 h16
    go_wp2_with fail
    generalize w7.setCell ⟨g, 3, none⟩ (.slice (some ⟨gb, 3, none⟩) 16 16) = w9 at HC HG9 ⊢
    have HK9 := HC
    clear HC z0 z1 h17' h17a
    have HK9d := Aside0.mk HK9.out.drew
    have HG9d := Aside0.mk (blk_drew HG9.out)
    refine start_ (n := 15) (S := fun w' => w'.cell? ⟨g, 4, none⟩ = some vl ∧ w'.frozen? ⟨g, 4, none⟩ = false ∧ w'.cell? ⟨gz, 0, none⟩ = some (.int .u32 x.f0) ∧ w'.cell? ⟨gz, 1, none⟩ = some (.string x.f1) ∧ w'.cell? ⟨gz, 2, none⟩ = some (.int .i64 x.f2)) (ds := [14]) #[false, false, false, false, false, false, false, false, false, false, false, false, false, false, false] (by kernel_rfl) rfl rfl ⟨HK9d.out.cells.2.2.2.2.1, HK9d.out.cells.2.2.2.2.2, (blk_cell HG9d.out 0).trans rfl, (blk_cell HG9d.out 1).trans rfl, (blk_cell HG9d.out 2).trans rfl⟩ (fun hHeld => ?_)
    clear HK9 HG9
    generalize w9.drew = W at HK9d HG9d hHeld ⊢
    have HT_ : Aside0 (rtab .any (opsOf Try.f14 12) = rtab .any (opsOf Try.f14 12)) := ⟨rfl⟩
    refine pv_ 0 65 #[true, false, false, false, false, false, false, false, false, false, false, false, false, false, false] HT_ ?_
    refine pv_ 1 66 #[true, true, false, false, false, false, false, false, false, false, false, false, false, false, false] HT_ ?_
    refine pv_ 2 67 #[true, true, true, false, false, false, false, false, false, false, false, false, false, false, false] HT_ ?_
    refine pv_ 3 68 #[true, true, true, true, false, false, false, false, false, false, false, false, false, false, false] HT_ ?_
    refine take_ (i := 4) (N := some 69) (v := ?_) (a' := ?_) #[true, true, true, true, true, false, false, false, false, false, false, false, false, false, false] rfl rfl (take_of HT_.out (by kernel_rfl)) (fun _ _ _ h => h) (Or.inl ⟨by rfl, ?_⟩) hHeld ?_ ?_
    rotate_left
    · rintro w' ⟨s0, s1, s2, s3, s4⟩
      go_simp
      with_reducible rfl
    rotate_left
    · simp only [Act.put, List.setIfInBounds_toArray, List.set_cons_zero, List.set_cons_succ, i64_w, i32_w]
      rfl
    refine pv_ 5 70 #[true, true, true, true, true, true, false, false, false, false, false, false, false, false, false] HT_ ?_
    refine take_ (i := 6) (N := some 71) (v := ?_) (a' := ?_) #[true, true, true, true, true, true, true, false, false, false, false, false, false, false, false] rfl rfl (take_of HT_.out (by kernel_rfl)) (fun _ _ _ h => h) (Or.inl ⟨by rfl, ?_⟩) hHeld ?_ ?_
    rotate_left
    · rintro w' ⟨s0, s1, s2, s3, s4⟩
      go_simp
      with_reducible rfl
    rotate_left
    · simp only [Act.put, List.setIfInBounds_toArray, List.set_cons_zero, List.set_cons_succ, i64_w, i32_w]
      rfl
    refine pv_ 7 72 #[true, true, true, true, true, true, true, true, false, false, false, false, false, false, false] HT_ ?_
    refine take_ (i := 8) (N := some 73) (v := ?_) (a' := ?_) #[true, true, true, true, true, true, true, true, true, false, false, false, false, false, false] rfl rfl (take_of HT_.out (by kernel_rfl)) (fun _ _ _ h => h) (Or.inl ⟨by rfl, ?_⟩) hHeld ?_ ?_
    rotate_left
    · rintro w' ⟨s0, s1, s2, s3, s4⟩
      go_simp
      with_reducible rfl
    rotate_left
    · simp only [Act.put, List.setIfInBounds_toArray, List.set_cons_zero, List.set_cons_succ, i64_w, i32_w]
      rfl
    refine pv_ 9 74 #[true, true, true, true, true, true, true, true, true, true, false, false, false, false, false] HT_ ?_
    refine one_ (i := 10) (N := some 75) #[true, true, true, true, true, true, true, true, true, true, true, false, false, false, false] rfl rfl (one_of HT_.out (by kernel_rfl)) (by decide) (fun K hK => ?_)
    refine event_step (by rfl) (v := .slice (some ⟨W.heap.size, 0, none⟩) 1 1) (w1 := W.alloc (.cells #[.int .u32 ((⟨x.f0, x.f1, 0⟩ : S49)).f0, .string ((⟨x.f0, x.f1, 0⟩ : S49)).f1, .int .i64 ((⟨x.f0, x.f1, 0⟩ : S49)).f2] 49 (0, 0))) ?hr ?_
    case hr => first | (go_simp; done) | (go_simp; rfl)
    have HKb := Aside0.mk (HK9d.out.after (below_alloc (Below.refl _ _) (.cells #[.int .u32 ((⟨x.f0, x.f1, 0⟩ : S49)).f0, .string ((⟨x.f0, x.f1, 0⟩ : S49)).f1, .int .i64 ((⟨x.f0, x.f1, 0⟩ : S49)).f2] 49 (0, 0))))
    have HGb := Aside0.mk (blk_alloc HG9d.out (.cells #[.int .u32 ((⟨x.f0, x.f1, 0⟩ : S49)).f0, .string ((⟨x.f0, x.f1, 0⟩ : S49)).f1, .int .i64 ((⟨x.f0, x.f1, 0⟩ : S49)).f2] 49 (0, 0)))
    refine hK.out _ _ ⟨HKb.out.cells.2.2.2.2.1, HKb.out.cells.2.2.2.2.2, (blk_cell HGb.out 0).trans rfl, (blk_cell HGb.out 1).trans rfl, (blk_cell HGb.out 2).trans rfl⟩ (fun hHeld => ?_)
    clear hK K HKb HGb
    refine norm_ (a' := ?_) ?_ ?_
    rotate_left
    · show Act.put _ (some 75) _ = _
      simp only [Act.put, List.setIfInBounds_toArray, List.set_cons_zero, List.set_cons_succ, i64_w, i32_w]
      rfl
    refine one_ (i := 11) (N := some 76) #[true, true, true, true, true, true, true, true, true, true, true, true, false, false, false] rfl rfl (one_of HT_.out (by kernel_rfl)) (by decide) (fun K hK => ?_)
    refine Kd.R_append_step k49 (w0 := w0) w0.heap.size (by rfl) (.tmp 69) (.tmp 75) 26 49 (.agg #[(.int .u32 0), (.string ⟨#[]⟩), (.int .i64 0)]) 32 (by rfl) Try.underlying26 info49 rfl (by decide) (by omega) vl ql (⟨x.f0, x.f1, 0⟩ : S49) [.int .u32 ((⟨x.f0, x.f1, 0⟩ : S49)).f0, .string ((⟨x.f0, x.f1, 0⟩ : S49)).f1, .int .i64 ((⟨x.f0, x.f1, 0⟩ : S49)).f2] (fun _ => True) (fun _ => False) rfl rfl (k49_mkM _ _ _ (⟨x.f0, x.f1, 0⟩ : S49)) (fun _ hk => hk.elim) (fun _ _ => trivial) HK9d.out.l HK9d.out.below HK9d.out.below.size (by have := HQ.out; omega) ?_
    intro v3 w3 ho hb hg hat
    have HRA := Aside0.mk ho
    have HGA : Aside0 (w3.heap[gz]? = _) := ⟨blk_grown HG9d.out hg (hgz4.out)⟩
    have BKA := Aside0.mk (blk_grown HK9d.out.blk hg (Ne.symm HK9d.out.off.2.2))
    obtain ⟨A3, c3, e3⟩ := Kd.R_slice ho
    subst e3
    have HKA := Aside0.mk (HK9d.out.appL ho hb hg hat)
    have hatA := Aside0.mk hat
    have hszA := Aside0.mk hg.size
    have fz := blk_frozen BKA.out 4
    have cz : w3.cell? ⟨g, 4, none⟩ = some vl := (blk_cell BKA.out 4).trans rfl
    refine hK.out _ _ ⟨cz, fz, (blk_cell HGA.out 0).trans rfl, (blk_cell HGA.out 1).trans rfl, (blk_cell HGA.out 2).trans rfl⟩ (fun hHeld => ?_)
    clear hK K ho hb hg hat HK9d HG9d cz fz
    refine norm_ (a' := ?_) ?_ ?_
    rotate_left
    · show Act.put _ (some 76) _ = _
      simp only [Act.put, List.setIfInBounds_toArray, List.set_cons_zero, List.set_cons_succ, i64_w, i32_w]
      rfl
    refine pv_ 12 77 #[true, true, true, true, true, true, true, true, true, true, true, true, true, false, false] HT_ ?_
    refine pv_ 13 78 #[true, true, true, true, true, true, true, true, true, true, true, true, true, true, false] HT_ ?_
    refine last_ (i := 14) (N := none) #[true, true, true, true, true, true, true, true, true, true, true, true, true, true, true] rfl rfl (one_of HT_.out (by kernel_rfl)) (by decide) (fun K hK => ?_)
    have fz := blk_frozen BKA.out 4
    have cz : w3.cell? ⟨g, 4, none⟩ = some vl := (blk_cell BKA.out 4).trans rfl
    have HRB := HRA.out
    have HKB := HKA.out
    simp only [List.length_append, List.length_cons, List.length_nil, Nat.zero_add] at HRB HKB
    have HKC := Aside0.mk HKB
    have HRC := Aside0.mk HRB
    clear HKA HRA HRB HKB
    refine skip_ (w1 := ?_) (by rfl) rfl ?_ ?_
    rotate_left
    · go_simp
      rfl
    refine hK.out _ _ ?_
    clear hK K cz fz BKA
    refine done_ (done_of HT_.out (by kernel_rfl)) ?_
    generalize w3.setCell ⟨g, 4, none⟩ (.slice A3 (ql.length + 1) c3) = wz at HKC ⊢
    go_wp2_with fail
    go_ret
    exact ⟨rfl, _, _, _, by rw [hk16.out, ← HQF.out]; exact HKC.out⟩
  · have d1 : decide (16 < qr.length + 1) = false := decide_eq_false (by have := hr.out; omega)
    have d2 : decide ((16 : Int) < (qr.length : Int) + 1) = false := decide_eq_false (by have := hr.out; omega)
    have d3 : decide ((16 : Int) < ((qr.length + 1 : Nat) : Int)) = false := decide_eq_false (by have := hr.out; omega)
    have hk16 : Aside0 (keep16 (qr ++ [x]) = qr ++ [x]) := ⟨by unfold keep16; rw [if_neg (by rw [List.length_append, List.length_singleton]; have := hr.out; omega)]⟩
    clear h16 HRR
    go_wp2_with fail
    have HK9 := HKC
    have HG9 := HG7
    clear HKC HG7 z0 z1 d1 d2 d3
    have HK9d := Aside0.mk HK9.out.drew
    have HG9d := Aside0.mk (blk_drew HG9.out)
    refine start_ (n := 15) (S := fun w' => w'.cell? ⟨g, 4, none⟩ = some vl ∧ w'.frozen? ⟨g, 4, none⟩ = false ∧ w'.cell? ⟨gz, 0, none⟩ = some (.int .u32 x.f0) ∧ w'.cell? ⟨gz, 1, none⟩ = some (.string x.f1) ∧ w'.cell? ⟨gz, 2, none⟩ = some (.int .i64 x.f2)) (ds := [14]) #[false, false, false, false, false, false, false, false, false, false, false, false, false, false, false] (by kernel_rfl) rfl rfl ⟨HK9d.out.cells.2.2.2.2.1, HK9d.out.cells.2.2.2.2.2, (blk_cell HG9d.out 0).trans rfl, (blk_cell HG9d.out 1).trans rfl, (blk_cell HG9d.out 2).trans rfl⟩ (fun hHeld => ?_)
    clear HK9 HG9
    generalize w7.drew = W at HK9d HG9d hHeld ⊢
    have HT_ : Aside0 (rtab .any (opsOf Try.f14 12) = rtab .any (opsOf Try.f14 12)) := ⟨rfl⟩
    refine pv_ 0 65 #[true, false, false, false, false, false, false, false, false, false, false, false, false, false, false] HT_ ?_
    refine pv_ 1 66 #[true, true, false, false, false, false, false, false, false, false, false, false, false, false, false] HT_ ?_
    refine pv_ 2 67 #[true, true, true, false, false, false, false, false, false, false, false, false, false, false, false] HT_ ?_
    refine pv_ 3 68 #[true, true, true, true, false, false, false, false, false, false, false, false, false, false, false] HT_ ?_
    refine take_ (i := 4) (N := some 69) (v := ?_) (a' := ?_) #[true, true, true, true, true, false, false, false, false, false, false, false, false, false, false] rfl rfl (take_of HT_.out (by kernel_rfl)) (fun _ _ _ h => h) (Or.inl ⟨by rfl, ?_⟩) hHeld ?_ ?_
    rotate_left
    · rintro w' ⟨s0, s1, s2, s3, s4⟩
      go_simp
      with_reducible rfl
    rotate_left
    · simp only [Act.put, List.setIfInBounds_toArray, List.set_cons_zero, List.set_cons_succ, i64_w, i32_w]
      rfl
    refine pv_ 5 70 #[true, true, true, true, true, true, false, false, false, false, false, false, false, false, false] HT_ ?_
    refine take_ (i := 6) (N := some 71) (v := ?_) (a' := ?_) #[true, true, true, true, true, true, true, false, false, false, false, false, false, false, false] rfl rfl (take_of HT_.out (by kernel_rfl)) (fun _ _ _ h => h) (Or.inl ⟨by rfl, ?_⟩) hHeld ?_ ?_
    rotate_left
    · rintro w' ⟨s0, s1, s2, s3, s4⟩
      go_simp
      with_reducible rfl
    rotate_left
    · simp only [Act.put, List.setIfInBounds_toArray, List.set_cons_zero, List.set_cons_succ, i64_w, i32_w]
      rfl
    refine pv_ 7 72 #[true, true, true, true, true, true, true, true, false, false, false, false, false, false, false] HT_ ?_
    refine take_ (i := 8) (N := some 73) (v := ?_) (a' := ?_) #[true, true, true, true, true, true, true, true, true, false, false, false, false, false, false] rfl rfl (take_of HT_.out (by kernel_rfl)) (fun _ _ _ h => h) (Or.inl ⟨by rfl, ?_⟩) hHeld ?_ ?_
    rotate_left
    · rintro w' ⟨s0, s1, s2, s3, s4⟩
      go_simp
      with_reducible rfl
    rotate_left
    · simp only [Act.put, List.setIfInBounds_toArray, List.set_cons_zero, List.set_cons_succ, i64_w, i32_w]
      rfl
    refine pv_ 9 74 #[true, true, true, true, true, true, true, true, true, true, false, false, false, false, false] HT_ ?_
    refine one_ (i := 10) (N := some 75) #[true, true, true, true, true, true, true, true, true, true, true, false, false, false, false] rfl rfl (one_of HT_.out (by kernel_rfl)) (by decide) (fun K hK => ?_)
    refine event_step (by rfl) (v := .slice (some ⟨W.heap.size, 0, none⟩) 1 1) (w1 := W.alloc (.cells #[.int .u32 ((⟨x.f0, x.f1, 0⟩ : S49)).f0, .string ((⟨x.f0, x.f1, 0⟩ : S49)).f1, .int .i64 ((⟨x.f0, x.f1, 0⟩ : S49)).f2] 49 (0, 0))) ?hr ?_
    case hr => first | (go_simp; done) | (go_simp; rfl)
    have HKb := Aside0.mk (HK9d.out.after (below_alloc (Below.refl _ _) (.cells #[.int .u32 ((⟨x.f0, x.f1, 0⟩ : S49)).f0, .string ((⟨x.f0, x.f1, 0⟩ : S49)).f1, .int .i64 ((⟨x.f0, x.f1, 0⟩ : S49)).f2] 49 (0, 0))))
    have HGb := Aside0.mk (blk_alloc HG9d.out (.cells #[.int .u32 ((⟨x.f0, x.f1, 0⟩ : S49)).f0, .string ((⟨x.f0, x.f1, 0⟩ : S49)).f1, .int .i64 ((⟨x.f0, x.f1, 0⟩ : S49)).f2] 49 (0, 0)))
    refine hK.out _ _ ⟨HKb.out.cells.2.2.2.2.1, HKb.out.cells.2.2.2.2.2, (blk_cell HGb.out 0).trans rfl, (blk_cell HGb.out 1).trans rfl, (blk_cell HGb.out 2).trans rfl⟩ (fun hHeld => ?_)
    clear hK K HKb HGb
    refine norm_ (a' := ?_) ?_ ?_
    rotate_left
    · show Act.put _ (some 75) _ = _
      simp only [Act.put, List.setIfInBounds_toArray, List.set_cons_zero, List.set_cons_succ, i64_w, i32_w]
      rfl
    refine one_ (i := 11) (N := some 76) #[true, true, true, true, true, true, true, true, true, true, true, true, false, false, false] rfl rfl (one_of HT_.out (by kernel_rfl)) (by decide) (fun K hK => ?_)
    refine Kd.R_append_step k49 (w0 := w0) w0.heap.size (by rfl) (.tmp 69) (.tmp 75) 26 49 (.agg #[(.int .u32 0), (.string ⟨#[]⟩), (.int .i64 0)]) 32 (by rfl) Try.underlying26 info49 rfl (by decide) (by omega) vl ql (⟨x.f0, x.f1, 0⟩ : S49) [.int .u32 ((⟨x.f0, x.f1, 0⟩ : S49)).f0, .string ((⟨x.f0, x.f1, 0⟩ : S49)).f1, .int .i64 ((⟨x.f0, x.f1, 0⟩ : S49)).f2] (fun _ => True) (fun _ => False) rfl rfl (k49_mkM _ _ _ (⟨x.f0, x.f1, 0⟩ : S49)) (fun _ hk => hk.elim) (fun _ _ => trivial) HK9d.out.l HK9d.out.below HK9d.out.below.size (by have := HQ.out; omega) ?_
    intro v3 w3 ho hb hg hat
    have HRA := Aside0.mk ho
    have HGA : Aside0 (w3.heap[gz]? = _) := ⟨blk_grown HG9d.out hg (hgz4.out)⟩
    have BKA := Aside0.mk (blk_grown HK9d.out.blk hg (Ne.symm HK9d.out.off.2.2))
    obtain ⟨A3, c3, e3⟩ := Kd.R_slice ho
    subst e3
    have HKA := Aside0.mk (HK9d.out.appL ho hb hg hat)
    have hatA := Aside0.mk hat
    have hszA := Aside0.mk hg.size
    have fz := blk_frozen BKA.out 4
    have cz : w3.cell? ⟨g, 4, none⟩ = some vl := (blk_cell BKA.out 4).trans rfl
    refine hK.out _ _ ⟨cz, fz, (blk_cell HGA.out 0).trans rfl, (blk_cell HGA.out 1).trans rfl, (blk_cell HGA.out 2).trans rfl⟩ (fun hHeld => ?_)
    clear hK K ho hb hg hat HK9d HG9d cz fz
    refine norm_ (a' := ?_) ?_ ?_
    rotate_left
    · show Act.put _ (some 76) _ = _
      simp only [Act.put, List.setIfInBounds_toArray, List.set_cons_zero, List.set_cons_succ, i64_w, i32_w]
      rfl
    refine pv_ 12 77 #[true, true, true, true, true, true, true, true, true, true, true, true, true, false, false] HT_ ?_
    refine pv_ 13 78 #[true, true, true, true, true, true, true, true, true, true, true, true, true, true, false] HT_ ?_
    refine last_ (i := 14) (N := none) #[true, true, true, true, true, true, true, true, true, true, true, true, true, true, true] rfl rfl (one_of HT_.out (by kernel_rfl)) (by decide) (fun K hK => ?_)
    have fz := blk_frozen BKA.out 4
    have cz : w3.cell? ⟨g, 4, none⟩ = some vl := (blk_cell BKA.out 4).trans rfl
    have HRB := HRA.out
    have HKB := HKA.out
    simp only [List.length_append, List.length_cons, List.length_nil, Nat.zero_add] at HRB HKB
    have HKC := Aside0.mk HKB
    have HRC := Aside0.mk HRB
    clear HKA HRA HRB HKB
    refine skip_ (w1 := ?_) (by rfl) rfl ?_ ?_
    rotate_left
    · go_simp
      rfl
    refine hK.out _ _ ?_
    clear hK K cz fz BKA
    refine done_ (done_of HT_.out (by kernel_rfl)) ?_
    generalize w3.setCell ⟨g, 4, none⟩ (.slice A3 (ql.length + 1) c3) = wz at HKC ⊢
    go_wp2_with fail
    go_ret
    exact ⟨rfl, _, _, _, by rw [hk16.out, ← HQF.out]; exact HKC.out⟩
theorem list_ok (w0 w : World) (g : Nat) (last : Int) (va vr vl : Value) (qa qr ql : List S49) (hK : Reg w0 w g last va vr vl qa qr ql) (hq : qa.length ≤ 100000) : Calls Try.prog 19 #[.pointer (some ⟨g, 0, none⟩)] w fun e w' => ∃ v, e = .returned v ∧ Kd.R k49 49 w' w.heap.size (fun _ => True) v qa ∧ Below w.heap.size w w' := by
  have hu60 := Try.underlying60
  obtain ⟨Aa, ca, rfl⟩ := Kd.R_slice hK.a
  have hh := Aside0.mk hK.cells
  have HK := Aside0.mk hK
  have HQ := Aside0.mk hq
  have z1 := hh.out.2.2.1.1
  clear hK hq
  go_enter Try.func19, Try.ntmps19
  go_wp2_with (first | (go_at_call 27; (with_reducible refine (usable_is _ g true (by exact hh.out.1.1) (by exact hh.out.1.2)).mono ?_); rintro e w' ⟨rfl, ⟨nd, rfl⟩⟩))
  have hC := Kd.R_reads' HK.out.a
  refine (clone_ok Aa ca qa (w.drewN nd) (Kd.C_below hC.2.2 (pw_below_drewN (Below.refl _ _) _)) hC.2.1 (by have := HQ.out; omega)).mono ?_
  rintro e w2 ⟨v2, rfl, hR, hB⟩
  have hR' := Aside0.mk hR
  have hB' := Aside0.mk hB
  clear hR hB hC z1
  go_wp2_with fail
  go_ret
  exact ⟨_, rfl, hR'.out, below_step (pw_below_drewN (Below.refl _ _) _) hB'.out⟩
theorem log_ok (w0 w : World) (g : Nat) (last : Int) (va vr vl : Value) (qa qr ql : List S49) (hK : Reg w0 w g last va vr vl qa qr ql) (hq : ql.length ≤ 100000) : Calls Try.prog 21 #[.pointer (some ⟨g, 0, none⟩)] w fun e w' => ∃ v, e = .returned v ∧ Kd.R k49 49 w' w.heap.size (fun _ => True) v ql ∧ Below w.heap.size w w' := by
  have hu60 := Try.underlying60
  obtain ⟨Aa, ca, rfl⟩ := Kd.R_slice hK.l
  have hh := Aside0.mk hK.cells
  have HK := Aside0.mk hK
  have HQ := Aside0.mk hq
  have z1 := hh.out.2.2.2.2.1
  clear hK hq
  go_enter Try.func21, Try.ntmps21
  go_wp2_with (first | (go_at_call 27; (with_reducible refine (usable_is _ g true (by exact hh.out.1.1) (by exact hh.out.1.2)).mono ?_); rintro e w' ⟨rfl, ⟨nd, rfl⟩⟩))
  have hC := Kd.R_reads' HK.out.l
  refine (clone_ok Aa ca ql (w.drewN nd) (Kd.C_below hC.2.2 (pw_below_drewN (Below.refl _ _) _)) hC.2.1 (by have := HQ.out; omega)).mono ?_
  rintro e w2 ⟨v2, rfl, hR, hB⟩
  have hR' := Aside0.mk hR
  have hB' := Aside0.mk hB
  clear hR hB hC z1
  go_wp2_with fail
  go_ret
  exact ⟨_, rfl, hR'.out, below_step (pw_below_drewN (Below.refl _ _) _) hB'.out⟩
def bindErr (i : Int) (x : S49) (s : ByteArray) (v : Int) : Int := if i < 0 then 8 else if x.f1.toList ≠ s.toList then 9 else if v < 1 ∨ v > x.f2 then 11 else 0
set_option maxHeartbeats 8000000 in
set_option maxRecDepth 100000 in
theorem bind_ok (w0 w : World) (g : Nat) (last nm v : Int) (s : ByteArray) (va vr vl : Value) (qa qr ql : List S49) (hK : Reg w0 w g last va vr vl qa qr ql) (hq : qa.length ≤ 10000 ∧ qr.length ≤ 10000) : Calls Try.prog 16 #[.pointer (some ⟨g, 0, none⟩), .int .u32 nm, .string s, .int .i64 v] w fun e w' => e = .returned (.int .i64 (bindErr (idxOf (fun x : S49 => x.f0 == nm) (qa ++ qr) 0) (rd_T49 (qa ++ qr) (idxOf (fun x : S49 => x.f0 == nm) (qa ++ qr) 0)) s v)) ∧ Reg w0 w' g last va vr vl qa qr ql := by
  have hu60 := Try.underlying60
  have hu49 := Try.underlying49
  have hu26 := Try.underlying26
  obtain ⟨Aa, ca, rfl⟩ := Kd.R_slice hK.a
  obtain ⟨Ar, cr, rfl, hcr, hCr⟩ := hK.r.reads
  have hh := Aside0.mk hK.cells
  have HK := Aside0.mk hK
  have HQ := Aside0.mk hq
  have z1 := hh.out.2.2.1.1
  have z2 := hh.out.2.2.2.1.1
  have HC := Aside0.mk (And.intro hcr hCr)
  obtain ⟨be, hbe⟩ : ∃ be, be = bindErr (idxOf (fun x : S49 => x.f0 == nm) (qa ++ qr) 0) (rd_T49 (qa ++ qr) (idxOf (fun x : S49 => x.f0 == nm) (qa ++ qr) 0)) s v := ⟨_, rfl⟩
  rw [← hbe]
  have HBE := Aside0.mk hbe
  clear hbe
  clear hK hq hcr hCr
  go_enter Try.func16, Try.ntmps16
  go_wp2_with (first | (go_at_call 27; (with_reducible refine (usable_is _ g true (by exact hh.out.1.1) (by exact hh.out.1.2)).mono ?_); rintro e w' ⟨rfl, ⟨nd, rfl⟩⟩))
  have hlit := Aside0.mk (fun (W : World) => allocs1 W (Obj.cells #[.slice Aa qa.length ca, .slice Ar qr.length cr] 26))
  have hbb : Aside0 (Below w.heap.size w ((w.drewN (nd + 1)).alloc (Obj.cells #[.slice Aa qa.length ca, .slice Ar qr.length cr] 26))) := ⟨below_alloc (pw_below_drewN (Below.refl _ _) _) _⟩
  go_region_held3 (fun w' => w'.cell? ⟨g, 2, none⟩ = some (.slice Aa qa.length ca) ∧ w'.cell? ⟨g, 3, none⟩ = some (.slice Ar qr.length cr)) (first | exact ⟨hh.out.2.2.1.1, hh.out.2.2.2.1.1⟩ | exact ⟨HK2.out.cells.2.2.1.1, HK2.out.cells.2.2.2.1.1⟩ | exact ⟨(HK.out.after hbb.out).cells.2.2.1.1, (HK.out.after hbb.out).cells.2.2.2.1.1⟩) (first | (go_at_call 36; refine (concat_ok Aa Ar ca cr qa qr w.heap.size _ (hlit.out (w.drewN (nd + 1))).1 (Kd.C_below (Kd.R_reads' HK.out.a).2.2 hbb.out) (Kd.C_below HC.out.2 hbb.out) (Kd.R_reads' HK.out.a).2.1 HC.out.1 (by have := HQ.out; omega)).mono ?_; rintro e w2 ⟨v2, rfl, hR, hB⟩; have HR2 := Aside0.mk hR; have HK2 := Aside0.mk (HK.out.after (below_step hbb.out hB)); clear hR hB))
  obtain ⟨A2, c2, e2⟩ := Kd.R_slice HR2.out
  subst e2
  clear hlit hbb hh HK HC z1 z2
  rename_i hHeld_
  clear hHeld_
  have HQ2 : Aside0 ((qa ++ qr).length ≤ 20000) := ⟨by rw [List.length_append]; have := HQ.out; omega⟩
  obtain ⟨Q, hQ⟩ : ∃ Q, Q = qa ++ qr := ⟨_, rfl⟩
  rw [← hQ] at HR2 HQ2 HBE ⊢
  clear hQ
  go_wp2_with fail
  refine (find_ok A2 c2 Q nm w2 (Kd.R_reads' HR2.out).2.2 (by have := HQ2.out; omega)).mono ?_
  rintro e w3 ⟨rfl, hb3⟩
  have HK3 := Aside0.mk (HK2.out.after hb3)
  have HR3 := Aside0.mk (Kd.R_below HR2.out hb3)
  clear hb3 HK2 HR2
  cases hany : Q.any (fun x : S49 => x.f0 == nm) with
  | false =>
    have hi := Aside0.mk (idx_none (fun x : S49 => x.f0 == nm) Q 0 hany)
    clear hany
    rw [hi.out] at HBE ⊢
    have hb8 : Aside0 (be = 8) := ⟨by rw [HBE.out]; unfold bindErr; rw [if_pos (by decide)]⟩
    go_wp2_with fail
    go_ret
    exact ⟨by rw [hb8.out]; first | done | rfl, HK3.out⟩
  | true =>
    obtain ⟨k, e0, hk, hp, _⟩ := idx_some (fun x : S49 => x.f0 == nm) Q 0 hany
    rw [Nat.zero_add] at e0
    rw [e0] at HBE ⊢
    clear hany e0 hp
    have hk' : (k : Int) < (Q.length : Int) := by omega
    have d0 : decide ((k : Int) < 0) = false := decide_eq_false (by omega)
    obtain ⟨ad, e1, x0, x1, x2⟩ := at_T49 (Kd.R_reads' HR3.out).2.2 (k : Int) (by omega) hk'
    subst e1
    simp only [Int.toNat_natCast] at x0 x1 x2
    generalize rd_T49 Q (k : Int) = x at x0 x1 x2 HBE
    have hbe : Aside0 (be = if x.f1.toList ≠ s.toList then 9 else if v < 1 ∨ v > x.f2 then 11 else 0) := ⟨by rw [HBE.out]; unfold bindErr; rw [if_neg (by omega)]⟩
    clear HBE
    by_cases h1 : x.f1.toList = s.toList
    · rw [if_neg (by intro h; exact h h1)] at hbe
      by_cases h2 : v < 1 ∨ v > x.f2
      · rw [if_pos h2] at hbe
        by_cases h3 : v < 1
        · have d2 : decide (v < 1) = true := decide_eq_true h3
          clear h2 h3
          go_wp2_with fail
          go_ret
          exact ⟨by rw [hbe.out]; first | done | rfl, HK3.out⟩
        · have d2 : decide (v < 1) = false := decide_eq_false h3
          have d3 : decide (x.f2 < v) = true := decide_eq_true (h2.resolve_left h3)
          clear h2 h3
          go_wp2_with fail
          go_ret
          exact ⟨by rw [hbe.out]; first | done | rfl, HK3.out⟩
      · rw [if_neg h2] at hbe
        have d2 : decide (v < 1) = false := decide_eq_false (fun h => h2 (.inl h))
        have d3 : decide (x.f2 < v) = false := decide_eq_false (fun h => h2 (.inr h))
        clear h2
        go_wp2_with fail
        go_ret
        exact ⟨by rw [hbe.out]; first | done | rfl, HK3.out⟩
    · rw [if_pos h1] at hbe
      have d8 : (x.f1.toList == s.toList) = false := beq_false_of_ne h1
      have d9 : decide (x.f1.toList = s.toList) = false := decide_eq_false h1
      go_wp2_with fail
      go_ret
      exact ⟨by rw [hbe.out]; first | done | rfl, HK3.out⟩
theorem new_ok (w : World) : Calls Try.prog 10 #[] w fun e w' => ∃ g, e = .returned (.pointer (some ⟨g, 0, none⟩)) ∧ Reg w w' g 0 (.slice none 0 0) (.slice none 0 0) (.slice none 0 0) [] [] [] ∧ Below w.heap.size w w' := by
  have hu60 := Try.underlying60
  go_enter Try.func10, Try.ntmps10
  go_wp2_with fail
  go_ret
  obtain ⟨hR, hb⟩ := allocs1 w (.cells #[.bool true, .int .u32 0, .slice none 0 0, .slice none 0 0, .slice none 0 0] 60)
  exact ⟨_, rfl, ⟨hR, Nat.le_refl _, Kd.R_nil _ _ _ _ _, .inl (Kd.R_nil _ _ _ _ _), Kd.R_nil _ _ _ _ _, fun k hk => by simp [Value.ownBlock] at hk, fun k hk => by simp [Value.ownBlock] at hk, fun k hk => by simp [Value.ownBlock] at hk, hb⟩, hb⟩
def disp : ByteArray := ⟨#[100, 105, 115, 112, 108, 97, 121]⟩
theorem ver_disp : iface_Version.f 30 disp = some 1 := by kernel_rfl
theorem ver_no : iface_Version.f 30 (⟨#[110, 111, 32, 115, 117, 99, 104, 32, 105, 110, 116, 101, 114, 102, 97, 99, 101]⟩ : ByteArray) = some 0 := by kernel_rfl
theorem first_disp : compositorlaw14_first.f = some disp := by kernel_rfl
theorem ex_find : idxOf (fun x : S49 => x.f0 == 1) [⟨1, disp, 1⟩] 0 = ((0 : Nat) : Int) := by decide
theorem ex_flt : [(⟨1, disp, 1⟩ : S49)].filter (fun y => !eqB y ⟨1, disp, 1⟩) = [] := by kernel_rfl
theorem ex_keep : keep16 ([] ++ [(⟨1, disp, 1⟩ : S49)]) = [⟨1, disp, 1⟩] := by kernel_rfl
theorem ex_bind : bindErr (idxOf (fun x : S49 => x.f0 == 1) ([] ++ [(⟨1, disp, 1⟩ : S49)]) 0) (rd_T49 ([] ++ [(⟨1, disp, 1⟩ : S49)]) (idxOf (fun x : S49 => x.f0 == 1) ([] ++ [(⟨1, disp, 1⟩ : S49)]) 0)) disp 1 = 0 := by kernel_rfl
set_option maxHeartbeats 8000000 in
set_option maxRecDepth 100000 in
theorem example14 (w : World) : Calls Try.prog 9 #[] w fun e w' => e = .returned (.bool true) ∧ Below w.heap.size w w' := by
  go_enter Try.func9, Try.ntmps9
  go_wp2_with fail
  refine (new_ok w).mono ?_
  rintro e w1 ⟨g, rfl, hK1, hb1⟩
  have HK := Aside0.mk hK1
  clear hK1 hb1
  go_wp2_with fail
  refine (compositorlaw14_first.calls disp w1 first_disp).mono ?_
  rintro e w2 ⟨rfl, hb2⟩
  replace HK := Aside0.mk (HK.out.after hb2)
  clear hb2
  go_wp2_with fail
  refine (add_ok w w2 g 0 _ _ _ [] [] [] disp 1 30 1 HK.out ver_disp (by decide) (by decide) (by decide) (by simp)).mono ?_
  rintro e w3 ⟨rfl, va3, vl3, hK3⟩
  have HK3 := Aside0.mk hK3
  clear hK3 HK
  simp only [List.nil_append, Int.zero_add] at HK3
  go_wp2_with fail
  refine (remove_ok w w3 g 1 1 _ _ _ [⟨1, disp, 1⟩] [] [⟨1, disp, 1⟩] HK3.out (by simp) ⟨1, disp, 1⟩ 0 ex_find (by simp) rfl (by simp)).mono ?_
  rintro e w4 ⟨rfl, va4, vr4, vl4, hK4⟩
  rw [ex_flt, ex_keep] at hK4
  have HK4 := Aside0.mk hK4
  clear hK4 HK3
  go_wp2_with fail
  refine (add_err w w4 g 1 _ _ _ [] _ _ _ 0 30 0 HK4.out ver_no (by decide)).mono ?_
  rintro e w5 ⟨rfl, hK5⟩
  rw [show addErr 0 0 (([] : List S49).length : Int) = 8 from by decide]
  have HK5 := Aside0.mk hK5
  clear hK5 HK4
  go_wp2_with fail
  refine (compositorlaw14_first.calls disp w5 first_disp).mono ?_
  rintro e w6 ⟨rfl, hb6⟩
  have HK6 := Aside0.mk (HK5.out.after hb6)
  clear hb6 HK5
  go_wp2_with fail
  refine (add_err w w6 g 1 _ _ _ [] _ _ disp 0 30 1 HK6.out ver_disp (by decide)).mono ?_
  rintro e w7 ⟨rfl, hK7⟩
  rw [show addErr 1 0 (([] : List S49).length : Int) = 11 from by decide]
  have HK7 := Aside0.mk hK7
  clear hK7 HK6
  go_wp2_with fail
  refine (list_ok w w7 g 1 _ _ _ [] _ _ HK7.out (by simp)).mono ?_
  rintro e w8 ⟨v8, rfl, hR8, hb8⟩
  obtain ⟨A8, c8, e8⟩ := Kd.R_slice hR8
  subst e8
  have HK8 := Aside0.mk (HK7.out.after hb8)
  clear hb8 hR8 HK7
  go_wp2_with fail
  refine (log_ok w w8 g 1 _ _ _ [] _ _ HK8.out (by simp)).mono ?_
  rintro e w9 ⟨v9, rfl, hR9, hb9⟩
  obtain ⟨A9, c9, e9⟩ := Kd.R_slice hR9
  subst e9
  have HK9 := Aside0.mk (HK8.out.after hb9)
  clear hb9 hR9 HK8
  simp only [List.length_append, List.length_cons, List.length_nil, Nat.zero_add, Nat.reduceAdd]
  go_wp2_with fail
  refine (compositorlaw14_first.calls disp w9 first_disp).mono ?_
  rintro e wa ⟨rfl, hba⟩
  have HKa := Aside0.mk (HK9.out.after hba)
  clear hba HK9
  go_wp2_with fail
  refine (bind_ok w wa g 1 1 1 disp _ _ _ [] _ _ HKa.out (by simp)).mono ?_
  rintro e wb ⟨rfl, hKb⟩
  rw [ex_bind]
  have HKb := Aside0.mk hKb
  clear hKb HKa
  go_wp2_with fail
  refine (remove_err w wb g 1 1 _ _ _ [] _ _ HKb.out (by simp) rfl).mono ?_
  rintro e wc ⟨rfl, hKc⟩
  have HKc := Aside0.mk hKc
  clear hKc HKb
  go_wp2_with fail
  go_ret
  exact ⟨rfl, HKc.out.below⟩
end
end Go.Proofs.Ytpedlnebpibgaaa.All
end
section
namespace Go.Proofs.Ytpedlnebpibgaaa.All
open Go.RowKit Go.Proofs.YtpedlnebpibgaaaW.PrintWords Go.Proofs.YtpedlnebpibgaaaW.PrintLast Go.Proofs.YtpedlnebpibgaaaW.PrintMore
attribute [local go_sem] max2_int min2_int max_two min_two max_three min_three max_four min_four
set_option linter.unusedVariables false
set_option linter.unusedSimpArgs false
def compositorref14_New.f  : Option ((List (S49))) := some ([] : List (S49))
set_option maxHeartbeats 8000000 in
set_option maxRecDepth 100000 in
theorem compositorref14_New.calls  (r : List (S49)) (w : World) (h : compositorref14_New.f  = some r) :
    Calls Try.prog 11 #[] w fun e w' => ∃ v0_ : Value, e = .returned (.agg #[v0_]) ∧ Kd.R k49 49 w' w.heap.size (fun _ => True) v0_ r ∧ Below w.heap.size w w' := by
  have hu28 := Try.underlying28
  have HB := Aside0.mk (Below.refl w.heap.size w)
  have H : (some ([] : List (S49))) = some r := h
  clear h
  obtain rfl := Option.some.inj H
  go_enter Try.func11, Try.ntmps11
  go_wp2_with (first | ((with_reducible refine gate_dst (N := 0) rfl ?_); refine box_event ?hg (N := 0) ?hd (cs := #[.slice none 0 0]) (t := 28) ?hr ?_; (case hd => rfl); (case hg => rfl); (case hr => first | (go_simp; done) | (go_simp; rfl)); intro gb188 hg w1 hbox hb; have n0_ := Aside0.mk (below_step (by repeat (first | (with_reducible first | exact HB.out | apply below_alloc | apply pw_below_drewN | apply below_drew1) | exact HB.out)) hb); have n1_ := Aside0.mk (hbox); have n2_ := Aside0.mk ((by rw [hg]; exact (below_size (by repeat (first | (with_reducible first | exact HB.out | apply below_alloc | apply pw_below_drewN | apply below_drew1) | exact HB.out))) : w.heap.size ≤ gb188)); have n3_ := Aside0.mk ((by rw [hg]; exact (below_size (by repeat (first | (with_reducible first | exact HB.out | apply below_alloc | apply pw_below_drewN | apply below_drew1) | exact HB.out))) : w.heap.size ≤ gb188)); clear HB; have HB := n0_; have BK188 := n1_; have GW188 := n2_; have GE188 := n3_; clear n0_ n1_ n2_ n3_; clear hb hbox hg; have hcz2_0 : w1.cell? ⟨gb188, 0, none⟩ = some (.slice none 0 0) := (blk_cell BK188.out 0).trans rfl; have hfz2_0 := blk_frozen BK188.out 0))
  refine bodyPost_ret (results_cell_row rfl _ _ gb188 28 #[.slice none 0 0] (0, 0) _ rfl (by (with_reducible repeat (first | refine blk_drewN ?_ _ | refine blk_drew ?_ | refine blk_alloc ?_ _)); refine blk_put (cs := #[.slice none 0 0]) ?_ 0 _ rfl; (with_reducible repeat (first | refine blk_drewN ?_ _ | refine blk_drew ?_ | refine blk_alloc ?_ _)); exact BK188.out) Try.underlying28 rfl (by kernel_rfl)) rfl ?_
  exact ⟨_, by first | rfl | (simp [errW_none, errW_some] <;> rfl) | (simp [*, errW_none, errW_some] <;> rfl), by first | exact Kd.R_nil _ _ _ _ _ | exact Kd.N_nil _ _ _ _ _ | exact Kd.V_nil _ _ _ _ _ | exact Kd.Q_nil _ _ _ _ _ | exact Kd.S_nil _ _ _ _ _, by repeat (first | (with_reducible first | exact HB.out | apply below_alloc | apply pw_below_drewN | apply below_drew1 | refine below_set ?_ GE188.out) | exact HB.out)⟩
end Go.Proofs.Ytpedlnebpibgaaa.All
end
section
namespace Go.Proofs.Ytpedlnebpibgaaa.All
open Go.RowKit Go.Proofs.YtpedlnebpibgaaaW.PrintWords Go.Proofs.YtpedlnebpibgaaaW.PrintLast Go.Proofs.YtpedlnebpibgaaaW.PrintMore
attribute [local go_sem] max2_int min2_int max_two min_two max_three min_three max_four min_four
set_option linter.unusedVariables false
set_option linter.unusedSimpArgs false
def compositorref14_announced.l0 : Nat → Int → Bool → Int → List (S49) → Int → ByteArray → Int → Option (Int × ByteArray × Int × Bool)
  | 0, _, _, _, _, _, _, _ => none
  | k + 1, x1, x7, x8, x190000, x192000, x192001, x192002 => if x8 < (x190000.length : Int) then (if 0 ≤ x8 then (if ((rd_T49 x190000 x8).f0) = x1 then (compositorref14_announced.l0 k x1 (decide (((rd_T49 x190000 x8).f2) > 0)) (wrap64 (x8 + 1)) x190000 ((rd_T49 x190000 x8).f0) ((rd_T49 x190000 x8).f1) ((rd_T49 x190000 x8).f2)) else (compositorref14_announced.l0 k x1 x7 (wrap64 (x8 + 1)) x190000 x192000 x192001 x192002)) else (none)) else (some (x192000, x192001, x192002, x7))
def compositorref14_announced.f (k : Nat) (l0_0 : List (S49)) (a1 : Int) : Option (Int × ByteArray × Int × Bool) := compositorref14_announced.l0 k a1 false 0 l0_0 0 (⟨#[]⟩ : ByteArray) 0
set_option maxHeartbeats 8000000 in
set_option maxRecDepth 100000 in
theorem compositorref14_announced.calls (k : Nat) (A0_0 : Option Addr) (c0_0 : Nat) (l0_0 : List (S49)) (a1 : Int) (r1 : Int) (r2 : ByteArray) (r3 : Int) (r4 : Bool) (w : World) (hr0_0 : Kd.C k49 w A0_0 l0_0.length l0_0) (hc0_0 : l0_0.length ≤ c0_0) (h : compositorref14_announced.f k l0_0 a1 = some (r1, r2, r3, r4)) :
    Calls Try.prog 35 #[.agg #[.slice A0_0 l0_0.length c0_0], .int .u32 a1] w fun e w' => e = .returned (.tuple #[.agg #[.int .u32 r1, .string r2, .int .i64 r3], .bool r4]) ∧ Below w.heap.size w w' := by
  have hu28 := Try.underlying28
  have hu49 := Try.underlying49
  have HR0_0 := Aside0.mk hr0_0
  have HC0_0 := Aside0.mk hc0_0
  clear hr0_0 hc0_0
  have HB := Aside0.mk (Below.refl w.heap.size w)
  have H : (compositorref14_announced.l0 k a1 false 0 l0_0 0 (⟨#[]⟩ : ByteArray) 0) = some (r1, r2, r3, r4) := h
  clear h
  have H' := Aside0.mk H
  clear H
  go_enter Try.func35, Try.ntmps35
  go_wp2_with (first | ((with_reducible refine gate_dst (N := 2) rfl ?_); refine box_event ?hg (N := 2) ?hd (cs := #[.slice A0_0 l0_0.length c0_0]) (t := 28) ?hr ?_; (case hd => rfl); (case hg => rfl); (case hr => first | (go_simp; done) | (go_simp; rfl)); intro gb189 hg w3 hbox hb; have n0_ := Aside0.mk (below_step (by repeat (first | (with_reducible first | exact HB.out | apply below_alloc | apply pw_below_drewN | apply below_drew1) | exact HB.out)) hb); have n1_ := Aside0.mk (hbox); have n2_ := Aside0.mk ((by rw [hg]; exact (below_size (by repeat (first | (with_reducible first | exact HB.out | apply below_alloc | apply pw_below_drewN | apply below_drew1) | exact HB.out))) : w.heap.size ≤ gb189)); have n3_ := Aside0.mk ((by rw [hg]; exact (below_size (by repeat (first | (with_reducible first | exact HB.out | apply below_alloc | apply pw_below_drewN | apply below_drew1) | exact HB.out))) : w.heap.size ≤ gb189)); clear HB; have HB := n0_; have BK189 := n1_; have GW189 := n2_; have GE189 := n3_; clear n0_ n1_ n2_ n3_; clear hb hbox hg) | ((with_reducible refine gate_dst (N := 4) rfl ?_); refine box_event ?hg (N := 4) ?hd (cs := #[.int .u32 0, .string (⟨#[]⟩ : ByteArray), .int .i64 0]) (t := 49) ?hr ?_; (case hd => rfl); (case hg => rfl); (case hr => first | (go_simp; done) | (go_simp; rfl)); intro gb190 hg w4 hbox hb; have n0_ := Aside0.mk (blk_below (g := gb189) (o := .cells #[.slice A0_0 l0_0.length c0_0] 28 (0, 0)) (by (with_reducible repeat (first | refine blk_drewN ?_ _ | refine blk_drew ?_ | refine blk_alloc ?_ _)); exact BK189.out) hb); have n1_ := Aside0.mk (below_step (by repeat (first | (with_reducible first | exact HB.out | apply below_alloc | apply pw_below_drewN | apply below_drew1 | refine below_set ?_ GE189.out) | exact HB.out)) hb); have n2_ := Aside0.mk (hbox); have n3_ := Aside0.mk ((by rw [hg]; exact (below_size (by repeat (first | (with_reducible first | exact HB.out | apply below_alloc | apply pw_below_drewN | apply below_drew1 | refine below_set ?_ GE189.out) | exact HB.out))) : w.heap.size ≤ gb190)); have n4_ := Aside0.mk ((by rw [hg]; exact (below_size (by repeat (first | (with_reducible first | exact HB.out | apply below_alloc | apply pw_below_drewN | apply below_drew1 | refine below_set ?_ GE189.out) | exact HB.out))) : w.heap.size ≤ gb190)); have n5_ := Aside0.mk ((by rw [hg]; exact Nat.ne_of_lt (blk_lt (g := gb189) (o := .cells #[.slice A0_0 l0_0.length c0_0] 28 (0, 0)) (by (with_reducible repeat (first | refine blk_drewN ?_ _ | refine blk_drew ?_ | refine blk_alloc ?_ _)); exact BK189.out)) : gb189 ≠ gb190)); have n6_ := Aside0.mk ((by rw [hg]; exact Nat.ne_of_gt (blk_lt (g := gb189) (o := .cells #[.slice A0_0 l0_0.length c0_0] 28 (0, 0)) (by (with_reducible repeat (first | refine blk_drewN ?_ _ | refine blk_drew ?_ | refine blk_alloc ?_ _)); exact BK189.out)) : gb190 ≠ gb189)); clear BK189; clear HB; have BK189 := n0_; have HB := n1_; have BK190 := n2_; have GW190 := n3_; have GE190 := n4_; have NB189_190 := n5_; have NB190_189 := n6_; clear n0_ n1_ n2_ n3_ n4_ n5_ n6_; clear hb hbox hg) | ((with_reducible refine gate_dst (N := 6) rfl ?_); refine box_event ?hg (N := 6) ?hd (cs := #[.int .u32 0, .string (⟨#[]⟩ : ByteArray), .int .i64 0]) (t := 49) ?hr ?_; (case hd => rfl); (case hg => rfl); (case hr => first | (go_simp; done) | (go_simp; rfl)); intro gb191 hg w5 hbox hb; have n0_ := Aside0.mk (blk_below (g := gb189) (o := .cells #[.slice A0_0 l0_0.length c0_0] 28 (0, 0)) (by (with_reducible repeat (first | refine blk_drewN ?_ _ | refine blk_drew ?_ | refine blk_alloc ?_ _)); exact BK189.out) hb); have n1_ := Aside0.mk (blk_below (g := gb190) (o := .cells #[.int .u32 0, .string (⟨#[]⟩ : ByteArray), .int .i64 0] 49 (0, 0)) (by (with_reducible repeat (first | refine blk_drewN ?_ _ | refine blk_drew ?_ | refine blk_alloc ?_ _)); exact BK190.out) hb); have n2_ := Aside0.mk (below_step (by repeat (first | (with_reducible first | exact HB.out | apply below_alloc | apply pw_below_drewN | apply below_drew1 | refine below_set ?_ GE189.out | refine below_set ?_ GE190.out) | exact HB.out)) hb); have n3_ := Aside0.mk (hbox); have n4_ := Aside0.mk ((by rw [hg]; exact (below_size (by repeat (first | (with_reducible first | exact HB.out | apply below_alloc | apply pw_below_drewN | apply below_drew1 | refine below_set ?_ GE189.out | refine below_set ?_ GE190.out) | exact HB.out))) : w.heap.size ≤ gb191)); have n5_ := Aside0.mk ((by rw [hg]; exact (below_size (by repeat (first | (with_reducible first | exact HB.out | apply below_alloc | apply pw_below_drewN | apply below_drew1 | refine below_set ?_ GE189.out | refine below_set ?_ GE190.out) | exact HB.out))) : w.heap.size ≤ gb191)); have n6_ := Aside0.mk ((by rw [hg]; exact Nat.ne_of_lt (blk_lt (g := gb189) (o := .cells #[.slice A0_0 l0_0.length c0_0] 28 (0, 0)) (by (with_reducible repeat (first | refine blk_drewN ?_ _ | refine blk_drew ?_ | refine blk_alloc ?_ _)); exact BK189.out)) : gb189 ≠ gb191)); have n7_ := Aside0.mk ((by rw [hg]; exact Nat.ne_of_gt (blk_lt (g := gb189) (o := .cells #[.slice A0_0 l0_0.length c0_0] 28 (0, 0)) (by (with_reducible repeat (first | refine blk_drewN ?_ _ | refine blk_drew ?_ | refine blk_alloc ?_ _)); exact BK189.out)) : gb191 ≠ gb189)); have n8_ := Aside0.mk ((by rw [hg]; exact Nat.ne_of_lt (blk_lt (g := gb190) (o := .cells #[.int .u32 0, .string (⟨#[]⟩ : ByteArray), .int .i64 0] 49 (0, 0)) (by (with_reducible repeat (first | refine blk_drewN ?_ _ | refine blk_drew ?_ | refine blk_alloc ?_ _)); exact BK190.out)) : gb190 ≠ gb191)); have n9_ := Aside0.mk ((by rw [hg]; exact Nat.ne_of_gt (blk_lt (g := gb190) (o := .cells #[.int .u32 0, .string (⟨#[]⟩ : ByteArray), .int .i64 0] 49 (0, 0)) (by (with_reducible repeat (first | refine blk_drewN ?_ _ | refine blk_drew ?_ | refine blk_alloc ?_ _)); exact BK190.out)) : gb191 ≠ gb190)); clear BK189; clear BK190; clear HB; have BK189 := n0_; have BK190 := n1_; have HB := n2_; have BK191 := n3_; have GW191 := n4_; have GE191 := n5_; have NB189_191 := n6_; have NB191_189 := n7_; have NB190_191 := n8_; have NB191_190 := n9_; clear n0_ n1_ n2_ n3_ n4_ n5_ n6_ n7_ n8_ n9_; clear hb hbox hg))
  go_loopg [7, 8] k (fun kq v7 v8 w' => ∃ (x7_1 : Bool) (x8_1 : Int) (x192000_1 : Int) (x192001_1 : ByteArray) (x192002_1 : Int), v7 = .bool x7_1 ∧ v8 = .int .i64 x8_1 ∧ Aside0 (compositorref14_announced.l0 kq a1 x7_1 x8_1 l0_0 x192000_1 x192001_1 x192002_1 = some (r1, r2, r3, r4)) ∧ Aside0 (kq ≤ k) ∧ Aside0 (w'.heap[gb189]? = some (.cells #[(.slice A0_0 l0_0.length c0_0)] 28 (0, 0))) ∧ Aside0 (w'.heap[gb190]? = some (.cells #[.int .u32 0, .string (⟨#[]⟩ : ByteArray), .int .i64 0] 49 (0, 0))) ∧ Aside0 (w'.heap[gb191]? = some (.cells #[.int .u32 x192000_1, .string x192001_1, .int .i64 x192002_1] 49 (0, 0))) ∧ Aside0 (Below w.heap.size w w'))
  case atStart => exact ⟨(false), (0), (0), ((⟨#[]⟩ : ByteArray)), (0), (by first | rfl | (simp; done) | (simp [*]; done)), (by first | rfl | (simp; done) | (simp [*]; done)), H', ⟨Nat.le_refl _⟩, ⟨by (with_reducible repeat (first | refine blk_drewN ?_ _ | refine blk_drew ?_ | refine blk_alloc ?_ _)); exact BK189.out⟩, ⟨by (with_reducible repeat (first | refine blk_drewN ?_ _ | refine blk_drew ?_ | refine blk_alloc ?_ _)); exact BK190.out⟩, ⟨by (with_reducible repeat (first | refine blk_drewN ?_ _ | refine blk_drew ?_ | refine blk_alloc ?_ _)); exact BK191.out⟩, ⟨by repeat (first | (with_reducible first | exact HB.out | apply below_alloc | apply pw_below_drewN | apply below_drew1 | refine below_set ?_ GE189.out | refine below_set ?_ GE190.out | refine below_set ?_ GE191.out) | exact HB.out)⟩⟩
  case round =>
    clear H'
    try clear p2
    try clear c3
    obtain ⟨x7_1, x8_1, x192000_1, x192001_1, x192002_1, rfl, rfl, HA, HK1, BK189, BK190, BK191, HB⟩ := hrel
    cases gk with
    | zero => exact absurd HA.out (by simp [compositorref14_announced.l0])
    | succ k1 =>
      have H := HA.out
      clear HA
      simp only [compositorref14_announced.l0] at H
      by_cases c6 : x8_1 < (l0_0.length : Int)
      · rw [if_pos c6] at H
        have c6b0 : decide (x8_1 < (l0_0.length : Int)) = true := decide_eq_true c6
        clear c6
        by_cases c7 : 0 ≤ x8_1
        · rw [if_pos c7] at H
          have c7b0 : decide (0 ≤ x8_1) = true := decide_eq_true c7
          clear c7
          by_cases c8 : ((rd_T49 l0_0 x8_1).f0) = a1
          · rw [if_pos c8] at H
            have c8b0 : (((rd_T49 l0_0 x8_1).f0) == a1) = true := beq_iff_eq.mpr c8
            have c8b1 : (((rd_T49 l0_0 x8_1).f0) != a1) = false := bne_eq_false_iff_eq.mpr c8
            clear c8
            have H' := Aside0.mk H
            clear H
            have hnb9 := NB189_190.out
            have hnc9 := NB190_189.out
            have hnb10 := NB189_191.out
            have hnc10 := NB191_189.out
            have hcz11_0 : wr.cell? ⟨gb189, 0, none⟩ = some (.slice A0_0 l0_0.length c0_0) := (blk_cell BK189.out 0).trans rfl
            have hfz11_0 := blk_frozen BK189.out 0
            have p192 : 0 ≤ (x8_1 : Int) := of_decide_eq_true (by first | (with_reducible assumption) | assumption)
            have q192 : x8_1 < (l0_0.length : Int) := of_decide_eq_true (by first | (with_reducible assumption) | assumption)
            obtain ⟨ad192, e192, hx192_0, hx192_1, hx192_2⟩ := at_T49 HR0_0.out x8_1 p192 q192
            cases e192
            replace hx192_0 := (HB.out.cell (World.block_lt_of_cell? w _ hx192_0)).trans hx192_0
            replace hx192_1 := (HB.out.cell (World.block_lt_of_cell? w _ hx192_1)).trans hx192_1
            replace hx192_2 := (HB.out.cell (World.block_lt_of_cell? w _ hx192_2)).trans hx192_2
            replace p192 := eq_true p192
            replace q192 := eq_true q192
            have p193 : 0 ≤ (x8_1 : Int) := of_decide_eq_true (by first | (with_reducible assumption) | assumption)
            have q193 : x8_1 < (l0_0.length : Int) := of_decide_eq_true (by first | (with_reducible assumption) | assumption)
            obtain ⟨ad193, e193, hx193_0, hx193_1, hx193_2⟩ := at_T49 HR0_0.out x8_1 p193 q193
            obtain rfl : ad192 = ad193 := (by injection e193)
            replace hx193_0 := (HB.out.cell (World.block_lt_of_cell? w _ hx193_0)).trans hx193_0
            replace hx193_1 := (HB.out.cell (World.block_lt_of_cell? w _ hx193_1)).trans hx193_1
            replace hx193_2 := (HB.out.cell (World.block_lt_of_cell? w _ hx193_2)).trans hx193_2
            replace p193 := eq_true p193
            replace q193 := eq_true q193
            have hnb12 := NB191_190.out
            have hnc12 := NB190_191.out
            have hcz13_0 : wr.cell? ⟨gb191, 0, none⟩ = some (.int .u32 x192000_1) := (blk_cell BK191.out 0).trans rfl
            have hcz13_1 : wr.cell? ⟨gb191, 1, none⟩ = some (.string x192001_1) := (blk_cell BK191.out 1).trans rfl
            have hcz13_2 : wr.cell? ⟨gb191, 2, none⟩ = some (.int .i64 x192002_1) := (blk_cell BK191.out 2).trans rfl
            have hfz13_0 := blk_frozen BK191.out 0
            have hfz13_1 := blk_frozen BK191.out 1
            have hfz13_2 := blk_frozen BK191.out 2
            go_wp2
            go_roundg k1
            case measure => have := HK1.out; omega
            case rel => exact ⟨(decide (((rd_T49 l0_0 x8_1).f2) > 0)), (wrap64 (x8_1 + 1)), ((rd_T49 l0_0 x8_1).f0), ((rd_T49 l0_0 x8_1).f1), ((rd_T49 l0_0 x8_1).f2), (by first | rfl | (simp; done) | (simp [*]; done)), (by first | rfl | (simp; done) | (simp [*]; done)), H', ⟨by have := HK1.out; omega⟩, ⟨by (with_reducible repeat (first | refine blk_drewN ?_ _ | refine blk_drew ?_ | refine blk_alloc ?_ _)); refine blk_far ?_ NB189_191.out _; (with_reducible repeat (first | refine blk_drewN ?_ _ | refine blk_drew ?_ | refine blk_alloc ?_ _)); refine blk_far ?_ NB189_191.out _; (with_reducible repeat (first | refine blk_drewN ?_ _ | refine blk_drew ?_ | refine blk_alloc ?_ _)); refine blk_far ?_ NB189_191.out _; (with_reducible repeat (first | refine blk_drewN ?_ _ | refine blk_drew ?_ | refine blk_alloc ?_ _)); exact BK189.out⟩, ⟨by (with_reducible repeat (first | refine blk_drewN ?_ _ | refine blk_drew ?_ | refine blk_alloc ?_ _)); refine blk_far ?_ NB190_191.out _; (with_reducible repeat (first | refine blk_drewN ?_ _ | refine blk_drew ?_ | refine blk_alloc ?_ _)); refine blk_far ?_ NB190_191.out _; (with_reducible repeat (first | refine blk_drewN ?_ _ | refine blk_drew ?_ | refine blk_alloc ?_ _)); refine blk_far ?_ NB190_191.out _; (with_reducible repeat (first | refine blk_drewN ?_ _ | refine blk_drew ?_ | refine blk_alloc ?_ _)); exact BK190.out⟩, ⟨by (with_reducible repeat (first | refine blk_drewN ?_ _ | refine blk_drew ?_ | refine blk_alloc ?_ _)); refine blk_put (cs := #[.int .u32 ((rd_T49 l0_0 x8_1).f0), .string ((rd_T49 l0_0 x8_1).f1), .int .i64 x192002_1]) ?_ 2 _ rfl; (with_reducible repeat (first | refine blk_drewN ?_ _ | refine blk_drew ?_ | refine blk_alloc ?_ _)); refine blk_put (cs := #[.int .u32 ((rd_T49 l0_0 x8_1).f0), .string x192001_1, .int .i64 x192002_1]) ?_ 1 _ rfl; (with_reducible repeat (first | refine blk_drewN ?_ _ | refine blk_drew ?_ | refine blk_alloc ?_ _)); refine blk_put (cs := #[.int .u32 x192000_1, .string x192001_1, .int .i64 x192002_1]) ?_ 0 _ rfl; (with_reducible repeat (first | refine blk_drewN ?_ _ | refine blk_drew ?_ | refine blk_alloc ?_ _)); exact BK191.out⟩, ⟨by repeat (first | (with_reducible first | exact HB.out | apply below_alloc | apply pw_below_drewN | apply below_drew1 | refine below_set ?_ GE189.out | refine below_set ?_ GE190.out | refine below_set ?_ GE191.out) | exact HB.out)⟩⟩
          · rw [if_neg c8] at H
            have c8b0 : (((rd_T49 l0_0 x8_1).f0) == a1) = false := beq_eq_false_iff_ne.mpr c8
            have c8b1 : (((rd_T49 l0_0 x8_1).f0) != a1) = true := bne_iff_ne.mpr c8
            have H' := Aside0.mk H
            clear H
            have hnb14 := NB189_190.out
            have hnc14 := NB190_189.out
            have hnb15 := NB189_191.out
            have hnc15 := NB191_189.out
            have hcz16_0 : wr.cell? ⟨gb189, 0, none⟩ = some (.slice A0_0 l0_0.length c0_0) := (blk_cell BK189.out 0).trans rfl
            have hfz16_0 := blk_frozen BK189.out 0
            have p192 : 0 ≤ (x8_1 : Int) := of_decide_eq_true (by first | (with_reducible assumption) | assumption)
            have q192 : x8_1 < (l0_0.length : Int) := of_decide_eq_true (by first | (with_reducible assumption) | assumption)
            obtain ⟨ad192, e192, hx192_0, hx192_1, hx192_2⟩ := at_T49 HR0_0.out x8_1 p192 q192
            cases e192
            replace hx192_0 := (HB.out.cell (World.block_lt_of_cell? w _ hx192_0)).trans hx192_0
            replace hx192_1 := (HB.out.cell (World.block_lt_of_cell? w _ hx192_1)).trans hx192_1
            replace hx192_2 := (HB.out.cell (World.block_lt_of_cell? w _ hx192_2)).trans hx192_2
            replace p192 := eq_true p192
            replace q192 := eq_true q192
            go_wp2
            go_roundg k1
            case measure => have := HK1.out; omega
            case rel => exact ⟨(x7_1), (wrap64 (x8_1 + 1)), (x192000_1), (x192001_1), (x192002_1), (by first | rfl | (simp; done) | (simp [*]; done)), (by first | rfl | (simp; done) | (simp [*]; done)), H', ⟨by have := HK1.out; omega⟩, ⟨by (with_reducible repeat (first | refine blk_drewN ?_ _ | refine blk_drew ?_ | refine blk_alloc ?_ _)); exact BK189.out⟩, ⟨by (with_reducible repeat (first | refine blk_drewN ?_ _ | refine blk_drew ?_ | refine blk_alloc ?_ _)); exact BK190.out⟩, ⟨by (with_reducible repeat (first | refine blk_drewN ?_ _ | refine blk_drew ?_ | refine blk_alloc ?_ _)); exact BK191.out⟩, ⟨by repeat (first | (with_reducible first | exact HB.out | apply below_alloc | apply pw_below_drewN | apply below_drew1 | refine below_set ?_ GE189.out | refine below_set ?_ GE190.out | refine below_set ?_ GE191.out) | exact HB.out)⟩⟩
        · rw [if_neg c7] at H
          exact absurd H (by simp)
      · rw [if_neg c6] at H
        have c6b0 : decide (x8_1 < (l0_0.length : Int)) = false := decide_eq_false c6
        clear c6
        simp only [Option.some.injEq, Prod.mk.injEq] at H
        obtain ⟨rfl, rfl, rfl, rfl⟩ := H
        have hnb17 := NB189_190.out
        have hnc17 := NB190_189.out
        have hnb18 := NB189_191.out
        have hnc18 := NB191_189.out
        have hcz19_0 : wr.cell? ⟨gb189, 0, none⟩ = some (.slice A0_0 l0_0.length c0_0) := (blk_cell BK189.out 0).trans rfl
        have hfz19_0 := blk_frozen BK189.out 0
        have hnb20 := NB191_190.out
        have hnc20 := NB190_191.out
        have hcz21_0 : wr.cell? ⟨gb191, 0, none⟩ = some (.int .u32 x192000_1) := (blk_cell BK191.out 0).trans rfl
        have hcz21_1 : wr.cell? ⟨gb191, 1, none⟩ = some (.string x192001_1) := (blk_cell BK191.out 1).trans rfl
        have hcz21_2 : wr.cell? ⟨gb191, 2, none⟩ = some (.int .i64 x192002_1) := (blk_cell BK191.out 2).trans rfl
        have hfz21_0 := blk_frozen BK191.out 0
        have hfz21_1 := blk_frozen BK191.out 1
        have hfz21_2 := blk_frozen BK191.out 2
        have hcz22_0 : wr.cell? ⟨gb190, 0, none⟩ = some (.int .u32 0) := (blk_cell BK190.out 0).trans rfl
        have hcz22_1 : wr.cell? ⟨gb190, 1, none⟩ = some (.string (⟨#[]⟩ : ByteArray)) := (blk_cell BK190.out 1).trans rfl
        have hcz22_2 : wr.cell? ⟨gb190, 2, none⟩ = some (.int .i64 0) := (blk_cell BK190.out 2).trans rfl
        have hfz22_0 := blk_frozen BK190.out 0
        have hfz22_1 := blk_frozen BK190.out 1
        have hfz22_2 := blk_frozen BK190.out 2
        go_wp2
        refine bodyPost_ret (results_ct rfl _ _ gb190 49 #[.int .u32 x192000_1, .string x192001_1, .int .i64 x192002_1] (0, 0) _ rfl (by (with_reducible repeat (first | refine blk_drewN ?_ _ | refine blk_drew ?_ | refine blk_alloc ?_ _)); refine blk_put (cs := #[.int .u32 x192000_1, .string x192001_1, .int .i64 0]) ?_ 2 _ rfl; (with_reducible repeat (first | refine blk_drewN ?_ _ | refine blk_drew ?_ | refine blk_alloc ?_ _)); refine blk_put (cs := #[.int .u32 x192000_1, .string (⟨#[]⟩ : ByteArray), .int .i64 0]) ?_ 1 _ rfl; (with_reducible repeat (first | refine blk_drewN ?_ _ | refine blk_drew ?_ | refine blk_alloc ?_ _)); refine blk_put (cs := #[.int .u32 0, .string (⟨#[]⟩ : ByteArray), .int .i64 0]) ?_ 0 _ rfl; (with_reducible repeat (first | refine blk_drewN ?_ _ | refine blk_drew ?_ | refine blk_alloc ?_ _)); exact BK190.out) Try.underlying49 rfl (by kernel_rfl)) rfl ?_
        exact ⟨by first | rfl | (simp [errW_none, errW_some] <;> rfl) | (simp [*, errW_none, errW_some] <;> rfl), by repeat (first | (with_reducible first | exact HB.out | apply below_alloc | apply pw_below_drewN | apply below_drew1 | refine below_set ?_ GE189.out | refine below_set ?_ GE190.out | refine below_set ?_ GE191.out) | exact HB.out)⟩
end Go.Proofs.Ytpedlnebpibgaaa.All
end
section
namespace Go.Proofs.Ytpedlnebpibgaaa.All
open Go.Proofs.YtpedlnebpibgaaaSq
open Go.RowKit Go.Proofs.YtpedlnebpibgaaaW.PrintWords Go.Proofs.YtpedlnebpibgaaaW.PrintLast Go.Proofs.YtpedlnebpibgaaaW.PrintMore
attribute [local go_sem] max2_int min2_int max_two min_two max_three min_three max_four min_four
set_option linter.unusedVariables false
set_option linter.unusedSimpArgs false
abbrev zq20.q0 : Array Bool := #[false, false, false, false, false, false, false, false, false, false, false, false, false, false]
abbrev zq20.q1 : Array Bool := #[false, true, false, false, false, false, false, false, false, false, false, false, false, false]
abbrev zq20.q2 : Array Bool := #[false, true, false, true, false, false, false, false, false, false, false, false, false, false]
abbrev zq20.q3 : Array Bool := #[true, true, false, true, false, false, false, false, false, false, false, false, false, false]
abbrev zq20.q4 : Array Bool := #[true, true, true, true, false, false, false, false, false, false, false, false, false, false]
abbrev zq20.q5 : Array Bool := #[true, true, true, true, true, false, false, false, false, false, false, false, false, false]
abbrev zq20.q6 : Array Bool := #[true, true, true, true, true, true, false, false, false, false, false, false, false, false]
abbrev zq20.q7 : Array Bool := #[true, true, true, true, true, true, true, false, false, false, false, false, false, false]
abbrev zq20.q8 : Array Bool := #[true, true, true, true, true, true, true, true, true, true, true, true, false, false]
abbrev zq20.q9 : Array Bool := #[true, true, true, true, true, true, true, true, false, false, false, false, false, false]
abbrev zq20.q10 : Array Bool := #[true, true, true, true, true, true, true, false, false, false, false, true, false, false]
abbrev zq20.q11 : Array Bool := #[true, true, true, true, true, true, true, true, true, false, false, false, false, false]
abbrev zq20.q12 : Array Bool := #[true, true, true, true, true, true, true, true, true, true, false, false, false, false]
abbrev zq20.q13 : Array Bool := #[true, true, true, true, true, true, true, true, true, true, true, false, false, false]
abbrev zq20.q14 : Array Bool := #[true, true, true, true, true, true, true, true, false, false, false, true, false, false]
abbrev zq20.q15 : Array Bool := #[true, true, true, true, true, true, true, true, true, false, false, true, false, false]
abbrev zq20.q16 : Array Bool := #[true, true, true, true, true, true, true, true, true, true, false, true, false, false]
abbrev zq20.q17 : Array Bool := #[true, true, true, true, true, true, true, true, true, true, true, true, true, false]
abbrev zq20.q18 : Array Bool := #[true, true, true, true, true, true, true, true, true, true, true, true, true, true]
def compositorref14_List.l0 : Nat → List (S49) → Int → List (S49) → Option ((List (S49)))
 | 0, _, _, _ => none
 | k + 1, x3, x4, x195000 => if x4 < (x195000.length : Int) then (if 0 ≤ x4 then (if ((rd_T49 x195000 x4).f2) = 0 then (compositorref14_List.l0 k x3 (wrap64 (x4 + 1)) x195000) else ((compositorref14_announced.f k x195000 ((rd_T49 x195000 x4).f0)).bind fun bt197 => (if bt197.2.2.2 = true then (if x3.length < 4398046511104 then (compositorref14_List.l0 k (x3 ++ [(⟨(rd_T49 x195000 x4).f0, (rd_T49 x195000 x4).f1, (rd_T49 x195000 x4).f2⟩ : S49)]) (wrap64 (x4 + 1)) x195000) else (none)) else (compositorref14_List.l0 k x3 (wrap64 (x4 + 1)) x195000)))) else (none)) else (some x3)
def compositorref14_List.f (k : Nat) (l0_0 : List (S49)) : Option ((List (S49))) := compositorref14_List.l0 k ([] : List (S49)) 0 l0_0
def compositorref14_List.T6 : Bool × List (List Nat × List Nat) := (true, [([], []), ([], []), ([1], [1]), ([], []), ([2, 3], [2, 3]), ([4], [4]), ([5], [5]), ([0, 6], [0, 6]), ([7], [7]), ([8], [8]), ([8], [8]), ([], []), ([11, 9, 7, 0, 1, 2, 3, 4, 5, 6, 7, 8, 9, 11], [9, 11]), ([10, 12, 0, 1, 2, 3, 4, 5, 6, 7, 8, 9, 10, 11, 12], [10])])
def compositorref14_List.B6 : List Nat := [0, 0, 2, 0, 14, 30, 62, 127, 255, 511, 511, 0, 3071, 8191]
theorem compositorref14_List.tab6 : rtab .any (opsOf Try.f20 6) = compositorref14_List.T6 := by kernel_rfl
theorem compositorref14_List.bits6 : waitsOk compositorref14_List.T6.2 compositorref14_List.B6 = true := by kernel_rfl
set_option maxHeartbeats 8000000 in
set_option maxRecDepth 100000 in
theorem compositorref14_List.calls (k : Nat) (A0_0 : Option Addr) (c0_0 : Nat) (l0_0 : List (S49)) (r : List (S49)) (w : World) (hr0_0 : Kd.C k49 w A0_0 l0_0.length l0_0) (hc0_0 : l0_0.length ≤ c0_0) (h : compositorref14_List.f k l0_0 = some r) :
  Calls Try.prog 20 #[.agg #[.slice A0_0 l0_0.length c0_0]] w fun e w' => ∃ v0_ : Value, e = .returned (v0_) ∧ Kd.R k49 49 w' w.heap.size (fun _ => True) v0_ r ∧ Below w.heap.size w w' := by
 have hu28 := Try.underlying28
 have hu49 := Try.underlying49
 have HR0_0 := Aside0.mk hr0_0
 have HC0_0 := Aside0.mk hc0_0
 clear hr0_0 hc0_0
 have HB := Aside0.mk (Below.refl w.heap.size w)
 have H : (compositorref14_List.l0 k ([] : List (S49)) 0 l0_0) = some r := h
 clear h
 have H' := Aside0.mk H
 clear H
 go_enter Try.func20, Try.ntmps20
 go_wp2_with (first | ((with_reducible refine gate_dst (N := 1) rfl ?_); refine box_event ?hg (N := 1) ?hd (cs := #[.slice A0_0 l0_0.length c0_0]) (t := 28) ?hr ?_; (case hd => rfl); (case hg => rfl); (case hr => first | (go_simp; done) | (go_simp; rfl)); intro gb194 hg w2 hbox hb; have n0_ := hb_ HB hb; have n1_ := Aside0.mk (hbox); have n2_ := Aside0.mk ((by rw [hg]; exact (below_size (hq_ HB)) : w.heap.size ≤ gb194)); have n3_ := Aside0.mk ((by rw [hg]; exact (below_size (hq_ HB)) : w.heap.size ≤ gb194)); clear HB; have HB := n0_; have BK194 := n1_; have GW194 := n2_; have GE194 := n3_; clear n0_ n1_ n2_ n3_; clear hb hbox hg))
 go_loopg [3, 4] k (fun kq v3 v4 w' => ∃ (x3_1 : List (S49)) (x4_1 : Int), v4 = .int .i64 x4_1 ∧ Aside0 (compositorref14_List.l0 kq x3_1 x4_1 l0_0 = some r) ∧ Aside0 (kq ≤ k) ∧ Aside0 (Kd.R k49 49 w' w.heap.size (fun _ => True) v3 x3_1) ∧ Aside0 (w'.heap[gb194]? = some (.cells #[(.slice A0_0 l0_0.length c0_0)] 28 (0, 0))) ∧ Aside0 (Below w.heap.size w w'))
 case atStart => exact ⟨(([] : List (S49))), (0), (by first | rfl | (simp; done) | (simp [*]; done)), H', ⟨Nat.le_refl _⟩, ⟨by first | exact Kd.R_nil _ _ _ _ _ | exact Kd.N_nil _ _ _ _ _ | exact Kd.V_nil _ _ _ _ _ | exact Kd.Q_nil _ _ _ _ _ | exact Kd.S_nil _ _ _ _ _⟩, bf_ BK194, ⟨by repeat (first | (with_reducible first | exact HB.out | apply below_alloc | apply pw_below_drewN | apply below_drew1 | refine below_set ?_ GE194.out) | exact HB.out)⟩⟩
 case round =>
  clear H'
  try clear c2
  try clear p2
  obtain ⟨x3_1, x4_1, rfl, HA, HK1, HO_3, BK194, HB⟩ := hrel
  cases gk with
  | zero => exact absurd HA.out (by simp [compositorref14_List.l0])
  | succ k1 =>
   have H := HA.out
   clear HA
   simp only [compositorref14_List.l0] at H
   by_cases c3 : x4_1 < (l0_0.length : Int)
   ·
    rw [if_pos c3] at H
    have c3b0 : decide (x4_1 < (l0_0.length : Int)) = true := decide_eq_true c3
    clear c3
    by_cases c4 : 0 ≤ x4_1
    ·
     rw [if_pos c4] at H
     have c4b0 : decide (0 ≤ x4_1) = true := decide_eq_true c4
     clear c4
     by_cases c5 : ((rd_T49 l0_0 x4_1).f2) = 0
     ·
      rw [if_pos c5] at H
      have c5b0 : (((rd_T49 l0_0 x4_1).f2) == 0) = true := beq_iff_eq.mpr c5
      have c5b1 : (((rd_T49 l0_0 x4_1).f2) != 0) = false := bne_eq_false_iff_eq.mpr c5
      clear c5
      have H' := Aside0.mk H
      clear H
      have hcz6_0 : wr.cell? ⟨gb194, 0, none⟩ = some (.slice A0_0 l0_0.length c0_0) := (blk_cell BK194.out 0).trans rfl
      have hfz6_0 := blk_frozen BK194.out 0
      have p195 : 0 ≤ (x4_1 : Int) := of_decide_eq_true (by first | (with_reducible assumption) | assumption)
      have q195 : x4_1 < (l0_0.length : Int) := of_decide_eq_true (by first | (with_reducible assumption) | assumption)
      obtain ⟨ad195, e195, hx195_0, hx195_1, hx195_2⟩ := at_T49 HR0_0.out x4_1 p195 q195
      cases e195
      replace hx195_0 := (HB.out.cell (World.block_lt_of_cell? w _ hx195_0)).trans hx195_0
      replace hx195_1 := (HB.out.cell (World.block_lt_of_cell? w _ hx195_1)).trans hx195_1
      replace hx195_2 := (HB.out.cell (World.block_lt_of_cell? w _ hx195_2)).trans hx195_2
      replace p195 := eq_true p195
      replace q195 := eq_true q195
      go_wp2
      go_roundg k1
      case measure => have := HK1.out; omega
      case rel => exact ⟨(x3_1), (wrap64 (x4_1 + 1)), (by first | rfl | (simp; done) | (simp [*]; done)), H', ⟨by have := HK1.out; omega⟩, ⟨by (with_reducible repeat (first | apply Kd.R_alloc | apply Kd.R_drewN | apply Kd.R_drew)); exact HO_3.out⟩, bf_ BK194, ⟨by repeat (first | (with_reducible first | exact HB.out | apply below_alloc | apply pw_below_drewN | apply below_drew1 | refine below_set ?_ GE194.out) | exact HB.out)⟩⟩
     ·
      rw [if_neg c5] at H
      have c5b0 : (((rd_T49 l0_0 x4_1).f2) == 0) = false := beq_eq_false_iff_ne.mpr c5
      have c5b1 : (((rd_T49 l0_0 x4_1).f2) != 0) = true := bne_iff_ne.mpr c5
      replace H := Option.bind_eq_some_iff.mp H
      obtain ⟨⟨t197, t198, t199, t200⟩, A70, H⟩ := H
      try dsimp only at H
      have A7 := Aside0.mk A70
      clear A70
      by_cases c8 : t200 = true
      ·
       subst c8
       have H1 : (if x3_1.length < 4398046511104 then (compositorref14_List.l0 k1 (x3_1 ++ [(⟨(rd_T49 l0_0 x4_1).f0, (rd_T49 l0_0 x4_1).f1, (rd_T49 l0_0 x4_1).f2⟩ : S49)]) (wrap64 (x4_1 + 1)) l0_0) else (none)) = some r := by rw [if_pos rfl] at H; exact H
       clear H
       have H := H1
       clear H1
       by_cases c9 : x3_1.length < 4398046511104
       ·
        rw [if_pos c9] at H
        have LMc9 := Aside0.mk c9
        clear c9
        obtain ⟨y203, hy203⟩ : ∃ y_ : List (S49), y_ = (x3_1 ++ [(⟨(rd_T49 l0_0 x4_1).f0, (rd_T49 l0_0 x4_1).f1, (rd_T49 l0_0 x4_1).f2⟩ : S49)]) := ⟨_, rfl⟩
        replace H : (compositorref14_List.l0 k1 y203 (wrap64 (x4_1 + 1)) l0_0) = some r := by first | (rw [hy203]; with_reducible exact H) | (have H2_ := (Option.bind_some _ _).symm.trans H; rw [hy203]; with_reducible exact H2_) | (have H2_ := (Option.bind_some _ _).symm.trans H; with_reducible exact H2_) | with_reducible exact H | (rw [hy203]; exact H) | exact H
        have Ny203 := Aside0.mk hy203
        clear hy203
        have H' := Aside0.mk H
        clear H
        have hcz10_0 : wr.cell? ⟨gb194, 0, none⟩ = some (.slice A0_0 l0_0.length c0_0) := (blk_cell BK194.out 0).trans rfl
        have hfz10_0 := blk_frozen BK194.out 0
        have p195 : 0 ≤ (x4_1 : Int) := of_decide_eq_true (by first | (with_reducible assumption) | assumption)
        have q195 : x4_1 < (l0_0.length : Int) := of_decide_eq_true (by first | (with_reducible assumption) | assumption)
        obtain ⟨ad195, e195, hx195_0, hx195_1, hx195_2⟩ := at_T49 HR0_0.out x4_1 p195 q195
        cases e195
        replace hx195_0 := (HB.out.cell (World.block_lt_of_cell? w _ hx195_0)).trans hx195_0
        replace hx195_1 := (HB.out.cell (World.block_lt_of_cell? w _ hx195_1)).trans hx195_1
        replace hx195_2 := (HB.out.cell (World.block_lt_of_cell? w _ hx195_2)).trans hx195_2
        replace p195 := eq_true p195
        replace q195 := eq_true q195
        try go_wp2
        replace HO_3 := Aside0.mk (Kd.R_drew HO_3.out)
        replace BK194 := Aside0.mk (blk_drew BK194.out)
        replace HB := Aside0.mk (below_drew1 HB.out)
        have p196 : 0 ≤ (x4_1 : Int) := of_decide_eq_true (by first | (with_reducible assumption) | assumption)
        have q196 : x4_1 < (l0_0.length : Int) := of_decide_eq_true (by first | (with_reducible assumption) | assumption)
        obtain ⟨ad196, e196, hx196_0, hx196_1, hx196_2⟩ := at_T49 HR0_0.out x4_1 p196 q196
        have hw196_2 := hx196_2
        have hw196_1 := hx196_1
        have hw196_0 := hx196_0
        obtain rfl : ad195 = ad196 := (by injection e196)
        replace hx196_0 := (HB.out.cell (World.block_lt_of_cell? w _ hx196_0)).trans hx196_0
        replace hx196_1 := (HB.out.cell (World.block_lt_of_cell? w _ hx196_1)).trans hx196_1
        replace hx196_2 := (HB.out.cell (World.block_lt_of_cell? w _ hx196_2)).trans hx196_2
        replace p196 := eq_true p196
        replace q196 := eq_true q196
        refine start_ (n := 14) (S := fun w' => w'.cell? ⟨gb194, 0, none⟩ = some (.slice (some ad195) l0_0.length c0_0) ∧ w'.cell? (ad195.add ((x4_1).toNat * 3)) = some (.int .u32 ((rd_T49 l0_0 x4_1).f0)) ∧ w'.cell? ⟨(ad195.add ((x4_1).toNat * 3)).block, (ad195.add ((x4_1).toNat * 3)).off + 1, none⟩ = some (.string ((rd_T49 l0_0 x4_1).f1)) ∧ w'.cell? ⟨(ad195.add ((x4_1).toNat * 3)).block, (ad195.add ((x4_1).toNat * 3)).off + 2, none⟩ = some (.int .i64 ((rd_T49 l0_0 x4_1).f2))) (ds := []) zq20.q0 (by kernel_rfl) rfl rfl ⟨(blk_cell BK194.out 0).trans rfl, ((HB.out.cell (World.block_lt_of_cell? w _ hw196_0)).trans hw196_0), ((HB.out.cell (World.block_lt_of_cell? w _ hw196_1)).trans hw196_1), ((HB.out.cell (World.block_lt_of_cell? w _ hw196_2)).trans hw196_2)⟩ (fun hHeld => ?_); refine with_tabW compositorref14_List.tab6 compositorref14_List.bits6 (fun HT_ HW_ => ?_)
        generalize wr.drew = w11 at HO_3 BK194 HB hx196_0 hx196_1 hx196_2 hHeld ⊢
        refine pv_ 1 23 zq20.q1 HT_ ?_
        refine pv_ 3 25 zq20.q2 HT_ ?_
        refine tk4_ 0 22 zq20.q3 HT_ HW_ hHeld ?_
        refine tk4_ 2 24 zq20.q4 HT_ HW_ hHeld ?_
        refine pv_ 4 26 zq20.q5 HT_ ?_
        refine pv_ 5 27 zq20.q6 HT_ ?_
        refine tk4_ 6 28 zq20.q7 HT_ HW_ hHeld ?_
        refine join_ (σ := Nat) 2 zq20.q8 (fun s_ => [(29, .tuple #[.agg #[.int .u32 t197, .string t198, .int .i64 t199], .bool true]), (5, .pointer (some ⟨s_, 0, none⟩)), (21, .tuple #[.agg #[.int .u32 t197, .string t198, .int .i64 t199], .bool true]), (30, .agg #[.int .u32 t197, .string t198, .int .i64 t199]), (31, .bool true)]) (fun s_ w' => (w'.cell? ⟨gb194, 0, none⟩ = some (.slice (some ad195) l0_0.length c0_0) ∧ w'.cell? (ad195.add ((x4_1).toNat * 3)) = some (.int .u32 ((rd_T49 l0_0 x4_1).f0)) ∧ w'.cell? ⟨(ad195.add ((x4_1).toNat * 3)).block, (ad195.add ((x4_1).toNat * 3)).off + 1, none⟩ = some (.string ((rd_T49 l0_0 x4_1).f1)) ∧ w'.cell? ⟨(ad195.add ((x4_1).toNat * 3)).block, (ad195.add ((x4_1).toNat * 3)).off + 2, none⟩ = some (.int .i64 ((rd_T49 l0_0 x4_1).f2))) ∧ (Kd.R k49 49 w' w.heap.size (fun k_ => k_ ≠ s_) u3 x3_1) ∧ (w'.heap[gb194]? = some (.cells #[.slice (some ad195) l0_0.length c0_0] 28 (0, 0))) ∧ (w'.heap[s_]? = some (.cells #[.int .u32 0, .string (⟨#[]⟩ : ByteArray), .int .i64 0] 49 (0, 0))) ∧ (w.heap.size ≤ s_) ∧ (w.heap.size ≤ s_) ∧ (gb194 ≠ s_) ∧ (s_ ≠ gb194) ∧ (Below w.heap.size w w')) ?_ ?_
        rotate_left
        ·
         intro hCont
         refine two_ (i := 7) (j := 11) (Ni := some 29) (Nj := some 5) zq20.q9 zq20.q10 rfl rfl rfl rfl (two_of HT_.out (by kernel_rfl)) (by decide) (by decide) (fun K hK => ?_) (fun K hK => ?_)
         ·
          refine gs_ Try.func35 #[.agg #[.slice (some ad195) l0_0.length c0_0], .int .u32 ((rd_T49 l0_0 x4_1).f0)] ?_
          with_reducible refine (compositorref14_announced.calls k1 _ _ l0_0 ((rd_T49 l0_0 x4_1).f0) t197 t198 t199 true _ ?side1 ?side2 A7.out).mono ?_
          (case side1 => repeat (first | exact (Kd.C_below HR0_0.out HB.out) | (with_reducible refine Kd.C_alloc ?_ _) | (with_reducible refine Kd.C_drewN ?_ _) | (with_reducible refine Kd.C_drew ?_)))
          (case side2 => exact HC0_0.out)
          rintro e w12 ⟨rfl, hb⟩
          refine ⟨_, rfl, ?_⟩
          replace HO_3 := Aside0.mk (Kd.R_below (by (with_reducible repeat (first | apply Kd.R_alloc | apply Kd.R_drewN | apply Kd.R_drew)); exact HO_3.out) hb)
          replace BK194 := bb_ BK194 hb
          replace HB := hb_ HB hb
          (try clear hb); (try clear hb2); (try clear hk); (try clear hi)
          refine hK.out _ _ ⟨(blk_cell BK194.out 0).trans rfl, ((HB.out.cell (World.block_lt_of_cell? w _ hw196_0)).trans hw196_0), ((HB.out.cell (World.block_lt_of_cell? w _ hw196_1)).trans hw196_1), ((HB.out.cell (World.block_lt_of_cell? w _ hw196_2)).trans hw196_2)⟩ (fun hHeld => ?_)
          clear hK K
          refine norm_ (a' := ?_) ?_ ?_
          rotate_left
          ·
           show Act.put _ (some 29) _ = _
           simp only [Act.put, List.setIfInBounds_toArray, List.set_cons_zero, List.set_cons_succ, i64_w, i32_w]
           rfl
          refine pv_ 8 21 zq20.q11 HT_ ?_
          refine pv_ 9 30 zq20.q12 HT_ ?_
          refine pv_ 10 31 zq20.q13 HT_ ?_
          refine one_ (i := 11) (N := some 5) zq20.q8 rfl rfl (one_of HT_.out (by kernel_rfl)) (by decide) (fun K hK => ?_)
          refine box_step ?hg (N := 5) ?hd (cs := #[.int .u32 0, .string (⟨#[]⟩ : ByteArray), .int .i64 0]) (t := 49) ?hr ?_; (case hd => rfl); (case hg => rfl); (case hr => first | (go_simp; done) | (go_simp; rfl))
          intro gb201 hg w13 hbox hb
          replace HO_3 := Aside0.mk (Kd.R_below (Kd.R_elderB (by (with_reducible repeat (first | apply Kd.R_alloc | apply Kd.R_drewN | apply Kd.R_drew)); exact HO_3.out) gb201 (Nat.le_of_eq hg.symm)) hb)
          have BK201 := Aside0.mk (hbox)
          have GW201 := Aside0.mk ((by rw [hg]; exact (below_size (hq_ HB)) : w.heap.size ≤ gb201))
          have GE201 := Aside0.mk ((by rw [hg]; exact (below_size (hq_ HB)) : w.heap.size ≤ gb201))
          replace HB := hb_ HB hb
          have NB194_201 := Aside0.mk ((by rw [hg]; exact Nat.ne_of_lt (blk_lt (g := gb194) (o := .cells #[.slice (some ad195) l0_0.length c0_0] 28 (0, 0)) (bq_ BK194)) : gb194 ≠ gb201))
          have NB201_194 := Aside0.mk ((by rw [hg]; exact Nat.ne_of_gt (blk_lt (g := gb194) (o := .cells #[.slice (some ad195) l0_0.length c0_0] 28 (0, 0)) (bq_ BK194)) : gb201 ≠ gb194))
          replace BK194 := bb_ BK194 hb
          clear hb hbox hg
          refine hK.out _ _ ⟨(blk_cell BK194.out 0).trans rfl, ((HB.out.cell (World.block_lt_of_cell? w _ hw196_0)).trans hw196_0), ((HB.out.cell (World.block_lt_of_cell? w _ hw196_1)).trans hw196_1), ((HB.out.cell (World.block_lt_of_cell? w _ hw196_2)).trans hw196_2)⟩ (fun hHeld => ?_)
          clear hK K
          refine norm_ (a' := ?_) ?_ ?_
          rotate_left
          ·
           show Act.put _ (some 5) _ = _
           simp only [Act.put, List.setIfInBounds_toArray, List.set_cons_zero, List.set_cons_succ, i64_w, i32_w]
           rfl
          exact norm_ (by simp only [putAll, Act.put, List.setIfInBounds_toArray, List.set_cons_zero, List.set_cons_succ]) (hCont (gb201) _ ⟨hHeld, (by (with_reducible repeat (first | apply Kd.R_alloc | apply Kd.R_drewN | apply Kd.R_drew)); exact Kd.R_mono HO_3.out (fun _ hk => hk.2)), (bq_ BK194), (bq_ BK201), GW201.out, GE201.out, NB194_201.out, NB201_194.out, (hq_ HB)⟩)
         ·
          refine box_step ?hg (N := 5) ?hd (cs := #[.int .u32 0, .string (⟨#[]⟩ : ByteArray), .int .i64 0]) (t := 49) ?hr ?_; (case hd => rfl); (case hg => rfl); (case hr => first | (go_simp; done) | (go_simp; rfl))
          intro gb201 hg w12 hbox hb
          replace HO_3 := Aside0.mk (Kd.R_below (Kd.R_elderB (by (with_reducible repeat (first | apply Kd.R_alloc | apply Kd.R_drewN | apply Kd.R_drew)); exact HO_3.out) gb201 (Nat.le_of_eq hg.symm)) hb)
          have BK201 := Aside0.mk (hbox)
          have GW201 := Aside0.mk ((by rw [hg]; exact (below_size (hq_ HB)) : w.heap.size ≤ gb201))
          have GE201 := Aside0.mk ((by rw [hg]; exact (below_size (hq_ HB)) : w.heap.size ≤ gb201))
          replace HB := hb_ HB hb
          have NB194_201 := Aside0.mk ((by rw [hg]; exact Nat.ne_of_lt (blk_lt (g := gb194) (o := .cells #[.slice (some ad195) l0_0.length c0_0] 28 (0, 0)) (bq_ BK194)) : gb194 ≠ gb201))
          have NB201_194 := Aside0.mk ((by rw [hg]; exact Nat.ne_of_gt (blk_lt (g := gb194) (o := .cells #[.slice (some ad195) l0_0.length c0_0] 28 (0, 0)) (bq_ BK194)) : gb201 ≠ gb194))
          replace BK194 := bb_ BK194 hb
          clear hb hbox hg
          refine hK.out _ _ ⟨(blk_cell BK194.out 0).trans rfl, ((HB.out.cell (World.block_lt_of_cell? w _ hw196_0)).trans hw196_0), ((HB.out.cell (World.block_lt_of_cell? w _ hw196_1)).trans hw196_1), ((HB.out.cell (World.block_lt_of_cell? w _ hw196_2)).trans hw196_2)⟩ (fun hHeld => ?_)
          clear hK K
          refine norm_ (a' := ?_) ?_ ?_
          rotate_left
          ·
           show Act.put _ (some 5) _ = _
           simp only [Act.put, List.setIfInBounds_toArray, List.set_cons_zero, List.set_cons_succ, i64_w, i32_w]
           rfl
          refine one_ (i := 7) (N := some 29) zq20.q14 rfl rfl (one_of HT_.out (by kernel_rfl)) (by decide) (fun K hK => ?_)
          refine gs_ Try.func35 #[.agg #[.slice (some ad195) l0_0.length c0_0], .int .u32 ((rd_T49 l0_0 x4_1).f0)] ?_
          with_reducible refine (compositorref14_announced.calls k1 _ _ l0_0 ((rd_T49 l0_0 x4_1).f0) t197 t198 t199 true _ ?side1 ?side2 A7.out).mono ?_
          (case side1 => repeat (first | exact (Kd.C_below HR0_0.out HB.out) | (with_reducible refine Kd.C_alloc ?_ _) | (with_reducible refine Kd.C_drewN ?_ _) | (with_reducible refine Kd.C_drew ?_)))
          (case side2 => exact HC0_0.out)
          rintro e w13 ⟨rfl, hb⟩
          refine ⟨_, rfl, ?_⟩
          replace HO_3 := Aside0.mk (Kd.R_below (by (with_reducible repeat (first | apply Kd.R_alloc | apply Kd.R_drewN | apply Kd.R_drew)); exact HO_3.out) hb)
          replace BK194 := bb_ BK194 hb
          replace BK201 := bb_ BK201 hb
          replace HB := hb_ HB hb
          (try clear hb); (try clear hb2); (try clear hk); (try clear hi)
          refine hK.out _ _ ⟨(blk_cell BK194.out 0).trans rfl, ((HB.out.cell (World.block_lt_of_cell? w _ hw196_0)).trans hw196_0), ((HB.out.cell (World.block_lt_of_cell? w _ hw196_1)).trans hw196_1), ((HB.out.cell (World.block_lt_of_cell? w _ hw196_2)).trans hw196_2)⟩ (fun hHeld => ?_)
          clear hK K
          refine norm_ (a' := ?_) ?_ ?_
          rotate_left
          ·
           show Act.put _ (some 29) _ = _
           simp only [Act.put, List.setIfInBounds_toArray, List.set_cons_zero, List.set_cons_succ, i64_w, i32_w]
           rfl
          refine pv_ 8 21 zq20.q15 HT_ ?_
          refine pv_ 9 30 zq20.q16 HT_ ?_
          refine pv_ 10 31 zq20.q8 HT_ ?_
          exact norm_ (by simp only [putAll, Act.put, List.setIfInBounds_toArray, List.set_cons_zero, List.set_cons_succ]) (hCont (gb201) _ ⟨hHeld, (by (with_reducible repeat (first | apply Kd.R_alloc | apply Kd.R_drewN | apply Kd.R_drew)); exact Kd.R_mono HO_3.out (fun _ hk => hk.2)), (bq_ BK194), (bq_ BK201), GW201.out, GE201.out, NB194_201.out, NB201_194.out, (hq_ HB)⟩)
        rintro gb201 w14 ⟨hS_, h0_, h1_, h2_, h3_, h4_, h5_, h6_, h7_⟩
        replace HO_3 := Aside0.mk h0_
        replace BK194 := Aside0.mk h1_
        have BK201 := Aside0.mk h2_
        have GW201 := Aside0.mk h3_
        have GE201 := Aside0.mk h4_
        have NB194_201 := Aside0.mk h5_
        have NB201_194 := Aside0.mk h6_
        replace HB := Aside0.mk h7_
        clear h0_ h1_ h2_ h3_ h4_ h5_ h6_ h7_
        have hHeld := hS_
        refine norm_ (a' := ?_) ?_ ?_
        rotate_left
        ·
         simp only [putAll, Act.put, List.setIfInBounds_toArray, List.set_cons_zero, List.set_cons_succ]
         rfl
        refine one_ (i := 12) (N := none) zq20.q17 rfl rfl (one_of HT_.out (by kernel_rfl)) (by decide) (fun K hK => ?_)
        have hs15 : w14.cell? ⟨gb201, 0, none⟩ = some (.int .u32 0) := (blk_cell BK201.out 0).trans rfl
        have hfs15 := blk_frozen BK201.out 0
        have hns15_0 := NB194_201.out
        have hms15_0 := NB201_194.out
        have hs16 : w14.cell? ⟨gb201, 1, none⟩ = some (.string (⟨#[]⟩ : ByteArray)) := (blk_cell BK201.out 1).trans rfl
        have hfs16 := blk_frozen BK201.out 1
        have hns16_0 := NB194_201.out
        have hms16_0 := NB201_194.out
        have hs17 : w14.cell? ⟨gb201, 2, none⟩ = some (.int .i64 0) := (blk_cell BK201.out 2).trans rfl
        have hfs17 := blk_frozen BK201.out 2
        have hns17_0 := NB194_201.out
        have hms17_0 := NB201_194.out
        refine skip_ (w1 := ?_) (by rfl) rfl ?_ ?_
        rotate_left
        ·
         go_simp
         rfl
        refine hK.out _ _ ⟨((cell_far (p := ⟨gb201, _, none⟩) NB194_201.out _).trans (((cell_far (p := ⟨gb201, _, none⟩) NB194_201.out _).trans (((cell_far (p := ⟨gb201, _, none⟩) NB194_201.out _).trans (hHeld.1)))))), ((cell_far (p := ⟨gb201, _, none⟩) (by first | exact Nat.ne_of_lt (Nat.lt_of_lt_of_le (by have := World.block_lt_of_cell? _ _ hw196_0; first | rwa [add_block] at this | exact this) GW201.out) | (rw [add_block]; exact Nat.ne_of_lt (Nat.lt_of_lt_of_le (by have := World.block_lt_of_cell? _ _ hw196_0; first | rwa [add_block] at this | exact this) GW201.out)) | (show (Addr.add _ _).block ≠ _; rw [add_block]; exact Nat.ne_of_lt (Nat.lt_of_lt_of_le (by have := World.block_lt_of_cell? _ _ hw196_0; first | rwa [add_block] at this | exact this) GW201.out)) | (dsimp only; exact Nat.ne_of_lt (Nat.lt_of_lt_of_le (by have := World.block_lt_of_cell? _ _ hw196_0; first | rwa [add_block] at this | exact this) GW201.out))) _).trans (((cell_far (p := ⟨gb201, _, none⟩) (by first | exact Nat.ne_of_lt (Nat.lt_of_lt_of_le (by have := World.block_lt_of_cell? _ _ hw196_0; first | rwa [add_block] at this | exact this) GW201.out) | (rw [add_block]; exact Nat.ne_of_lt (Nat.lt_of_lt_of_le (by have := World.block_lt_of_cell? _ _ hw196_0; first | rwa [add_block] at this | exact this) GW201.out)) | (show (Addr.add _ _).block ≠ _; rw [add_block]; exact Nat.ne_of_lt (Nat.lt_of_lt_of_le (by have := World.block_lt_of_cell? _ _ hw196_0; first | rwa [add_block] at this | exact this) GW201.out)) | (dsimp only; exact Nat.ne_of_lt (Nat.lt_of_lt_of_le (by have := World.block_lt_of_cell? _ _ hw196_0; first | rwa [add_block] at this | exact this) GW201.out))) _).trans (((cell_far (p := ⟨gb201, _, none⟩) (by first | exact Nat.ne_of_lt (Nat.lt_of_lt_of_le (by have := World.block_lt_of_cell? _ _ hw196_0; first | rwa [add_block] at this | exact this) GW201.out) | (rw [add_block]; exact Nat.ne_of_lt (Nat.lt_of_lt_of_le (by have := World.block_lt_of_cell? _ _ hw196_0; first | rwa [add_block] at this | exact this) GW201.out)) | (show (Addr.add _ _).block ≠ _; rw [add_block]; exact Nat.ne_of_lt (Nat.lt_of_lt_of_le (by have := World.block_lt_of_cell? _ _ hw196_0; first | rwa [add_block] at this | exact this) GW201.out)) | (dsimp only; exact Nat.ne_of_lt (Nat.lt_of_lt_of_le (by have := World.block_lt_of_cell? _ _ hw196_0; first | rwa [add_block] at this | exact this) GW201.out))) _).trans (hHeld.2.1)))))), ((cell_far (p := ⟨gb201, _, none⟩) (by first | exact Nat.ne_of_lt (Nat.lt_of_lt_of_le (by have := World.block_lt_of_cell? _ _ hw196_1; first | rwa [add_block] at this | exact this) GW201.out) | (rw [add_block]; exact Nat.ne_of_lt (Nat.lt_of_lt_of_le (by have := World.block_lt_of_cell? _ _ hw196_1; first | rwa [add_block] at this | exact this) GW201.out)) | (show (Addr.add _ _).block ≠ _; rw [add_block]; exact Nat.ne_of_lt (Nat.lt_of_lt_of_le (by have := World.block_lt_of_cell? _ _ hw196_1; first | rwa [add_block] at this | exact this) GW201.out)) | (dsimp only; exact Nat.ne_of_lt (Nat.lt_of_lt_of_le (by have := World.block_lt_of_cell? _ _ hw196_1; first | rwa [add_block] at this | exact this) GW201.out))) _).trans (((cell_far (p := ⟨gb201, _, none⟩) (by first | exact Nat.ne_of_lt (Nat.lt_of_lt_of_le (by have := World.block_lt_of_cell? _ _ hw196_1; first | rwa [add_block] at this | exact this) GW201.out) | (rw [add_block]; exact Nat.ne_of_lt (Nat.lt_of_lt_of_le (by have := World.block_lt_of_cell? _ _ hw196_1; first | rwa [add_block] at this | exact this) GW201.out)) | (show (Addr.add _ _).block ≠ _; rw [add_block]; exact Nat.ne_of_lt (Nat.lt_of_lt_of_le (by have := World.block_lt_of_cell? _ _ hw196_1; first | rwa [add_block] at this | exact this) GW201.out)) | (dsimp only; exact Nat.ne_of_lt (Nat.lt_of_lt_of_le (by have := World.block_lt_of_cell? _ _ hw196_1; first | rwa [add_block] at this | exact this) GW201.out))) _).trans (((cell_far (p := ⟨gb201, _, none⟩) (by first | exact Nat.ne_of_lt (Nat.lt_of_lt_of_le (by have := World.block_lt_of_cell? _ _ hw196_1; first | rwa [add_block] at this | exact this) GW201.out) | (rw [add_block]; exact Nat.ne_of_lt (Nat.lt_of_lt_of_le (by have := World.block_lt_of_cell? _ _ hw196_1; first | rwa [add_block] at this | exact this) GW201.out)) | (show (Addr.add _ _).block ≠ _; rw [add_block]; exact Nat.ne_of_lt (Nat.lt_of_lt_of_le (by have := World.block_lt_of_cell? _ _ hw196_1; first | rwa [add_block] at this | exact this) GW201.out)) | (dsimp only; exact Nat.ne_of_lt (Nat.lt_of_lt_of_le (by have := World.block_lt_of_cell? _ _ hw196_1; first | rwa [add_block] at this | exact this) GW201.out))) _).trans (hHeld.2.2.1)))))), ((cell_far (p := ⟨gb201, _, none⟩) (by first | exact Nat.ne_of_lt (Nat.lt_of_lt_of_le (by have := World.block_lt_of_cell? _ _ hw196_2; first | rwa [add_block] at this | exact this) GW201.out) | (rw [add_block]; exact Nat.ne_of_lt (Nat.lt_of_lt_of_le (by have := World.block_lt_of_cell? _ _ hw196_2; first | rwa [add_block] at this | exact this) GW201.out)) | (show (Addr.add _ _).block ≠ _; rw [add_block]; exact Nat.ne_of_lt (Nat.lt_of_lt_of_le (by have := World.block_lt_of_cell? _ _ hw196_2; first | rwa [add_block] at this | exact this) GW201.out)) | (dsimp only; exact Nat.ne_of_lt (Nat.lt_of_lt_of_le (by have := World.block_lt_of_cell? _ _ hw196_2; first | rwa [add_block] at this | exact this) GW201.out))) _).trans (((cell_far (p := ⟨gb201, _, none⟩) (by first | exact Nat.ne_of_lt (Nat.lt_of_lt_of_le (by have := World.block_lt_of_cell? _ _ hw196_2; first | rwa [add_block] at this | exact this) GW201.out) | (rw [add_block]; exact Nat.ne_of_lt (Nat.lt_of_lt_of_le (by have := World.block_lt_of_cell? _ _ hw196_2; first | rwa [add_block] at this | exact this) GW201.out)) | (show (Addr.add _ _).block ≠ _; rw [add_block]; exact Nat.ne_of_lt (Nat.lt_of_lt_of_le (by have := World.block_lt_of_cell? _ _ hw196_2; first | rwa [add_block] at this | exact this) GW201.out)) | (dsimp only; exact Nat.ne_of_lt (Nat.lt_of_lt_of_le (by have := World.block_lt_of_cell? _ _ hw196_2; first | rwa [add_block] at this | exact this) GW201.out))) _).trans (((cell_far (p := ⟨gb201, _, none⟩) (by first | exact Nat.ne_of_lt (Nat.lt_of_lt_of_le (by have := World.block_lt_of_cell? _ _ hw196_2; first | rwa [add_block] at this | exact this) GW201.out) | (rw [add_block]; exact Nat.ne_of_lt (Nat.lt_of_lt_of_le (by have := World.block_lt_of_cell? _ _ hw196_2; first | rwa [add_block] at this | exact this) GW201.out)) | (show (Addr.add _ _).block ≠ _; rw [add_block]; exact Nat.ne_of_lt (Nat.lt_of_lt_of_le (by have := World.block_lt_of_cell? _ _ hw196_2; first | rwa [add_block] at this | exact this) GW201.out)) | (dsimp only; exact Nat.ne_of_lt (Nat.lt_of_lt_of_le (by have := World.block_lt_of_cell? _ _ hw196_2; first | rwa [add_block] at this | exact this) GW201.out))) _).trans (hHeld.2.2.2))))))⟩ (fun hHeld => ?_)
        clear hK K
        refine pv_ 13 6 zq20.q18 HT_ ?_
        refine done_ (done_of HT_.out (by kernel_rfl)) ?_
        have hnb18 := NB194_201.out
        have hnc18 := NB201_194.out
        have hcz19_0 : w14.cell? ⟨gb194, 0, none⟩ = some (.slice (some ad195) l0_0.length c0_0) := (blk_cell BK194.out 0).trans rfl
        have hfz19_0 := blk_frozen BK194.out 0
        have p202 : 0 ≤ (x4_1 : Int) := of_decide_eq_true (by first | (with_reducible assumption) | assumption)
        have q202 : x4_1 < (l0_0.length : Int) := of_decide_eq_true (by first | (with_reducible assumption) | assumption)
        obtain ⟨ad202, e202, hx202_0, hx202_1, hx202_2⟩ := at_T49 HR0_0.out x4_1 p202 q202
        obtain rfl : ad195 = ad202 := (by injection e202)
        have hn202_0 : ad195.block ≠ gb201 := Nat.ne_of_lt (Nat.lt_of_lt_of_le (by have := World.block_lt_of_cell? _ _ hx202_0; first | rwa [add_block] at this | exact this) GW201.out)
        have hn202_1 : ad195.block ≠ gb201 := Nat.ne_of_lt (Nat.lt_of_lt_of_le (by have := World.block_lt_of_cell? _ _ hx202_0; first | rwa [add_block] at this | exact this) GW201.out)
        have hn202_2 : ad195.block ≠ gb201 := Nat.ne_of_lt (Nat.lt_of_lt_of_le (by have := World.block_lt_of_cell? _ _ hx202_0; first | rwa [add_block] at this | exact this) GW201.out)
        replace hx202_0 := (HB.out.cell (World.block_lt_of_cell? w _ hx202_0)).trans hx202_0
        replace hx202_1 := (HB.out.cell (World.block_lt_of_cell? w _ hx202_1)).trans hx202_1
        replace hx202_2 := (HB.out.cell (World.block_lt_of_cell? w _ hx202_2)).trans hx202_2
        replace hx202_0 := (cell_far (p := ⟨gb201, 0, none⟩) (by first | (rw [add_block]; exact hn202_0) | (show (Addr.add _ _).block ≠ _; rw [add_block]; exact hn202_0) | exact hn202_0) (.int .u32 t197)).trans hx202_0
        replace hx202_1 := (cell_far (p := ⟨gb201, 0, none⟩) (by first | (rw [add_block]; exact hn202_0) | (show (Addr.add _ _).block ≠ _; rw [add_block]; exact hn202_0) | exact hn202_0) (.int .u32 t197)).trans hx202_1
        replace hx202_2 := (cell_far (p := ⟨gb201, 0, none⟩) (by first | (rw [add_block]; exact hn202_0) | (show (Addr.add _ _).block ≠ _; rw [add_block]; exact hn202_0) | exact hn202_0) (.int .u32 t197)).trans hx202_2
        replace hx202_0 := (cell_far (p := ⟨gb201, 1, none⟩) (by first | (rw [add_block]; exact hn202_1) | (show (Addr.add _ _).block ≠ _; rw [add_block]; exact hn202_1) | exact hn202_1) (.string t198)).trans hx202_0
        replace hx202_1 := (cell_far (p := ⟨gb201, 1, none⟩) (by first | (rw [add_block]; exact hn202_1) | (show (Addr.add _ _).block ≠ _; rw [add_block]; exact hn202_1) | exact hn202_1) (.string t198)).trans hx202_1
        replace hx202_2 := (cell_far (p := ⟨gb201, 1, none⟩) (by first | (rw [add_block]; exact hn202_1) | (show (Addr.add _ _).block ≠ _; rw [add_block]; exact hn202_1) | exact hn202_1) (.string t198)).trans hx202_2
        replace hx202_0 := (cell_far (p := ⟨gb201, 2, none⟩) (by first | (rw [add_block]; exact hn202_2) | (show (Addr.add _ _).block ≠ _; rw [add_block]; exact hn202_2) | exact hn202_2) (.int .i64 t199)).trans hx202_0
        replace hx202_1 := (cell_far (p := ⟨gb201, 2, none⟩) (by first | (rw [add_block]; exact hn202_2) | (show (Addr.add _ _).block ≠ _; rw [add_block]; exact hn202_2) | exact hn202_2) (.int .i64 t199)).trans hx202_1
        replace hx202_2 := (cell_far (p := ⟨gb201, 2, none⟩) (by first | (rw [add_block]; exact hn202_2) | (show (Addr.add _ _).block ≠ _; rw [add_block]; exact hn202_2) | exact hn202_2) (.int .i64 t199)).trans hx202_2
        clear hn202_0
        clear hn202_1
        clear hn202_2
        replace p202 := eq_true p202
        replace q202 := eq_true q202
        try go_wp2_with (first | ((with_reducible refine gate_builtin (b := .append) (xs := #[.tmp 33, .tmp 39]) rfl ?_); at_builtin; refine Kd.R_append k49 (w0 := w) w.heap.size rfl (.tmp 33) (.tmp 39) 26 49 (.agg #[(.int .u32 0), (.string ⟨#[]⟩), (.int .i64 0)]) 32 rfl Try.underlying26 info49 rfl (by decide) (by omega) u3 x3_1 (⟨(rd_T49 l0_0 x4_1).f0, (rd_T49 l0_0 x4_1).f1, (rd_T49 l0_0 x4_1).f2⟩ : S49) [.int .u32 ((rd_T49 l0_0 x4_1).f0), .string ((rd_T49 l0_0 x4_1).f1), .int .i64 ((rd_T49 l0_0 x4_1).f2)] (fun k_ => k_ ≠ gb201) (fun _ => False) rfl (by first | (go_simp; done) | (go_simp; rfl)) ?aP (fun _ hk => hk.elim) ?aF ?aO ?aB ?aS ?aL ?_; (case aP => exact k49_mkM _ _ _ (⟨(rd_T49 l0_0 x4_1).f0, (rd_T49 l0_0 x4_1).f1, (rd_T49 l0_0 x4_1).f2⟩ : S49)); (case aB => exact (hq_ HB)); (case aF => exact (fun k_ hk => Kd.freshB (g := gb201) (o := .cells #[.int .u32 t197, .string t198, .int .i64 t199] 49 (0, 0)) (by (with_reducible repeat (first | refine blk_drewN ?_ _ | refine blk_drew ?_ | refine blk_alloc ?_ _)); refine blk_put (cs := #[.int .u32 t197, .string t198, .int .i64 0]) ?_ 2 _ rfl; (with_reducible repeat (first | refine blk_drewN ?_ _ | refine blk_drew ?_ | refine blk_alloc ?_ _)); refine blk_put (cs := #[.int .u32 t197, .string (⟨#[]⟩ : ByteArray), .int .i64 0]) ?_ 1 _ rfl; (with_reducible repeat (first | refine blk_drewN ?_ _ | refine blk_drew ?_ | refine blk_alloc ?_ _)); refine blk_put (cs := #[.int .u32 0, .string (⟨#[]⟩ : ByteArray), .int .i64 0]) ?_ 0 _ rfl; (with_reducible repeat (first | refine blk_drewN ?_ _ | refine blk_drew ?_ | refine blk_alloc ?_ _)); exact BK201.out) k_ hk)); (case aO => exact (by (with_reducible repeat (first | apply Kd.R_alloc | apply Kd.R_drewN | apply Kd.R_drew)); exact Kd.R_mono (Kd.R_far (p := ⟨gb201, 2, none⟩) (Kd.R_far (p := ⟨gb201, 1, none⟩) (Kd.R_far (p := ⟨gb201, 0, none⟩) (Kd.R_mono HO_3.out (fun k_ hk => (⟨hk, hk⟩ : _ ∧ k_ ≠ gb201))) (fun _ hk => hk.2) (.int .u32 t197)) (fun _ hk => hk.2) (.string t198)) (fun _ hk => hk.2) (.int .i64 t199)) (fun _ hk => hk.1))); (case aS => exact (below_size (hq_ HB))); (case aL => have := LMc9.out; omega); intro v204 w20 ho hb hg hat; rw [← Ny203.out] at ho; have n0_ := Aside0.mk (blk_grown (g := gb194) (o := .cells #[.slice (some ad195) l0_0.length c0_0] 28 (0, 0)) (by (with_reducible repeat (first | refine blk_drewN ?_ _ | refine blk_drew ?_ | refine blk_alloc ?_ _)); refine blk_far ?_ NB194_201.out _; (with_reducible repeat (first | refine blk_drewN ?_ _ | refine blk_drew ?_ | refine blk_alloc ?_ _)); refine blk_far ?_ NB194_201.out _; (with_reducible repeat (first | refine blk_drewN ?_ _ | refine blk_drew ?_ | refine blk_alloc ?_ _)); refine blk_far ?_ NB194_201.out _; (with_reducible repeat (first | refine blk_drewN ?_ _ | refine blk_drew ?_ | refine blk_alloc ?_ _)); exact BK194.out) hg (Kd.R_ne HO_3.out BK194.out (by decide))); have n1_ := Aside0.mk (blk_grown (g := gb201) (o := .cells #[.int .u32 t197, .string t198, .int .i64 t199] 49 (0, 0)) (by (with_reducible repeat (first | refine blk_drewN ?_ _ | refine blk_drew ?_ | refine blk_alloc ?_ _)); refine blk_put (cs := #[.int .u32 t197, .string t198, .int .i64 0]) ?_ 2 _ rfl; (with_reducible repeat (first | refine blk_drewN ?_ _ | refine blk_drew ?_ | refine blk_alloc ?_ _)); refine blk_put (cs := #[.int .u32 t197, .string (⟨#[]⟩ : ByteArray), .int .i64 0]) ?_ 1 _ rfl; (with_reducible repeat (first | refine blk_drewN ?_ _ | refine blk_drew ?_ | refine blk_alloc ?_ _)); refine blk_put (cs := #[.int .u32 0, .string (⟨#[]⟩ : ByteArray), .int .i64 0]) ?_ 0 _ rfl; (with_reducible repeat (first | refine blk_drewN ?_ _ | refine blk_drew ?_ | refine blk_alloc ?_ _)); exact BK201.out) hg (Kd.R_away HO_3.out (fun _ hk => hk))); have n2_ := Aside0.mk (hb); have n3_ := Aside0.mk (ho); clear BK194; clear BK201; clear HB; clear HO_3; have BK194 := n0_; have BK201 := n1_; have HB := n2_; have HO205 := n3_; clear n0_ n1_ n2_ n3_; clear ho hb hg hat))
        go_roundg k1
        case measure => have := HK1.out; omega
        case rel => exact ⟨(y203), (wrap64 (x4_1 + 1)), (by first | rfl | (simp; done) | (simp [*]; done)), H', ⟨by have := HK1.out; omega⟩, ⟨by (with_reducible repeat (first | apply Kd.R_alloc | apply Kd.R_drewN | apply Kd.R_drew)); exact Kd.R_mono HO205.out (fun _ hk => trivial)⟩, bf_ BK194, ⟨by repeat (first | (with_reducible first | exact HB.out | apply below_alloc | apply pw_below_drewN | apply below_drew1 | refine below_set ?_ GE194.out | refine below_set ?_ GE201.out) | exact HB.out)⟩⟩
       ·
        rw [if_neg c9] at H
        exact absurd H (by simp)
      ·
       replace c8 := Bool.eq_false_iff.mpr c8
       subst c8
       have H1 : (compositorref14_List.l0 k1 x3_1 (wrap64 (x4_1 + 1)) l0_0) = some r := by rw [if_neg (show ¬ (false = true) by decide)] at H; exact H
       clear H
       have H := H1
       clear H1
       have H' := Aside0.mk H
       clear H
       have hcz21_0 : wr.cell? ⟨gb194, 0, none⟩ = some (.slice A0_0 l0_0.length c0_0) := (blk_cell BK194.out 0).trans rfl
       have hfz21_0 := blk_frozen BK194.out 0
       have p195 : 0 ≤ (x4_1 : Int) := of_decide_eq_true (by first | (with_reducible assumption) | assumption)
       have q195 : x4_1 < (l0_0.length : Int) := of_decide_eq_true (by first | (with_reducible assumption) | assumption)
       obtain ⟨ad195, e195, hx195_0, hx195_1, hx195_2⟩ := at_T49 HR0_0.out x4_1 p195 q195
       cases e195
       replace hx195_0 := (HB.out.cell (World.block_lt_of_cell? w _ hx195_0)).trans hx195_0
       replace hx195_1 := (HB.out.cell (World.block_lt_of_cell? w _ hx195_1)).trans hx195_1
       replace hx195_2 := (HB.out.cell (World.block_lt_of_cell? w _ hx195_2)).trans hx195_2
       replace p195 := eq_true p195
       replace q195 := eq_true q195
       try go_wp2
       replace HO_3 := Aside0.mk (Kd.R_drew HO_3.out)
       replace BK194 := Aside0.mk (blk_drew BK194.out)
       replace HB := Aside0.mk (below_drew1 HB.out)
       have p196 : 0 ≤ (x4_1 : Int) := of_decide_eq_true (by first | (with_reducible assumption) | assumption)
       have q196 : x4_1 < (l0_0.length : Int) := of_decide_eq_true (by first | (with_reducible assumption) | assumption)
       obtain ⟨ad196, e196, hx196_0, hx196_1, hx196_2⟩ := at_T49 HR0_0.out x4_1 p196 q196
       have hw196_2 := hx196_2
       have hw196_1 := hx196_1
       have hw196_0 := hx196_0
       obtain rfl : ad195 = ad196 := (by injection e196)
       replace hx196_0 := (HB.out.cell (World.block_lt_of_cell? w _ hx196_0)).trans hx196_0
       replace hx196_1 := (HB.out.cell (World.block_lt_of_cell? w _ hx196_1)).trans hx196_1
       replace hx196_2 := (HB.out.cell (World.block_lt_of_cell? w _ hx196_2)).trans hx196_2
       replace p196 := eq_true p196
       replace q196 := eq_true q196
       refine start_ (n := 14) (S := fun w' => w'.cell? ⟨gb194, 0, none⟩ = some (.slice (some ad195) l0_0.length c0_0) ∧ w'.cell? (ad195.add ((x4_1).toNat * 3)) = some (.int .u32 ((rd_T49 l0_0 x4_1).f0)) ∧ w'.cell? ⟨(ad195.add ((x4_1).toNat * 3)).block, (ad195.add ((x4_1).toNat * 3)).off + 1, none⟩ = some (.string ((rd_T49 l0_0 x4_1).f1)) ∧ w'.cell? ⟨(ad195.add ((x4_1).toNat * 3)).block, (ad195.add ((x4_1).toNat * 3)).off + 2, none⟩ = some (.int .i64 ((rd_T49 l0_0 x4_1).f2))) (ds := []) zq20.q0 (by kernel_rfl) rfl rfl ⟨(blk_cell BK194.out 0).trans rfl, ((HB.out.cell (World.block_lt_of_cell? w _ hw196_0)).trans hw196_0), ((HB.out.cell (World.block_lt_of_cell? w _ hw196_1)).trans hw196_1), ((HB.out.cell (World.block_lt_of_cell? w _ hw196_2)).trans hw196_2)⟩ (fun hHeld => ?_); refine with_tabW compositorref14_List.tab6 compositorref14_List.bits6 (fun HT_ HW_ => ?_)
       generalize wr.drew = w22 at HO_3 BK194 HB hx196_0 hx196_1 hx196_2 hHeld ⊢
       refine pv_ 1 23 zq20.q1 HT_ ?_
       refine pv_ 3 25 zq20.q2 HT_ ?_
       refine tk4_ 0 22 zq20.q3 HT_ HW_ hHeld ?_
       refine tk4_ 2 24 zq20.q4 HT_ HW_ hHeld ?_
       refine pv_ 4 26 zq20.q5 HT_ ?_
       refine pv_ 5 27 zq20.q6 HT_ ?_
       refine tk4_ 6 28 zq20.q7 HT_ HW_ hHeld ?_
       refine join_ (σ := Nat) 2 zq20.q8 (fun s_ => [(29, .tuple #[.agg #[.int .u32 t197, .string t198, .int .i64 t199], .bool false]), (5, .pointer (some ⟨s_, 0, none⟩)), (21, .tuple #[.agg #[.int .u32 t197, .string t198, .int .i64 t199], .bool false]), (30, .agg #[.int .u32 t197, .string t198, .int .i64 t199]), (31, .bool false)]) (fun s_ w' => (w'.cell? ⟨gb194, 0, none⟩ = some (.slice (some ad195) l0_0.length c0_0) ∧ w'.cell? (ad195.add ((x4_1).toNat * 3)) = some (.int .u32 ((rd_T49 l0_0 x4_1).f0)) ∧ w'.cell? ⟨(ad195.add ((x4_1).toNat * 3)).block, (ad195.add ((x4_1).toNat * 3)).off + 1, none⟩ = some (.string ((rd_T49 l0_0 x4_1).f1)) ∧ w'.cell? ⟨(ad195.add ((x4_1).toNat * 3)).block, (ad195.add ((x4_1).toNat * 3)).off + 2, none⟩ = some (.int .i64 ((rd_T49 l0_0 x4_1).f2))) ∧ (Kd.R k49 49 w' w.heap.size (fun k_ => k_ ≠ s_) u3 x3_1) ∧ (w'.heap[gb194]? = some (.cells #[.slice (some ad195) l0_0.length c0_0] 28 (0, 0))) ∧ (w'.heap[s_]? = some (.cells #[.int .u32 0, .string (⟨#[]⟩ : ByteArray), .int .i64 0] 49 (0, 0))) ∧ (w.heap.size ≤ s_) ∧ (w.heap.size ≤ s_) ∧ (gb194 ≠ s_) ∧ (s_ ≠ gb194) ∧ (Below w.heap.size w w')) ?_ ?_
       rotate_left
       ·
        intro hCont
        refine two_ (i := 7) (j := 11) (Ni := some 29) (Nj := some 5) zq20.q9 zq20.q10 rfl rfl rfl rfl (two_of HT_.out (by kernel_rfl)) (by decide) (by decide) (fun K hK => ?_) (fun K hK => ?_)
        ·
         refine gs_ Try.func35 #[.agg #[.slice (some ad195) l0_0.length c0_0], .int .u32 ((rd_T49 l0_0 x4_1).f0)] ?_
         with_reducible refine (compositorref14_announced.calls k1 _ _ l0_0 ((rd_T49 l0_0 x4_1).f0) t197 t198 t199 false _ ?side1 ?side2 A7.out).mono ?_
         (case side1 => repeat (first | exact (Kd.C_below HR0_0.out HB.out) | (with_reducible refine Kd.C_alloc ?_ _) | (with_reducible refine Kd.C_drewN ?_ _) | (with_reducible refine Kd.C_drew ?_)))
         (case side2 => exact HC0_0.out)
         rintro e w23 ⟨rfl, hb⟩
         refine ⟨_, rfl, ?_⟩
         replace HO_3 := Aside0.mk (Kd.R_below (by (with_reducible repeat (first | apply Kd.R_alloc | apply Kd.R_drewN | apply Kd.R_drew)); exact HO_3.out) hb)
         replace BK194 := bb_ BK194 hb
         replace HB := hb_ HB hb
         (try clear hb); (try clear hb2); (try clear hk); (try clear hi)
         refine hK.out _ _ ⟨(blk_cell BK194.out 0).trans rfl, ((HB.out.cell (World.block_lt_of_cell? w _ hw196_0)).trans hw196_0), ((HB.out.cell (World.block_lt_of_cell? w _ hw196_1)).trans hw196_1), ((HB.out.cell (World.block_lt_of_cell? w _ hw196_2)).trans hw196_2)⟩ (fun hHeld => ?_)
         clear hK K
         refine norm_ (a' := ?_) ?_ ?_
         rotate_left
         ·
          show Act.put _ (some 29) _ = _
          simp only [Act.put, List.setIfInBounds_toArray, List.set_cons_zero, List.set_cons_succ, i64_w, i32_w]
          rfl
         refine pv_ 8 21 zq20.q11 HT_ ?_
         refine pv_ 9 30 zq20.q12 HT_ ?_
         refine pv_ 10 31 zq20.q13 HT_ ?_
         refine one_ (i := 11) (N := some 5) zq20.q8 rfl rfl (one_of HT_.out (by kernel_rfl)) (by decide) (fun K hK => ?_)
         refine box_step ?hg (N := 5) ?hd (cs := #[.int .u32 0, .string (⟨#[]⟩ : ByteArray), .int .i64 0]) (t := 49) ?hr ?_; (case hd => rfl); (case hg => rfl); (case hr => first | (go_simp; done) | (go_simp; rfl))
         intro gb201 hg w24 hbox hb
         replace HO_3 := Aside0.mk (Kd.R_below (Kd.R_elderB (by (with_reducible repeat (first | apply Kd.R_alloc | apply Kd.R_drewN | apply Kd.R_drew)); exact HO_3.out) gb201 (Nat.le_of_eq hg.symm)) hb)
         have BK201 := Aside0.mk (hbox)
         have GW201 := Aside0.mk ((by rw [hg]; exact (below_size (hq_ HB)) : w.heap.size ≤ gb201))
         have GE201 := Aside0.mk ((by rw [hg]; exact (below_size (hq_ HB)) : w.heap.size ≤ gb201))
         replace HB := hb_ HB hb
         have NB194_201 := Aside0.mk ((by rw [hg]; exact Nat.ne_of_lt (blk_lt (g := gb194) (o := .cells #[.slice (some ad195) l0_0.length c0_0] 28 (0, 0)) (bq_ BK194)) : gb194 ≠ gb201))
         have NB201_194 := Aside0.mk ((by rw [hg]; exact Nat.ne_of_gt (blk_lt (g := gb194) (o := .cells #[.slice (some ad195) l0_0.length c0_0] 28 (0, 0)) (bq_ BK194)) : gb201 ≠ gb194))
         replace BK194 := bb_ BK194 hb
         clear hb hbox hg
         refine hK.out _ _ ⟨(blk_cell BK194.out 0).trans rfl, ((HB.out.cell (World.block_lt_of_cell? w _ hw196_0)).trans hw196_0), ((HB.out.cell (World.block_lt_of_cell? w _ hw196_1)).trans hw196_1), ((HB.out.cell (World.block_lt_of_cell? w _ hw196_2)).trans hw196_2)⟩ (fun hHeld => ?_)
         clear hK K
         refine norm_ (a' := ?_) ?_ ?_
         rotate_left
         ·
          show Act.put _ (some 5) _ = _
          simp only [Act.put, List.setIfInBounds_toArray, List.set_cons_zero, List.set_cons_succ, i64_w, i32_w]
          rfl
         exact norm_ (by simp only [putAll, Act.put, List.setIfInBounds_toArray, List.set_cons_zero, List.set_cons_succ]) (hCont (gb201) _ ⟨hHeld, (by (with_reducible repeat (first | apply Kd.R_alloc | apply Kd.R_drewN | apply Kd.R_drew)); exact Kd.R_mono HO_3.out (fun _ hk => hk.2)), (bq_ BK194), (bq_ BK201), GW201.out, GE201.out, NB194_201.out, NB201_194.out, (hq_ HB)⟩)
        ·
         refine box_step ?hg (N := 5) ?hd (cs := #[.int .u32 0, .string (⟨#[]⟩ : ByteArray), .int .i64 0]) (t := 49) ?hr ?_; (case hd => rfl); (case hg => rfl); (case hr => first | (go_simp; done) | (go_simp; rfl))
         intro gb201 hg w23 hbox hb
         replace HO_3 := Aside0.mk (Kd.R_below (Kd.R_elderB (by (with_reducible repeat (first | apply Kd.R_alloc | apply Kd.R_drewN | apply Kd.R_drew)); exact HO_3.out) gb201 (Nat.le_of_eq hg.symm)) hb)
         have BK201 := Aside0.mk (hbox)
         have GW201 := Aside0.mk ((by rw [hg]; exact (below_size (hq_ HB)) : w.heap.size ≤ gb201))
         have GE201 := Aside0.mk ((by rw [hg]; exact (below_size (hq_ HB)) : w.heap.size ≤ gb201))
         replace HB := hb_ HB hb
         have NB194_201 := Aside0.mk ((by rw [hg]; exact Nat.ne_of_lt (blk_lt (g := gb194) (o := .cells #[.slice (some ad195) l0_0.length c0_0] 28 (0, 0)) (bq_ BK194)) : gb194 ≠ gb201))
         have NB201_194 := Aside0.mk ((by rw [hg]; exact Nat.ne_of_gt (blk_lt (g := gb194) (o := .cells #[.slice (some ad195) l0_0.length c0_0] 28 (0, 0)) (bq_ BK194)) : gb201 ≠ gb194))
         replace BK194 := bb_ BK194 hb
         clear hb hbox hg
         refine hK.out _ _ ⟨(blk_cell BK194.out 0).trans rfl, ((HB.out.cell (World.block_lt_of_cell? w _ hw196_0)).trans hw196_0), ((HB.out.cell (World.block_lt_of_cell? w _ hw196_1)).trans hw196_1), ((HB.out.cell (World.block_lt_of_cell? w _ hw196_2)).trans hw196_2)⟩ (fun hHeld => ?_)
         clear hK K
         refine norm_ (a' := ?_) ?_ ?_
         rotate_left
         ·
          show Act.put _ (some 5) _ = _
          simp only [Act.put, List.setIfInBounds_toArray, List.set_cons_zero, List.set_cons_succ, i64_w, i32_w]
          rfl
         refine one_ (i := 7) (N := some 29) zq20.q14 rfl rfl (one_of HT_.out (by kernel_rfl)) (by decide) (fun K hK => ?_)
         refine gs_ Try.func35 #[.agg #[.slice (some ad195) l0_0.length c0_0], .int .u32 ((rd_T49 l0_0 x4_1).f0)] ?_
         with_reducible refine (compositorref14_announced.calls k1 _ _ l0_0 ((rd_T49 l0_0 x4_1).f0) t197 t198 t199 false _ ?side1 ?side2 A7.out).mono ?_
         (case side1 => repeat (first | exact (Kd.C_below HR0_0.out HB.out) | (with_reducible refine Kd.C_alloc ?_ _) | (with_reducible refine Kd.C_drewN ?_ _) | (with_reducible refine Kd.C_drew ?_)))
         (case side2 => exact HC0_0.out)
         rintro e w24 ⟨rfl, hb⟩
         refine ⟨_, rfl, ?_⟩
         replace HO_3 := Aside0.mk (Kd.R_below (by (with_reducible repeat (first | apply Kd.R_alloc | apply Kd.R_drewN | apply Kd.R_drew)); exact HO_3.out) hb)
         replace BK194 := bb_ BK194 hb
         replace BK201 := bb_ BK201 hb
         replace HB := hb_ HB hb
         (try clear hb); (try clear hb2); (try clear hk); (try clear hi)
         refine hK.out _ _ ⟨(blk_cell BK194.out 0).trans rfl, ((HB.out.cell (World.block_lt_of_cell? w _ hw196_0)).trans hw196_0), ((HB.out.cell (World.block_lt_of_cell? w _ hw196_1)).trans hw196_1), ((HB.out.cell (World.block_lt_of_cell? w _ hw196_2)).trans hw196_2)⟩ (fun hHeld => ?_)
         clear hK K
         refine norm_ (a' := ?_) ?_ ?_
         rotate_left
         ·
          show Act.put _ (some 29) _ = _
          simp only [Act.put, List.setIfInBounds_toArray, List.set_cons_zero, List.set_cons_succ, i64_w, i32_w]
          rfl
         refine pv_ 8 21 zq20.q15 HT_ ?_
         refine pv_ 9 30 zq20.q16 HT_ ?_
         refine pv_ 10 31 zq20.q8 HT_ ?_
         exact norm_ (by simp only [putAll, Act.put, List.setIfInBounds_toArray, List.set_cons_zero, List.set_cons_succ]) (hCont (gb201) _ ⟨hHeld, (by (with_reducible repeat (first | apply Kd.R_alloc | apply Kd.R_drewN | apply Kd.R_drew)); exact Kd.R_mono HO_3.out (fun _ hk => hk.2)), (bq_ BK194), (bq_ BK201), GW201.out, GE201.out, NB194_201.out, NB201_194.out, (hq_ HB)⟩)
       rintro gb201 w25 ⟨hS_, h0_, h1_, h2_, h3_, h4_, h5_, h6_, h7_⟩
       replace HO_3 := Aside0.mk h0_
       replace BK194 := Aside0.mk h1_
       have BK201 := Aside0.mk h2_
       have GW201 := Aside0.mk h3_
       have GE201 := Aside0.mk h4_
       have NB194_201 := Aside0.mk h5_
       have NB201_194 := Aside0.mk h6_
       replace HB := Aside0.mk h7_
       clear h0_ h1_ h2_ h3_ h4_ h5_ h6_ h7_
       have hHeld := hS_
       refine norm_ (a' := ?_) ?_ ?_
       rotate_left
       ·
        simp only [putAll, Act.put, List.setIfInBounds_toArray, List.set_cons_zero, List.set_cons_succ]
        rfl
       refine one_ (i := 12) (N := none) zq20.q17 rfl rfl (one_of HT_.out (by kernel_rfl)) (by decide) (fun K hK => ?_)
       have hs26 : w25.cell? ⟨gb201, 0, none⟩ = some (.int .u32 0) := (blk_cell BK201.out 0).trans rfl
       have hfs26 := blk_frozen BK201.out 0
       have hns26_0 := NB194_201.out
       have hms26_0 := NB201_194.out
       have hs27 : w25.cell? ⟨gb201, 1, none⟩ = some (.string (⟨#[]⟩ : ByteArray)) := (blk_cell BK201.out 1).trans rfl
       have hfs27 := blk_frozen BK201.out 1
       have hns27_0 := NB194_201.out
       have hms27_0 := NB201_194.out
       have hs28 : w25.cell? ⟨gb201, 2, none⟩ = some (.int .i64 0) := (blk_cell BK201.out 2).trans rfl
       have hfs28 := blk_frozen BK201.out 2
       have hns28_0 := NB194_201.out
       have hms28_0 := NB201_194.out
       refine skip_ (w1 := ?_) (by rfl) rfl ?_ ?_
       rotate_left
       ·
        go_simp
        rfl
       refine hK.out _ _ ⟨((cell_far (p := ⟨gb201, _, none⟩) NB194_201.out _).trans (((cell_far (p := ⟨gb201, _, none⟩) NB194_201.out _).trans (((cell_far (p := ⟨gb201, _, none⟩) NB194_201.out _).trans (hHeld.1)))))), ((cell_far (p := ⟨gb201, _, none⟩) (by first | exact Nat.ne_of_lt (Nat.lt_of_lt_of_le (by have := World.block_lt_of_cell? _ _ hw196_0; first | rwa [add_block] at this | exact this) GW201.out) | (rw [add_block]; exact Nat.ne_of_lt (Nat.lt_of_lt_of_le (by have := World.block_lt_of_cell? _ _ hw196_0; first | rwa [add_block] at this | exact this) GW201.out)) | (show (Addr.add _ _).block ≠ _; rw [add_block]; exact Nat.ne_of_lt (Nat.lt_of_lt_of_le (by have := World.block_lt_of_cell? _ _ hw196_0; first | rwa [add_block] at this | exact this) GW201.out)) | (dsimp only; exact Nat.ne_of_lt (Nat.lt_of_lt_of_le (by have := World.block_lt_of_cell? _ _ hw196_0; first | rwa [add_block] at this | exact this) GW201.out))) _).trans (((cell_far (p := ⟨gb201, _, none⟩) (by first | exact Nat.ne_of_lt (Nat.lt_of_lt_of_le (by have := World.block_lt_of_cell? _ _ hw196_0; first | rwa [add_block] at this | exact this) GW201.out) | (rw [add_block]; exact Nat.ne_of_lt (Nat.lt_of_lt_of_le (by have := World.block_lt_of_cell? _ _ hw196_0; first | rwa [add_block] at this | exact this) GW201.out)) | (show (Addr.add _ _).block ≠ _; rw [add_block]; exact Nat.ne_of_lt (Nat.lt_of_lt_of_le (by have := World.block_lt_of_cell? _ _ hw196_0; first | rwa [add_block] at this | exact this) GW201.out)) | (dsimp only; exact Nat.ne_of_lt (Nat.lt_of_lt_of_le (by have := World.block_lt_of_cell? _ _ hw196_0; first | rwa [add_block] at this | exact this) GW201.out))) _).trans (((cell_far (p := ⟨gb201, _, none⟩) (by first | exact Nat.ne_of_lt (Nat.lt_of_lt_of_le (by have := World.block_lt_of_cell? _ _ hw196_0; first | rwa [add_block] at this | exact this) GW201.out) | (rw [add_block]; exact Nat.ne_of_lt (Nat.lt_of_lt_of_le (by have := World.block_lt_of_cell? _ _ hw196_0; first | rwa [add_block] at this | exact this) GW201.out)) | (show (Addr.add _ _).block ≠ _; rw [add_block]; exact Nat.ne_of_lt (Nat.lt_of_lt_of_le (by have := World.block_lt_of_cell? _ _ hw196_0; first | rwa [add_block] at this | exact this) GW201.out)) | (dsimp only; exact Nat.ne_of_lt (Nat.lt_of_lt_of_le (by have := World.block_lt_of_cell? _ _ hw196_0; first | rwa [add_block] at this | exact this) GW201.out))) _).trans (hHeld.2.1)))))), ((cell_far (p := ⟨gb201, _, none⟩) (by first | exact Nat.ne_of_lt (Nat.lt_of_lt_of_le (by have := World.block_lt_of_cell? _ _ hw196_1; first | rwa [add_block] at this | exact this) GW201.out) | (rw [add_block]; exact Nat.ne_of_lt (Nat.lt_of_lt_of_le (by have := World.block_lt_of_cell? _ _ hw196_1; first | rwa [add_block] at this | exact this) GW201.out)) | (show (Addr.add _ _).block ≠ _; rw [add_block]; exact Nat.ne_of_lt (Nat.lt_of_lt_of_le (by have := World.block_lt_of_cell? _ _ hw196_1; first | rwa [add_block] at this | exact this) GW201.out)) | (dsimp only; exact Nat.ne_of_lt (Nat.lt_of_lt_of_le (by have := World.block_lt_of_cell? _ _ hw196_1; first | rwa [add_block] at this | exact this) GW201.out))) _).trans (((cell_far (p := ⟨gb201, _, none⟩) (by first | exact Nat.ne_of_lt (Nat.lt_of_lt_of_le (by have := World.block_lt_of_cell? _ _ hw196_1; first | rwa [add_block] at this | exact this) GW201.out) | (rw [add_block]; exact Nat.ne_of_lt (Nat.lt_of_lt_of_le (by have := World.block_lt_of_cell? _ _ hw196_1; first | rwa [add_block] at this | exact this) GW201.out)) | (show (Addr.add _ _).block ≠ _; rw [add_block]; exact Nat.ne_of_lt (Nat.lt_of_lt_of_le (by have := World.block_lt_of_cell? _ _ hw196_1; first | rwa [add_block] at this | exact this) GW201.out)) | (dsimp only; exact Nat.ne_of_lt (Nat.lt_of_lt_of_le (by have := World.block_lt_of_cell? _ _ hw196_1; first | rwa [add_block] at this | exact this) GW201.out))) _).trans (((cell_far (p := ⟨gb201, _, none⟩) (by first | exact Nat.ne_of_lt (Nat.lt_of_lt_of_le (by have := World.block_lt_of_cell? _ _ hw196_1; first | rwa [add_block] at this | exact this) GW201.out) | (rw [add_block]; exact Nat.ne_of_lt (Nat.lt_of_lt_of_le (by have := World.block_lt_of_cell? _ _ hw196_1; first | rwa [add_block] at this | exact this) GW201.out)) | (show (Addr.add _ _).block ≠ _; rw [add_block]; exact Nat.ne_of_lt (Nat.lt_of_lt_of_le (by have := World.block_lt_of_cell? _ _ hw196_1; first | rwa [add_block] at this | exact this) GW201.out)) | (dsimp only; exact Nat.ne_of_lt (Nat.lt_of_lt_of_le (by have := World.block_lt_of_cell? _ _ hw196_1; first | rwa [add_block] at this | exact this) GW201.out))) _).trans (hHeld.2.2.1)))))), ((cell_far (p := ⟨gb201, _, none⟩) (by first | exact Nat.ne_of_lt (Nat.lt_of_lt_of_le (by have := World.block_lt_of_cell? _ _ hw196_2; first | rwa [add_block] at this | exact this) GW201.out) | (rw [add_block]; exact Nat.ne_of_lt (Nat.lt_of_lt_of_le (by have := World.block_lt_of_cell? _ _ hw196_2; first | rwa [add_block] at this | exact this) GW201.out)) | (show (Addr.add _ _).block ≠ _; rw [add_block]; exact Nat.ne_of_lt (Nat.lt_of_lt_of_le (by have := World.block_lt_of_cell? _ _ hw196_2; first | rwa [add_block] at this | exact this) GW201.out)) | (dsimp only; exact Nat.ne_of_lt (Nat.lt_of_lt_of_le (by have := World.block_lt_of_cell? _ _ hw196_2; first | rwa [add_block] at this | exact this) GW201.out))) _).trans (((cell_far (p := ⟨gb201, _, none⟩) (by first | exact Nat.ne_of_lt (Nat.lt_of_lt_of_le (by have := World.block_lt_of_cell? _ _ hw196_2; first | rwa [add_block] at this | exact this) GW201.out) | (rw [add_block]; exact Nat.ne_of_lt (Nat.lt_of_lt_of_le (by have := World.block_lt_of_cell? _ _ hw196_2; first | rwa [add_block] at this | exact this) GW201.out)) | (show (Addr.add _ _).block ≠ _; rw [add_block]; exact Nat.ne_of_lt (Nat.lt_of_lt_of_le (by have := World.block_lt_of_cell? _ _ hw196_2; first | rwa [add_block] at this | exact this) GW201.out)) | (dsimp only; exact Nat.ne_of_lt (Nat.lt_of_lt_of_le (by have := World.block_lt_of_cell? _ _ hw196_2; first | rwa [add_block] at this | exact this) GW201.out))) _).trans (((cell_far (p := ⟨gb201, _, none⟩) (by first | exact Nat.ne_of_lt (Nat.lt_of_lt_of_le (by have := World.block_lt_of_cell? _ _ hw196_2; first | rwa [add_block] at this | exact this) GW201.out) | (rw [add_block]; exact Nat.ne_of_lt (Nat.lt_of_lt_of_le (by have := World.block_lt_of_cell? _ _ hw196_2; first | rwa [add_block] at this | exact this) GW201.out)) | (show (Addr.add _ _).block ≠ _; rw [add_block]; exact Nat.ne_of_lt (Nat.lt_of_lt_of_le (by have := World.block_lt_of_cell? _ _ hw196_2; first | rwa [add_block] at this | exact this) GW201.out)) | (dsimp only; exact Nat.ne_of_lt (Nat.lt_of_lt_of_le (by have := World.block_lt_of_cell? _ _ hw196_2; first | rwa [add_block] at this | exact this) GW201.out))) _).trans (hHeld.2.2.2))))))⟩ (fun hHeld => ?_)
       clear hK K
       refine pv_ 13 6 zq20.q18 HT_ ?_
       refine done_ (done_of HT_.out (by kernel_rfl)) ?_
       try go_wp2
       go_roundg k1
       case measure => have := HK1.out; omega
       case rel => exact ⟨(x3_1), (wrap64 (x4_1 + 1)), (by first | rfl | (simp; done) | (simp [*]; done)), H', ⟨by have := HK1.out; omega⟩, ⟨by (with_reducible repeat (first | apply Kd.R_alloc | apply Kd.R_drewN | apply Kd.R_drew)); exact Kd.R_mono (Kd.R_far (p := ⟨gb201, 2, none⟩) (Kd.R_far (p := ⟨gb201, 1, none⟩) (Kd.R_far (p := ⟨gb201, 0, none⟩) (Kd.R_mono HO_3.out (fun k_ hk => (⟨hk, hk⟩ : _ ∧ k_ ≠ gb201))) (fun _ hk => hk.2) (.int .u32 t197)) (fun _ hk => hk.2) (.string t198)) (fun _ hk => hk.2) (.int .i64 t199)) (fun _ hk => trivial)⟩, bf_ BK194, ⟨by repeat (first | (with_reducible first | exact HB.out | apply below_alloc | apply pw_below_drewN | apply below_drew1 | refine below_set ?_ GE194.out | refine below_set ?_ GE201.out) | exact HB.out)⟩⟩
    ·
     rw [if_neg c4] at H
     exact absurd H (by simp)
   ·
    rw [if_neg c3] at H
    have c3b0 : decide (x4_1 < (l0_0.length : Int)) = false := decide_eq_false c3
    clear c3
    obtain rfl := Option.some.inj H
    have hcz29_0 : wr.cell? ⟨gb194, 0, none⟩ = some (.slice A0_0 l0_0.length c0_0) := (blk_cell BK194.out 0).trans rfl
    have hfz29_0 := blk_frozen BK194.out 0
    go_wp2
    go_ret
    exact ⟨_, by first | rfl | (simp [errW_none, errW_some] <;> rfl) | (simp [*, errW_none, errW_some] <;> rfl), by (with_reducible repeat (first | apply Kd.R_alloc | apply Kd.R_drewN | apply Kd.R_drew)); exact HO_3.out, by repeat (first | (with_reducible first | exact HB.out | apply below_alloc | apply pw_below_drewN | apply below_drew1 | refine below_set ?_ GE194.out) | exact HB.out)⟩
end Go.Proofs.Ytpedlnebpibgaaa.All
end
section
namespace Go.Proofs.Ytpedlnebpibgaaa.All
open Go.RowKit Go.Proofs.YtpedlnebpibgaaaW.PrintWords Go.Proofs.YtpedlnebpibgaaaW.PrintLast Go.Proofs.YtpedlnebpibgaaaW.PrintMore
attribute [local go_sem] max2_int min2_int max_two min_two max_three min_three max_four min_four
set_option linter.unusedVariables false
set_option linter.unusedSimpArgs false
def compositorref12_Version.l0 : Nat → ByteArray → List ByteArray → Int → Option (Int)
  | 0, _, _, _ => none
  | k + 1, x0, x3, x4 => if x4 < (x3.length : Int) then (if 0 ≤ x4 then (if (rdOf ByteArray.empty x3 x4).toList = x0.toList then (if x0.toList = ([115, 104, 101, 108, 108] : List UInt8) then (some 2) else (if x0.toList = ([115, 117, 114, 102, 97, 99, 101] : List UInt8) then (some 3) else (some 1))) else (compositorref12_Version.l0 k x0 x3 (wrap64 (x4 + 1)))) else (none)) else (some 0)
def compositorref12_Version.f (k : Nat) (a0 : ByteArray) : Option (Int) := (compositorref12_Names.f).bind fun t206 => (compositorref12_Version.l0 k a0 t206 0)
set_option maxHeartbeats 8000000 in
set_option maxRecDepth 100000 in
theorem compositorref12_Version.calls (k : Nat) (a0 : ByteArray) (r : Int) (w : World) (h : compositorref12_Version.f k a0 = some r) :
    Calls Try.prog 26 #[.string a0] w fun e w' => e = .returned (.int .i64 r) ∧ Below w.heap.size w w' := by
  have HB := Aside0.mk (Below.refl w.heap.size w)
  have H : ((compositorref12_Names.f).bind fun t206 => (compositorref12_Version.l0 k a0 t206 0)) = some r := h
  clear h
  replace H := Option.bind_eq_some_iff.mp H
  obtain ⟨t206, A20, H⟩ := H
  replace H : (compositorref12_Version.l0 k a0 t206 0) = some r := H
  have A2 := Aside0.mk A20
  clear A20
  have H' := Aside0.mk H
  clear H
  go_enter Try.func26, Try.ntmps26
  go_wp2_with (first | ((with_reducible refine gate_callee (f := 25) rfl ?_); refine goesL_ (some 5) rfl rfl Try.func25 (by kernel_rfl) rfl #[] rfl (by (try simp only [List.map_toArray, List.map_cons, List.map_nil]); first | done | rfl | (simp only [List.length_drop, List.length_take]; rfl)) ?_; (with_reducible refine (compositorref12_Names.calls  t206 _ A2.out).mono ?_); rintro e w3 ⟨v207, rfl, ho0, hb⟩; refine ⟨_, rfl, ?_⟩; have n0_ := Aside0.mk (Kd.R_lower ho0 (below_size (by repeat (first | (with_reducible first | exact HB.out | apply below_alloc | apply pw_below_drewN | apply below_drew1) | exact HB.out)))); have n1_ := Aside0.mk (below_step (by repeat (first | (with_reducible first | exact HB.out | apply below_alloc | apply pw_below_drewN | apply below_drew1) | exact HB.out)) hb); clear HB; have HO208 := n0_; have HB := n1_; clear n0_ n1_; (try clear hb); (try clear hb2); (try clear hk); (try clear hi); (try clear ho0)))
  go_loopg [4] k (fun kq v4 w' => ∃ (x4_1 : Int), v4 = .int .i64 x4_1 ∧ Aside0 (compositorref12_Version.l0 kq a0 t206 x4_1 = some r) ∧ Aside0 (kq ≤ k) ∧ Aside0 (Kd.R Kd.string 9 w' w.heap.size (fun _ => True) v207 t206) ∧ Aside0 (Below w.heap.size w w'))
  case atStart => exact ⟨(0), (by first | rfl | (simp; done) | (simp [*]; done)), H', ⟨Nat.le_refl _⟩, ⟨by (with_reducible repeat (first | apply Kd.R_alloc | apply Kd.R_drewN | apply Kd.R_drew)); exact HO208.out⟩, ⟨by repeat (first | (with_reducible first | exact HB.out | apply below_alloc | apply pw_below_drewN | apply below_drew1) | exact HB.out)⟩⟩
  case round =>
    clear H'
    try clear c2
    try clear p2
    obtain ⟨x4_1, rfl, HA, HK1, HO_3, HB⟩ := hrel
    cases gk with
    | zero => exact absurd HA.out (by simp [compositorref12_Version.l0])
    | succ k1 =>
      have H := HA.out
      clear HA
      simp only [compositorref12_Version.l0] at H
      by_cases c4 : x4_1 < (t206.length : Int)
      · rw [if_pos c4] at H
        have c4b0 : decide (x4_1 < (t206.length : Int)) = true := decide_eq_true c4
        clear c4
        by_cases c5 : 0 ≤ x4_1
        · rw [if_pos c5] at H
          have c5b0 : decide (0 ≤ x4_1) = true := decide_eq_true c5
          clear c5
          by_cases c6 : (rdOf ByteArray.empty t206 x4_1).toList = a0.toList
          · rw [if_pos c6] at H
            have c6b0 : ((rdOf ByteArray.empty t206 x4_1).toList == a0.toList) = true := beq_iff_eq.mpr c6
            have c6b1 : ((rdOf ByteArray.empty t206 x4_1).toList != a0.toList) = false := bne_eq_false_iff_eq.mpr c6
            clear c6
            by_cases c7 : a0.toList = ([115, 104, 101, 108, 108] : List UInt8)
            · rw [if_pos c7] at H
              have c7b0 : (a0.toList == ([115, 104, 101, 108, 108] : List UInt8)) = true := beq_iff_eq.mpr c7
              have c7b1 : (a0.toList != ([115, 104, 101, 108, 108] : List UInt8)) = false := bne_eq_false_iff_eq.mpr c7
              clear c7
              obtain rfl := Option.some.inj H
              obtain ⟨Ao8, co8, eo8⟩ := Kd.R_slice HO_3.out
              subst eo8
              have p209 : 0 ≤ (x4_1 : Int) := of_decide_eq_true (by first | (with_reducible assumption) | assumption)
              have q209 : x4_1 < (t206.length : Int) := of_decide_eq_true (by first | (with_reducible assumption) | assumption)
              obtain ⟨ad209, e209, hx209_0⟩ := Kd.at_string (Kd.R_reads' HO_3.out).2.2 x4_1 p209 q209
              cases e209
              replace p209 := eq_true p209
              replace q209 := eq_true q209
              go_wp2
              go_ret
              exact ⟨by first | rfl | (simp [errW_none, errW_some] <;> rfl) | (simp [*, errW_none, errW_some] <;> rfl), by repeat (first | (with_reducible first | exact HB.out | apply below_alloc | apply pw_below_drewN | apply below_drew1) | exact HB.out)⟩
            · rw [if_neg c7] at H
              have c7b0 : (a0.toList == ([115, 104, 101, 108, 108] : List UInt8)) = false := beq_eq_false_iff_ne.mpr c7
              have c7b1 : (a0.toList != ([115, 104, 101, 108, 108] : List UInt8)) = true := bne_iff_ne.mpr c7
              by_cases c9 : a0.toList = ([115, 117, 114, 102, 97, 99, 101] : List UInt8)
              · rw [if_pos c9] at H
                have c9b0 : (a0.toList == ([115, 117, 114, 102, 97, 99, 101] : List UInt8)) = true := beq_iff_eq.mpr c9
                have c9b1 : (a0.toList != ([115, 117, 114, 102, 97, 99, 101] : List UInt8)) = false := bne_eq_false_iff_eq.mpr c9
                clear c9
                obtain rfl := Option.some.inj H
                obtain ⟨Ao10, co10, eo10⟩ := Kd.R_slice HO_3.out
                subst eo10
                have p209 : 0 ≤ (x4_1 : Int) := of_decide_eq_true (by first | (with_reducible assumption) | assumption)
                have q209 : x4_1 < (t206.length : Int) := of_decide_eq_true (by first | (with_reducible assumption) | assumption)
                obtain ⟨ad209, e209, hx209_0⟩ := Kd.at_string (Kd.R_reads' HO_3.out).2.2 x4_1 p209 q209
                cases e209
                replace p209 := eq_true p209
                replace q209 := eq_true q209
                go_wp2
                go_ret
                exact ⟨by first | rfl | (simp [errW_none, errW_some] <;> rfl) | (simp [*, errW_none, errW_some] <;> rfl), by repeat (first | (with_reducible first | exact HB.out | apply below_alloc | apply pw_below_drewN | apply below_drew1) | exact HB.out)⟩
              · rw [if_neg c9] at H
                have c9b0 : (a0.toList == ([115, 117, 114, 102, 97, 99, 101] : List UInt8)) = false := beq_eq_false_iff_ne.mpr c9
                have c9b1 : (a0.toList != ([115, 117, 114, 102, 97, 99, 101] : List UInt8)) = true := bne_iff_ne.mpr c9
                obtain rfl := Option.some.inj H
                obtain ⟨Ao11, co11, eo11⟩ := Kd.R_slice HO_3.out
                subst eo11
                have p209 : 0 ≤ (x4_1 : Int) := of_decide_eq_true (by first | (with_reducible assumption) | assumption)
                have q209 : x4_1 < (t206.length : Int) := of_decide_eq_true (by first | (with_reducible assumption) | assumption)
                obtain ⟨ad209, e209, hx209_0⟩ := Kd.at_string (Kd.R_reads' HO_3.out).2.2 x4_1 p209 q209
                cases e209
                replace p209 := eq_true p209
                replace q209 := eq_true q209
                go_wp2
                go_ret
                exact ⟨by first | rfl | (simp [errW_none, errW_some] <;> rfl) | (simp [*, errW_none, errW_some] <;> rfl), by repeat (first | (with_reducible first | exact HB.out | apply below_alloc | apply pw_below_drewN | apply below_drew1) | exact HB.out)⟩
          · rw [if_neg c6] at H
            have c6b0 : ((rdOf ByteArray.empty t206 x4_1).toList == a0.toList) = false := beq_eq_false_iff_ne.mpr c6
            have c6b1 : ((rdOf ByteArray.empty t206 x4_1).toList != a0.toList) = true := bne_iff_ne.mpr c6
            have H' := Aside0.mk H
            clear H
            obtain ⟨Ao12, co12, eo12⟩ := Kd.R_slice HO_3.out
            subst eo12
            have p209 : 0 ≤ (x4_1 : Int) := of_decide_eq_true (by first | (with_reducible assumption) | assumption)
            have q209 : x4_1 < (t206.length : Int) := of_decide_eq_true (by first | (with_reducible assumption) | assumption)
            obtain ⟨ad209, e209, hx209_0⟩ := Kd.at_string (Kd.R_reads' HO_3.out).2.2 x4_1 p209 q209
            cases e209
            replace p209 := eq_true p209
            replace q209 := eq_true q209
            go_wp2
            go_roundg k1
            case measure => have := HK1.out; omega
            case rel => exact ⟨(wrap64 (x4_1 + 1)), (by first | rfl | (simp; done) | (simp [*]; done)), H', ⟨by have := HK1.out; omega⟩, ⟨by (with_reducible repeat (first | apply Kd.R_alloc | apply Kd.R_drewN | apply Kd.R_drew)); exact HO_3.out⟩, ⟨by repeat (first | (with_reducible first | exact HB.out | apply below_alloc | apply pw_below_drewN | apply below_drew1) | exact HB.out)⟩⟩
        · rw [if_neg c5] at H
          exact absurd H (by simp)
      · rw [if_neg c4] at H
        have c4b0 : decide (x4_1 < (t206.length : Int)) = false := decide_eq_false c4
        clear c4
        obtain rfl := Option.some.inj H
        obtain ⟨Ao13, co13, eo13⟩ := Kd.R_slice HO_3.out
        subst eo13
        go_wp2
        go_ret
        exact ⟨by first | rfl | (simp [errW_none, errW_some] <;> rfl) | (simp [*, errW_none, errW_some] <;> rfl), by repeat (first | (with_reducible first | exact HB.out | apply below_alloc | apply pw_below_drewN | apply below_drew1) | exact HB.out)⟩
end Go.Proofs.Ytpedlnebpibgaaa.All
end
section
namespace Go.Proofs.Ytpedlnebpibgaaa.All
open Go.RowKit Go.Proofs.YtpedlnebpibgaaaW.PrintWords Go.Proofs.YtpedlnebpibgaaaW.PrintLast Go.Proofs.YtpedlnebpibgaaaW.PrintMore
attribute [local go_sem] max2_int min2_int max_two min_two max_three min_three max_four min_four
set_option linter.unusedVariables false
set_option linter.unusedSimpArgs false
def compositorref14_added.l0 : Nat → Int → Int → List (S49) → Option (Int)
  | 0, _, _, _ => none
  | k + 1, x3, x4, x211000 => if x4 < (x211000.length : Int) then (if 0 ≤ x4 then (if ((rd_T49 x211000 x4).f2) > 0 then (compositorref14_added.l0 k (wrap64 (x3 + 1)) (wrap64 (x4 + 1)) x211000) else (compositorref14_added.l0 k x3 (wrap64 (x4 + 1)) x211000)) else (none)) else (some x3)
def compositorref14_added.f (k : Nat) (l0_0 : List (S49)) : Option (Int) := compositorref14_added.l0 k 0 0 l0_0
set_option maxHeartbeats 8000000 in
set_option maxRecDepth 100000 in
theorem compositorref14_added.calls (k : Nat) (A0_0 : Option Addr) (c0_0 : Nat) (l0_0 : List (S49)) (r : Int) (w : World) (hr0_0 : Kd.C k49 w A0_0 l0_0.length l0_0) (hc0_0 : l0_0.length ≤ c0_0) (h : compositorref14_added.f k l0_0 = some r) :
    Calls Try.prog 29 #[.agg #[.slice A0_0 l0_0.length c0_0]] w fun e w' => e = .returned (.int .i64 r) ∧ Below w.heap.size w w' := by
  have hu28 := Try.underlying28
  have HR0_0 := Aside0.mk hr0_0
  have HC0_0 := Aside0.mk hc0_0
  clear hr0_0 hc0_0
  have HB := Aside0.mk (Below.refl w.heap.size w)
  have H : (compositorref14_added.l0 k 0 0 l0_0) = some r := h
  clear h
  have H' := Aside0.mk H
  clear H
  go_enter Try.func29, Try.ntmps29
  go_wp2_with (first | ((with_reducible refine gate_dst (N := 1) rfl ?_); refine box_event ?hg (N := 1) ?hd (cs := #[.slice A0_0 l0_0.length c0_0]) (t := 28) ?hr ?_; (case hd => rfl); (case hg => rfl); (case hr => first | (go_simp; done) | (go_simp; rfl)); intro gb210 hg w2 hbox hb; have n0_ := Aside0.mk (below_step (by repeat (first | (with_reducible first | exact HB.out | apply below_alloc | apply pw_below_drewN | apply below_drew1) | exact HB.out)) hb); have n1_ := Aside0.mk (hbox); have n2_ := Aside0.mk ((by rw [hg]; exact (below_size (by repeat (first | (with_reducible first | exact HB.out | apply below_alloc | apply pw_below_drewN | apply below_drew1) | exact HB.out))) : w.heap.size ≤ gb210)); have n3_ := Aside0.mk ((by rw [hg]; exact (below_size (by repeat (first | (with_reducible first | exact HB.out | apply below_alloc | apply pw_below_drewN | apply below_drew1) | exact HB.out))) : w.heap.size ≤ gb210)); clear HB; have HB := n0_; have BK210 := n1_; have GW210 := n2_; have GE210 := n3_; clear n0_ n1_ n2_ n3_; clear hb hbox hg))
  go_loopg [3, 4] k (fun kq v3 v4 w' => ∃ (x3_1 : Int) (x4_1 : Int), v3 = .int .i64 x3_1 ∧ v4 = .int .i64 x4_1 ∧ Aside0 (compositorref14_added.l0 kq x3_1 x4_1 l0_0 = some r) ∧ Aside0 (kq ≤ k) ∧ Aside0 (w'.heap[gb210]? = some (.cells #[(.slice A0_0 l0_0.length c0_0)] 28 (0, 0))) ∧ Aside0 (Below w.heap.size w w'))
  case atStart => exact ⟨(0), (0), (by first | rfl | (simp; done) | (simp [*]; done)), (by first | rfl | (simp; done) | (simp [*]; done)), H', ⟨Nat.le_refl _⟩, ⟨by (with_reducible repeat (first | refine blk_drewN ?_ _ | refine blk_drew ?_ | refine blk_alloc ?_ _)); exact BK210.out⟩, ⟨by repeat (first | (with_reducible first | exact HB.out | apply below_alloc | apply pw_below_drewN | apply below_drew1 | refine below_set ?_ GE210.out) | exact HB.out)⟩⟩
  case round =>
    clear H'
    try clear c2
    try clear p2
    obtain ⟨x3_1, x4_1, rfl, rfl, HA, HK1, BK210, HB⟩ := hrel
    cases gk with
    | zero => exact absurd HA.out (by simp [compositorref14_added.l0])
    | succ k1 =>
      have H := HA.out
      clear HA
      simp only [compositorref14_added.l0] at H
      by_cases c3 : x4_1 < (l0_0.length : Int)
      · rw [if_pos c3] at H
        have c3b0 : decide (x4_1 < (l0_0.length : Int)) = true := decide_eq_true c3
        clear c3
        by_cases c4 : 0 ≤ x4_1
        · rw [if_pos c4] at H
          have c4b0 : decide (0 ≤ x4_1) = true := decide_eq_true c4
          clear c4
          by_cases c5 : ((rd_T49 l0_0 x4_1).f2) > 0
          · rw [if_pos c5] at H
            have c5b0 : decide (0 < ((rd_T49 l0_0 x4_1).f2)) = true := decide_eq_true c5
            clear c5
            have H' := Aside0.mk H
            clear H
            have hcz6_0 : wr.cell? ⟨gb210, 0, none⟩ = some (.slice A0_0 l0_0.length c0_0) := (blk_cell BK210.out 0).trans rfl
            have hfz6_0 := blk_frozen BK210.out 0
            have p211 : 0 ≤ (x4_1 : Int) := of_decide_eq_true (by first | (with_reducible assumption) | assumption)
            have q211 : x4_1 < (l0_0.length : Int) := of_decide_eq_true (by first | (with_reducible assumption) | assumption)
            obtain ⟨ad211, e211, hx211_0, hx211_1, hx211_2⟩ := at_T49 HR0_0.out x4_1 p211 q211
            cases e211
            replace hx211_0 := (HB.out.cell (World.block_lt_of_cell? w _ hx211_0)).trans hx211_0
            replace hx211_1 := (HB.out.cell (World.block_lt_of_cell? w _ hx211_1)).trans hx211_1
            replace hx211_2 := (HB.out.cell (World.block_lt_of_cell? w _ hx211_2)).trans hx211_2
            replace p211 := eq_true p211
            replace q211 := eq_true q211
            go_wp2
            go_roundg k1
            case measure => have := HK1.out; omega
            case rel => exact ⟨(wrap64 (x3_1 + 1)), (wrap64 (x4_1 + 1)), (by first | rfl | (simp; done) | (simp [*]; done)), (by first | rfl | (simp; done) | (simp [*]; done)), H', ⟨by have := HK1.out; omega⟩, ⟨by (with_reducible repeat (first | refine blk_drewN ?_ _ | refine blk_drew ?_ | refine blk_alloc ?_ _)); exact BK210.out⟩, ⟨by repeat (first | (with_reducible first | exact HB.out | apply below_alloc | apply pw_below_drewN | apply below_drew1 | refine below_set ?_ GE210.out) | exact HB.out)⟩⟩
          · rw [if_neg c5] at H
            have c5b0 : decide (0 < ((rd_T49 l0_0 x4_1).f2)) = false := decide_eq_false c5
            clear c5
            have H' := Aside0.mk H
            clear H
            have hcz7_0 : wr.cell? ⟨gb210, 0, none⟩ = some (.slice A0_0 l0_0.length c0_0) := (blk_cell BK210.out 0).trans rfl
            have hfz7_0 := blk_frozen BK210.out 0
            have p211 : 0 ≤ (x4_1 : Int) := of_decide_eq_true (by first | (with_reducible assumption) | assumption)
            have q211 : x4_1 < (l0_0.length : Int) := of_decide_eq_true (by first | (with_reducible assumption) | assumption)
            obtain ⟨ad211, e211, hx211_0, hx211_1, hx211_2⟩ := at_T49 HR0_0.out x4_1 p211 q211
            cases e211
            replace hx211_0 := (HB.out.cell (World.block_lt_of_cell? w _ hx211_0)).trans hx211_0
            replace hx211_1 := (HB.out.cell (World.block_lt_of_cell? w _ hx211_1)).trans hx211_1
            replace hx211_2 := (HB.out.cell (World.block_lt_of_cell? w _ hx211_2)).trans hx211_2
            replace p211 := eq_true p211
            replace q211 := eq_true q211
            go_wp2
            go_roundg k1
            case measure => have := HK1.out; omega
            case rel => exact ⟨(x3_1), (wrap64 (x4_1 + 1)), (by first | rfl | (simp; done) | (simp [*]; done)), (by first | rfl | (simp; done) | (simp [*]; done)), H', ⟨by have := HK1.out; omega⟩, ⟨by (with_reducible repeat (first | refine blk_drewN ?_ _ | refine blk_drew ?_ | refine blk_alloc ?_ _)); exact BK210.out⟩, ⟨by repeat (first | (with_reducible first | exact HB.out | apply below_alloc | apply pw_below_drewN | apply below_drew1 | refine below_set ?_ GE210.out) | exact HB.out)⟩⟩
        · rw [if_neg c4] at H
          exact absurd H (by simp)
      · rw [if_neg c3] at H
        have c3b0 : decide (x4_1 < (l0_0.length : Int)) = false := decide_eq_false c3
        clear c3
        obtain rfl := Option.some.inj H
        have hcz8_0 : wr.cell? ⟨gb210, 0, none⟩ = some (.slice A0_0 l0_0.length c0_0) := (blk_cell BK210.out 0).trans rfl
        have hfz8_0 := blk_frozen BK210.out 0
        go_wp2
        go_ret
        exact ⟨by first | rfl | (simp [errW_none, errW_some] <;> rfl) | (simp [*, errW_none, errW_some] <;> rfl), by repeat (first | (with_reducible first | exact HB.out | apply below_alloc | apply pw_below_drewN | apply below_drew1 | refine below_set ?_ GE210.out) | exact HB.out)⟩
end Go.Proofs.Ytpedlnebpibgaaa.All
end
