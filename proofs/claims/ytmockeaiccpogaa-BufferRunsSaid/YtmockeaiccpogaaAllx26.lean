-- Written by a program of this session, which runs the kit's print.py and puts in functions that this session typed. Not trusted: Lean checks it.
import Derived.Test.YtmockeaiccpogaaAllx0
import Derived.Test.YtmockeaiccpogaaAllx3
import Derived.Test.YtmockeaiccpogaaAllx8
import Derived.Test.YtmockeaiccpogaaAllx10
namespace Go.Proofs.Ytmockeaiccpogaa.All
open Go.RowKit Go.Proofs.YtmockeaiccpogaaW.PrintWords Go.Proofs.YtmockeaiccpogaaW.PrintLast Go.Proofs.YtmockeaiccpogaaW.PrintMore
attribute [local go_sem] max2_int min2_int max_two min_two max_three min_three max_four min_four   -- for this text's walks alone
set_option linter.unusedVariables false
set_option linter.unusedSimpArgs false

/-! ### buffer_OpaqueRegion: function 20 -/
section
open Go.Proofs.YtmockeaiccpogaaHand Go.Proofs.YtmockeaiccpogaaSq
def buffer_OpaqueRegion.mk (a : List S43) (i : Nat) : Bool := (rd_T43 a (i : Int)).f3 == 255
set_option maxHeartbeats 4000000 in
theorem buffer_OpaqueRegion.lit_calls (W H : Int) (A : Option Addr) (c : Nat) (a : List S43) (i : Nat) (ga : Nat) (w : World) (hA0 : Kd.C k43 w A a.length a)
    (ha0 : w.heap[ga]? = some (.cells #[.int .i64 W, .int .i64 H, .slice A a.length c] 27 (0, 0))) (hia : i < a.length) :
    Calls Try.prog 47 #[.int .i64 i, .pointer (some ⟨ga, 0, none⟩)] w fun e w' => e = .returned (.bool (buffer_OpaqueRegion.mk a i)) ∧ Below w.heap.size w w' := by
  have pa : (0 : Int) ≤ (i : Int) := by omega
  have qa : (i : Int) < (a.length : Int) := by omega
  obtain ⟨ada, eA, a0, a1, a2, a3⟩ := at_T43 hA0 (i : Int) pa qa
  subst eA
  have x0 : w.cell? ⟨ga, 2, none⟩ = some (.slice (some ada) a.length c) := (blk_cell ha0 2).trans rfl
  simp only [Int.toNat_natCast] at a0 a1 a2 a3
  replace pa := eq_true pa
  replace qa := eq_true qa
  clear hA0 ha0
  go_enter Try.func47, Try.ntmps47
  go_wp2_with fail
  refine (pixel_Opaque.calls _ _ _ _ (buffer_OpaqueRegion.mk a i) w (by unfold pixel_Opaque.f buffer_OpaqueRegion.mk; first | rfl | simp)).mono ?_
  rintro e w1 ⟨rfl, hb⟩
  go_wp2
  go_ret
  exact ⟨rfl, hb⟩
def buffer_OpaqueRegion.f (a0_0 a0_1 : Int) (l0_2 : List S43) : Option (List S47 × Int) :=
  (buffer_Valid.f a0_0 a0_1 l0_2).bind fun s1 => if s1 = true then some (if (buffer_runs.all (buffer_OpaqueRegion.mk l0_2) a0_0.toNat a0_1.toNat).length > 256 then [] else buffer_runs.all (buffer_OpaqueRegion.mk l0_2) a0_0.toNat a0_1.toNat, if (buffer_runs.all (buffer_OpaqueRegion.mk l0_2) a0_0.toNat a0_1.toNat).length > 256 then 5 else 0) else some ([], 15)
set_option maxHeartbeats 4000000 in
theorem buffer_OpaqueRegion.calls (a0_0 : Int) (a0_1 : Int) (A0_2 : Option Addr) (c0_2 : Nat) (l0_2 : List S43) (r1 : List S47) (r2 : Int) (w : World) (hr0_2 : Kd.C k43 w A0_2 l0_2.length l0_2) (hc0_2 : l0_2.length ≤ c0_2) (h : buffer_OpaqueRegion.f a0_0 a0_1 l0_2 = some (r1, r2)) :
    Calls Try.prog 20 #[.agg #[.int .i64 a0_0, .int .i64 a0_1, .slice A0_2 l0_2.length c0_2]] w fun e w' => ∃ v1_ : Value, e = .returned (.tuple #[v1_, .int .i64 r2]) ∧ Kd.R k47 47 w' w.heap.size (fun _ => True) v1_ r1 ∧ Below w.heap.size w w' := by
  replace h := Option.bind_eq_some_iff.mp h
  obtain ⟨s1, hs1, h⟩ := h
  have hs := Aside0.mk hs1
  clear hs1
  go_enter Try.func20, Try.ntmps20
  go_wp2_with fail
  obtain ⟨ha0, hB0⟩ := allocs1 w (Obj.cells #[.int .i64 a0_0, .int .i64 a0_1, .slice A0_2 l0_2.length c0_2] 27)
  generalize w.alloc (Obj.cells #[.int .i64 a0_0, .int .i64 a0_1, .slice A0_2 l0_2.length c0_2] 27) = V at ha0 hB0 ⊢
  have hC := Aside0.mk (Kd.C_below hr0_2 hB0)
  have ha := Aside0.mk ha0
  have hB := Aside0.mk hB0
  clear ha0 hB0 hr0_2
  refine (buffer_Valid.calls a0_0 a0_1 A0_2 c0_2 l0_2 s1 V hC.out hc0_2 hs.out).mono ?_
  rintro e w1 ⟨rfl, hb1⟩
  replace ha := Aside0.mk (blk_below ha.out hb1)
  replace hC := Aside0.mk (Kd.C_below hC.out hb1)
  replace hB := Aside0.mk (below_step hB.out hb1)
  clear hb1
  have x0 := (blk_cell ha.out 0).trans rfl
  have x1 := (blk_cell ha.out 1).trans rfl
  cases s1 with
  | false =>
    obtain ⟨rfl, rfl⟩ : [] = r1 ∧ 15 = r2 := by simpa using h
    clear h
    go_wp2
    go_ret2
    exact ⟨_, rfl, Kd.R_nil _ _ _ _ _, hB.out⟩
  | true =>
    rw [if_pos rfl] at h
    simp only [Option.some.injEq, Prod.mk.injEq] at h
    have hr := Aside0.mk h
    clear h
    obtain ⟨hW, hH, hl⟩ := buffer_Valid.of_valid hs.out
    obtain ⟨n, hn⟩ : ∃ n : Nat, a0_0 = n := ⟨a0_0.toNat, by omega⟩
    obtain ⟨m, hm⟩ : ∃ m : Nat, a0_1 = m := ⟨a0_1.toNat, by omega⟩
    subst hn hm
    rw [← Int.natCast_mul] at hl
    have hl' := Aside0.mk hl
    have hb' := Aside0.mk (And.intro hW hH)
    clear hl hW hH
    go_wp2_with fail
    refine (buffer_runs.calls 47 Try.f47 #[.pointer (some ⟨w.heap.size, 0, none⟩)] Try.func47 (by kernel_rfl) rfl n m (by have := hb'.out; omega) (by have := hb'.out; omega) (buffer_OpaqueRegion.mk l0_2) w1 ?cl).mono ?_
    case cl =>
      intro i W1 hi hb1
      exact buffer_OpaqueRegion.lit_calls n m A0_2 c0_2 l0_2 i w.heap.size W1 (Kd.C_below hC.out hb1) (blk_below ha.out hb1) (by have := hl'.out; omega)
    rintro e w6 ⟨v, rfl, hv, hb2⟩
    have hV := Aside0.mk (Kd.R_lower hv hB.out.size)
    replace hB := Aside0.mk (below_step hB.out hb2)
    clear hv hb2
    obtain ⟨q2, hq2⟩ : ∃ q : Int, (if (buffer_runs.all (buffer_OpaqueRegion.mk l0_2) n m).length > 256 then (5 : Int) else 0) = q := ⟨_, rfl⟩
    rw [hq2]
    have he2 := Aside0.mk hq2.symm
    clear hq2
    go_wp2
    go_ret2
    have e1 : (if (buffer_runs.all (buffer_OpaqueRegion.mk l0_2) n m).length > 256 then [] else buffer_runs.all (buffer_OpaqueRegion.mk l0_2) n m) = r1 := hr.out.1
    have e2 : (if (buffer_runs.all (buffer_OpaqueRegion.mk l0_2) n m).length > 256 then (5 : Int) else 0) = r2 := hr.out.2
    exact ⟨v, by rw [he2.out, e2]; rfl, by rw [← e1]; exact hV.out, hB.out⟩
end


/-! ### compositorref08_Opaque: function 49 -/
def compositorref08_Opaque.f (a0_0 : Int) (a0_1 : Int) (a0_2 : Int) (a0_3 : Int) : Option (Bool) := some (a0_3 == 255)
set_option maxHeartbeats 8000000 in
set_option maxRecDepth 100000 in
theorem compositorref08_Opaque.calls (a0_0 : Int) (a0_1 : Int) (a0_2 : Int) (a0_3 : Int) (r : Bool) (w : World) (h : compositorref08_Opaque.f a0_0 a0_1 a0_2 a0_3 = some r) :
    Calls Try.prog 49 #[.agg #[.int .u8 a0_0, .int .u8 a0_1, .int .u8 a0_2, .int .u8 a0_3]] w fun e w' => e = .returned (.bool r) ∧ Below w.heap.size w w' := by
  have hu43 := Try.underlying43
  have HB := Aside0.mk (Below.refl w.heap.size w)
  have H : (some (a0_3 == 255)) = some r := h
  clear h
  obtain rfl := Option.some.inj H
  go_enter Try.func49, Try.ntmps49
  go_wp2_with (first | ((with_reducible refine gate_dst (N := 1) rfl ?_); refine box_event ?hg (N := 1) ?hd (cs := #[.int .u8 a0_0, .int .u8 a0_1, .int .u8 a0_2, .int .u8 a0_3]) (t := 43) ?hr ?_; (case hd => rfl); (case hg => rfl); (case hr => first | (go_simp; done) | (go_simp; rfl)); intro gb285 hg w2 hbox hb; have n0_ := Aside0.mk (below_step (by repeat (first | (with_reducible first | exact HB.out | apply below_alloc | apply pw_below_drewN | apply below_drew1) | exact HB.out)) hb); have n1_ := Aside0.mk (hbox); have n2_ := Aside0.mk ((by rw [hg]; exact (below_size (by repeat (first | (with_reducible first | exact HB.out | apply below_alloc | apply pw_below_drewN | apply below_drew1) | exact HB.out))) : w.heap.size ≤ gb285)); have n3_ := Aside0.mk ((by rw [hg]; exact (below_size (by repeat (first | (with_reducible first | exact HB.out | apply below_alloc | apply pw_below_drewN | apply below_drew1) | exact HB.out))) : w.heap.size ≤ gb285)); clear HB; have HB := n0_; have BK285 := n1_; have GW285 := n2_; have GE285 := n3_; clear n0_ n1_ n2_ n3_; clear hb hbox hg; have hcz3_0 : w2.cell? ⟨gb285, 0, none⟩ = some (.int .u8 a0_0) := (blk_cell BK285.out 0).trans rfl; have hcz3_1 : w2.cell? ⟨gb285, 1, none⟩ = some (.int .u8 a0_1) := (blk_cell BK285.out 1).trans rfl; have hcz3_2 : w2.cell? ⟨gb285, 2, none⟩ = some (.int .u8 a0_2) := (blk_cell BK285.out 2).trans rfl; have hcz3_3 : w2.cell? ⟨gb285, 3, none⟩ = some (.int .u8 a0_3) := (blk_cell BK285.out 3).trans rfl; have hfz3_0 := blk_frozen BK285.out 0; have hfz3_1 := blk_frozen BK285.out 1; have hfz3_2 := blk_frozen BK285.out 2; have hfz3_3 := blk_frozen BK285.out 3))
  go_ret
  exact ⟨by first | rfl | (simp [errW_none, errW_some] <;> rfl) | (simp [*, errW_none, errW_some] <;> rfl), by repeat (first | (with_reducible first | exact HB.out | apply below_alloc | apply pw_below_drewN | apply below_drew1 | refine below_set ?_ GE285.out) | exact HB.out)⟩

end Go.Proofs.Ytmockeaiccpogaa.All
