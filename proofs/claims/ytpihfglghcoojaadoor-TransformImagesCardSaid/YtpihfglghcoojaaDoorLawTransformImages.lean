/-
  The law TransformImages holds for every input: the call returns true, and every argument reads afterwards as it read before. No condition narrows the inputs beyond what the given row says.
-/
import Derived.Test.YtpihfglghcoojaaDoorCards
import Derived.Test.YtpihfglghcoojaaDoorTie
import Derived.Test.YtpihfglghcoojaaDoorHand
import Derived.Deep.DeepHandedRow
import Derived.Lib.LaidTab
import Derived.Test.YtpihfglghcoojaaDoorRows
import Derived.Test.YtpihfglghcoojaaDoorAllx37
import Derived.Test.YtpihfglghcoojaaDoorPureTransformImages
import Derived.Test.YtpihfglghcoojaaDoorOpens
import Derived.Test.YtpihfglghcoojaaDoorAllx90
import Derived.WalkKit
import Derived.ProofKit
import Derived.OpenShut
import Derived.ShutString
import Derived.ChangeOld
import Derived.Below
import Derived.SizedLaws
namespace Go.Proofs.YtpihfglghcoojaaDoor.transformImages
open Go.ChangeShapes Go.WideShapes Go.ChangeAt Go.RowKit Go.Proofs.YtpihfglghcoojaaDoorOpens Go.Proofs.YtpihfglghcoojaaDoorW.PrintWords Go.Proofs.YtpihfglghcoojaaDoor.All
open Go.ChangeMaps (open_string shut_string)
set_option linter.unusedVariables false
theorem own : ownKnob Tryd.prog.godebug = none := by kernel_rfl
theorem laidOut : laidOutB Tryd.prog = true := by kernel_rfl
theorem opens3 {H : Type} (enc : TypeId × Value → H) (W : World) : Opens enc Tryd.prog W 3 (Kd.int .i64) (fun x => (Lit.int .i64 x).wf = true) := opens_int Tryd.underlying3
theorem opens5 {H : Type} (enc : TypeId × Value → H) (W : World) : Opens enc Tryd.prog W 5 (Kd.int .u8) (fun x => (Lit.int .u8 x).wf = true) := opens_int Tryd.underlying5
theorem opens58 {H : Type} (enc : TypeId × Value → H) (W : World) : Opens enc Tryd.prog W 58 k58 (fun x => ((Lit.int .u8 x.f0).wf = true) ∧ ((Lit.int .u8 x.f1).wf = true) ∧ ((Lit.int .u8 x.f2).wf = true) ∧ ((Lit.int .u8 x.f3).wf = true)) :=
  opens_imp (opens_iso (fun x : S58 => (x.f0, x.f1, x.f2, x.f3)) (fun x => ⟨x.1, x.2.1, x.2.2.1, x.2.2.2⟩) (fun _ => rfl) (opens_struct Tryd.underlying58 (by kernel_rfl) (opensFs_cons rfl (by kernel_rfl) (opens5 enc W) (opensFs_cons rfl (by kernel_rfl) (opens5 enc W) (opensFs_cons rfl (by kernel_rfl) (opens5 enc W) (opensFs_last rfl (by kernel_rfl) (opens5 enc W))))))) (fun _ h => h)
theorem opens45 {H : Type} (enc : TypeId × Value → H) (W : World) : Opens enc Tryd.prog W 45 (Kd.slice 58 k58) (fun x => x.length * 4 ≤ 140737488351232 ∧ x.length ≤ 9223372036854775807 ∧ ∀ y45 ∈ x, ((Lit.int .u8 y45.f0).wf = true) ∧ ((Lit.int .u8 y45.f1).wf = true) ∧ ((Lit.int .u8 y45.f2).wf = true) ∧ ((Lit.int .u8 y45.f3).wf = true)) := opens_slice Tryd.underlying45 (by kernel_rfl) (by kernel_rfl) (opens58 enc W)
theorem opens47 {H : Type} (enc : TypeId × Value → H) (W : World) : Opens enc Tryd.prog W 47 k47 (fun x => ((Lit.int .i64 x.f0).wf = true) ∧ ((Lit.int .i64 x.f1).wf = true) ∧ (x.f2.length * 4 ≤ 140737488351232 ∧ x.f2.length ≤ 9223372036854775807 ∧ ∀ y45 ∈ x.f2, ((Lit.int .u8 y45.f0).wf = true) ∧ ((Lit.int .u8 y45.f1).wf = true) ∧ ((Lit.int .u8 y45.f2).wf = true) ∧ ((Lit.int .u8 y45.f3).wf = true))) :=
  opens_imp (opens_iso (fun x : S47 => (x.f0, x.f1, x.f2)) (fun x => ⟨x.1, x.2.1, x.2.2⟩) (fun _ => rfl) (opens_struct Tryd.underlying47 (by kernel_rfl) (opensFs_cons rfl (by kernel_rfl) (opens3 enc W) (opensFs_cons rfl (by kernel_rfl) (opens3 enc W) (opensFs_last rfl (by kernel_rfl) (opens45 enc W)))))) (fun _ h => h)
theorem gTab : Tryd.prog.globalNamed "compositor/transform.products" = some 0 := by kernel_rfl
theorem gTabType : (Tryd.prog.globals[0]?).map (·.type) = some 53 := by kernel_rfl
theorem cellsT : Tryd.prog.cellsOf 53 = 64 := by kernel_rfl
theorem cellsE : Tryd.prog.cellsOf 3 = 1 := by kernel_rfl
theorem table {W : World} (h : laidMetH Tryd.prog Rows.transformImagesRow.laid W) : Go.Proofs.YtpihfglghcoojaaDoorHand.Tab W := fun k hk => by
  have t : Lib.TabIs Tryd.prog W "compositor/transform.products" .i64 Go.Proofs.YtpihfglghcoojaaDoorHand.prods := Lib.tabIs_of_head (rest := []) gTab gTabType Tryd.underlying53 Tryd.underlying3 cellsE cellsT h
  have q := t.cell gTab k (by show k < 64; exact hk)
  exact q.trans (by rw [List.getD_eq_getElem?_getD, List.getElem?_eq_getElem (by show k < 64; exact hk)])
/-- A world for the witness: the settled one, the table holding what its initialiser lays. -/
noncomputable def laidWorld (os : Os) : World :=
  { World.holding Tryd.prog os ⟨#[], #[], []⟩ with heap := (World.holding Tryd.prog os ⟨#[], #[], []⟩).heap.modify 0 fun
      | .cells _ t frozen => .cells (Go.Proofs.YtpihfglghcoojaaDoorHand.prods.map fun z => Value.int .i64 z).toArray t frozen
      | o => o }
theorem laid_met (os : Os) : laidMet Tryd.prog Rows.transformImagesRow.laid ((laidWorld os).forCall (fun _ _ => 0) ⟨#[], #[.int .i64 0, .int .i64 0, .agg #[.int .i64 0, .int .i64 0, .slice none 0 0]], []⟩).memory :=
  laidMet_of_run' 8 (by kernel_rfl) (by kernel_rfl)
theorem reads (os : Os) {H : Type} (enc : TypeId × Value → H) : ∃ places, DataW.whole enc Tryd.prog ((laidWorld os).forCall (fun _ _ => 0) ⟨#[], #[.int .i64 0, .int .i64 0, .agg #[.int .i64 0, .int .i64 0, .slice none 0 0]], []⟩).memory Tryd.f9.params.toList Rows.transformImagesSpec.vars false #[Value.int .i64 0, Value.int .i64 0, Value.agg #[.int .i64 0, .int .i64 0, .slice none 0 0]].toList 8 = some ([.lit (.int .i64 0), .lit (.int .i64 0), .agg [.lit (.int .i64 0), .lit (.int .i64 0), .nil]], [], places) :=
  ⟨[], by kernel_rfl⟩
set_option maxHeartbeats 1000000 in
set_option maxRecDepth 100000 in
theorem lifted (os : Os) (started : os.Started) (H : Type) (enc : TypeId × Value → H) (F : Stop.Interp) :
    ReturnsInHanded {} Tryd.checked os 9 .any ((OpenSpec.ofChange Rows.transformImagesSpec).preRow enc Tryd.prog Tryd.f9 Rows.transformImagesRow.domain false Rows.transformImagesRow.laid) (((OpenSpec.ofChange Rows.transformImagesSpec).at F).post enc Tryd.prog Tryd.f9 false true false false) := by
  obtain ⟨places, hx⟩ := reads os enc
  refine returnsInHanded_of_row (C := Tryd.checked) (s := OpenSpec.ofChange Rows.transformImagesSpec) own started (by kernel_rfl) Tryd.func9
    (witness_row_at (enc := enc) (C := Tryd.checked) false (laidWorld os) #[.int .i64 0, .int .i64 0, .agg #[.int .i64 0, .int .i64 0, .slice none 0 0]] rfl (by kernel_rfl) (by kernel_rfl) (by kernel_rfl)
      (OpenSpec.preRow_of_cond 8 hx (by kernel_rfl) (fun k hk => by cases hk) (by kernel_rfl) (laid_met os))) ?_
  intro W base args ds gs before hval0 hW hcnd _ hsz0 hL _ _
  have hTab := table hL
  have hsz : (DataW.weightsEach Tryd.prog (Tryd.f9.params.toList ++ Rows.transformImagesSpec.plain.varTypes Tryd.prog) (ds ++ gs)).all (· ≤ reachBytes) = true := hsz0
  have hval : ∀ (j : Nat) t v, Tryd.f9.params[j]? = some t → args[j]? = some v → Value.okWide Tryd.prog W .any base t v := hval0
  have hW' := hW
  obtain ⟨p, q, hA0, hV, rfl, hfz, hnd⟩ := hW
  have hA : DataW.TrodAll enc Tryd.prog W 0 (fun _ => true) true Tryd.f9.params.toList args.toList ds p := hA0
  rw [Tryd.params9] at hA hval hsz
  obtain ⟨v0, vs0, d0, ds0, p0, q0, hargs, rfl, rfl, h0, r0⟩ := trodAll_cons hA
  obtain ⟨v1, vs1, d1, ds1, p1, q1, rfl, rfl, rfl, h1, r1⟩ := trodAll_cons r0
  obtain ⟨v2, vs2, d2, ds2, p2, q2, rfl, rfl, rfl, h2, r2⟩ := trodAll_cons r1
  obtain ⟨rfl, rfl, rfl⟩ := trodAll_nil r2
  obtain rfl : args = #[v0, v1, v2] := by cases args; simp_all
  obtain ⟨rfl, rfl⟩ := trodVars_none hV
  have k0_ := h0
  have lt0 : ∀ x ∈ p0, x.block < W.heap.size := by obtain ⟨m, hm⟩ := k0_; exact DataW.trod_lt m _ _ _ hm
  obtain ⟨x0, hK0, ok0⟩ := opens_arg (opens3 enc W) hsz (j := 0) rfl rfl h0
  obtain ⟨s0, rfl⟩ := okWide_int Tryd.underlying3 (hval 0 3 v0 rfl rfl)
  obtain rfl := int_of hK0
  have k1_ := h1
  have lt1 : ∀ x ∈ p1, x.block < W.heap.size := by obtain ⟨m, hm⟩ := k1_; exact DataW.trod_lt m _ _ _ hm
  obtain ⟨x1, hK1, ok1⟩ := opens_arg (opens3 enc W) hsz (j := 1) rfl rfl h1
  obtain ⟨s1, rfl⟩ := okWide_int Tryd.underlying3 (hval 1 3 v1 rfl rfl)
  obtain rfl := int_of hK1
  have k2_ := h2
  have lt2 : ∀ x ∈ p2, x.block < W.heap.size := by obtain ⟨m, hm⟩ := k2_; exact DataW.trod_lt m _ _ _ hm
  obtain ⟨x2, hK2, ok2⟩ := opens_arg (opens47 enc W) hsz (j := 2) rfl rfl h2
  obtain ⟨cs2, rfl, _⟩ := okWide_struct Tryd.underlying47 (hval 2 47 v2 rfl rfl)
  obtain ⟨A2_2, c2_2, e2, l2_2, g2_2⟩ := k47_open hK2
  obtain rfl := arr_of e2
  clear hA0 hval0 hsz0 hsz
  obtain ⟨k, hp⟩ := Pure.TransformImages x0 x1 x2 ok0 ok1 ok2
  refine (compositorlaw07_TransformImages.calls (k := k) (a0 := x0) (a1 := x1) (a2_0 := x2.f0) (a2_1 := x2.f1) (A2_2 := A2_2) (c2_2 := c2_2) (l2_2 := x2.f2) (w := W) (hr2_2 := g2_2) (hc2_2 := l2_2) (h := hp) (hT_ := hTab)).mono fun e W' ⟨he, bel0⟩ => ?_
  have bel : Below W.heap.size W W' := bel0
  subst he
  exact ⟨_, rfl, _, _, _, [], _, [], hW', trodAll_mk1 (shut_bool Tryd.underlying4 _), (trodAll_cons_mk (Below.trod laidOut (by kernel_rfl) (of_decide_eq_true (by kernel_rfl)) k0_ bel lt0) (trodAll_cons_mk (Below.trod laidOut (by kernel_rfl) (of_decide_eq_true (by kernel_rfl)) k1_ bel lt1) (trodAll_cons_mk (Below.trod laidOut (by kernel_rfl) (of_decide_eq_true (by kernel_rfl)) k2_ bel lt2) trodAll_mk0))), rfl, bel.frame _, fun h => by cases h⟩
theorem said : Rows.TransformImagesSaid :=
  OpenClaim.holds_of_cond 9 Tryd.f9 rfl rfl rfl rfl rfl rfl rfl ⟨rfl, rfl, rfl, rfl, rfl⟩ rfl rfl rfl rfl rfl (by kernel_rfl) Tryd.func9 (by kernel_rfl)
    (of_decide_eq_true (by kernel_rfl)) (by unfold Func.isWrapper; first | (rw [if_pos (by decide +kernel)]; kernel_rfl) | (rw [if_neg (by decide +kernel)]; exact ⟨rfl, rfl⟩))
    (fun os started H enc _ F => by rw [OpenClaim.pre_eq_preRow]; exact lifted os started H enc F)
theorem plain (f : FuncId) (fn : Func) (hf : Tryd.pinned.checked.prog.funcNamed "compositor/compositorlaw07.TransformImages" = some f) (hfn : Tryd.pinned.checked.prog.funcs[f]? = some fn) :
    false = Tryd.pinned.checked.prog.looks [] ∧ ∀ (j : Nat) t, fn.params[j]? = some t → Tryd.pinned.checked.prog.wantsStandIn t = false := by
  obtain rfl : f = 9 := Option.some.inj ((show Tryd.prog.funcNamed "compositor/compositorlaw07.TransformImages" = some 9 by kernel_rfl).symm.trans hf) |>.symm
  obtain rfl : fn = Tryd.f9 := (Option.some.inj (Tryd.func9.symm.trans hfn)).symm
  refine ⟨by kernel_rfl, fun j t ht => ?_⟩
  rw [Tryd.params9] at ht
  have hm := Array.mem_of_getElem? ht
  have hm2 : t = 3 ∨ t = 3 ∨ t = 47 := by simpa using hm
  rcases hm2 with rfl | rfl | rfl
  · exact (show Tryd.prog.wantsStandIn 3 = false by kernel_rfl)
  · exact (show Tryd.prog.wantsStandIn 3 = false by kernel_rfl)
  · exact (show Tryd.prog.wantsStandIn 47 = false by kernel_rfl)
theorem proved : Rows.TransformImagesCardSaid :=
  Claim7.holds_tied_plain_at .later [] _ _ _ _ said (fun _ h => by cases h) (by kernel_rfl) (fun _ h => by cases h) transformImages_row_tie rfl ⟨rfl, rfl⟩ (by kernel_rfl) rfl plain (by kernel_rfl)
#print axioms proved
end Go.Proofs.YtpihfglghcoojaaDoor.transformImages
namespace Go.Proofs.YtpihfglghcoojaaDoor
/-- The card, under a short name, for the claim. -/
theorem transformImages_holds : Rows.TransformImagesCardSaid := transformImages.proved
end Go.Proofs.YtpihfglghcoojaaDoor
