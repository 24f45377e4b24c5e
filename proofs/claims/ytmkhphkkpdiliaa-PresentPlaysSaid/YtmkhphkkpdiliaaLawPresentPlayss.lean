/-
  The law PresentPlays holds for every input: the call returns true, and every argument reads afterwards as it read before. No condition narrows the inputs beyond what the given row says.
-/
-- The texts behind this claim's law, put together by a program of this session (shake.py): what no text uses is left out. Its words are print.sh's.
import Derived.Test.YtmkhphkkpdiliaaRows
import Derived.WalkKit
import Derived.ProofKit
import Derived.OpenShut
import Derived.ShutString
import Derived.ChangeOld
import Derived.Below
import Derived.SizedLaws
import Derived.Test.YtmkhphkkpdiliaaSPresentPlays16
section
namespace Go.Proofs.Ytmkhphkkpdiliaa.presentPlays
open Go.ChangeShapes Go.WideShapes Go.ChangeAt Go.RowKit Go.Proofs.YtmkhphkkpdiliaaOpens Go.Proofs.YtmkhphkkpdiliaaW.PrintWords Go.Proofs.Ytmkhphkkpdiliaa.All
open Go.ChangeMaps (open_string shut_string)
set_option linter.unusedVariables false
theorem own : ownKnob Try.prog.godebug = none := by kernel_rfl
theorem laidOut : laidOutB Try.prog = true := by kernel_rfl
theorem opens9 {H : Type} (enc : TypeId × Value → H) (W : World) : Opens enc Try.prog W 9 Kd.string (fun x => x.size ≤ 140737488351232) := opens_string Try.underlying9
theorem opens3 {H : Type} (enc : TypeId × Value → H) (W : World) : Opens enc Try.prog W 3 (Kd.int .i64) (fun x => (Lit.int .i64 x).wf = true) := opens_int Try.underlying3
theorem opens23 {H : Type} (enc : TypeId × Value → H) (W : World) : Opens enc Try.prog W 23 k23 (fun x => (x.f0.size ≤ 140737488351232) ∧ ((Lit.int .i64 x.f1).wf = true) ∧ ((Lit.int .i64 x.f2).wf = true) ∧ ((Lit.int .i64 x.f3).wf = true) ∧ ((Lit.int .i64 x.f4).wf = true) ∧ ((Lit.int .i64 x.f5).wf = true) ∧ ((Lit.int .i64 x.f6).wf = true) ∧ ((Lit.int .i64 x.f7).wf = true)) :=
  opens_imp (opens_iso (fun x : S23 => (x.f0, x.f1, x.f2, x.f3, x.f4, x.f5, x.f6, x.f7)) (fun x => ⟨x.1, x.2.1, x.2.2.1, x.2.2.2.1, x.2.2.2.2.1, x.2.2.2.2.2.1, x.2.2.2.2.2.2.1, x.2.2.2.2.2.2.2⟩) (fun _ => rfl) (opens_struct Try.underlying23 (by kernel_rfl) (opensFs_cons rfl (by kernel_rfl) (opens9 enc W) (opensFs_cons rfl (by kernel_rfl) (opens3 enc W) (opensFs_cons rfl (by kernel_rfl) (opens3 enc W) (opensFs_cons rfl (by kernel_rfl) (opens3 enc W) (opensFs_cons rfl (by kernel_rfl) (opens3 enc W) (opensFs_cons rfl (by kernel_rfl) (opens3 enc W) (opensFs_cons rfl (by kernel_rfl) (opens3 enc W) (opensFs_last rfl (by kernel_rfl) (opens3 enc W))))))))))) (fun _ h => h)
theorem opens36 {H : Type} (enc : TypeId × Value → H) (W : World) : Opens enc Try.prog W 36 (Kd.int .u32) (fun x => (Lit.int .u32 x).wf = true) := opens_int Try.underlying36
theorem opens37 {H : Type} (enc : TypeId × Value → H) (W : World) : Opens enc Try.prog W 37 (Kd.slice 36 (Kd.int .u32)) (fun x => x.length * 4 ≤ 140737488351232 ∧ x.length ≤ 9223372036854775807 ∧ ∀ y37 ∈ x, (Lit.int .u32 y37).wf = true) := opens_slice Try.underlying37 (by kernel_rfl) (by kernel_rfl) (opens36 enc W)
theorem opens55 {H : Type} (enc : TypeId × Value → H) (W : World) : Opens enc Try.prog W 55 k55 (fun x => ((Lit.int .i64 x.f0).wf = true) ∧ ((Lit.int .i64 x.f1).wf = true) ∧ (x.f2.length * 4 ≤ 140737488351232 ∧ x.f2.length ≤ 9223372036854775807 ∧ ∀ y37 ∈ x.f2, (Lit.int .u32 y37).wf = true)) :=
  opens_imp (opens_iso (fun x : S55 => (x.f0, x.f1, x.f2)) (fun x => ⟨x.1, x.2.1, x.2.2⟩) (fun _ => rfl) (opens_struct Try.underlying55 (by kernel_rfl) (opensFs_cons rfl (by kernel_rfl) (opens3 enc W) (opensFs_cons rfl (by kernel_rfl) (opens3 enc W) (opensFs_last rfl (by kernel_rfl) (opens37 enc W)))))) (fun _ h => h)
theorem opens47 {H : Type} (enc : TypeId × Value → H) (W : World) : Opens enc Try.prog W 47 (Kd.slice 55 k55) (fun x => x.length * 40 ≤ 140737488351232 ∧ x.length ≤ 9223372036854775807 ∧ ∀ y47 ∈ x, ((Lit.int .i64 y47.f0).wf = true) ∧ ((Lit.int .i64 y47.f1).wf = true) ∧ (y47.f2.length * 4 ≤ 140737488351232 ∧ y47.f2.length ≤ 9223372036854775807 ∧ ∀ y37 ∈ y47.f2, (Lit.int .u32 y37).wf = true)) := opens_slice Try.underlying47 (by kernel_rfl) (by kernel_rfl) (opens55 enc W)
set_option maxHeartbeats 1000000 in
set_option maxRecDepth 100000 in
theorem lifted (os : Os) (started : os.Started) (H : Type) (enc : TypeId × Value → H) :
    ReturnsInHanded {} Try.checked os 7 .any (Rows.presentPlaysSpec.pre6 enc Try.prog Try.f7 Rows.presentPlaysRow.domain false) (Rows.presentPlaysSpec.post enc Try.prog Try.f7 false true false false) := by
  refine returnsInHanded_of_change_sized (C := Try.checked) own started (by kernel_rfl) Try.func7
    (ChangeSpec.witness6 (enc := enc) (C := Try.checked) false ⟨#[], #[.agg #[.string ByteArray.empty, .int .i64 0, .int .i64 0, .int .i64 0, .int .i64 0, .int .i64 0, .int .i64 0, .int .i64 0], .slice none 0 0], []⟩ 8 (by kernel_rfl) (by kernel_rfl) (by kernel_rfl) (by kernel_rfl)) ?_
  intro W base args ds gs before hval0 hW hcnd hsz0 _
  have hsz : (DataW.weightsEach Try.prog (Try.f7.params.toList ++ Rows.presentPlaysSpec.plain.varTypes Try.prog) (ds ++ gs)).all (· ≤ reachBytes) = true := hsz0
  have hval : ∀ (j : Nat) t v, Try.f7.params[j]? = some t → args[j]? = some v → Value.okWide Try.prog W .any base t v := hval0
  have hW' := hW
  obtain ⟨p, q, hA0, hV, rfl, hfz, hnd⟩ := hW
  have hA : DataW.TrodAll enc Try.prog W 0 (fun _ => true) true Try.f7.params.toList args.toList ds p := hA0
  rw [Try.params7] at hA hval hsz
  obtain ⟨v0, vs0, d0, ds0, p0, q0, hargs, rfl, rfl, h0, r0⟩ := trodAll_cons hA
  obtain ⟨v1, vs1, d1, ds1, p1, q1, rfl, rfl, rfl, h1, r1⟩ := trodAll_cons r0
  obtain ⟨rfl, rfl, rfl⟩ := trodAll_nil r1
  obtain rfl : args = #[v0, v1] := by cases args; simp_all
  obtain ⟨rfl, rfl⟩ := trodVars_none hV
  have k0_ := h0
  have lt0 : ∀ x ∈ p0, x.block < W.heap.size := by obtain ⟨m, hm⟩ := k0_; exact DataW.trod_lt m _ _ _ hm
  obtain ⟨x0, hK0, ok0⟩ := opens_arg (opens23 enc W) hsz (j := 0) rfl rfl h0
  obtain ⟨cs0, rfl, _⟩ := okWide_struct Try.underlying23 (hval 0 23 v0 rfl rfl)
  have e0 := k23_open hK0
  obtain rfl := arr_of e0
  have k1_ := h1
  have lt1 : ∀ x ∈ p1, x.block < W.heap.size := by obtain ⟨m, hm⟩ := k1_; exact DataW.trod_lt m _ _ _ hm
  obtain ⟨x1, hK1, ok1⟩ := opens_arg (opens47 enc W) hsz (j := 1) rfl rfl h1
  obtain ⟨a1, len1, cap1, rfl⟩ := okWide_slice Try.underlying47 (hval 1 47 v1 rfl rfl)
  obtain ⟨A1, c1, e1, l1, g1⟩ := hK1
  obtain ⟨rfl, rfl, rfl⟩ := slice_of e1
  clear hA0 hval0 hsz0 hsz
  obtain ⟨k, hp⟩ := Pure.PresentPlays x0 x1 ok0 ok1
  refine (compositorlaw30_PresentPlays.calls (k := k) (a0_0 := x0.f0) (a0_1 := x0.f1) (a0_2 := x0.f2) (a0_3 := x0.f3) (a0_4 := x0.f4) (a0_5 := x0.f5) (a0_6 := x0.f6) (a0_7 := x0.f7) (A1 := A1) (c1 := c1) (l1 := x1) (w := W) (hr1 := g1) (hc1 := l1) (h := hp)).mono fun e W' ⟨he, bel0⟩ => ?_
  have bel : Below W.heap.size W W' := bel0
  subst he
  exact ⟨_, rfl, _, _, _, [], _, [], hW', trodAll_mk1 (shut_bool Try.underlying4 _), (trodAll_cons_mk (Below.trod laidOut (by kernel_rfl) (of_decide_eq_true (by kernel_rfl)) k0_ bel lt0) (trodAll_cons_mk (Below.trod laidOut (by kernel_rfl) (of_decide_eq_true (by kernel_rfl)) k1_ bel lt1) trodAll_mk0)), rfl, bel.frame _, fun h => by cases h⟩
theorem over : Rows.presentPlaysRow.holds Try.pinned (OpenSpec.ofChange Rows.presentPlaysSpec) :=
  OpenClaim.holds_of_wide 7 Try.f7 rfl rfl rfl rfl rfl rfl rfl ⟨rfl, rfl, rfl, rfl, rfl⟩ rfl rfl rfl rfl rfl (by kernel_rfl) Try.func7 (by kernel_rfl)
    (of_decide_eq_true (by kernel_rfl)) (by unfold Func.isWrapper; first | (rw [if_pos (by decide +kernel)]; kernel_rfl) | (rw [if_neg (by decide +kernel)]; exact ⟨rfl, rfl⟩))
    (fun os started H enc _ => lifted os started H enc)
theorem proved : Rows.PresentPlaysSaid := over
#print axioms proved
end Go.Proofs.Ytmkhphkkpdiliaa.presentPlays
namespace Go.Proofs.Ytmkhphkkpdiliaa
theorem presentPlays_holds : Rows.PresentPlaysSaid := presentPlays.proved
end Go.Proofs.Ytmkhphkkpdiliaa
end
