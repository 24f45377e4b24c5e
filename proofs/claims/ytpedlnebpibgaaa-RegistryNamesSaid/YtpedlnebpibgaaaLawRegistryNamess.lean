/-
  The law RegistryNames holds for every input: the call returns true, and every argument reads afterwards as it read before. No condition narrows the inputs beyond what the given row says.
-/
-- The texts behind this claim's law, put together by a program of this session (shake.py): what no text uses is left out. Its words are print.sh's.
import Derived.Test.YtpedlnebpibgaaaRows
import Derived.WalkKit
import Derived.ProofKit
import Derived.OpenShut
import Derived.ShutString
import Derived.ChangeOld
import Derived.Below
import Derived.SizedLaws
import Derived.Test.YtpedlnebpibgaaaSRegistryNames18
section
namespace Go.Proofs.Ytpedlnebpibgaaa.registryNames
open Go.ChangeShapes Go.WideShapes Go.ChangeAt Go.RowKit Go.Proofs.YtpedlnebpibgaaaOpens Go.Proofs.YtpedlnebpibgaaaW.PrintWords Go.Proofs.Ytpedlnebpibgaaa.All
open Go.ChangeMaps (open_string shut_string)
set_option linter.unusedVariables false
theorem own : ownKnob Try.prog.godebug = none := by kernel_rfl
theorem laidOut : laidOutB Try.prog = true := by kernel_rfl
theorem opens3 {H : Type} (enc : TypeId × Value → H) (W : World) : Opens enc Try.prog W 3 (Kd.int .i64) (fun x => (Lit.int .i64 x).wf = true) := opens_int Try.underlying3
theorem opens30 {H : Type} (enc : TypeId × Value → H) (W : World) : Opens enc Try.prog W 30 (Kd.int .u32) (fun x => (Lit.int .u32 x).wf = true) := opens_int Try.underlying30
theorem opens9 {H : Type} (enc : TypeId × Value → H) (W : World) : Opens enc Try.prog W 9 Kd.string (fun x => x.size ≤ 140737488351232) := opens_string Try.underlying9
theorem opens32 {H : Type} (enc : TypeId × Value → H) (W : World) : Opens enc Try.prog W 32 k32 (fun x => ((Lit.int .i64 x.f0).wf = true) ∧ ((Lit.int .u32 x.f1).wf = true) ∧ (x.f2.size ≤ 140737488351232) ∧ ((Lit.int .i64 x.f3).wf = true)) :=
  opens_imp (opens_iso (fun x : S32 => (x.f0, x.f1, x.f2, x.f3)) (fun x => ⟨x.1, x.2.1, x.2.2.1, x.2.2.2⟩) (fun _ => rfl) (opens_struct Try.underlying32 (by kernel_rfl) (opensFs_cons rfl (by kernel_rfl) (opens3 enc W) (opensFs_cons rfl (by kernel_rfl) (opens30 enc W) (opensFs_cons rfl (by kernel_rfl) (opens9 enc W) (opensFs_last rfl (by kernel_rfl) (opens3 enc W))))))) (fun _ h => h)
theorem opens22 {H : Type} (enc : TypeId × Value → H) (W : World) : Opens enc Try.prog W 22 (Kd.slice 32 k32) (fun x => x.length * 40 ≤ 140737488351232 ∧ x.length ≤ 9223372036854775807 ∧ ∀ y22 ∈ x, ((Lit.int .i64 y22.f0).wf = true) ∧ ((Lit.int .u32 y22.f1).wf = true) ∧ (y22.f2.size ≤ 140737488351232) ∧ ((Lit.int .i64 y22.f3).wf = true)) := opens_slice Try.underlying22 (by kernel_rfl) (by kernel_rfl) (opens32 enc W)
set_option maxHeartbeats 1000000 in
set_option maxRecDepth 100000 in
theorem lifted (os : Os) (started : os.Started) (H : Type) (enc : TypeId × Value → H) :
    ReturnsInHanded {} Try.checked os 4 .any (Rows.registryNamesSpec.pre6 enc Try.prog Try.f4 Rows.registryNamesRow.domain false) (Rows.registryNamesSpec.post enc Try.prog Try.f4 false true false false) := by
  refine returnsInHanded_of_change_sized (C := Try.checked) own started (by kernel_rfl) Try.func4
    (ChangeSpec.witness6 (enc := enc) (C := Try.checked) false ⟨#[], #[.slice none 0 0], []⟩ 8 (by kernel_rfl) (by kernel_rfl) (by kernel_rfl) (by kernel_rfl)) ?_
  intro W base args ds gs before hval0 hW hcnd hsz0 _
  have hsz : (DataW.weightsEach Try.prog (Try.f4.params.toList ++ Rows.registryNamesSpec.plain.varTypes Try.prog) (ds ++ gs)).all (· ≤ reachBytes) = true := hsz0
  have hval : ∀ (j : Nat) t v, Try.f4.params[j]? = some t → args[j]? = some v → Value.okWide Try.prog W .any base t v := hval0
  have hW' := hW
  obtain ⟨p, q, hA0, hV, rfl, hfz, hnd⟩ := hW
  have hA : DataW.TrodAll enc Try.prog W 0 (fun _ => true) true Try.f4.params.toList args.toList ds p := hA0
  rw [Try.params4] at hA hval hsz
  obtain ⟨v0, vs0, d0, ds0, p0, q0, hargs, rfl, rfl, h0, r0⟩ := trodAll_cons hA
  obtain ⟨rfl, rfl, rfl⟩ := trodAll_nil r0
  obtain rfl : args = #[v0] := by cases args; simp_all
  obtain ⟨rfl, rfl⟩ := trodVars_none hV
  have k0_ := h0
  have lt0 : ∀ x ∈ p0, x.block < W.heap.size := by obtain ⟨m, hm⟩ := k0_; exact DataW.trod_lt m _ _ _ hm
  obtain ⟨x0, hK0, ok0⟩ := opens_arg (opens22 enc W) hsz (j := 0) rfl rfl h0
  obtain ⟨a0, len0, cap0, rfl⟩ := okWide_slice Try.underlying22 (hval 0 22 v0 rfl rfl)
  obtain ⟨A0, c0, e0, l0, g0⟩ := hK0
  obtain ⟨rfl, rfl, rfl⟩ := slice_of e0
  clear hA0 hval0 hsz0 hsz
  have hp := Pure.RegistryNames x0 ok0
  refine (compositorlaw14_RegistryNames.calls  (A0 := A0) (c0 := c0) (l0 := x0) (w := W) (hr0 := g0) (hc0 := l0) (h := hp)).mono fun e W' ⟨he, bel0⟩ => ?_
  have bel : Below W.heap.size W W' := bel0
  subst he
  exact ⟨_, rfl, _, _, _, [], _, [], hW', trodAll_mk1 (shut_bool Try.underlying4 _), (trodAll_cons_mk (Below.trod laidOut (by kernel_rfl) (of_decide_eq_true (by kernel_rfl)) k0_ bel lt0) trodAll_mk0), rfl, bel.frame _, fun h => by cases h⟩
theorem over : Rows.registryNamesRow.holds Try.pinned (OpenSpec.ofChange Rows.registryNamesSpec) :=
  OpenClaim.holds_of_wide 4 Try.f4 rfl rfl rfl rfl rfl rfl rfl ⟨rfl, rfl, rfl, rfl, rfl⟩ rfl rfl rfl rfl rfl (by kernel_rfl) Try.func4 (by kernel_rfl)
    (of_decide_eq_true (by kernel_rfl)) (by unfold Func.isWrapper; first | (rw [if_pos (by decide +kernel)]; kernel_rfl) | (rw [if_neg (by decide +kernel)]; exact ⟨rfl, rfl⟩))
    (fun os started H enc _ => lifted os started H enc)
theorem proved : Rows.RegistryNamesSaid := over
#print axioms proved
end Go.Proofs.Ytpedlnebpibgaaa.registryNames
namespace Go.Proofs.Ytpedlnebpibgaaa
theorem registryNames_holds : Rows.RegistryNamesSaid := registryNames.proved
end Go.Proofs.Ytpedlnebpibgaaa
end
