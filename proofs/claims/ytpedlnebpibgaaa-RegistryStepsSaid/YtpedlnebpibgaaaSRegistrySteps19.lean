-- The texts behind this claim's law, put together by a program of this session (shake.py): what no text uses is left out. Its words are print.sh's.
import Derived.SizedLaws
import Derived.ChangeSlices
import Derived.OpenShut
import Derived.Test.YtpedlnebpibgaaaSRegistrySteps18
section
namespace Go.Proofs.Ytpedlnebpibgaaa.All
open Go.RowKit Go.Proofs.YtpedlnebpibgaaaW.PrintWords Go.Proofs.YtpedlnebpibgaaaW.PrintLast Go.Proofs.YtpedlnebpibgaaaW.PrintMore
attribute [local go_sem] max2_int min2_int max_two min_two max_three min_three max_four min_four
set_option linter.unusedVariables false
set_option linter.unusedSimpArgs false
section
open Go.Proofs.YtpedlnebpibgaaaHand Go.Proofs.YtpedlnebpibgaaaSq
set_option maxHeartbeats 8000000 in
set_option maxRecDepth 100000 in
theorem rfrem_no (k : Nat) (A0 : Option Addr) (c0 : Nat) (l0 : List S49) (a1 : Int) (t1 : Int) (t2 : ByteArray) (t3 : Int) (w : World) (hr0 : Kd.C k49 w A0 l0.length l0) (hc0 : l0.length ≤ c0) (h : compositorref14_announced.f k l0 a1 = some (t1, t2, t3, false)) : Calls Try.prog 15 #[.agg #[.slice A0 l0.length c0], .int .u32 a1] w fun e w' => e = .returned (.tuple #[.agg #[.slice A0 l0.length c0], .int .i64 8]) ∧ Below w.heap.size w w' := by
  have hu28 := Try.underlying28
  have hu49 := Try.underlying49
  have HR := Aside0.mk hr0
  have HC := Aside0.mk hc0
  have H := Aside0.mk h
  clear hr0 hc0 h
  obtain ⟨hL1, hb1⟩ := allocs1 w (Obj.cells #[.slice A0 l0.length c0] 28)
  obtain ⟨hL2, hb2⟩ := allocs1 (w.alloc (Obj.cells #[.slice A0 l0.length c0] 28)) (Obj.cells #[.slice none 0 0] 28)
  have HL1 := Aside0.mk (blk_below hL1 hb2)
  have HL2 := Aside0.mk hL2
  have HB := Aside0.mk (below_step hb1 hb2)
  clear hL1 hb1 hL2 hb2
  go_enter Try.func15, Try.ntmps15
  go_wp2_with fail
  rw [size_alloc1] at HL2
  refine (compositorref14_announced.calls k A0 c0 l0 a1 t1 t2 t3 false _ (Kd.C_below HR.out HB.out) HC.out H.out).mono ?_
  rintro e w2 ⟨rfl, hb⟩
  have HB2 := Aside0.mk (below_step HB.out hb)
  have HL1b := Aside0.mk (blk_below HL1.out hb)
  have HL2b := Aside0.mk (blk_below HL2.out hb)
  clear hb HL1 HL2 HB
  obtain ⟨hL3, hb3⟩ := allocs1 w2 (Obj.cells #[.int .u32 t1, .string t2, .int .i64 t3] 49)
  have HL1c := Aside0.mk (blk_below HL1b.out hb3)
  have HL2c := Aside0.mk (blk_below HL2b.out hb3)
  have HL3c := Aside0.mk hL3
  have HB3 := Aside0.mk (below_step HB2.out hb3)
  have z1 := (blk_cell HL1c.out 0).trans rfl
  have z2 := (blk_cell HL2c.out 0).trans rfl
  clear hL3 hb3
  have f2 := blk_frozen HL2c.out 0
  have HL2e := Aside0.mk (blk_put (cs := #[.slice none 0 0]) HL2c.out 0 (.slice A0 l0.length c0) rfl)
  have HB4 := Aside0.mk (show Below w.heap.size w (World.setCell _ ⟨w.heap.size + 1, 0, none⟩ (.slice A0 l0.length c0)) from below_set HB3.out (Nat.le_succ _))
  go_wp2_with fail
  refine bodyPost_ret (results_ct rfl _ _ (w.heap.size + 1) 28 #[.slice A0 l0.length c0] (0, 0) _ rfl HL2e.out Try.underlying28 rfl (by kernel_rfl)) rfl ?_
  exact ⟨rfl, HB4.out⟩
set_option maxHeartbeats 8000000 in
set_option maxRecDepth 100000 in
theorem rfrem_ok (k : Nat) (A0 : Option Addr) (c0 : Nat) (l0 : List S49) (a1 : Int) (t1 : Int) (t2 : ByteArray) (t3 : Int) (w : World) (hr0 : Kd.C k49 w A0 l0.length l0) (hc0 : l0.length ≤ c0) (r : List S49) (h : compositorref14_announced.f k l0 a1 = some (t1, t2, t3, true)) (h2 : compositorref14_with.f l0 t1 t2 0 = some r) : Calls Try.prog 15 #[.agg #[.slice A0 l0.length c0], .int .u32 a1] w fun e w' => ∃ v0, e = .returned (.tuple #[.agg #[v0], .int .i64 0]) ∧ Kd.R k49 49 w' w.heap.size (fun _ => True) v0 r ∧ Below w.heap.size w w' := by
  have hu28 := Try.underlying28
  have hu49 := Try.underlying49
  have HR := Aside0.mk hr0
  have HC := Aside0.mk hc0
  have H := Aside0.mk h
  have H2 := Aside0.mk h2
  clear hr0 hc0 h h2
  obtain ⟨hL1, hb1⟩ := allocs1 w (Obj.cells #[.slice A0 l0.length c0] 28)
  obtain ⟨hL2, hb2⟩ := allocs1 (w.alloc (Obj.cells #[.slice A0 l0.length c0] 28)) (Obj.cells #[.slice none 0 0] 28)
  have HL1 := Aside0.mk (blk_below hL1 hb2)
  have HL2 := Aside0.mk hL2
  have HB := Aside0.mk (below_step hb1 hb2)
  clear hL1 hb1 hL2 hb2
  go_enter Try.func15, Try.ntmps15
  go_wp2_with fail
  rw [size_alloc1] at HL2
  refine (compositorref14_announced.calls k A0 c0 l0 a1 t1 t2 t3 true _ (Kd.C_below HR.out HB.out) HC.out H.out).mono ?_
  rintro e w2 ⟨rfl, hb⟩
  have HB2 := Aside0.mk (below_step HB.out hb)
  have HL1b := Aside0.mk (blk_below HL1.out hb)
  have HL2b := Aside0.mk (blk_below HL2.out hb)
  clear hb HL1 HL2 HB
  obtain ⟨hL3, hb3⟩ := allocs1 w2 (Obj.cells #[.int .u32 t1, .string t2, .int .i64 t3] 49)
  have HL1c := Aside0.mk (blk_below HL1b.out hb3)
  have HL2c := Aside0.mk (blk_below HL2b.out hb3)
  have HL3c := Aside0.mk hL3
  have HB3 := Aside0.mk (below_step HB2.out hb3)
  have z1 := (blk_cell HL1c.out 0).trans rfl
  have z2 := (blk_cell HL2c.out 0).trans rfl
  clear hL3 hb3
  obtain ⟨hL3, hb3⟩ := allocs1 w2 (Obj.cells #[.int .u32 t1, .string t2, .int .i64 0] 49)
  have HL1e := Aside0.mk (blk_below HL1b.out hb3)
  have HL2e := Aside0.mk (blk_below HL2b.out hb3)
  have HB4 := Aside0.mk (below_step HB2.out hb3)
  have y1 := (blk_cell HL1e.out 0).trans rfl
  have y30 := (blk_cell hL3 0).trans rfl
  have y31 := (blk_cell hL3 1).trans rfl
  have y32 := (blk_cell hL3 2).trans rfl
  clear hL3 hb3
  go_wp2_with fail
  refine (compositorref14_with.calls A0 c0 l0 t1 t2 0 r _ (Kd.C_below HR.out HB4.out) HC.out H2.out).mono ?_
  rintro e w5 ⟨v0, rfl, hR5, hb5⟩
  obtain ⟨A5, c5, e5⟩ := Kd.R_slice hR5
  subst e5
  have HL2f := Aside0.mk (blk_below HL2e.out hb5)
  have HB5 := Aside0.mk (below_step HB4.out hb5)
  have hn5 : Aside0 (∀ k, (Value.slice A5 r.length c5).ownBlock = some k → k ≠ w.heap.size + 1) := ⟨fun k hk e => by
    have h1 := Kd.R_base hR5 k hk
    have h2 := blk_lt HL2e.out
    omega⟩
  have HR5 := Aside0.mk (Kd.R_lower hR5 HB4.out.size)
  clear hR5 hb5 z1 z2 y1 y30 y31 y32
  have x0 := (blk_cell HL2f.out 0).trans rfl
  have f0 := blk_frozen HL2f.out 0
  have HL2g := Aside0.mk (blk_put (cs := #[.slice none 0 0]) HL2f.out 0 (.slice A5 r.length c5) rfl)
  have HB6 := Aside0.mk (show Below w.heap.size w (World.setCell _ ⟨w.heap.size + 1, 0, none⟩ (.slice A5 r.length c5)) from below_set HB5.out (Nat.le_succ _))
  go_wp2_with fail
  refine bodyPost_ret (results_ct rfl _ _ (w.heap.size + 1) 28 #[.slice A5 r.length c5] (0, 0) _ rfl HL2g.out Try.underlying28 rfl (by kernel_rfl)) rfl ?_
  exact ⟨_, rfl, R_same HR5.out (fun k hk => set_same (hn5.out k hk)), HB6.out⟩
theorem drop_rd (E : List S49) (i : Nat) (h : i < E.length) : E.drop i = rd_T49 E (i : Int) :: E.drop (i + 1) := by
  rw [rd49_get E i h]
  exact List.drop_eq_getElem_cons h
theorem wup (i : Nat) (h : i ≤ 1000000) : wrap64 ((i : Int) + 1) = ((i + 1 : Nat) : Int) := by unfold wrap64; omega
def annF (nm : Int) (a : S49 × Bool) (e : S49) : S49 × Bool := if e.f0 = nm then (e, decide (e.f2 > 0)) else a
def annS (nm : Int) (E : List S49) : S49 × Bool := E.foldl (annF nm) (z49, false)
theorem annS_snoc (nm : Int) (E : List S49) (e : S49) : annS nm (E ++ [e]) = if e.f0 = nm then (e, decide (e.f2 > 0)) else annS nm E := by
  unfold annS
  rw [List.foldl_append]
  rfl
theorem ann_loop : ∀ (n k : Nat) (nm : Int) (E : List S49) (i : Nat) (a : S49 × Bool), E.length - i = n → n < k → E.length ≤ 100000 → compositorref14_announced.l0 k nm a.2 (i : Int) E a.1.f0 a.1.f1 a.1.f2 = some (((E.drop i).foldl (annF nm) a).1.f0, ((E.drop i).foldl (annF nm) a).1.f1, ((E.drop i).foldl (annF nm) a).1.f2, ((E.drop i).foldl (annF nm) a).2)
  | n, 0, _, _, _, _, _, h, _ => by omega
  | n, k + 1, nm, E, i, a, h1, h2, h3 => by
    unfold compositorref14_announced.l0
    by_cases hi : i < E.length
    · rw [if_pos (by omega), if_pos (by omega), wup i (by omega), drop_rd E i hi, List.foldl_cons]
      by_cases hn : (rd_T49 E (i : Int)).f0 = nm
      · rw [if_pos hn]
        have e : annF nm a (rd_T49 E (i : Int)) = (rd_T49 E (i : Int), decide ((rd_T49 E (i : Int)).f2 > 0)) := by unfold annF; rw [if_pos hn]
        rw [e]
        exact ann_loop (n - 1) k nm E (i + 1) (rd_T49 E (i : Int), decide ((rd_T49 E (i : Int)).f2 > 0)) (by omega) (by omega) h3
      · rw [if_neg hn]
        have e : annF nm a (rd_T49 E (i : Int)) = a := by unfold annF; rw [if_neg hn]
        rw [e]
        exact ann_loop (n - 1) k nm E (i + 1) a (by omega) (by omega) h3
    · rw [if_neg (by omega), List.drop_eq_nil_of_le (by omega)]
      rfl
theorem ann_f (k : Nat) (nm : Int) (E : List S49) (hk : E.length < k) (hE : E.length ≤ 100000) : compositorref14_announced.f k E nm = some ((annS nm E).1.f0, (annS nm E).1.f1, (annS nm E).1.f2, (annS nm E).2) := by
  have h := ann_loop E.length k nm E 0 (z49, false) (by omega) hk hE
  exact h
theorem added_loop : ∀ (n k : Nat) (c : Nat) (E : List S49) (i : Nat), E.length - i = n → n < k → E.length ≤ 100000 → c ≤ i → compositorref14_added.l0 k (c : Int) (i : Int) E = some ((c + ((E.drop i).filter (fun e => decide (e.f2 > 0))).length : Nat) : Int)
  | n, 0, _, _, _, _, h, _, _ => by omega
  | n, k + 1, c, E, i, h1, h2, h3, h4 => by
    unfold compositorref14_added.l0
    by_cases hi : i < E.length
    · rw [if_pos (by omega), if_pos (by omega), wup i (by omega), drop_rd E i hi]
      by_cases hn : (rd_T49 E (i : Int)).f2 > 0
      · rw [if_pos hn, wup c (by omega), List.filter_cons_of_pos (by simpa using hn), added_loop (n - 1) k (c + 1) E (i + 1) (by omega) (by omega) h3 (by omega), List.length_cons]
        congr 2
        omega
      · rw [if_neg hn, List.filter_cons_of_neg (by simpa using hn), added_loop (n - 1) k c E (i + 1) (by omega) (by omega) h3 (by omega)]
    · rw [if_neg (by omega), List.drop_eq_nil_of_le (by omega)]
      rfl
theorem added_f (k : Nat) (E : List S49) (hk : E.length < k) (hE : E.length ≤ 100000) : compositorref14_added.f k E = some (((E.filter (fun e => decide (e.f2 > 0))).length : Nat) : Int) := by
  have h := added_loop E.length k 0 E 0 (by omega) hk hE (Nat.le_refl _)
  rw [Nat.zero_add] at h
  exact h
theorem with_f (l : List S49) (a : Int) (b : ByteArray) (c : Int) (h : l.length ≤ 100000) : compositorref14_with.f l a b c = some (l ++ [⟨a, b, c⟩]) := by
  unfold compositorref14_with.f
  rw [if_pos (by simp only [List.length_nil]; omega)]
  show (if ([] ++ l).length + [(⟨a, b, c⟩ : S49)].length < 4398046511104 then some ([] ++ l ++ [(⟨a, b, c⟩ : S49)]) else none) = _
  rw [if_pos (by simp only [List.nil_append, List.length_cons, List.length_nil]; omega), List.nil_append]
def pE (E : List S49) (e : S49) : Bool := !decide (e.f2 = 0) && (annS e.f0 E).2
theorem list_loop : ∀ (n k : Nat) (acc E : List S49) (i : Nat), E.length - i = n → n + E.length + 2 < k → E.length ≤ 100000 → acc.length ≤ i → compositorref14_List.l0 k acc (i : Int) E = some (acc ++ (E.drop i).filter (pE E))
  | n, 0, _, _, _, _, h, _, _ => by omega
  | n, k + 1, acc, E, i, h1, h2, h3, h4 => by
    unfold compositorref14_List.l0
    by_cases hi : i < E.length
    · rw [if_pos (by omega), if_pos (by omega), wup i (by omega), drop_rd E i hi]
      by_cases hn : (rd_T49 E (i : Int)).f2 = 0
      · rw [if_pos hn, List.filter_cons_of_neg (by simp [pE, hn]), list_loop (n - 1) k acc E (i + 1) (by omega) (by omega) h3 (by omega)]
      · rw [if_neg hn, ann_f k _ E (by omega) h3, Option.bind_some]
        by_cases hb : (annS (rd_T49 E (i : Int)).f0 E).2 = true
        · rw [if_pos hb, if_pos (by omega), List.filter_cons_of_pos (by simp [pE, hn, hb])]
          have e := list_loop (n - 1) k (acc ++ [rd_T49 E (i : Int)]) E (i + 1) (by omega) (by omega) h3 (by rw [List.length_append]; simp only [List.length_cons, List.length_nil]; omega)
          rw [List.append_assoc] at e
          exact e
        · rw [if_neg hb, List.filter_cons_of_neg (by simp [pE, hb]), list_loop (n - 1) k acc E (i + 1) (by omega) (by omega) h3 (by omega)]
    · rw [if_neg (by omega), List.drop_eq_nil_of_le (by omega)]
      simp
theorem list_f (k : Nat) (E : List S49) (hk : 2 * E.length + 2 < k) (hE : E.length ≤ 100000) : compositorref14_List.f k E = some (E.filter (pE E)) := by
  have h := list_loop E.length k [] E 0 (by omega) (by omega) hE (Nat.le_refl _)
  exact h
def knS (nm : Int) (E : List S49) : Nat → Nat → Option S49
  | 0, _ => none
  | n + 1, m => if (rd_T49 E (n : Int)).f2 > 0 then knS nm E n m else if (rd_T49 E (n : Int)).f0 = nm ∧ m + 1 ≤ 16 then (match (E.take n).find? (fun y => y.f0 == nm) with | some x => some x | none => knS nm E n (m + 1)) else knS nm E n (m + 1)
def knR : Option S49 → Int × ByteArray × Int × Bool
  | none => (0, ⟨#[]⟩, 0, false)
  | some x => (x.f0, x.f1, x.f2, true)
theorem wdn (n : Nat) (h : n ≤ 1000000) : wrap64 (((n : Nat) : Int) - 1) = (n : Int) - 1 := by unfold wrap64; omega
theorem kn1_loop : ∀ (j k n m : Nat) (nm : Int) (E : List S49) (i : Nat), n - i = j → j < k → n < E.length → E.length ≤ 100000 → compositorref14_known.l1 k nm (m : Int) (n : Int) (i : Int) E = match ((E.drop i).take (n - i)).find? (fun y => y.f0 == nm) with | some x => some (knR (some x)) | none => compositorref14_known.l0 (k - (j + 1)) nm (m : Int) ((n : Int) - 1) E
  | j, 0, _, _, _, _, _, _, h, _, _ => by omega
  | j, k + 1, n, m, nm, E, i, h1, h2, h3, h4 => by
    unfold compositorref14_known.l1
    by_cases hi : i < n
    · rw [if_pos (by omega), if_pos (by omega), if_pos (by omega), wup i (by omega), drop_rd E i (by omega), show n - i = (n - (i + 1)) + 1 from by omega, List.take_succ_cons]
      by_cases hn : (rd_T49 E (i : Int)).f0 = nm
      · rw [if_pos hn, List.find?_cons_of_pos (by simpa using hn)]
        rfl
      · rw [if_neg hn, List.find?_cons_of_neg (by simpa using hn), kn1_loop (j - 1) k n m nm E (i + 1) (by omega) (by omega) h3 h4, show k - (j - 1 + 1) = k + 1 - (j + 1) from by omega]
    · rw [if_neg (by omega), show n - i = 0 from by omega, List.take_zero, wdn n (by omega), show k + 1 - (j + 1) = k from by omega]
      rfl
theorem kn_loop : ∀ (n k m : Nat) (nm : Int) (E : List S49), n * (E.length + 4) < k → n ≤ E.length → E.length ≤ 100000 → m + n ≤ 100000 → compositorref14_known.l0 k nm (m : Int) ((n : Int) - 1) E = some (knR (knS nm E n m))
  | n, 0, _, _, _, h, _, _, _ => by omega
  | 0, k + 1, m, nm, E, _, _, _, _ => by
    unfold compositorref14_known.l0
    rw [if_neg (by omega)]
    rfl
  | n + 1, k + 1, m, nm, E, h1, h2, h3, h4 => by
    have h1' : n * (E.length + 4) + (E.length + 4) < k + 1 := by rw [Nat.add_mul, Nat.one_mul] at h1; exact h1
    unfold compositorref14_known.l0 knS
    have e0 : ((n + 1 : Nat) : Int) - 1 = (n : Int) := by omega
    rw [e0, if_pos (by omega), if_pos (by omega), if_pos (by omega), wdn n (by omega), wup m (by omega)]
    by_cases hv : (rd_T49 E (n : Int)).f2 > 0
    · rw [if_pos hv, if_pos hv]
      exact kn_loop n k m nm E (by omega) (by omega) h3 (by omega)
    · rw [if_neg hv, if_neg hv]
      obtain ⟨k, rfl⟩ : ∃ k', k = k' + 1 := ⟨k - 1, by omega⟩
      by_cases hn : (rd_T49 E (n : Int)).f0 = nm
      · rw [if_pos hn]
        unfold compositorref14_known.j1
        by_cases hl : m + 1 ≤ 16
        · rw [if_neg (by simp; omega), if_pos ⟨hn, hl⟩, show (0 : Int) = ((0 : Nat) : Int) from rfl, kn1_loop n k n (m + 1) nm E 0 (by omega) (by omega) (by omega) h3, List.drop_zero, Nat.sub_zero]
          cases hf : (E.take n).find? (fun y => y.f0 == nm) with
          | some x => rfl
          | none => exact kn_loop n _ (m + 1) nm E (by omega) (by omega) h3 (by omega)
        · rw [if_pos (by simp; omega), if_neg (by omega), wdn n (by omega)]
          exact kn_loop n k (m + 1) nm E (by omega) (by omega) h3 (by omega)
      · rw [if_neg hn]
        unfold compositorref14_known.j1
        rw [if_pos rfl, if_neg (fun h => hn h.1), wdn n (by omega)]
        exact kn_loop n k (m + 1) nm E (by omega) (by omega) h3 (by omega)
def vnum (l : List UInt8) : Int := if l = ([115, 104, 101, 108, 108] : List UInt8) then 2 else if l = ([115, 117, 114, 102, 97, 99, 101] : List UInt8) then 3 else 1
theorem find_val : ∀ (n k : Nat) (s : ByteArray) (T : List S72) (i : Nat), T.length - i = n → n < k → T.length ≤ 1000 → (iface_find.l0 k s T (T.length : Int) (i : Int)).map (fun q => q.2.1) = some (match (T.drop i).find? (fun t => decide (t.f0.toList = s.toList)) with | some t => t.f1 | none => 0)
  | n, 0, _, _, _, _, h, _ => by omega
  | n, k + 1, s, T, i, h1, h2, h3 => by
    unfold iface_find.l0
    by_cases hi : i < T.length
    · have e : wrap64 ((i : Int) + 1) = ((i + 1 : Nat) : Int) := by unfold wrap64; omega
      have ed : T.drop i = rd_T72 T (i : Int) :: T.drop (i + 1) := by
        have : rd_T72 T (i : Int) = T[i] := by
          show T.getD (i : Int).toNat z72 = T[i]
          rw [Int.toNat_natCast, List.getD_eq_getElem?_getD, List.getElem?_eq_getElem hi, Option.getD_some]
        rw [this]
        exact List.drop_eq_getElem_cons hi
      rw [if_pos (by omega), if_pos (by omega), if_pos (by omega), e, ed]
      by_cases hn : ((rd_T72 T (i : Int)).f0).toList = s.toList
      · rw [if_pos hn, List.find?_cons_of_pos (by simpa using hn)]
        rfl
      · rw [if_neg hn, List.find?_cons_of_neg (by simpa using hn)]
        exact find_val (n - 1) k s T (i + 1) (by omega) (by omega) h3
    · rw [if_neg (by omega), List.drop_eq_nil_of_le (by omega)]
      rfl
theorem rver_val : ∀ (n k : Nat) (s : ByteArray) (N : List ByteArray) (i : Nat), N.length - i = n → n < k → N.length ≤ 1000 → compositorref12_Version.l0 k s N (i : Int) = some (if (N.drop i).any (fun t => decide (t.toList = s.toList)) = true then vnum s.toList else 0)
  | n, 0, _, _, _, _, h, _ => by omega
  | n, k + 1, s, N, i, h1, h2, h3 => by
    unfold compositorref12_Version.l0
    by_cases hi : i < N.length
    · have e : wrap64 ((i : Int) + 1) = ((i + 1 : Nat) : Int) := by unfold wrap64; omega
      have ed : N.drop i = rdOf ByteArray.empty N (i : Int) :: N.drop (i + 1) := by
        have : rdOf ByteArray.empty N (i : Int) = N[i] := by
          show N.getD (i : Int).toNat ByteArray.empty = N[i]
          rw [Int.toNat_natCast, List.getD_eq_getElem?_getD, List.getElem?_eq_getElem hi, Option.getD_some]
        rw [this]
        exact List.drop_eq_getElem_cons hi
      rw [if_pos (by omega), if_pos (by omega), e, ed, List.any_cons]
      by_cases hn : (rdOf ByteArray.empty N (i : Int)).toList = s.toList
      · rw [if_pos hn, decide_eq_true hn, Bool.true_or, if_pos rfl]
        unfold vnum
        split
        · rfl
        · split <;> rfl
      · rw [if_neg hn, decide_eq_false hn, Bool.false_or]
        exact rver_val (n - 1) k s N (i + 1) (by omega) (by omega) h3
    · rw [if_neg (by omega), List.drop_eq_nil_of_le (by omega)]
      rfl
theorem tabs_eq : (iface_table.f).map (fun t => t.map fun x => (x.f0.toList, x.f1)) = (compositorref12_Names.f).map (fun l => l.map fun x => (x.toList, vnum x.toList)) := by kernel_rfl
theorem names_len : (compositorref12_Names.f).map List.length = some 15 := by kernel_rfl
theorem tab_find (s : List UInt8) : ∀ (T : List S72) (N : List ByteArray), (T.map fun x => (x.f0.toList, x.f1)) = (N.map fun x => (x.toList, vnum x.toList)) → (match T.find? (fun t => decide (t.f0.toList = s)) with | some t => t.f1 | none => 0) = if N.any (fun t => decide (t.toList = s)) = true then vnum s else 0
  | [], [], _ => rfl
  | [], _ :: _, h => by simp at h
  | _ :: _, [], h => by simp at h
  | t :: T, m :: N, h => by
    rw [List.map_cons, List.map_cons, List.cons.injEq, Prod.mk.injEq] at h
    obtain ⟨⟨h1, h2⟩, h3⟩ := h
    by_cases hn : t.f0.toList = s
    · rw [List.find?_cons_of_pos (by simpa using hn), List.any_cons, decide_eq_true (h1 ▸ hn), Bool.true_or, if_pos rfl]
      show t.f1 = vnum s
      rw [h2, ← h1, hn]
    · rw [List.find?_cons_of_neg (by simpa using hn), List.any_cons, decide_eq_false (h1 ▸ hn), Bool.false_or]
      exact tab_find s T N h3
theorem vers_eq (s : ByteArray) : ∃ r, iface_Version.f 60 s = some r ∧ ∀ k, 15 < k → compositorref12_Version.f k s = some r := by
  obtain ⟨T, ht, hl⟩ := Option.map_eq_some_iff.1 tab_some
  obtain ⟨N, hn, hm⟩ := Option.map_eq_some_iff.1 names_len
  have h1 := find_val T.length 60 s T 0 (by omega) (by omega) (by omega)
  have he := tabs_eq
  rw [ht, hn] at he
  have he' : (T.map fun x => (x.f0.toList, x.f1)) = (N.map fun x => (x.toList, vnum x.toList)) := Option.some.inj he
  obtain ⟨q, hq, hv⟩ := Option.map_eq_some_iff.1 h1
  rw [List.drop_zero, tab_find s.toList T N he'] at hv
  refine ⟨q.2.1, ?_, fun k hk => ?_⟩
  · unfold iface_Version.f iface_find.f
    rw [ht]
    show Option.bind (iface_find.l0 60 s T (T.length : Int) ((0 : Nat) : Int)) _ = _
    rw [hq]
    rfl
  · unfold compositorref12_Version.f
    rw [hn]
    show compositorref12_Version.l0 k s N ((0 : Nat) : Int) = _
    rw [rver_val N.length k s N 0 (by omega) (by omega) (by omega), List.drop_zero, hv]
theorem idx_find (p : S49 → Bool) : ∀ (l : List S49) (i : Nat), (l.find? p = none ∧ idxOf p l i = -1) ∨ ∃ (x : S49) (k : Nat), l.find? p = some x ∧ idxOf p l i = ((i + k : Nat) : Int) ∧ k < l.length ∧ rd_T49 l (k : Int) = x
  | [], i => .inl ⟨rfl, rfl⟩
  | a :: t, i => by
    by_cases h : p a = true
    · exact .inr ⟨a, 0, by rw [List.find?_cons_of_pos h], by unfold idxOf; rw [if_pos h]; rfl, by simp, rfl⟩
    · rcases idx_find p t (i + 1) with ⟨h1, h2⟩ | ⟨x, k, h1, h2, h3, h4⟩
      · exact .inl ⟨by rw [List.find?_cons_of_neg h]; exact h1, by unfold idxOf; rw [if_neg h]; exact h2⟩
      · refine .inr ⟨x, k + 1, by rw [List.find?_cons_of_neg h]; exact h1, by unfold idxOf; rw [if_neg h, h2]; congr 1; omega, by simpa using h3, ?_⟩
        rw [rd49_get _ _ (by simpa using h3)]
        rw [rd49_get _ _ h3] at h4
        simpa using h4
def bndR : Option S49 → ByteArray → Int → Int
  | none, _, _ => 8
  | some x, s, v => if x.f1.toList ≠ s.toList then 9 else if v < 1 ∨ v > x.f2 then 11 else 0
theorem bind_find (l : List S49) (nm v : Int) (s : ByteArray) : bindErr (idxOf (fun x : S49 => x.f0 == nm) l 0) (rd_T49 l (idxOf (fun x : S49 => x.f0 == nm) l 0)) s v = bndR (l.find? (fun x : S49 => x.f0 == nm)) s v := by
  rcases idx_find (fun x : S49 => x.f0 == nm) l 0 with ⟨h1, h2⟩ | ⟨x, k, h1, h2, h3, h4⟩
  · rw [h1, h2]
    rfl
  · rw [h1, h2, Nat.zero_add, h4]
    unfold bindErr bndR
    rw [if_neg (by omega)]
theorem rbind_val (k : Nat) (E : List S49) (nm v : Int) (s : ByteArray) (o : Option S49) (hk : compositorref14_known.f k E nm = some (knR o)) : compositorref14_Bind.f k E nm s v = some (bndR o s v) := by
  unfold compositorref14_Bind.f
  rw [hk, Option.bind_some]
  cases o with
  | none => rfl
  | some x =>
    unfold bndR knR
    simp only [if_true]
    by_cases h1 : x.f1.toList = s.toList
    · by_cases h2 : v < 1
      · simp [h1, h2]
      · by_cases h3 : v > x.f2
        · simp [h1, h3]
        · simp [h1, h2, h3]
    · simp [h1]
theorem rd_app (E : List S49) (e : S49) (i : Nat) (h : i < E.length) : rd_T49 (E ++ [e]) (i : Int) = rd_T49 E (i : Int) := by
  rw [rd49_get _ i (by rw [List.length_append]; omega), rd49_get E i h]
  exact List.getElem_append_left h
theorem rd_last (E : List S49) (e : S49) : rd_T49 (E ++ [e]) (E.length : Int) = e := by
  rw [rd49_get _ E.length (by rw [List.length_append]; simp)]
  simp
theorem knS_app (nm : Int) (E : List S49) (e : S49) : ∀ (n m : Nat), n ≤ E.length → knS nm (E ++ [e]) n m = knS nm E n m
  | 0, _, _ => rfl
  | n + 1, m, h => by
    unfold knS
    rw [rd_app E e n (by omega), List.take_append_of_le_length (by omega), knS_app nm E e n m (by omega), knS_app nm E e n (m + 1) (by omega)]
theorem knS_none (nm : Int) (E : List S49) : ∀ (n m : Nat), 16 ≤ m → knS nm E n m = none
  | 0, _, _ => rfl
  | n + 1, m, h => by
    unfold knS
    split
    · exact knS_none nm E n m h
    · rw [if_neg (by omega)]
      exact knS_none nm E n (m + 1) (by omega)
structure StI (last : Int) (qa qr E RA : List S49) : Prop where
  inc : Inc last qa
  l0 : 0 ≤ last
  ver : ∀ x ∈ qa, 1 ≤ x.f2
  bnd : ∀ e ∈ E, e.f0 ≤ last
  cnt : ((E.filter (fun e => decide (e.f2 > 0))).length : Int) = last
  hit : ∀ x ∈ qa, annS x.f0 E = (x, true)
  mis : ∀ nm, (∀ x ∈ qa, x.f0 ≠ nm) → (annS nm E).2 = false
  lst : E.filter (pE E) = qa
  fst : ∀ x ∈ qa, E.find? (fun y => y.f0 == x.f0) = some x
  rem : qr = RA.drop (RA.length - 16)
  ran : ∀ x ∈ RA, x.f0 ≤ last ∧ ∀ y ∈ qa, y.f0 ≠ x.f0
  kn : ∀ (nm : Int) (m : Nat), m ≤ 16 → knS nm E E.length m = (RA.drop (RA.length - (16 - m))).find? (fun y => y.f0 == nm)
theorem StI.init : StI 0 [] [] [] [] :=
  ⟨⟨List.Pairwise.nil, fun x hx => by simp at hx⟩, by decide, fun x hx => by simp at hx, fun x hx => by simp at hx, rfl, fun x hx => by simp at hx, fun _ _ => rfl, rfl, fun x hx => by simp at hx, rfl, fun x hx => by simp at hx, fun nm m _ => by simp [knS]⟩
theorem pE_snoc_same {E : List S49} {e y : S49} (h : e.f0 ≠ y.f0) : pE (E ++ [e]) y = pE E y := by
  unfold pE
  rw [annS_snoc, if_neg h]
theorem StI.add {last : Int} {qa qr E RA : List S49} (h : StI last qa qr E RA) (s : ByteArray) (v : Int) (hv : 1 ≤ v) : StI (last + 1) (qa ++ [⟨last + 1, s, v⟩]) qr (E ++ [⟨last + 1, s, v⟩]) RA := by
  have hq : ∀ x ∈ qa, x.f0 ≤ last := fun x hx => (h.inc.2 x hx).2
  refine ⟨h.inc.add h.l0 s v, by have := h.l0; omega, fun x hx => ?_, fun x hx => ?_, ?_, fun x hx => ?_, fun nm hnm => ?_, ?_, fun x hx => ?_, h.rem, fun x hx => ?_, fun nm m hm => ?_⟩
  · rcases List.mem_append.1 hx with hx | hx
    · exact h.ver x hx
    · rw [List.mem_singleton.1 hx]
      exact hv
  · rcases List.mem_append.1 hx with hx | hx
    · have := h.bnd x hx
      omega
    · rw [List.mem_singleton.1 hx]
      exact Int.le_refl _
  · rw [List.filter_append, List.filter_cons_of_pos (by simp; omega), List.filter_nil, List.length_append, List.length_singleton]
    have := h.cnt
    omega
  · rw [annS_snoc]
    rcases List.mem_append.1 hx with hx | hx
    · rw [if_neg (by have := hq x hx; show last + 1 ≠ x.f0; omega)]
      exact h.hit x hx
    · rw [List.mem_singleton.1 hx, if_pos rfl]
      congr 1
      exact decide_eq_true (by show v > 0; omega)
  · rw [annS_snoc, if_neg (hnm ⟨last + 1, s, v⟩ (by simp))]
    exact h.mis nm (fun x hx => hnm x (by simp [hx]))
  · rw [List.filter_append]
    have e1 : E.filter (pE (E ++ [⟨last + 1, s, v⟩])) = E.filter (pE E) := List.filter_congr (fun y hy => pE_snoc_same (by have := h.bnd y hy; show last + 1 ≠ y.f0; omega))
    have e2 : pE (E ++ [⟨last + 1, s, v⟩]) ⟨last + 1, s, v⟩ = true := by
      unfold pE
      rw [annS_snoc, if_pos rfl]
      simp
      omega
    rw [e1, h.lst, List.filter_cons_of_pos e2, List.filter_nil]
  · rw [List.find?_append]
    rcases List.mem_append.1 hx with hx | hx
    · rw [h.fst x hx]
      rfl
    · rw [List.mem_singleton.1 hx]
      have e1 : E.find? (fun y => y.f0 == (⟨last + 1, s, v⟩ : S49).f0) = none := List.find?_eq_none.2 (fun y hy => by have := h.bnd y hy; simp; omega)
      rw [e1, List.find?_cons_of_pos (by simp)]
      rfl
  · refine ⟨by have := (h.ran x hx).1; omega, fun y hy => ?_⟩
    rcases List.mem_append.1 hy with hy | hy
    · exact (h.ran x hx).2 y hy
    · rw [List.mem_singleton.1 hy]
      have := (h.ran x hx).1
      show last + 1 ≠ x.f0
      omega
  · rw [List.length_append, List.length_singleton]
    unfold knS
    rw [rd_last, if_pos (by show v > 0; omega), knS_app nm E _ E.length m (Nat.le_refl _)]
    exact h.kn nm m hm
theorem StI.remv {last : Int} {qa qr E RA : List S49} (h : StI last qa qr E RA) (x : S49) (hx : x ∈ qa) : StI last (qa.filter fun y => !eqB y x) (keep16 (qr ++ [x])) (E ++ [⟨x.f0, x.f1, 0⟩]) (RA ++ [x]) := by
  have hxl : x.f0 ≤ last := (h.inc.2 x hx).2
  have hf := inc_eq h.inc.1 hx
  have hne : ∀ y ∈ qa.filter (fun y => !eqB y x), y ∈ qa ∧ y.f0 ≠ x.f0 := fun y hy => by
    rw [hf] at hy
    obtain ⟨h1, h2⟩ := List.mem_filter.1 hy
    exact ⟨h1, by simpa using h2⟩
  refine ⟨h.inc.filter _, h.l0, fun y hy => h.ver y (hne y hy).1, fun y hy => ?_, ?_, fun y hy => ?_, fun nm hnm => ?_, ?_, fun y hy => ?_, ?_, fun y hy => ?_, fun nm m hm => ?_⟩
  · rcases List.mem_append.1 hy with hy | hy
    · exact h.bnd y hy
    · rw [List.mem_singleton.1 hy]
      exact hxl
  · rw [List.filter_append, List.filter_cons_of_neg (by simp), List.filter_nil, List.append_nil]
    exact h.cnt
  · obtain ⟨h1, h2⟩ := hne y hy
    rw [annS_snoc, if_neg (fun e => h2 e.symm)]
    exact h.hit y h1
  · rw [annS_snoc]
    by_cases e : x.f0 = nm
    · rw [if_pos e]
      rfl
    · rw [if_neg e]
      refine h.mis nm (fun y hy hyn => ?_)
      refine hnm y ?_ hyn
      rw [hf]
      exact List.mem_filter.2 ⟨hy, by simp; omega⟩
  · rw [List.filter_append, List.filter_cons_of_neg (by simp [pE]), List.filter_nil, List.append_nil, hf, ← h.lst, List.filter_filter]
    apply List.filter_congr
    intro y hy
    by_cases e : y.f0 = x.f0
    · unfold pE
      rw [annS_snoc, if_pos e.symm]
      simp [e]
    · rw [pE_snoc_same (e := ⟨x.f0, x.f1, 0⟩) (fun e2 => e e2.symm)]
      simp [e]
  · obtain ⟨h1, h2⟩ := hne y hy
    rw [List.find?_append, h.fst y h1]
    rfl
  · rw [h.rem]
    unfold keep16
    simp only [List.length_append, List.length_drop, List.length_cons, List.length_nil]
    split
    · rw [List.drop_append_of_le_length (by rw [List.length_drop]; omega), List.drop_drop, List.drop_append_of_le_length (by omega)]
      congr 2
      omega
    · rw [List.drop_append_of_le_length (by omega)]
      congr 2
      omega
  · rcases List.mem_append.1 hy with hy | hy
    · exact ⟨(h.ran y hy).1, fun z hz => (h.ran y hy).2 z (hne z hz).1⟩
    · rw [List.mem_singleton.1 hy]
      exact ⟨hxl, fun z hz => (hne z hz).2⟩
  · rw [List.length_append, List.length_singleton]
    unfold knS
    rw [rd_last, if_neg (show ¬ ((0 : Int) > 0) by decide), List.take_append_of_le_length (Nat.le_refl _), List.take_length, knS_app nm E _ E.length _ (Nat.le_refl _), List.length_append, List.length_singleton]
    by_cases hm16 : m = 16
    · subst hm16
      rw [if_neg (by omega), knS_none nm E _ _ (by omega), List.drop_eq_nil_of_le (by rw [List.length_append, List.length_singleton]; omega)]
      rfl
    · rw [List.drop_append_of_le_length (by omega), List.find?_append]
      by_cases e : x.f0 = nm
      · subst e
        rw [if_pos ⟨rfl, by omega⟩, h.fst x hx]
        have e1 : (RA.drop (RA.length + 1 - (16 - m))).find? (fun y => y.f0 == x.f0) = none := List.find?_eq_none.2 (fun y hy => by
          have := (h.ran y (List.mem_of_mem_drop hy)).2 x hx
          simp
          omega)
        rw [e1, List.find?_cons_of_pos (by simp)]
        rfl
      · rw [if_neg (fun hh => e hh.1), h.kn nm (m + 1) (by omega), List.find?_cons_of_neg (by simpa using e), show RA.length - (16 - (m + 1)) = RA.length + 1 - (16 - m) from by omega]
        simp
theorem StI.known {last : Int} {qa qr E RA : List S49} (h : StI last qa qr E RA) (k : Nat) (nm : Int) (hk : (E.length + 1) * (E.length + 4) < k) (hE : E.length ≤ 90000) : compositorref14_known.f k E nm = some (knR ((qa ++ qr).find? (fun y => y.f0 == nm))) := by
  have hk2 : E.length * (E.length + 4) + (E.length + 4) < k := by rw [Nat.add_mul, Nat.one_mul] at hk; exact hk
  unfold compositorref14_known.f
  rw [ann_f k nm E (by omega) (by omega), Option.bind_some, List.find?_append]
  by_cases he : ∃ x ∈ qa, x.f0 = nm
  · obtain ⟨x, hx, rfl⟩ := he
    rw [h.hit x hx, if_pos rfl]
    cases hf : qa.find? (fun y => y.f0 == x.f0) with
    | none => exact absurd (List.find?_eq_none.1 hf x hx) (by simp)
    | some y =>
      have h1 := List.find?_some hf
      have h2 := List.mem_of_find?_eq_some hf
      have h3 : y ∈ qa.filter (fun z => z.f0 == x.f0) := List.mem_filter.2 ⟨h2, h1⟩
      rw [(inc_one qa h.inc.1 x hx).1, List.mem_singleton] at h3
      rw [h3]
      rfl
  · have hn : ∀ x ∈ qa, x.f0 ≠ nm := fun x hx e => he ⟨x, hx, e⟩
    have e1 : qa.find? (fun y => y.f0 == nm) = none := List.find?_eq_none.2 (fun y hy => by simpa using hn y hy)
    have e2 : wrap64 ((E.length : Int) - 1) = (E.length : Int) - 1 := wdn E.length (by omega)
    rw [h.mis nm hn, if_neg (by decide), e1, e2, show (0 : Int) = ((0 : Nat) : Int) from rfl, kn_loop E.length k 0 nm E (by omega) (Nat.le_refl _) (by omega) (by omega), h.kn nm 0 (by omega), Nat.sub_zero, ← h.rem]
    rfl
theorem radd_val {last : Int} {qa qr E RA : List S49} (h : StI last qa qr E RA) (k : Nat) (s : ByteArray) (v r : Int) (hr : compositorref12_Version.f k s = some r) (hk : 2 * E.length + 10 < k) (hE : E.length ≤ 90000) (hl : last ≤ 1000000) : compositorref14_Add.f k E s v = some (if addErr r v qa.length = 0 then (E ++ [⟨last + 1, s, v⟩], last + 1, 0) else (E, 0, addErr r v qa.length)) := by
  obtain ⟨k, rfl⟩ : ∃ k', k = k' + 1 := ⟨k - 1, by omega⟩
  unfold compositorref14_Add.f
  rw [hr, Option.bind_some]
  unfold addErr
  by_cases h0 : r = 0
  · simp [h0]
  · rw [if_neg h0, if_neg h0]
    have e1 : (wrap64 (last + 1)) % 4294967296 = last + 1 := by have := h.l0; unfold wrap64; omega
    simp only [compositorref14_Add.j0]
    rw [list_f k E (by omega) (by omega), h.lst, Option.bind_some, added_f k E (by omega) (by omega), Option.bind_some, h.cnt, e1, with_f E _ s v (by omega), Option.bind_some]
    by_cases h1 : v < 1
    · simp [h1]
    · rw [if_neg h1]
      by_cases h2 : v > r
      · simp [h2]
      · by_cases h3 : (qa.length : Int) ≥ 64
        · simp [h1, h2, h3]
        · simp [h1, h2, h3]
structure Stp (X : Nat → Prop) (w0 w : World) (g : Nat) (last : Int) (va vr vl : Value) (qa qr ql : List S49) (gw : Nat) (v4 : Value) (E : List S49) : Prop where
  reg : RegZ ⟨fun k => v4.ownBlock = some k ∨ k = gw ∨ X k, w⟩ w0 w g last va vr vl qa qr ql
  r4 : Kd.R k49 49 w w0.heap.size (fun _ => True) v4 E
  cell : w.heap[gw]? = some (.cells #[v4] 28 (0, 0))
  lw : w0.heap.size ≤ gw
  ng : ∀ k, X k → k ≠ gw
section
variable {X : Nat → Prop} {w0 w w1 : World} {g gw : Nat} {last last' : Int} {va vr vl va' vr' vl' v4 v0 : Value} {qa qr ql qa' qr' ql' E E1 : List S49}
theorem Stp.call (h : Stp X w0 w g last va vr vl qa qr ql gw v4 E) (h1 : RegZ ⟨fun k => v4.ownBlock = some k ∨ k = gw ∨ X k, w⟩ w0 w1 g last' va' vr' vl' qa' qr' ql') : Stp X w0 w1 g last' va' vr' vl' qa' qr' ql' gw v4 E ∧ ∀ k, X k → w1.heap[k]? = w.heap[k]? := by
  have hs : ∀ k, (v4.ownBlock = some k ∨ k = gw ∨ X k) → w1.heap[k]? = w.heap[k]? := fun k hk => by
    obtain ⟨⟨o, e1, e2⟩, _⟩ := h1.kp k hk
    exact e1.trans e2.symm
  exact ⟨⟨⟨h1.reg, fun k hk => by
    obtain ⟨⟨o, e1, e2⟩, h3⟩ := h1.kp k hk
    exact ⟨⟨o, e1, e1⟩, h3⟩⟩, R_same h.r4 (fun k hk => hs k (.inl hk)), (hs gw (.inr (.inl rfl))).trans h.cell, h.lw, h.ng⟩, fun k hk => hs k (.inr (.inr hk))⟩
theorem Stp.after (h : Stp X w0 w g last va vr vl qa qr ql gw v4 E) (hb : Below w.heap.size w w1) : Stp X w0 w1 g last va vr vl qa qr ql gw v4 E := (h.call (h.reg.after hb)).1
theorem Stp.noX (h : Stp X w0 w g last va vr vl qa qr ql gw v4 E) : Stp (fun _ => False) w0 w g last va vr vl qa qr ql gw v4 E :=
  ⟨⟨h.reg.reg, fun k hk => h.reg.kp k (by rcases hk with hk | hk | hk; exact .inl hk; exact .inr (.inl hk); exact hk.elim)⟩, h.r4, h.cell, h.lw, fun _ hk => hk.elim⟩
theorem Stp.lay (h : Stp (fun _ => False) w0 w g last va vr vl qa qr ql gw v4 E) (o : Obj) : Stp (fun k => k = w.heap.size) w0 (w.alloc o) g last va vr vl qa qr ql gw v4 E ∧ (w.alloc o).heap[w.heap.size]? = some o := by
  have hb : Below w.heap.size w (w.alloc o) := below_alloc (Below.refl _ _) o
  have hn : (w.alloc o).heap[w.heap.size]? = some o := heap_alloc_new w o
  have h1 := h.after hb
  refine ⟨⟨⟨h1.reg.reg, fun k hk => ?_⟩, h1.r4, h1.cell, h1.lw, fun k hk e => ?_⟩, hn⟩
  · rcases hk with hk | hk | hk
    · exact h1.reg.kp k (.inl hk)
    · exact h1.reg.kp k (.inr (.inl hk))
    · rw [hk]
      exact ⟨⟨o, hn, hn⟩, (h.reg.offNew (Nat.le_refl _) ⟨o, hn⟩).2⟩
  · have := blk_lt h.cell
    omega
theorem Stp.refc (h : Stp X w0 w g last va vr vl qa qr ql gw v4 E) (hR : Kd.R k49 49 w1 w0.heap.size (fun _ => True) v0 E1) (hb : Below w0.heap.size w0 w1) (hk : Kept w w1 (fun k => some k = v4.ownBlock)) (hat : ∀ k, v0.ownBlock = some k → v4.ownBlock = some k ∨ w.heap.size ≤ k) : Stp X w0 (w1.setCell ⟨gw, 0, none⟩ v0) g last va vr vl qa qr ql gw v0 E1 ∧ (∀ k, X k → (w1.setCell ⟨gw, 0, none⟩ v0).heap[k]? = w.heap[k]? ∨ v4.ownBlock = some k) := by
  have hr := h.reg.reg
  have hgw4 : some gw ≠ v4.ownBlock := fun e => by
    obtain ⟨c, hc⟩ := Kd.R_typed h.r4 gw e.symm
    rw [h.cell] at hc
    simp at hc
  have hcell : w1.heap[gw]? = some (.cells #[v4] 28 (0, 0)) := (hk.2 gw (blk_lt h.cell) hgw4).trans h.cell
  have hk4 : ∀ k, v4.ownBlock = some k → k ≠ g ∧ va.ownBlock ≠ some k ∧ vr.ownBlock ≠ some k ∧ vl.ownBlock ≠ some k := fun k hk => (h.reg.kp k (.inl hk)).2
  have hgwo := (h.reg.kp gw (.inr (.inl rfl))).2
  have hs : ∀ k, k < w.heap.size → v4.ownBlock ≠ some k → k ≠ gw → (w1.setCell ⟨gw, 0, none⟩ v0).heap[k]? = w.heap[k]? := fun k h1 h2 h3 => (set_same h3).trans (hk.2 k h1 (fun e => h2 e.symm))
  have hreg : Reg w0 (w1.setCell ⟨gw, 0, none⟩ v0) g last va vr vl qa qr ql :=
    ⟨(hs g (blk_lt hr.blk) (fun e => (hk4 g e).1 rfl) (fun e => hgwo.1 e.symm)).trans hr.blk, hr.low,
     R_same hr.a (fun k hk => hs k (Kd.R_lt hr.a k hk) (fun e => (hk4 k e).2.1 hk) (fun e => hgwo.2.1 (e ▸ hk))),
     hr.r.same (fun k hk => hs k (hr.r.base k hk).2.1 (fun e => (hk4 k e).2.2.1 hk) (fun e => hgwo.2.2.1 (e ▸ hk))),
     R_same hr.l (fun k hk => hs k (Kd.R_lt hr.l k hk) (fun e => (hk4 k e).2.2.2 hk) (fun e => hgwo.2.2.2 (e ▸ hk))), hr.nal, hr.nar, hr.nrl, below_set hb h.lw⟩
  have hn0 : ∀ k, v0.ownBlock = some k → k ≠ gw := fun k hk e => by
    subst e
    rcases hat k hk with h1 | h1
    · exact hgw4 h1.symm
    · have := blk_lt h.cell
      omega
  have hcell2 : (w1.setCell ⟨gw, 0, none⟩ v0).heap[gw]? = some (.cells #[v0] 28 (0, 0)) := blk_put (cs := #[v4]) hcell 0 _ rfl
  have hR2 : Kd.R k49 49 (w1.setCell ⟨gw, 0, none⟩ v0) w0.heap.size (fun _ => True) v0 E1 := R_same hR (fun k hk => set_same (hn0 k hk))
  refine ⟨⟨⟨hreg, fun k hkk => ?_⟩, hR2, hcell2, h.lw, h.ng⟩, fun k hkk => ?_⟩
  · have hsz : w1.heap.size = (w1.setCell ⟨gw, 0, none⟩ v0).heap.size := by simp [World.setCell]
    have hex : ∃ o, (w1.setCell ⟨gw, 0, none⟩ v0).heap[k]? = some o := get_of_lt (by
      rcases hkk with hkk | hkk | hkk
      · exact Kd.R_lt hR2 k hkk
      · rw [hkk]; exact blk_lt hcell2
      · obtain ⟨⟨o, e1, _⟩, _⟩ := h.reg.kp k (.inr (.inr hkk))
        have h1 := lt_of_get e1
        have h2 := hk.1
        omega)
    obtain ⟨o, ho⟩ := hex
    refine ⟨⟨o, ho, ho⟩, ?_⟩
    rcases hkk with hkk | hkk
    · rcases hat k hkk with h1 | h1
      · exact hk4 k h1
      · exact (h.reg.offNew (w1 := w1.setCell ⟨gw, 0, none⟩ v0) h1 ⟨o, ho⟩).2
    · exact (h.reg.kp k (.inr hkk)).2
  · by_cases e : v4.ownBlock = some k
    · exact .inr e
    · obtain ⟨⟨o, e1, _⟩, _⟩ := h.reg.kp k (.inr (.inr hkk))
      exact .inl (hs k (lt_of_get e1) e (h.ng k hkk))
end
theorem Stp.start {w0 w1 w2 : World} {g : Nat} {v4 : Value} (h : Reg w0 w1 g 0 (.slice none 0 0) (.slice none 0 0) (.slice none 0 0) [] [] []) (hR : Kd.R k49 49 w2 w1.heap.size (fun _ => True) v4 []) (hb : Below w1.heap.size w1 w2) : Stp (fun _ => False) w0 (w2.alloc (.cells #[v4] 28)) g 0 (.slice none 0 0) (.slice none 0 0) (.slice none 0 0) [] [] [] w2.heap.size v4 [] := by
  have hb2 : Below w2.heap.size w2 (w2.alloc (.cells #[v4] 28)) := below_alloc (Below.refl _ _) _
  have h2 := h.after hb
  have h3 := h2.after hb2
  have hcell : (w2.alloc (.cells #[v4] 28)).heap[w2.heap.size]? = some (.cells #[v4] 28 (0, 0)) := heap_alloc_new w2 _
  have hz : RegZ ⟨fun _ => False, w2.alloc (.cells #[v4] 28)⟩ w0 (w2.alloc (.cells #[v4] 28)) g 0 (.slice none 0 0) (.slice none 0 0) (.slice none 0 0) [] [] [] := ⟨h3, fun _ hk => hk.elim⟩
  have hz1 : RegZ ⟨fun _ => False, w1⟩ w0 w1 g 0 (.slice none 0 0) (.slice none 0 0) (.slice none 0 0) [] [] [] := ⟨h, fun _ hk => hk.elim⟩
  have hz2 : RegZ ⟨fun _ => False, w2⟩ w0 w2 g 0 (.slice none 0 0) (.slice none 0 0) (.slice none 0 0) [] [] [] := ⟨h2, fun _ hk => hk.elim⟩
  have hR3 := Kd.R_below (Kd.R_lower hR h.below.size) hb2
  refine ⟨⟨h3, fun k hk => ?_⟩, hR3, hcell, Nat.le_trans h.below.size hb.size, fun _ hk => hk.elim⟩
  rcases hk with hk | hk | hk
  · obtain ⟨o, ho⟩ := get_of_lt (Kd.R_lt hR3 k hk)
    exact ⟨⟨o, ho, ho⟩, (hz1.offNew (w1 := w2.alloc (.cells #[v4] 28)) (Kd.R_base hR k hk) ⟨o, ho⟩).2⟩
  · rw [hk]
    exact ⟨⟨_, hcell, hcell⟩, (hz2.offNew (w1 := w2.alloc (.cells #[v4] 28)) (Nat.le_refl _) ⟨_, hcell⟩).2⟩
  · exact hk.elim
theorem Stp.cellk {X : Nat → Prop} {w0 w w1 : World} {g gw : Nat} {last : Int} {va vr vl v4 : Value} {qa qr ql E : List S49} (h : Stp X w0 w g last va vr vl qa qr ql gw v4 E) (hk : Kept w w1 (fun k => some k = v4.ownBlock)) : w1.heap[gw]? = some (.cells #[v4] 28 (0, 0)) := by
  have hgw4 : some gw ≠ v4.ownBlock := fun e => by
    obtain ⟨c, hc⟩ := Kd.R_typed h.r4 gw e.symm
    rw [h.cell] at hc
    simp at hc
  exact (hk.2 gw (blk_lt h.cell) hgw4).trans h.cell
set_option maxHeartbeats 16000000 in
set_option maxRecDepth 100000 in
theorem stepslaw_ok (A0 : Option Addr) (c0 : Nat) (l0 : List S32) (w : World) (hr0 : Kd.C k32 w A0 l0.length l0) (hc0 : l0.length ≤ c0) : Calls Try.prog 3 #[.slice A0 l0.length c0] w fun e w' => e = .returned (.bool true) ∧ Below w.heap.size w w' := by
  have hu32 := Try.underlying32
  have hu28 := Try.underlying28
  have hu49 := Try.underlying49
  have hu26 := Try.underlying26
  have HR0 := Aside0.mk hr0
  have HC0 := Aside0.mk hc0
  clear hr0 hc0
  by_cases hn : l0.length ≤ 150
  rotate_left
  · have hgt : (l0.length : Int) > 150 := by omega
    go_enter Try.func3, Try.ntmps3
    go_wp2_with fail
    refine (example14 _).mono ?_
    rintro e w2 ⟨rfl, hb⟩
    have HB := Aside0.mk hb
    clear hb
    go_wp2_with fail
    go_ret
    exact ⟨rfl, HB.out⟩
  · have hgt : ¬ (l0.length : Int) > 150 := by omega
    have HN := Aside0.mk hn
    clear hn
    go_enter Try.func3, Try.ntmps3
    go_wp2_with fail
    refine (new_ok w).mono ?_
    rintro e w1 ⟨g, rfl, hK1, hb1⟩
    clear hb1 hgt
    go_wp2_with fail
    refine (compositorref14_New.calls [] w1 rfl).mono ?_
    rintro e w2 ⟨v0, rfl, hR2, hb2⟩
    obtain ⟨Aw, cw, ew⟩ := Kd.R_slice hR2
    subst ew
    have HO := Aside0.mk (Stp.start hK1 hR2 hb2)
    clear hK1 hR2 hb2
    rw [List.length_nil] at HO ⊢
    go_wp2_with fail
    generalize w2.alloc (Obj.cells #[.slice Aw 0 cw] 28) = w3 at HO ⊢
    generalize w2.heap.size = gw at HO ⊢
    go_loopw [19] (fun v19 w' => ∃ (k : Nat) (last : Int) (va vr vl v4 : Value) (qa qr ql RA : List S49), k ≤ l0.length ∧ v19 = .int .i64 k ∧ Aside0 (Stp (fun _ => False) w w' g last va vr vl qa qr ql gw v4 ql) ∧ Aside0 (StI last qa qr ql RA ∧ last ≤ k ∧ qa.length ≤ k ∧ qr.length ≤ 16 ∧ ql.length ≤ k)) (fun v _ => l0.length - (intOf v).toNat)
    case atStart => exact ⟨0, 0, _, _, _, _, [], [], [], [], Nat.zero_le _, rfl, HO, ⟨StI.init, by decide, by simp, by simp, by simp⟩⟩
    case round =>
      obtain ⟨k, last, va, vr, vl, v4, qa, qr, ql, RA, hk, rfl, hO, hI⟩ := hrel
      clear HO
      obtain ⟨A4, c4, e4⟩ := Kd.R_slice hO.out.r4
      subst e4
      by_cases hlt : k < l0.length
      · have hlt' : (k : Int) < (l0.length : Int) := by omega
        have h0k : 0 ≤ (k : Int) := by omega
        have KW := Aside0.mk (wm_ hlt (by have := HN.out; omega))
        have HKM := Aside0.mk (meas_ hlt)
        have HL : Aside0 (0 ≤ last ∧ last ≤ 1000000 ∧ qa.length ≤ 150 ∧ qr.length ≤ 16 ∧ ql.length ≤ 150) := ⟨by have := hI.out.1.l0; have := hI.out; have := HN.out; omega⟩
        obtain ⟨ad, ea, x0, x1, x2, x3⟩ := at_T32 (Kd.C_below HR0.out hO.out.reg.below) (k : Int) h0k hlt'
        subst ea
        simp only [Int.toNat_natCast] at x0 x1 x2 x3
        obtain ⟨o, ho⟩ : ∃ o, rd_T32 l0 (k : Int) = o := ⟨_, rfl⟩
        rw [ho] at x0 x1 x2 x3
        obtain ⟨hS, hG⟩ := hO.out.lay (Obj.cells #[.int .i64 o.f0, .int .u32 o.f1, .string o.f2, .int .i64 o.f3] 32)
        have HS := Aside0.mk hS
        have HG := Aside0.mk hG
        have y0 := (blk_cell HG.out 0).trans rfl
        clear hS hG hO
        obtain ⟨r, hr1, hr2⟩ := vers_eq o.f2
        have HV1 := Aside0.mk hr1
        have HV2 := Aside0.mk hr2
        clear hr1 hr2
        by_cases k0 : o.f0 = 0
        · have d0 : (o.f0 == 0) = true := by rw [k0]; rfl
          clear k0
          go_wp2_with fail
          generalize wr.alloc (Obj.cells #[.int .i64 o.f0, .int .u32 o.f1, .string o.f2, .int .i64 o.f3] 32) = w6 at HS HG y0 ⊢
          generalize wr.heap.size = g6 at HS HG y0 ⊢
          have HFR := Aside0.mk HS.out.reg
          by_cases he : addErr r o.f3 qa.length = 0
          · refine (add_okZ _ w w6 g last va vr vl qa qr ql o.f2 o.f3 60 r HS.out.reg HV1.out he HL.out.1 HL.out.2.1 (by have := HL.out; omega)).mono ?_
            rintro e w7 ⟨rfl, va2, vl2, hK7⟩
            obtain ⟨hS7, hX7⟩ := HS.out.call hK7
            have HS7 := Aside0.mk hS7
            have HG7 := Aside0.mk ((hX7 g6 rfl).trans HG.out)
            have z2 := (blk_cell HG7.out 2).trans rfl
            have z3 := (blk_cell HG7.out 3).trans rfl
            have zc := (blk_cell HS7.out.cell 0).trans rfl
            have HA : Aside0 (compositorref14_Add.f 1000 ql o.f2 o.f3 = some (ql ++ [⟨last + 1, o.f2, o.f3⟩], last + 1, 0)) := ⟨by rw [radd_val hI.out.1 1000 o.f2 o.f3 r (HV2.out 1000 (by omega)) (by have := HL.out; omega) (by have := HL.out; omega) HL.out.2.1, if_pos he]⟩
            have hv1 : 1 ≤ o.f3 := by
              unfold addErr at he
              split at he
              · exact absurd he (by decide)
              · split at he
                · exact absurd he (by decide)
                · omega
            have HI9 := Aside0.mk (hI.out.1.add o.f2 o.f3 hv1)
            have HBD : Aside0 (last + 1 ≤ ((k + 1 : Nat) : Int) ∧ (qa ++ [(⟨last + 1, o.f2, o.f3⟩ : S49)]).length ≤ k + 1 ∧ qr.length ≤ 16 ∧ (ql ++ [(⟨last + 1, o.f2, o.f3⟩ : S49)]).length ≤ k + 1) := ⟨by have := hI.out; rw [List.length_append, List.length_append]; simp only [List.length_cons, List.length_nil]; omega⟩
            have HLN : Aside0 ((qa ++ [(⟨last + 1, o.f2, o.f3⟩ : S49)]).length ≤ 151 ∧ (ql ++ [(⟨last + 1, o.f2, o.f3⟩ : S49)]).length ≤ 151) := ⟨by have := HBD.out; have := HN.out; omega⟩
            clear hS7 hX7 hK7 he hv1 y0 HS HG hI
            go_wp2_with fail
            refine (compositorref14_Add.calls 1000 (fun k => some k = (Value.slice A4 ql.length c4).ownBlock) _ ql o.f2 o.f3 _ _ _ w w7 HS7.out.reg.below (Kd.R_tight rfl HS7.out.r4) HA.out).mono ?_
            rintro e w8 ⟨v8, rfl, hR8, hB8, hK8⟩
            obtain ⟨A8, c8, e8⟩ := Kd.R_slice hR8
            subst e8
            have HO9 := Aside0.mk (HS7.out.refc (Kd.R_mono hR8 (fun _ _ => trivial)) hB8 hK8 (fun k hk => (hR8.1 k hk).imp Eq.symm id)).1
            have HC8 := Aside0.mk (HS7.out.cellk hK8)
            have zc8 := (blk_cell HC8.out 0).trans rfl
            have fc8 := blk_frozen HC8.out 0
            clear hR8 hB8 hK8 z2 z3 zc HS7 HG7 HA HV1 HV2
            generalize ql ++ [(⟨last + 1, o.f2, o.f3⟩ : S49)] = QL at HO9 HI9 HBD HLN ⊢
            generalize qa ++ [(⟨last + 1, o.f2, o.f3⟩ : S49)] = QA at HO9 HI9 HBD HLN ⊢
            go_wp2_with fail
            generalize w8.setCell ⟨gw, 0, none⟩ (.slice A8 QL.length c8) = w9 at HO9 ⊢
            clear zc8 fc8 HC8
            have HLS : Aside0 (compositorref14_List.f 1000 QL = some QA) := ⟨by rw [list_f 1000 QL (by have := HLN.out; omega) (by have := HLN.out; omega), HI9.out.lst]⟩
            go_wp2_with fail
            go_region_held3 (fun w' => w'.cell? ⟨gw, 0, none⟩ = some (.slice A8 QL.length c8)) (first | (refine (blk_cell (HOc.out.after ?b).cell 0).trans rfl; case b => (repeat (first | (with_reducible exact Below.refl _ _) | (with_reducible apply below_drew1) | (with_reducible apply below_alloc)))) | (refine (blk_cell (HOb.out.after ?b).cell 0).trans rfl; case b => (repeat (first | (with_reducible exact Below.refl _ _) | (with_reducible apply below_drew1) | (with_reducible apply below_alloc)))) | (refine (blk_cell (HOa.out.after ?b).cell 0).trans rfl; case b => (repeat (first | (with_reducible exact Below.refl _ _) | (with_reducible apply below_drew1) | (with_reducible apply below_alloc)))) | (refine (blk_cell (HO9.out.after ?b).cell 0).trans rfl; case b => (repeat (first | (with_reducible exact Below.refl _ _) | (with_reducible apply below_drew1) | (with_reducible apply below_alloc)))) | fail) (first | (go_at_call 19; refine (list_ok w _ g (last + 1) _ _ _ QA qr QL (HO9.out.after (by repeat (first | (with_reducible exact Below.refl _ _) | (with_reducible apply below_drew1) | (with_reducible apply below_alloc)))).reg.reg (by have := HLN.out; omega)).mono ?_; rintro e wa ⟨va9, rfl, hRa, hba⟩; obtain ⟨Aa, ca, ea⟩ := Kd.R_slice hRa; subst ea; have HOa := Aside0.mk ((HO9.out.after (by repeat (first | (with_reducible exact Below.refl _ _) | (with_reducible apply below_drew1) | (with_reducible apply below_alloc)))).after hba); have HRa := Aside0.mk hRa; clear hRa hba) | (go_at_call 20; refine (compositorref14_List.calls 1000 A8 c8 QL QA _ (Kd.R_reads' (HOa.out.after (by repeat (first | (with_reducible exact Below.refl _ _) | (with_reducible apply below_drew1) | (with_reducible apply below_alloc)))).r4).2.2 (Kd.R_reads' (HOa.out.after (by repeat (first | (with_reducible exact Below.refl _ _) | (with_reducible apply below_drew1) | (with_reducible apply below_alloc)))).r4).2.1 HLS.out).mono ?_; rintro e wb ⟨vb9, rfl, hRb, hbb⟩; obtain ⟨Ab, cb, eb⟩ := Kd.R_slice hRb; subst eb; have HOb := Aside0.mk ((HOa.out.after (by repeat (first | (with_reducible exact Below.refl _ _) | (with_reducible apply below_drew1) | (with_reducible apply below_alloc)))).after hbb); have HRab := Aside0.mk (Kd.R_below (Kd.R_below HRa.out (by repeat (first | (with_reducible exact Below.refl _ _) | (with_reducible apply below_drew1) | (with_reducible apply below_alloc)))) hbb); have HRb := Aside0.mk hRb; clear hRb hbb) | (go_at_call 18; refine (compositorref14_Same.calls 100001 Aa ca QA Ab cb QA true _ (Kd.R_reads' (Kd.R_below HRab.out (by repeat (first | (with_reducible exact Below.refl _ _) | (with_reducible apply below_drew1) | (with_reducible apply below_alloc))))).2.2 (Kd.R_reads' (Kd.R_below HRab.out (by repeat (first | (with_reducible exact Below.refl _ _) | (with_reducible apply below_drew1) | (with_reducible apply below_alloc))))).2.1 (Kd.R_reads' (Kd.R_below HRb.out (by repeat (first | (with_reducible exact Below.refl _ _) | (with_reducible apply below_drew1) | (with_reducible apply below_alloc))))).2.2 (Kd.R_reads' (Kd.R_below HRb.out (by repeat (first | (with_reducible exact Below.refl _ _) | (with_reducible apply below_drew1) | (with_reducible apply below_alloc))))).2.1 (same_self QA (by have := HLN.out; omega))).mono ?_; rintro e wc ⟨rfl, hdc⟩; have HOc := Aside0.mk ((HOb.out.after (by repeat (first | (with_reducible exact Below.refl _ _) | (with_reducible apply below_drew1) | (with_reducible apply below_alloc)))).after (Drawn0.below hdc)); clear hdc))
            all_goals (
              go_wp2_with fail
              rw [KW.out]
              exact ⟨⟨k + 1, _, _, _, _, _, _, _, _, _, hlt, rfl, ⟨(HOc.out.after (by repeat (first | (with_reducible exact Below.refl _ _) | (with_reducible apply below_drew1) | (with_reducible apply below_alloc)))).noX⟩, ⟨HI9.out, HBD.out⟩⟩, HKM.out⟩)
          · refine (add_errZ _ w w6 g last va vr vl qa qr ql o.f2 o.f3 60 r HS.out.reg HV1.out he).mono ?_
            rintro e w7 ⟨rfl, hK7⟩
            obtain ⟨hS7, hX7⟩ := HS.out.call hK7
            have HS7 := Aside0.mk hS7
            have HG7 := Aside0.mk ((hX7 g6 rfl).trans HG.out)
            have z2 := (blk_cell HG7.out 2).trans rfl
            have z3 := (blk_cell HG7.out 3).trans rfl
            have zc := (blk_cell HS7.out.cell 0).trans rfl
            have HA : Aside0 (compositorref14_Add.f 1000 ql o.f2 o.f3 = some (ql, 0, addErr r o.f3 qa.length)) := ⟨by rw [radd_val hI.out.1 1000 o.f2 o.f3 r (HV2.out 1000 (by omega)) (by have := HL.out; omega) (by have := HL.out; omega) HL.out.2.1, if_neg he]⟩
            have HI9 := Aside0.mk hI.out.1
            have HBD : Aside0 (last ≤ ((k + 1 : Nat) : Int) ∧ qa.length ≤ k + 1 ∧ qr.length ≤ 16 ∧ ql.length ≤ k + 1) := ⟨by have := hI.out; omega⟩
            have HLN : Aside0 (qa.length ≤ 151 ∧ ql.length ≤ 151) := ⟨by have := HBD.out; have := HN.out; omega⟩
            clear hS7 hX7 hK7 he y0 HS HG hI
            generalize addErr r o.f3 qa.length = er at HA ⊢
            go_wp2_with fail
            refine (compositorref14_Add.calls 1000 (fun k => some k = (Value.slice A4 ql.length c4).ownBlock) _ ql o.f2 o.f3 _ _ _ w w7 HS7.out.reg.below (Kd.R_tight rfl HS7.out.r4) HA.out).mono ?_
            rintro e w8 ⟨v8, rfl, hR8, hB8, hK8⟩
            obtain ⟨A8, c8, e8⟩ := Kd.R_slice hR8
            subst e8
            have HO9 := Aside0.mk (HS7.out.refc (Kd.R_mono hR8 (fun _ _ => trivial)) hB8 hK8 (fun k hk => (hR8.1 k hk).imp Eq.symm id)).1
            have HC8 := Aside0.mk (HS7.out.cellk hK8)
            have zc8 := (blk_cell HC8.out 0).trans rfl
            have fc8 := blk_frozen HC8.out 0
            clear hR8 hB8 hK8 z2 z3 zc HS7 HG7 HA HV1 HV2
            go_wp2_with fail
            generalize w8.setCell ⟨gw, 0, none⟩ (.slice A8 ql.length c8) = w9 at HO9 ⊢
            clear zc8 fc8 HC8
            have HLS : Aside0 (compositorref14_List.f 1000 ql = some qa) := ⟨by rw [list_f 1000 ql (by have := HLN.out; omega) (by have := HLN.out; omega), HI9.out.lst]⟩
            go_wp2_with fail
            go_region_held3 (fun w' => w'.cell? ⟨gw, 0, none⟩ = some (.slice A8 ql.length c8)) (first | (refine (blk_cell (HOc.out.after ?b).cell 0).trans rfl; case b => (repeat (first | (with_reducible exact Below.refl _ _) | (with_reducible apply below_drew1) | (with_reducible apply below_alloc)))) | (refine (blk_cell (HOb.out.after ?b).cell 0).trans rfl; case b => (repeat (first | (with_reducible exact Below.refl _ _) | (with_reducible apply below_drew1) | (with_reducible apply below_alloc)))) | (refine (blk_cell (HOa.out.after ?b).cell 0).trans rfl; case b => (repeat (first | (with_reducible exact Below.refl _ _) | (with_reducible apply below_drew1) | (with_reducible apply below_alloc)))) | (refine (blk_cell (HO9.out.after ?b).cell 0).trans rfl; case b => (repeat (first | (with_reducible exact Below.refl _ _) | (with_reducible apply below_drew1) | (with_reducible apply below_alloc)))) | fail) (first | (go_at_call 19; refine (list_ok w _ g last _ _ _ qa qr ql (HO9.out.after (by repeat (first | (with_reducible exact Below.refl _ _) | (with_reducible apply below_drew1) | (with_reducible apply below_alloc)))).reg.reg (by have := HLN.out; omega)).mono ?_; rintro e wa ⟨va9, rfl, hRa, hba⟩; obtain ⟨Aa, ca, ea⟩ := Kd.R_slice hRa; subst ea; have HOa := Aside0.mk ((HO9.out.after (by repeat (first | (with_reducible exact Below.refl _ _) | (with_reducible apply below_drew1) | (with_reducible apply below_alloc)))).after hba); have HRa := Aside0.mk hRa; clear hRa hba) | (go_at_call 20; refine (compositorref14_List.calls 1000 A8 c8 ql qa _ (Kd.R_reads' (HOa.out.after (by repeat (first | (with_reducible exact Below.refl _ _) | (with_reducible apply below_drew1) | (with_reducible apply below_alloc)))).r4).2.2 (Kd.R_reads' (HOa.out.after (by repeat (first | (with_reducible exact Below.refl _ _) | (with_reducible apply below_drew1) | (with_reducible apply below_alloc)))).r4).2.1 HLS.out).mono ?_; rintro e wb ⟨vb9, rfl, hRb, hbb⟩; obtain ⟨Ab, cb, eb⟩ := Kd.R_slice hRb; subst eb; have HOb := Aside0.mk ((HOa.out.after (by repeat (first | (with_reducible exact Below.refl _ _) | (with_reducible apply below_drew1) | (with_reducible apply below_alloc)))).after hbb); have HRab := Aside0.mk (Kd.R_below (Kd.R_below HRa.out (by repeat (first | (with_reducible exact Below.refl _ _) | (with_reducible apply below_drew1) | (with_reducible apply below_alloc)))) hbb); have HRb := Aside0.mk hRb; clear hRb hbb) | (go_at_call 18; refine (compositorref14_Same.calls 100001 Aa ca qa Ab cb qa true _ (Kd.R_reads' (Kd.R_below HRab.out (by repeat (first | (with_reducible exact Below.refl _ _) | (with_reducible apply below_drew1) | (with_reducible apply below_alloc))))).2.2 (Kd.R_reads' (Kd.R_below HRab.out (by repeat (first | (with_reducible exact Below.refl _ _) | (with_reducible apply below_drew1) | (with_reducible apply below_alloc))))).2.1 (Kd.R_reads' (Kd.R_below HRb.out (by repeat (first | (with_reducible exact Below.refl _ _) | (with_reducible apply below_drew1) | (with_reducible apply below_alloc))))).2.2 (Kd.R_reads' (Kd.R_below HRb.out (by repeat (first | (with_reducible exact Below.refl _ _) | (with_reducible apply below_drew1) | (with_reducible apply below_alloc))))).2.1 (same_self qa (by have := HLN.out; omega))).mono ?_; rintro e wc ⟨rfl, hdc⟩; have HOc := Aside0.mk ((HOb.out.after (by repeat (first | (with_reducible exact Below.refl _ _) | (with_reducible apply below_drew1) | (with_reducible apply below_alloc)))).after (Drawn0.below hdc)); clear hdc))
            all_goals (
              go_wp2_with fail
              rw [KW.out]
              exact ⟨⟨k + 1, _, _, _, _, _, _, _, _, _, hlt, rfl, ⟨(HOc.out.after (by repeat (first | (with_reducible exact Below.refl _ _) | (with_reducible apply below_drew1) | (with_reducible apply below_alloc)))).noX⟩, ⟨HI9.out, HBD.out⟩⟩, HKM.out⟩)
        · have d0 : (o.f0 == 0) = false := by simpa using k0
          have y1 := (blk_cell HG.out 1).trans rfl
          have y2 := (blk_cell HG.out 2).trans rfl
          have y3 := (blk_cell HG.out 3).trans rfl
          by_cases k1 : o.f0 = 1
          · have d1 : (o.f0 == 1) = true := by rw [k1]; rfl
            clear k0 k1 y2 y3 HV1 HV2
            go_wp2_with fail
            generalize wr.alloc (Obj.cells #[.int .i64 o.f0, .int .u32 o.f1, .string o.f2, .int .i64 o.f3] 32) = w6 at HS HG y0 y1 ⊢
            generalize wr.heap.size = g6 at HS HG y0 y1 ⊢
            by_cases ha : (qa.any fun x => x.f0 == o.f1) = true
            · obtain ⟨j, hk1, hk2, hk3, hk4⟩ := idx_some (fun x : S49 => x.f0 == o.f1) qa 0 ha
              rw [Nat.zero_add] at hk1
              obtain ⟨x, hx⟩ : ∃ x, rd_T49 qa (j : Int) = x := ⟨_, rfl⟩
              have hxm := mem_rd hk2 hx
              have hxn : x.f0 = o.f1 := by rw [hx] at hk3; simpa using hk3
              refine (remove_okZ _ w w6 g last o.f1 va vr vl qa qr ql HS.out.reg (by have := HL.out; omega) x j hk1 hk2 hx HL.out.2.2.2.1).mono ?_
              rintro e w7 ⟨rfl, va2, vr2, vl2, hK7⟩
              obtain ⟨hS7, hX7⟩ := HS.out.call hK7
              have HS7 := Aside0.mk hS7
              have HG7 := Aside0.mk ((hX7 g6 rfl).trans HG.out)
              have z1 := (blk_cell HG7.out 1).trans rfl
              have zc := (blk_cell HS7.out.cell 0).trans rfl
              have HA : Aside0 (compositorref14_announced.f 1000 ql o.f1 = some (x.f0, x.f1, x.f2, true)) := ⟨by rw [ann_f 1000 o.f1 ql (by have := HL.out; omega) (by have := HL.out; omega), ← hxn, hI.out.1.hit x hxm]⟩
              have HA2 : Aside0 (compositorref14_with.f ql x.f0 x.f1 0 = some (ql ++ [⟨x.f0, x.f1, 0⟩])) := ⟨with_f ql _ _ _ (by have := HL.out; omega)⟩
              have HI9 := Aside0.mk (hI.out.1.remv x hxm)
              have hfl := List.length_filter_le (fun y => !eqB y x) qa
              have hk16 := keep16_len qr hI.out.2.2.2.1 x
              have HBD : Aside0 (last ≤ ((k + 1 : Nat) : Int) ∧ (qa.filter fun y => !eqB y x).length ≤ k + 1 ∧ (keep16 (qr ++ [x])).length ≤ 16 ∧ (ql ++ [(⟨x.f0, x.f1, 0⟩ : S49)]).length ≤ k + 1) := ⟨by have := hI.out; rw [List.length_append]; simp only [List.length_cons, List.length_nil]; omega⟩
              have HLN : Aside0 ((qa.filter fun y => !eqB y x).length ≤ 151 ∧ (ql ++ [(⟨x.f0, x.f1, 0⟩ : S49)]).length ≤ 151) := ⟨by have := HBD.out; have := HN.out; omega⟩
              clear hS7 hX7 hK7 ha hk1 hk2 hk3 hk4 hx hxm hxn hfl hk16 y0 y1 HS HG hI
              generalize (qa.filter fun y => !eqB y x) = QA at HS7 HI9 HBD HLN ⊢
              generalize ql ++ [(⟨x.f0, x.f1, 0⟩ : S49)] = QL at HS7 HA2 HI9 HBD HLN ⊢
              generalize keep16 (qr ++ [x]) = QR at HS7 HI9 HBD ⊢
              go_wp2_with fail
              refine (rfrem_ok 1000 A4 c4 ql o.f1 _ _ _ w7 (Kd.R_reads' HS7.out.r4).2.2 (Kd.R_reads' HS7.out.r4).2.1 QL HA.out HA2.out).mono ?_
              rintro e w8 ⟨v8, rfl, hR8, hB8⟩
              obtain ⟨A8, c8, e8⟩ := Kd.R_slice hR8
              subst e8
              have hB8w := below_step HS7.out.reg.below hB8
              have HO9 := Aside0.mk (HS7.out.refc (Kd.R_lower hR8 HS7.out.reg.below.size) hB8w (Kept.of_below hB8 _) (fun k hk => .inr (Kd.R_base hR8 k hk))).1
              have HC8 := Aside0.mk (HS7.out.cellk (Kept.of_below hB8 _))
              have zc8 := (blk_cell HC8.out 0).trans rfl
              have fc8 := blk_frozen HC8.out 0
              clear hR8 hB8 hB8w z1 zc HS7 HG7 HA HA2
              go_wp2_with fail
              generalize w8.setCell ⟨gw, 0, none⟩ (.slice A8 QL.length c8) = w9 at HO9 ⊢
              clear zc8 fc8 HC8
              have HLS : Aside0 (compositorref14_List.f 1000 QL = some QA) := ⟨by rw [list_f 1000 QL (by have := HLN.out; omega) (by have := HLN.out; omega), HI9.out.lst]⟩
              go_wp2_with fail
              go_region_held3 (fun w' => w'.cell? ⟨gw, 0, none⟩ = some (.slice A8 QL.length c8)) (first | (refine (blk_cell (HOc.out.after ?b).cell 0).trans rfl; case b => (repeat (first | (with_reducible exact Below.refl _ _) | (with_reducible apply below_drew1) | (with_reducible apply below_alloc)))) | (refine (blk_cell (HOb.out.after ?b).cell 0).trans rfl; case b => (repeat (first | (with_reducible exact Below.refl _ _) | (with_reducible apply below_drew1) | (with_reducible apply below_alloc)))) | (refine (blk_cell (HOa.out.after ?b).cell 0).trans rfl; case b => (repeat (first | (with_reducible exact Below.refl _ _) | (with_reducible apply below_drew1) | (with_reducible apply below_alloc)))) | (refine (blk_cell (HO9.out.after ?b).cell 0).trans rfl; case b => (repeat (first | (with_reducible exact Below.refl _ _) | (with_reducible apply below_drew1) | (with_reducible apply below_alloc)))) | fail) (first | (go_at_call 19; refine (list_ok w _ g last _ _ _ QA QR QL (HO9.out.after (by repeat (first | (with_reducible exact Below.refl _ _) | (with_reducible apply below_drew1) | (with_reducible apply below_alloc)))).reg.reg (by have := HLN.out; omega)).mono ?_; rintro e wa ⟨va9, rfl, hRa, hba⟩; obtain ⟨Aa, ca, ea⟩ := Kd.R_slice hRa; subst ea; have HOa := Aside0.mk ((HO9.out.after (by repeat (first | (with_reducible exact Below.refl _ _) | (with_reducible apply below_drew1) | (with_reducible apply below_alloc)))).after hba); have HRa := Aside0.mk hRa; clear hRa hba) | (go_at_call 20; refine (compositorref14_List.calls 1000 A8 c8 QL QA _ (Kd.R_reads' (HOa.out.after (by repeat (first | (with_reducible exact Below.refl _ _) | (with_reducible apply below_drew1) | (with_reducible apply below_alloc)))).r4).2.2 (Kd.R_reads' (HOa.out.after (by repeat (first | (with_reducible exact Below.refl _ _) | (with_reducible apply below_drew1) | (with_reducible apply below_alloc)))).r4).2.1 HLS.out).mono ?_; rintro e wb ⟨vb9, rfl, hRb, hbb⟩; obtain ⟨Ab, cb, eb⟩ := Kd.R_slice hRb; subst eb; have HOb := Aside0.mk ((HOa.out.after (by repeat (first | (with_reducible exact Below.refl _ _) | (with_reducible apply below_drew1) | (with_reducible apply below_alloc)))).after hbb); have HRab := Aside0.mk (Kd.R_below (Kd.R_below HRa.out (by repeat (first | (with_reducible exact Below.refl _ _) | (with_reducible apply below_drew1) | (with_reducible apply below_alloc)))) hbb); have HRb := Aside0.mk hRb; clear hRb hbb) | (go_at_call 18; refine (compositorref14_Same.calls 100001 Aa ca QA Ab cb QA true _ (Kd.R_reads' (Kd.R_below HRab.out (by repeat (first | (with_reducible exact Below.refl _ _) | (with_reducible apply below_drew1) | (with_reducible apply below_alloc))))).2.2 (Kd.R_reads' (Kd.R_below HRab.out (by repeat (first | (with_reducible exact Below.refl _ _) | (with_reducible apply below_drew1) | (with_reducible apply below_alloc))))).2.1 (Kd.R_reads' (Kd.R_below HRb.out (by repeat (first | (with_reducible exact Below.refl _ _) | (with_reducible apply below_drew1) | (with_reducible apply below_alloc))))).2.2 (Kd.R_reads' (Kd.R_below HRb.out (by repeat (first | (with_reducible exact Below.refl _ _) | (with_reducible apply below_drew1) | (with_reducible apply below_alloc))))).2.1 (same_self QA (by have := HLN.out; omega))).mono ?_; rintro e wc ⟨rfl, hdc⟩; have HOc := Aside0.mk ((HOb.out.after (by repeat (first | (with_reducible exact Below.refl _ _) | (with_reducible apply below_drew1) | (with_reducible apply below_alloc)))).after (Drawn0.below hdc)); clear hdc))
              all_goals (
                go_wp2_with fail
                rw [KW.out]
                exact ⟨⟨k + 1, _, _, _, _, _, _, _, _, _, hlt, rfl, ⟨(HOc.out.after (by repeat (first | (with_reducible exact Below.refl _ _) | (with_reducible apply below_drew1) | (with_reducible apply below_alloc)))).noX⟩, ⟨HI9.out, HBD.out⟩⟩, HKM.out⟩)
            · have ha' : (qa.any fun x => x.f0 == o.f1) = false := by simpa using ha
              have hmis : ∀ x ∈ qa, x.f0 ≠ o.f1 := fun x hx e => ha (List.any_eq_true.2 ⟨x, hx, by simpa using e⟩)
              refine (remove_errZ _ w w6 g last o.f1 va vr vl qa qr ql HS.out.reg (by have := HL.out; omega) ha').mono ?_
              rintro e w7 ⟨rfl, hK7⟩
              obtain ⟨hS7, hX7⟩ := HS.out.call hK7
              have HS7 := Aside0.mk hS7
              have HG7 := Aside0.mk ((hX7 g6 rfl).trans HG.out)
              have z1 := (blk_cell HG7.out 1).trans rfl
              have zc := (blk_cell HS7.out.cell 0).trans rfl
              have HA : Aside0 (compositorref14_announced.f 1000 ql o.f1 = some ((annS o.f1 ql).1.f0, (annS o.f1 ql).1.f1, (annS o.f1 ql).1.f2, false)) := ⟨by rw [ann_f 1000 o.f1 ql (by have := HL.out; omega) (by have := HL.out; omega), hI.out.1.mis o.f1 hmis]⟩
              have HI9 := Aside0.mk hI.out.1
              have HBD : Aside0 (last ≤ ((k + 1 : Nat) : Int) ∧ qa.length ≤ k + 1 ∧ qr.length ≤ 16 ∧ ql.length ≤ k + 1) := ⟨by have := hI.out; omega⟩
              have HLN : Aside0 (qa.length ≤ 151 ∧ ql.length ≤ 151) := ⟨by have := HBD.out; have := HN.out; omega⟩
              clear hS7 hX7 hK7 ha ha' hmis y0 y1 HS HG hI
              go_wp2_with fail
              refine (rfrem_no 1000 A4 c4 ql o.f1 _ _ _ w7 (Kd.R_reads' HS7.out.r4).2.2 (Kd.R_reads' HS7.out.r4).2.1 HA.out).mono ?_
              rintro e w8 ⟨rfl, hB8⟩
              have hB8w := below_step HS7.out.reg.below hB8
              have HO9 := Aside0.mk (HS7.out.refc (Kd.R_below HS7.out.r4 hB8) hB8w (Kept.of_below hB8 _) (fun k hk => .inl hk)).1
              have HC8 := Aside0.mk (HS7.out.cellk (Kept.of_below hB8 _))
              have zc8 := (blk_cell HC8.out 0).trans rfl
              have fc8 := blk_frozen HC8.out 0
              clear hB8 hB8w z1 zc HS7 HG7 HA
              go_wp2_with fail
              generalize w8.setCell ⟨gw, 0, none⟩ (.slice A4 ql.length c4) = w9 at HO9 ⊢
              clear zc8 fc8 HC8
              have HLS : Aside0 (compositorref14_List.f 1000 ql = some qa) := ⟨by rw [list_f 1000 ql (by have := HLN.out; omega) (by have := HLN.out; omega), HI9.out.lst]⟩
              go_wp2_with fail
              go_region_held3 (fun w' => w'.cell? ⟨gw, 0, none⟩ = some (.slice A4 ql.length c4)) (first | (refine (blk_cell (HOc.out.after ?b).cell 0).trans rfl; case b => (repeat (first | (with_reducible exact Below.refl _ _) | (with_reducible apply below_drew1) | (with_reducible apply below_alloc)))) | (refine (blk_cell (HOb.out.after ?b).cell 0).trans rfl; case b => (repeat (first | (with_reducible exact Below.refl _ _) | (with_reducible apply below_drew1) | (with_reducible apply below_alloc)))) | (refine (blk_cell (HOa.out.after ?b).cell 0).trans rfl; case b => (repeat (first | (with_reducible exact Below.refl _ _) | (with_reducible apply below_drew1) | (with_reducible apply below_alloc)))) | (refine (blk_cell (HO9.out.after ?b).cell 0).trans rfl; case b => (repeat (first | (with_reducible exact Below.refl _ _) | (with_reducible apply below_drew1) | (with_reducible apply below_alloc)))) | fail) (first | (go_at_call 19; refine (list_ok w _ g last _ _ _ qa qr ql (HO9.out.after (by repeat (first | (with_reducible exact Below.refl _ _) | (with_reducible apply below_drew1) | (with_reducible apply below_alloc)))).reg.reg (by have := HLN.out; omega)).mono ?_; rintro e wa ⟨va9, rfl, hRa, hba⟩; obtain ⟨Aa, ca, ea⟩ := Kd.R_slice hRa; subst ea; have HOa := Aside0.mk ((HO9.out.after (by repeat (first | (with_reducible exact Below.refl _ _) | (with_reducible apply below_drew1) | (with_reducible apply below_alloc)))).after hba); have HRa := Aside0.mk hRa; clear hRa hba) | (go_at_call 20; refine (compositorref14_List.calls 1000 A4 c4 ql qa _ (Kd.R_reads' (HOa.out.after (by repeat (first | (with_reducible exact Below.refl _ _) | (with_reducible apply below_drew1) | (with_reducible apply below_alloc)))).r4).2.2 (Kd.R_reads' (HOa.out.after (by repeat (first | (with_reducible exact Below.refl _ _) | (with_reducible apply below_drew1) | (with_reducible apply below_alloc)))).r4).2.1 HLS.out).mono ?_; rintro e wb ⟨vb9, rfl, hRb, hbb⟩; obtain ⟨Ab, cb, eb⟩ := Kd.R_slice hRb; subst eb; have HOb := Aside0.mk ((HOa.out.after (by repeat (first | (with_reducible exact Below.refl _ _) | (with_reducible apply below_drew1) | (with_reducible apply below_alloc)))).after hbb); have HRab := Aside0.mk (Kd.R_below (Kd.R_below HRa.out (by repeat (first | (with_reducible exact Below.refl _ _) | (with_reducible apply below_drew1) | (with_reducible apply below_alloc)))) hbb); have HRb := Aside0.mk hRb; clear hRb hbb) | (go_at_call 18; refine (compositorref14_Same.calls 100001 Aa ca qa Ab cb qa true _ (Kd.R_reads' (Kd.R_below HRab.out (by repeat (first | (with_reducible exact Below.refl _ _) | (with_reducible apply below_drew1) | (with_reducible apply below_alloc))))).2.2 (Kd.R_reads' (Kd.R_below HRab.out (by repeat (first | (with_reducible exact Below.refl _ _) | (with_reducible apply below_drew1) | (with_reducible apply below_alloc))))).2.1 (Kd.R_reads' (Kd.R_below HRb.out (by repeat (first | (with_reducible exact Below.refl _ _) | (with_reducible apply below_drew1) | (with_reducible apply below_alloc))))).2.2 (Kd.R_reads' (Kd.R_below HRb.out (by repeat (first | (with_reducible exact Below.refl _ _) | (with_reducible apply below_drew1) | (with_reducible apply below_alloc))))).2.1 (same_self qa (by have := HLN.out; omega))).mono ?_; rintro e wc ⟨rfl, hdc⟩; have HOc := Aside0.mk ((HOb.out.after (by repeat (first | (with_reducible exact Below.refl _ _) | (with_reducible apply below_drew1) | (with_reducible apply below_alloc)))).after (Drawn0.below hdc)); clear hdc))
              all_goals (
                go_wp2_with fail
                rw [KW.out]
                exact ⟨⟨k + 1, _, _, _, _, _, _, _, _, _, hlt, rfl, ⟨(HOc.out.after (by repeat (first | (with_reducible exact Below.refl _ _) | (with_reducible apply below_drew1) | (with_reducible apply below_alloc)))).noX⟩, ⟨HI9.out, HBD.out⟩⟩, HKM.out⟩)
          · have d1 : (o.f0 == 1) = false := by simpa using k1
            clear k0 k1 HV1 HV2
            go_wp2_with fail
            generalize wr.alloc (Obj.cells #[.int .i64 o.f0, .int .u32 o.f1, .string o.f2, .int .i64 o.f3] 32) = w6 at HS HG y0 y1 y2 y3 ⊢
            generalize wr.heap.size = g6 at HS HG y0 y1 y2 y3 ⊢
            refine (bind_okZ _ w w6 g last o.f1 o.f3 o.f2 va vr vl qa qr ql HS.out.reg (by have := HL.out; omega)).mono ?_
            rw [bind_find]
            rintro e w7 ⟨rfl, hK7⟩
            obtain ⟨hS7, hX7⟩ := HS.out.call hK7
            have HS7 := Aside0.mk hS7
            have HG7 := Aside0.mk ((hX7 g6 rfl).trans HG.out)
            have z1 := (blk_cell HG7.out 1).trans rfl
            have z2 := (blk_cell HG7.out 2).trans rfl
            have z3 := (blk_cell HG7.out 3).trans rfl
            have zc := (blk_cell HS7.out.cell 0).trans rfl
            have hmul : (ql.length + 1) * (ql.length + 4) ≤ 151 * 154 := Nat.mul_le_mul (by have := HL.out; omega) (by have := HL.out; omega)
            have HA := Aside0.mk (rbind_val 100000 ql o.f1 o.f3 o.f2 _ (hI.out.1.known 100000 o.f1 (by omega) (by have := HL.out; omega)))
            have HI9 := Aside0.mk hI.out.1
            have HBD : Aside0 (last ≤ ((k + 1 : Nat) : Int) ∧ qa.length ≤ k + 1 ∧ qr.length ≤ 16 ∧ ql.length ≤ k + 1) := ⟨by have := hI.out; omega⟩
            have HLN : Aside0 (qa.length ≤ 151 ∧ ql.length ≤ 151) := ⟨by have := HBD.out; have := HN.out; omega⟩
            generalize bndR ((qa ++ qr).find? (fun y => y.f0 == o.f1)) o.f2 o.f3 = er at HA ⊢
            clear hS7 hX7 hK7 hmul y0 y1 y2 y3 HS HG hI
            go_wp2_with fail
            refine (compositorref14_Bind.calls 100000 A4 c4 ql o.f1 o.f2 o.f3 er w7 (Kd.R_reads' HS7.out.r4).2.2 (Kd.R_reads' HS7.out.r4).2.1 HA.out).mono ?_
            rintro e w9 ⟨rfl, hB8⟩
            have HO9 := Aside0.mk (HS7.out.after hB8)
            clear hB8 z1 z2 z3 zc HS7 HG7 HA
            go_wp2_with fail
            have HLS : Aside0 (compositorref14_List.f 1000 ql = some qa) := ⟨by rw [list_f 1000 ql (by have := HLN.out; omega) (by have := HLN.out; omega), HI9.out.lst]⟩
            go_wp2_with fail
            go_region_held3 (fun w' => w'.cell? ⟨gw, 0, none⟩ = some (.slice A4 ql.length c4)) (first | (refine (blk_cell (HOc.out.after ?b).cell 0).trans rfl; case b => (repeat (first | (with_reducible exact Below.refl _ _) | (with_reducible apply below_drew1) | (with_reducible apply below_alloc)))) | (refine (blk_cell (HOb.out.after ?b).cell 0).trans rfl; case b => (repeat (first | (with_reducible exact Below.refl _ _) | (with_reducible apply below_drew1) | (with_reducible apply below_alloc)))) | (refine (blk_cell (HOa.out.after ?b).cell 0).trans rfl; case b => (repeat (first | (with_reducible exact Below.refl _ _) | (with_reducible apply below_drew1) | (with_reducible apply below_alloc)))) | (refine (blk_cell (HO9.out.after ?b).cell 0).trans rfl; case b => (repeat (first | (with_reducible exact Below.refl _ _) | (with_reducible apply below_drew1) | (with_reducible apply below_alloc)))) | fail) (first | (go_at_call 19; refine (list_ok w _ g last _ _ _ qa qr ql (HO9.out.after (by repeat (first | (with_reducible exact Below.refl _ _) | (with_reducible apply below_drew1) | (with_reducible apply below_alloc)))).reg.reg (by have := HLN.out; omega)).mono ?_; rintro e wa ⟨va9, rfl, hRa, hba⟩; obtain ⟨Aa, ca, ea⟩ := Kd.R_slice hRa; subst ea; have HOa := Aside0.mk ((HO9.out.after (by repeat (first | (with_reducible exact Below.refl _ _) | (with_reducible apply below_drew1) | (with_reducible apply below_alloc)))).after hba); have HRa := Aside0.mk hRa; clear hRa hba) | (go_at_call 20; refine (compositorref14_List.calls 1000 A4 c4 ql qa _ (Kd.R_reads' (HOa.out.after (by repeat (first | (with_reducible exact Below.refl _ _) | (with_reducible apply below_drew1) | (with_reducible apply below_alloc)))).r4).2.2 (Kd.R_reads' (HOa.out.after (by repeat (first | (with_reducible exact Below.refl _ _) | (with_reducible apply below_drew1) | (with_reducible apply below_alloc)))).r4).2.1 HLS.out).mono ?_; rintro e wb ⟨vb9, rfl, hRb, hbb⟩; obtain ⟨Ab, cb, eb⟩ := Kd.R_slice hRb; subst eb; have HOb := Aside0.mk ((HOa.out.after (by repeat (first | (with_reducible exact Below.refl _ _) | (with_reducible apply below_drew1) | (with_reducible apply below_alloc)))).after hbb); have HRab := Aside0.mk (Kd.R_below (Kd.R_below HRa.out (by repeat (first | (with_reducible exact Below.refl _ _) | (with_reducible apply below_drew1) | (with_reducible apply below_alloc)))) hbb); have HRb := Aside0.mk hRb; clear hRb hbb) | (go_at_call 18; refine (compositorref14_Same.calls 100001 Aa ca qa Ab cb qa true _ (Kd.R_reads' (Kd.R_below HRab.out (by repeat (first | (with_reducible exact Below.refl _ _) | (with_reducible apply below_drew1) | (with_reducible apply below_alloc))))).2.2 (Kd.R_reads' (Kd.R_below HRab.out (by repeat (first | (with_reducible exact Below.refl _ _) | (with_reducible apply below_drew1) | (with_reducible apply below_alloc))))).2.1 (Kd.R_reads' (Kd.R_below HRb.out (by repeat (first | (with_reducible exact Below.refl _ _) | (with_reducible apply below_drew1) | (with_reducible apply below_alloc))))).2.2 (Kd.R_reads' (Kd.R_below HRb.out (by repeat (first | (with_reducible exact Below.refl _ _) | (with_reducible apply below_drew1) | (with_reducible apply below_alloc))))).2.1 (same_self qa (by have := HLN.out; omega))).mono ?_; rintro e wc ⟨rfl, hdc⟩; have HOc := Aside0.mk ((HOb.out.after (by repeat (first | (with_reducible exact Below.refl _ _) | (with_reducible apply below_drew1) | (with_reducible apply below_alloc)))).after (Drawn0.below hdc)); clear hdc))
            all_goals (
              go_wp2_with fail
              rw [KW.out]
              exact ⟨⟨k + 1, _, _, _, _, _, _, _, _, _, hlt, rfl, ⟨(HOc.out.after (by repeat (first | (with_reducible exact Below.refl _ _) | (with_reducible apply below_drew1) | (with_reducible apply below_alloc)))).noX⟩, ⟨HI9.out, HBD.out⟩⟩, HKM.out⟩)
      · obtain rfl : k = l0.length := by omega
        have HLN : Aside0 (qa.length ≤ 151 ∧ ql.length ≤ 151) := ⟨by have := hI.out; have := HN.out; omega⟩
        clear hI
        go_wp2_with fail
        go_region_held3 (fun w' => w'.cell? ⟨gw, 0, none⟩ = some (.slice A4 ql.length c4)) (first | (refine (blk_cell (blk_below HCd.out ?b) 0).trans rfl; case b => (repeat (first | (with_reducible exact Below.refl _ _) | (with_reducible apply below_drew1) | (with_reducible apply below_alloc)))) | (refine (blk_cell (blk_below HCc.out ?b) 0).trans rfl; case b => (repeat (first | (with_reducible exact Below.refl _ _) | (with_reducible apply below_drew1) | (with_reducible apply below_alloc)))) | (refine (blk_cell (blk_below HCb.out ?b) 0).trans rfl; case b => (repeat (first | (with_reducible exact Below.refl _ _) | (with_reducible apply below_drew1) | (with_reducible apply below_alloc)))) | (refine (blk_cell (HOa.out.after ?b).cell 0).trans rfl; case b => (repeat (first | (with_reducible exact Below.refl _ _) | (with_reducible apply below_drew1) | (with_reducible apply below_alloc)))) | (refine (blk_cell (hO.out.after ?b).cell 0).trans rfl; case b => (repeat (first | (with_reducible exact Below.refl _ _) | (with_reducible apply below_drew1) | (with_reducible apply below_alloc)))) | fail) (first | (go_at_call 21; refine (log_ok w _ g last _ _ _ qa qr ql (hO.out.after (by repeat (first | (with_reducible exact Below.refl _ _) | (with_reducible apply below_drew1) | (with_reducible apply below_alloc)))).reg.reg (by have := HLN.out; omega)).mono ?_; rintro e wa ⟨va9, rfl, hRa, hba⟩; obtain ⟨Aa, ca, ea⟩ := Kd.R_slice hRa; subst ea; have HOa := Aside0.mk ((hO.out.after (by repeat (first | (with_reducible exact Below.refl _ _) | (with_reducible apply below_drew1) | (with_reducible apply below_alloc)))).after hba); have HRa := Aside0.mk hRa; have HSa := Aside0.mk (hO.out.after (by repeat (first | (with_reducible exact Below.refl _ _) | (with_reducible apply below_drew1) | (with_reducible apply below_alloc)))); clear hRa hba) | (go_at_call 22; refine (compositorref14_Log.calls (fun k => some k = (Value.slice A4 ql.length c4).ownBlock) _ ql ql w _ (HOa.out.after (by repeat (first | (with_reducible exact Below.refl _ _) | (with_reducible apply below_drew1) | (with_reducible apply below_alloc)))).reg.below (Kd.R_tight rfl (HOa.out.after (by repeat (first | (with_reducible exact Below.refl _ _) | (with_reducible apply below_drew1) | (with_reducible apply below_alloc)))).r4) rfl).mono ?_; rintro e wb ⟨vb9, rfl, hRb, hBb, hKb⟩; obtain ⟨Ab, cb, eb⟩ := Kd.R_slice hRb; subst eb; have HCb := Aside0.mk ((HOa.out.after (by repeat (first | (with_reducible exact Below.refl _ _) | (with_reducible apply below_drew1) | (with_reducible apply below_alloc)))).cellk hKb); have HRab := Aside0.mk (R_same (Kd.R_below HRa.out (by repeat (first | (with_reducible exact Below.refl _ _) | (with_reducible apply below_drew1) | (with_reducible apply below_alloc)))) (fun k hk => hKb.2 k (Kd.R_lt (Kd.R_below HRa.out (by repeat (first | (with_reducible exact Below.refl _ _) | (with_reducible apply below_drew1) | (with_reducible apply below_alloc)))) k hk) (fun e => Nat.lt_irrefl _ (Nat.lt_of_lt_of_le (Kd.R_lt HSa.out.r4 k e.symm) (Kd.R_base HRa.out k hk))))); have HRb := Aside0.mk hRb; have HBb := Aside0.mk hBb; clear hRb hBb hKb) | (go_at_call 18; refine (compositorref14_Same.calls 100001 Aa ca ql Ab cb ql true _ (Kd.R_reads' (Kd.R_below HRab.out (by repeat (first | (with_reducible exact Below.refl _ _) | (with_reducible apply below_drew1) | (with_reducible apply below_alloc))))).2.2 (Kd.R_reads' (Kd.R_below HRab.out (by repeat (first | (with_reducible exact Below.refl _ _) | (with_reducible apply below_drew1) | (with_reducible apply below_alloc))))).2.1 (Kd.R_reads' (Kd.R_below HRb.out (by repeat (first | (with_reducible exact Below.refl _ _) | (with_reducible apply below_drew1) | (with_reducible apply below_alloc))))).2.2 (Kd.R_reads' (Kd.R_below HRb.out (by repeat (first | (with_reducible exact Below.refl _ _) | (with_reducible apply below_drew1) | (with_reducible apply below_alloc))))).2.1 (same_self ql (by have := HLN.out; omega))).mono ?_; rintro e wc ⟨rfl, hdc⟩; have HCc := Aside0.mk (blk_below (blk_below HCb.out (by repeat (first | (with_reducible exact Below.refl _ _) | (with_reducible apply below_drew1) | (with_reducible apply below_alloc)))) (Drawn0.below hdc)); have HBc := Aside0.mk (below_step (below_step HBb.out (by repeat (first | (with_reducible exact Below.refl _ _) | (with_reducible apply below_drew1) | (with_reducible apply below_alloc)))) (Drawn0.below hdc)); clear hdc) | (go_at_call 9; refine (example14 _).mono ?_; rintro e wd ⟨rfl, hbd⟩; have HCd := Aside0.mk (blk_below (blk_below HCc.out (by repeat (first | (with_reducible exact Below.refl _ _) | (with_reducible apply below_drew1) | (with_reducible apply below_alloc)))) hbd); have HBd := Aside0.mk (below_step (below_step HBc.out (by repeat (first | (with_reducible exact Below.refl _ _) | (with_reducible apply below_drew1) | (with_reducible apply below_alloc)))) hbd); clear hbd))
        all_goals (
          go_wp2_with fail
          go_ret
          exact ⟨rfl, below_step HBd.out (by repeat (first | (with_reducible exact Below.refl _ _) | (with_reducible apply below_drew1) | (with_reducible apply below_alloc)))⟩)
def compositorlaw14_RegistrySteps.f (l0 : List (S32)) : Option Bool := some true
theorem compositorlaw14_RegistrySteps.calls (A0 : Option Addr) (c0 : Nat) (l0 : List (S32)) (w : World) (hr0 : Kd.C k32 w A0 l0.length l0) (hc0 : l0.length ≤ c0) (h : compositorlaw14_RegistrySteps.f l0 = some true) :
    Calls Try.prog 3 #[.slice A0 l0.length c0] w fun e w' => e = .returned (.bool true) ∧ Below w.heap.size w w' :=
  stepslaw_ok A0 c0 l0 w hr0 hc0
end
end Go.Proofs.Ytpedlnebpibgaaa.All
end
section
namespace Go.Proofs.Ytpedlnebpibgaaa.Pure
open Go.RowKit Go.Proofs.YtpedlnebpibgaaaW.PrintWords Go.Proofs.YtpedlnebpibgaaaW.PrintMore Go.Proofs.Ytpedlnebpibgaaa.All
set_option linter.unusedVariables false
set_option linter.unusedSimpArgs false
theorem RegistrySteps (x0 : List S32) (ok0 : x0.length * 40 ≤ 140737488351232 ∧ x0.length ≤ 9223372036854775807 ∧ ∀ y22 ∈ x0, ((Lit.int .i64 y22.f0).wf = true) ∧ ((Lit.int .u32 y22.f1).wf = true) ∧ (y22.f2.size ≤ 140737488351232) ∧ ((Lit.int .i64 y22.f3).wf = true)) :
    compositorlaw14_RegistrySteps.f x0 = some true := rfl
end Go.Proofs.Ytpedlnebpibgaaa.Pure
end
section
namespace Go.Proofs.YtpedlnebpibgaaaOpens
open Go.ChangeShapes Go.WideShapes Go.RowKit Go.Proofs.YtpedlnebpibgaaaW.PrintWords
section
variable {H : Type} {enc : TypeId × Value → H} {P : Program} {W : World}
def Opens {α : Type} (enc : TypeId × Value → H) (P : Program) (W : World) (t : TypeId) (d : Kd α) (ok : α → Prop) : Prop :=
  ∀ fuel cs y, DataW.trod enc P W 0 (fun _ => true) true fuel t cs = some y → (∀ n ∈ y.1.weights P t, n ≤ reachBytes) → ∃ x, d.K W x cs ∧ ok x
theorem opens_int {t : TypeId} {k : IntKind} (ht : P.underlying t = some (.int k)) : Opens enc P W t (Kd.int k) (fun x => (Lit.int k x).wf = true) := by
  intro fuel cs y h _
  obtain ⟨n, rfl, _, hw⟩ := DataW.trod_int ht h
  exact ⟨n, rfl, hw⟩
theorem opens_string {t : TypeId} (ht : P.underlying t = some .string) : Opens enc P W t Kd.string (fun s => s.size ≤ 140737488351232) := by
  intro fuel cs y h hz
  obtain ⟨s, rfl, rfl, _⟩ := DataW.trod_string ht h
  refine ⟨s, rfl, ?_⟩
  have := hz s.data.toList.length (by simp [DataW.weights])
  rw [Array.length_toList] at this
  exact this
theorem weightsAll_mem {e : TypeId} : ∀ {l : List (DataW H)} {d : DataW H}, d ∈ l → ∀ n ∈ d.weights P e, n ∈ DataW.weightsAll P e l
  | d0 :: r, d, hd, n, hn => by
    simp only [DataW.weightsAll, List.mem_append]
    rcases List.mem_cons.1 hd with rfl | hd
    · exact .inl hn
    · exact .inr (weightsAll_mem hd n hn)
theorem choose_list {α : Type} (n : Nat) (R : Nat → α → Prop) (h : ∀ i, i < n → ∃ x, R i x) : ∃ l : List α, l.length = n ∧ ∀ i x, l[i]? = some x → R i x := by
  induction n with
  | zero => exact ⟨[], rfl, fun i x hx => by simp at hx⟩
  | succ n ih =>
    obtain ⟨l, hl, hr⟩ := ih (fun i hi => h i (by omega))
    obtain ⟨x, hx⟩ := h n (by omega)
    refine ⟨l ++ [x], by simp [hl], fun i y hy => ?_⟩
    rcases Nat.lt_or_ge i l.length with hi | hi
    · rw [List.getElem?_append_left hi] at hy
      exact hr i y hy
    · rw [List.getElem?_append_right hi] at hy
      obtain ⟨hi2, rfl⟩ : i - l.length = 0 ∧ x = y := by
        rcases Nat.eq_zero_or_pos (i - l.length) with h0 | h0
        · rw [h0] at hy; simp at hy; exact ⟨h0, hy⟩
        · rw [List.getElem?_eq_none (by simp; omega)] at hy; cases hy
      have : i = n := by omega
      subst this
      exact hx
theorem opens_slice {α : Type} {t e : TypeId} {d : Kd α} {ok : α → Prop} {B : Nat} (ht : P.underlying t = some (.slice e)) (hc : P.cellsOf e = d.sz) (hB : P.bytesOf e = B) (he : Opens enc P W e d ok) :
    Opens enc P W t (Kd.slice e d) (fun l => l.length * B ≤ 140737488351232 ∧ l.length ≤ 9223372036854775807 ∧ ∀ x ∈ l, ok x) := by
  intro fuel cs y h hz
  rcases DataW.trod_slice ht h with ⟨rfl, _⟩ | ⟨a, len, cap, elems, rest, n, _, rfl, rfl, _, hl, hm, hlen, hel, _, _⟩
  · exact ⟨[], ⟨none, 0, rfl, by simp, rfl, by simp, fun h0 => absurd h0 (by simp)⟩, by simp, by simp, by simp⟩
  · have hw : ∀ n ∈ (((elems.map (·.1)).length + (rest.map (·.1)).length) * P.bytesOf e) :: (DataW.weightsAll P e (elems.map (·.1)) ++ DataW.weightsAll P e (rest.map (·.1))), n ≤ reachBytes := by
      intro m hm'
      refine hz m ?_
      simp only [DataW.weights, ht]
      exact hm'
    obtain ⟨l, hll, hlr⟩ := choose_list (α := α) len (fun i x => ok x ∧ ∃ c, c.length = d.sz ∧ d.K W x c ∧ ∀ j u, c[j]? = some u → W.cell? (a.add (i * d.sz + j)) = some u) (by
      intro i hi
      have h1 := hel i hi
      rw [List.getElem?_eq_getElem (by omega)] at h1
      obtain ⟨c, hcs, htr⟩ := Option.bind_eq_some_iff.1 h1
      have hmem : (elems[i]'(by omega)).1 ∈ elems.map (·.1) := List.mem_map.2 ⟨_, List.getElem_mem _, rfl⟩
      obtain ⟨x, hK, hok⟩ := he n c _ htr (fun m hm' => hw m (by
        refine List.mem_cons_of_mem _ (List.mem_append_left _ ?_)
        exact weightsAll_mem hmem m hm'))
      refine ⟨x, hok, c, d.K_len hK, hK, fun j u hu => ?_⟩
      rw [hc] at hcs
      unfold World.cells? at hcs
      split at hcs
      · have hj : j < d.sz := by
          have := (List.getElem?_eq_some_iff.1 hu).1
          rw [d.K_len hK] at this
          exact this
        have h2 := mapM_some_get hcs j j (by simp [hj])
        rw [hu] at h2
        rw [← h2]
        congr 1
        have : ∀ (a : Addr) (p q : Nat), (a.add p).add q = a.add (p + q) := by
          intro a p q
          unfold Addr.add
          split
          · split <;> simp_all
          · split <;> simp_all [Nat.add_assoc]
        exact (this a _ _).symm
      · cases hcs)
    refine ⟨l, ⟨some a, cap, by rw [hll], by omega, rfl, by unfold maxLen at hm; omega, fun _ => ⟨a, rfl, fun j p hp => ?_⟩⟩, ?_, by unfold maxLen at hm; omega, fun x hx => ?_⟩
    · obtain ⟨_, c, h1, h2, h3⟩ := hlr j p hp
      exact ⟨c, h1, h2, h3⟩
    · have := hw _ List.mem_cons_self
      rw [hB] at this
      simp only [List.length_map, hlen] at this
      rw [hll]
      unfold reachBytes at this
      exact Nat.le_trans (Nat.mul_le_mul_right _ (Nat.le_add_right _ _)) this
    · obtain ⟨i, hi, rfl⟩ := List.getElem_of_mem hx
      exact (hlr i _ (List.getElem?_eq_getElem hi)).1
def OpensFs {α : Type} (enc : TypeId × Value → H) (P : Program) (W : World) (fs : List Field) (off : Nat) (d : Kd α) (ok : α → Prop) : Prop :=
  ∀ (n : Nat) (cs : List Value) (xs : List (DataW H × List MemPlace)), cs.length = off + d.sz →
    xs.length = fs.length → (∀ (i : Nat) (f : Field), fs[i]? = some f → DataW.trod enc P W 0 (fun _ => true) true n f.type ((cs.drop f.offset).take (P.cellsOf f.type)) = xs[i]?) →
    (∀ m ∈ DataW.weightsEach P (fs.map (·.type)) (xs.map (·.1)), m ≤ reachBytes) → ∃ x, d.K W x (cs.drop off) ∧ ok x
theorem opensFs_last {α : Type} {f : Field} {off : Nat} {d : Kd α} {ok : α → Prop} (ho : f.offset = off) (hc : P.cellsOf f.type = d.sz) (h : Opens enc P W f.type d ok) : OpensFs enc P W [f] off d ok := by
  intro n cs xs hcs hx ht hz
  match xs, hx with
  | [x0], _ =>
    have h0 := ht 0 f rfl
    rw [ho, hc, List.take_of_length_le (by rw [List.length_drop]; omega)] at h0
    exact h n _ x0 (by simpa using h0) (fun m hm => hz m (by simp [DataW.weightsEach, hm]))
theorem opensFs_cons {α β : Type} {f : Field} {fs : List Field} {off : Nat} {d : Kd α} {d' : Kd β} {ok : α → Prop} {ok' : β → Prop} (ho : f.offset = off) (hc : P.cellsOf f.type = d.sz) (h : Opens enc P W f.type d ok)
    (hr : OpensFs enc P W fs (off + d.sz) d' ok') : OpensFs enc P W (f :: fs) off (Kd.pair d d') (fun x => ok x.1 ∧ ok' x.2) := by
  intro n cs xs hcs hx ht hz
  have hcs' : cs.length = off + (d.sz + d'.sz) := hcs
  match xs, hx with
  | x0 :: xs, hx =>
    have h0 := ht 0 f rfl
    rw [ho, hc] at h0
    obtain ⟨x, hK, hok⟩ := h n _ x0 (by simpa using h0) (fun m hm => hz m (by simp [DataW.weightsEach, hm]))
    obtain ⟨x', hK', hok'⟩ := hr n cs xs (by omega) (by simpa using hx) (fun i g hg => by simpa using ht (i + 1) g (by simpa using hg)) (fun m hm => hz m (by simp only [List.map_cons, DataW.weightsEach, List.mem_append]; exact .inr hm))
    refine ⟨(x, x'), ⟨_, _, ?_, hK, hK'⟩, hok, hok'⟩
    rw [← List.drop_drop, List.take_append_drop]
theorem opens_struct {α : Type} {t : TypeId} {fs : Array Field} {d : Kd α} {ok : α → Prop} (ht : P.underlying t = some (.struct fs)) (hc : P.cellsOf t = d.sz) (h : OpensFs enc P W fs.toList 0 d ok) : Opens enc P W t d ok := by
  intro fuel cs y hy hz
  obtain ⟨xs, n, _, rfl, hl, hlen, hf⟩ := DataW.trod_struct ht hy
  obtain ⟨x, hK, hok⟩ := h n cs xs (by omega) (by simpa using hlen) (fun i f hi => hf i f (by simpa using hi)) (fun m hm => hz m (by simp only [DataW.weights, ht]; exact hm))
  exact ⟨x, by simpa using hK, hok⟩
theorem opens_iso {α β : Type} {t : TypeId} {d : Kd α} {ok : α → Prop} (f : β → α) (g : α → β) (hfg : ∀ x, f (g x) = x) (h : Opens enc P W t d ok) : Opens enc P W t (Kd.iso d f) (fun y => ok (f y)) := by
  intro fuel cs y hy hz
  obtain ⟨x, hK, hok⟩ := h fuel cs y hy hz
  exact ⟨g x, by show d.K W (f (g x)) cs; rw [hfg]; exact hK, by show ok (f (g x)); rw [hfg]; exact hok⟩
theorem opens_imp {α : Type} {t : TypeId} {d : Kd α} {ok ok' : α → Prop} (h : Opens enc P W t d ok) (hi : ∀ x, ok x → ok' x) : Opens enc P W t d ok' := by
  intro fuel cs y hy hz
  obtain ⟨x, hK, hok⟩ := h fuel cs y hy hz
  exact ⟨x, hK, hi x hok⟩
theorem opens_arg {α : Type} {ts : List TypeId} {ds : List (DataW H)} {j : Nat} {t : TypeId} {v : Value} {dt : DataW H} {ps : List MemPlace} {d : Kd α} {ok : α → Prop} (h : Opens enc P W t d ok)
    (hsz : (DataW.weightsEach P ts ds).all (· ≤ reachBytes) = true) (ht : ts[j]? = some t) (hd : ds[j]? = some dt) (hr : DataW.Trod enc P W 0 (fun _ => true) true t v dt ps) : ∃ x, d.K W x v.cells.toList ∧ ok x := by
  obtain ⟨fuel, hf⟩ := hr
  exact h fuel _ _ hf (fun n hn => by simpa using List.all_eq_true.1 hsz n (DataW.weights_mem_each ht hd n hn))
end
theorem slice_of {a A : Option Addr} {len cap n c : Nat} (h : (Value.slice a len cap).cells.toList = [.slice A n c]) : A = a ∧ len = n ∧ c = cap := by
  simp [Value.cells] at h
  exact ⟨h.1.symm, h.2.1, h.2.2.symm⟩
end Go.Proofs.YtpedlnebpibgaaaOpens
end
