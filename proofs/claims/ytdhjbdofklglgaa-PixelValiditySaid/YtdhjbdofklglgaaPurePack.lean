/-
  Plain laws (numbers and lists) for the statement Pack: no program in sight.
-/
import Derived.Test.YtdhjbdofklglgaaAllx4
import Derived.Test.YtdhjbdofklglgaaAllx6
import Derived.Test.YtdhjbdofklglgaaPureBase
namespace Go.Proofs.Ytdhjbdofklglgaa.Pure
open Go.RowKit Go.Proofs.YtdhjbdofklglgaaW.PrintWords Go.Proofs.YtdhjbdofklglgaaW.PrintMore Go.Proofs.Ytdhjbdofklglgaa.All
set_option linter.unusedVariables false
theorem u32 {x : Int} (h : (Lit.int .u32 x).wf = true) : 0 ≤ x ∧ x ≤ 4294967295 := by
  simpa [Lit.wf, IntKind.min, IntKind.max, IntKind.signed, IntKind.bits] using h
theorem wraps_u32 (n : Int) (h0 : 0 ≤ n) (h1 : n < 2 ^ 32) : IntKind.u32.wrap n = n := by rw [IntKind.wrap_u32]; omega
theorem or24 {x y : Int} (h0 : 0 ≤ x) (hx : x % 16777216 = 0) (h1 : x < 4294967296) (h2 : 0 ≤ y) (h3 : y < 16777216) : Go.bits .or .u32 x y = x + y :=
  bits_join .u32 32 (by decide) wraps_u32 24 x y h0 (by omega) (by omega) h2 (by omega) (by omega)
theorem or16 {x y : Int} (h0 : 0 ≤ x) (hx : x % 65536 = 0) (h1 : x < 4294967296) (h2 : 0 ≤ y) (h3 : y < 65536) : Go.bits .or .u32 x y = x + y :=
  bits_join .u32 32 (by decide) wraps_u32 16 x y h0 (by omega) (by omega) h2 (by omega) (by omega)
theorem or8 {x y : Int} (h0 : 0 ≤ x) (hx : x % 256 = 0) (h1 : x < 4294967296) (h2 : 0 ≤ y) (h3 : y < 256) : Go.bits .or .u32 x y = x + y :=
  bits_join .u32 32 (by decide) wraps_u32 8 x y h0 (by omega) (by omega) h2 (by omega) (by omega)

def pk (a b c d : Int) : Int := d * 16777216 + mn a d * 65536 + mn b d * 256 + mn c d
theorem pack_eq {a b c d : Int} (a0 : 0 ≤ a) (a1 : a ≤ 255) (b0 : 0 ≤ b) (b1 : b ≤ 255) (c0 : 0 ≤ c) (c1 : c ≤ 255) (d0 : 0 ≤ d) (d1 : d ≤ 255) : pixel_Pack.f a b c d = some (pk a b c d) := by
  have ha := mn_range a0 a1 d0 d1
  have hb := mn_range b0 b1 d0 d1
  have hc := mn_range c0 c1 d0 d1
  simp only [pixel_Pack.f, clamp_eq, Option.bind_some, pk]
  generalize mn a d = x at *
  generalize mn b d = y at *
  generalize mn c d = z at *
  rw [show ((d % 4294967296) * 16777216) % 4294967296 = d * 16777216 from by omega, show ((x % 4294967296) * 65536) % 4294967296 = x * 65536 from by omega, show ((y % 4294967296) * 256) % 4294967296 = y * 256 from by omega, show z % 4294967296 = z from by omega]
  rw [or24 (x := d * 16777216) (y := x * 65536) (by omega) (by omega) (by omega) (by omega) (by omega), or16 (x := d * 16777216 + x * 65536) (y := y * 256) (by omega) (by omega) (by omega) (by omega) (by omega), or8 (x := d * 16777216 + x * 65536 + y * 256) (y := z) (by omega) (by omega) (by omega) (by omega) (by omega)]
theorem wp {x : Int} (h0 : 0 ≤ x) (h1 : x ≤ 4294967296) : wrap64 x = x := by unfold wrap64; omega
theorem rpack_eq {a b c d : Int} (a0 : 0 ≤ a) (a1 : a ≤ 255) (b0 : 0 ≤ b) (b1 : b ≤ 255) (c0 : 0 ≤ c) (c1 : c ≤ 255) (d0 : 0 ≤ d) (d1 : d ≤ 255) : compositorref08_Pack.f a b c d = some (pk a b c d) := by
  have ha := mn_range a0 a1 d0 d1
  have hb := mn_range b0 b1 d0 d1
  have hc := mn_range c0 c1 d0 d1
  simp only [compositorref08_Pack.f, rclamp_eq, Option.bind_some, pk]
  generalize mn a d = x at *
  generalize mn b d = y at *
  generalize mn c d = z at *
  rw [wp (x := d) (by omega) (by omega), wp (x := d * 256) (by omega) (by omega), wp (x := x) (by omega) (by omega), wp (x := d * 256 + x) (by omega) (by omega), wp (x := (d * 256 + x) * 256) (by omega) (by omega), wp (x := y) (by omega) (by omega), wp (x := (d * 256 + x) * 256 + y) (by omega) (by omega), wp (x := ((d * 256 + x) * 256 + y) * 256) (by omega) (by omega), wp (x := z) (by omega) (by omega), wp (x := ((d * 256 + x) * 256 + y) * 256 + z) (by omega) (by omega)]
  congr 1
  omega
def up (n : Int) : Int × Int × Int × Int := (mn (n / 65536 % 256) (n / 16777216 % 256), mn (n / 256 % 256) (n / 16777216 % 256), mn (n % 256) (n / 16777216 % 256), n / 16777216 % 256)
theorem unpack_eq (n : Int) : pixel_Unpack.f n = some (up n) := rfl
theorem runpack_eq {n : Int} (h0 : 0 ≤ n) : compositorref08_Unpack.f n = some (up n) := by
  unfold compositorref08_Unpack.f
  rw [Int.tdiv_eq_ediv_of_nonneg h0, Int.tdiv_eq_ediv_of_nonneg h0, Int.tdiv_eq_ediv_of_nonneg h0, Int.tmod_eq_emod_of_nonneg h0, rclamp_eq]
  unfold up
  rw [Int.emod_emod_of_dvd _ (by decide : (256 : Int) ∣ 256)]
/-- A pixel is valid exactly if no component is above alpha. -/
def vl (a b c d : Int) : Bool := decide (a ≤ d) && (decide (b ≤ d) && decide (c ≤ d))
theorem mn_beq (a d : Int) : (mn a d == a) = decide (a ≤ d) := by
  unfold mn
  rw [Bool.eq_iff_iff]
  simp
  omega
theorem valid_eq (a b c d : Int) : pixel_Valid.f a b c d = some (vl a b c d) := by
  simp only [pixel_Valid.f, clamp_eq, Option.bind_some, mn_beq, vl]
  simp
theorem rvalid_eq (a b c d : Int) : compositorref08_Valid.f a b c d = some (vl a b c d) := by
  unfold compositorref08_Valid.f vl
  by_cases h1 : a ≤ d <;> by_cases h2 : b ≤ d <;> simp [h1, h2]

end Go.Proofs.Ytdhjbdofklglgaa.Pure
