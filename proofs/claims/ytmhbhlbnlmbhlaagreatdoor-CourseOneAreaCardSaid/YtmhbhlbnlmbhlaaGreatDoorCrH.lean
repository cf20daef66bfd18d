/-
  Chapter 2: the fixed examples: which areas hold the points between.
  Chapter 2: the fixed examples: the parts of the line.
-/
import Derived.Test.YtmhbhlbnlmbhlaaGreatDoorCrG
import Derived.Test.YtmhbhlbnlmbhlaaGreatDoorCrE
section
namespace Go.Pd
open Go Go.Proofs
set_option maxRecDepth 100000
theorem hol7 : OK2 (holE 2 45 false).1 (holE 2 45 false).2.1 (holE 2 45 false).2.2 := hol_ok (by kernel_rfl)
theorem hol8 : OK2 (holE 3 45 true).1 (holE 3 45 true).2.1 (holE 3 45 true).2.2 := hol_ok (by kernel_rfl)
theorem hol9 : OK2 (holE 2 70 false).1 (holE 2 70 false).2.1 (holE 2 70 false).2.2 := hol_ok (by kernel_rfl)
theorem hol10 : OK2 (holE 3 70 false).1 (holE 3 70 false).2.1 (holE 3 70 false).2.2 := hol_ok (by kernel_rfl)
theorem hol11 : OK2 (holE 1 70 true).1 (holE 1 70 true).2.1 (holE 1 70 true).2.2 := hol_ok (by kernel_rfl)
theorem hol12 : OK2 (holE 2 95 true).1 (holE 2 95 true).2.1 (holE 2 95 true).2.2 := hol_ok (by kernel_rfl)
def hols : List Ent := [holE 2 5 false, holE 3 5 false, holE 1 5 false, holE 0 5 true, holE 2 25 false, holE 3 25 false, holE 1 25 true, holE 2 45 false, holE 3 45 true, holE 2 70 false, holE 3 70 false, holE 1 70 true, holE 2 95 true]
theorem hols_ok : ∀ e ∈ hols, OK2 e.1 e.2.1 e.2.2 := by
  intro e he
  simp only [hols, List.mem_cons, List.not_mem_nil, or_false] at he
  rcases he with rfl | rfl | rfl | rfl | rfl | rfl | rfl | rfl | rfl | rfl | rfl | rfl | rfl
  · exact hol0
  · exact hol1
  · exact hol2
  · exact hol3
  · exact hol4
  · exact hol5
  · exact hol6
  · exact hol7
  · exact hol8
  · exact hol9
  · exact hol10
  · exact hol11
  · exact hol12
end Go.Pd
end
section
namespace Go.Pd
open Go Go.Proofs
set_option maxRecDepth 100000
def pcs : List D := [.int .i64 0, .nils, .int .i64 1, .nils, .int .i64 1, .nils, .int .i64 10, .nils, S [114, 111, 117, 103, 104],
  .int .i64 1, .nils, .int .i64 10, .nils, .int .i64 2, .nils, .int .i64 5, .nils, S [102, 97, 105, 114, 119, 97, 121],
  .int .i64 2, .nils, .int .i64 5, .nils, .int .i64 1, .nils, .int .i64 2, .nils, S [119, 97, 116, 101, 114],
  .int .i64 1, .nils, .int .i64 2, .nils, .int .i64 9, .nils, .int .i64 10, .nils, S [102, 97, 105, 114, 119, 97, 121],
  .int .i64 9, .nils, .int .i64 10, .nils, .int .i64 1, .nils, .int .i64 1, .nils, S [103, 114, 101, 101, 110]]
def hA : Hl := ⟨ByteArray.mk #[111, 110, 101], (0, 0), (100, 0), true, [], true, [
  (ByteArray.mk #[114, 111, 117, 103, 104], true, [(-10, -20), (120, -20), (120, 20), (-10, 20)]),
  (ByteArray.mk #[102, 97, 105, 114, 119, 97, 121], true, [(10, -10), (90, -10), (90, 10), (10, 10)]),
  (ByteArray.mk #[103, 114, 101, 101, 110], true, [(90, -5), (110, -5), (110, 5), (90, 5)]),
  (ByteArray.mk #[119, 97, 116, 101, 114], true, [(40, -20), (50, -20), (50, 20), (40, 20)])]⟩
theorem hA_ok : hA.Ok := ⟨by decide, by decide, by decide, by decide⟩
theorem hA_e : holeE hA = 0 := by kernel_rfl
theorem a21 : OK2 21 [holeA] (.int .i64 0) := by
  have h := ok21 hA hA_ok
  rw [hA_e] at h
  exact h
def E0 : List Ent := (21, [holeA], .int .i64 0) :: (divs ++ hols)
theorem E0_ok : ∀ e ∈ E0, OK2 e.1 e.2.1 e.2.2 := by
  intro e he
  rcases List.mem_cons.1 he with rfl | he
  · exact a21
  · rcases List.mem_append.1 he with he | he
    · exact divs_ok e he
    · exact hols_ok e he
theorem e91 : evG (RB E0) 30 91 [holeA, pl 0 0, pl 100 0] = some (.slc false 5 pcs) := by kernel_rfl
theorem a91 : OK2 91 [holeA, pl 0 0, pl 100 0] (.slc false 5 pcs) := evB_ok E0_ok e91
end Go.Pd
end
