/-
  Chapter 2: the fixed examples: ways, places, days and turns.
  Chapter 2: the fixed examples answer as they should.
-/
import Derived.Test.YtmhbhlbnlmbhlaaGreatDoorCrH
import Derived.Test.YtmhbhlbnlmbhlaaGreatDoorCrF
section
namespace Go.Pd
open Go Go.Proofs
set_option maxRecDepth 100000
def E1 : List Ent := [(21, [holeA], .int .i64 0), (91, [holeA, pl 0 0, pl 100 0], .slc false 5 pcs)]
theorem E1_ok : ∀ e ∈ E1, OK2 e.1 e.2.1 e.2.2 := by
  intro e he
  simp only [E1, List.mem_cons, List.not_mem_nil, or_false] at he
  rcases he with rfl | rfl
  · exact a21
  · exact a91
def waterD : D := S [119, 97, 116, 101, 114]
theorem a27 : OK2 27 [holeA, pl 0 0, pl 100 0, waterD] (.tup [.str (ByteArray.mk #[50, 47, 53]), .int .i64 0]) := evB_ok E1_ok (n := 30) (by kernel_rfl)
def ptsA : List D := [S [48], S [49, 47, 49, 48], S [114, 111, 117, 103, 104],
  S [49, 47, 49, 48], S [50, 47, 53], S [102, 97, 105, 114, 119, 97, 121],
  S [50, 47, 53], S [49, 47, 50], S [119, 97, 116, 101, 114],
  S [49, 47, 50], S [57, 47, 49, 48], S [102, 97, 105, 114, 119, 97, 121],
  S [57, 47, 49, 48], S [49], S [103, 114, 101, 101, 110]]
theorem a26 : OK2 26 [holeA, pl 0 0, pl 100 0] (.tup [.slc false 5 ptsA, .int .i64 0]) := evB_ok E1_ok (n := 30) (by kernel_rfl)
theorem a74 : OK2 74 [] holeA := evB_ok E1_ok (n := 30) (by kernel_rfl)
def turnedA : D := .agg [S [111, 110, 101], .int .i64 0, .int .i64 0, .int .i64 0, .int .i64 100, .slc true 0 [], .slc false 4 [
  S [114, 111, 117, 103, 104], .slc false 4 [.int .i64 (20), .int .i64 (-10), .int .i64 20, .int .i64 120, .int .i64 (-20), .int .i64 120, .int .i64 (-20), .int .i64 (-10)],
  S [102, 97, 105, 114, 119, 97, 121], .slc false 4 [.int .i64 10, .int .i64 10, .int .i64 10, .int .i64 90, .int .i64 (-10), .int .i64 90, .int .i64 (-10), .int .i64 10],
  S [103, 114, 101, 101, 110], .slc false 4 [.int .i64 5, .int .i64 90, .int .i64 5, .int .i64 110, .int .i64 (-5), .int .i64 110, .int .i64 (-5), .int .i64 90],
  S [119, 97, 116, 101, 114], .slc false 4 [.int .i64 20, .int .i64 40, .int .i64 20, .int .i64 50, .int .i64 (-20), .int .i64 50, .int .i64 (-20), .int .i64 40]]]
theorem a64 : OK2 64 [holeA, .int .i64 1] (.tup [turnedA, .int .i64 0]) := evB_ok E1_ok (n := 30) (by kernel_rfl)
def rulesA (x : Int) : D := .slc true 3 [.int .i64 0, .int .i64 1, .int .i64 3, .int .i64 1, .int .i64 2, .int .i64 2, .int .i64 2, .int .i64 0, .int .i64 x]
theorem a60 : OK2 60 [.int .i64 3, rulesA (-4), .slc true 3 [.int .i64 0, .int .i64 1, .int .i64 2]] (.int .i64 0) := evB_ok E1_ok (n := 30) (by kernel_rfl)
theorem a36 : OK2 36 [.slc true 3 [.int .i64 0, .int .i64 0, .int .i64 10, .int .i64 0, .int .i64 3, .int .i64 4], .int .i64 5, .int .i64 4] (.tup [.slc false 4 [.int .i64 0, .int .i64 1, .int .i64 0, .int .i64 1], .int .i64 0]) := evB_ok E1_ok (n := 30) (by kernel_rfl)
theorem okf114 : okFn Tryz.prog O114 Tryz.f114 = true := by kernel_rfl
def daysA : D := .slc false 3 [.int .i64 0, .int .i64 3, .int .i64 5]
theorem a114 : OK2 114 [.int .i64 3, rulesA (-6)] (.tup [daysA, .nils]) :=
  fnU none_ok noMu_ok Tryz.func114 (ord := O114) (N := N114) (.inr rfl) okf114 (by kernel_rfl)
def cstA : Cst := fun k ds => match tabX [(114, [.int .i64 3, rulesA (-6)], .tup [daysA, .nils])] k ds with
  | some r => some r
  | none => cstG k ds
theorem cstA_ok : CallsT cstA := by
  intro k ds r h
  unfold cstA at h
  split at h
  · rename_i x hx
    cases h
    exact tabX_ok (fun e he => by rw [List.mem_singleton.1 he]; exact a114) k ds _ hx
  · exact cst_ok k ds r h
noncomputable def RC : Run := { P := Tryz.prog, gl := glO, X := X1 [], ord := ordA, N := nA, K := rawK, cst := cstA, sq := sqA, M := wrM muA, L := LL, C := C1 }
theorem a58 : OK2 58 [.int .i64 3, rulesA (-6)] (.tup [daysA, .int .i64 0]) :=
  evG_ok (R := RC) mixedT (X1_ok no_ents) cstA_ok sqA_ok (wrM_ok muA_ok) wrM_ow (fun f od fn _ ho hf => okAll_get listA okA f (ordA_mem ho) od fn ho hf) 30 58 _ _ (by kernel_rfl)
theorem a34 : OK2 34 [holeA, pl 45 0, waterD, .int .i64 10] (.tup [pl 39 0, .int .i64 0]) := by
  have h := ok34 hA hA_ok (45, 0) (ByteArray.mk #[119, 97, 116, 101, 114]) 10
  rw [show relD hA (45, 0) (ByteArray.mk #[119, 97, 116, 101, 114]) 10 = .tup [pl 39 0, .int .i64 0] by kernel_rfl] at h
  exact h
theorem a37 : OK2 37 [.slc true 3 [.int .i64 5, .int .i64 4, .int .i64 3], .int .i64 8] (.tup [.slc false 3 [.int .i64 0, .int .i64 1, .int .i64 0], .int .i64 0]) := by
  have h := ok37 (f := true) [5, 4, 3] 8 (by decide)
  rw [show roundsD [5, 4, 3] 8 = .tup [.slc false 3 [.int .i64 0, .int .i64 1, .int .i64 0], .int .i64 0] by kernel_rfl] at h
  exact h
end Go.Pd
end
section
namespace Go.Pd
open Go Go.Proofs
set_option maxRecDepth 100000
def crA : D := .slc true 4 (corA 1)
theorem a19 : OK2 19 [holeA, pl 90 0] (.tup [S [103, 114, 101, 101, 110], .int .i64 2, .int .i64 0]) := by
  have h := ok19 hA hA_ok (90, 0)
  rw [show errLoc (firstZ [holeE hA, ifK (outP (90, 0)) 3 0]) (locP hA (90, 0)) = .tup [S [103, 114, 101, 101, 110], .int .i64 2, .int .i64 0] by kernel_rfl] at h
  exact h
theorem a19o : OK2 19 [holeA, pl 121 0] (.tup [S [111, 117, 116], .int .i64 (-1), .int .i64 0]) := by
  have h := ok19 hA hA_ok (121, 0)
  rw [show errLoc (firstZ [holeE hA, ifK (outP (121, 0)) 3 0]) (locP hA (121, 0)) = .tup [S [111, 117, 116], .int .i64 (-1), .int .i64 0] by kernel_rfl] at h
  exact h
theorem a20 : OK2 20 [holeA] (.tup [.int .i64 100, .int .i64 0]) := by
  have h := ok20 hA hA_ok
  rw [show errOr (holeE hA) ((lenN hA.cup hA.tee hA.line : Nat) : Int) = .tup [.int .i64 100, .int .i64 0] by kernel_rfl] at h
  exact h
def fairL : List Pt := [(10, -10), (90, -10), (90, 10), (10, 10)]
theorem a52 : OK2 52 [crA] (.tup [.int .i64 3200, .int .i64 0]) := by
  have h := ok52 (f := true) fairL (by decide)
  rw [show errOr (polErr fairL) (absW (twiGo (sdL fairL) 0)) = .tup [.int .i64 3200, .int .i64 0] by kernel_rfl] at h
  exact h
theorem a45 : OK2 45 [crA, pl 10 0] (.tup [.int .i64 0, .int .i64 0]) := by
  have h := ok45 (f := true) fairL (10, 0) (by decide)
  rw [show errOr (firstZ [polErr fairL, ifK (outP (10, 0)) 3 0]) (conGo (10, 0) (sdL fairL) (-1)) = .tup [.int .i64 0, .int .i64 0] by kernel_rfl] at h
  exact h
theorem a50 : OK2 50 [.slc true 4 [.int .i64 0, .int .i64 0, .int .i64 2, .int .i64 2, .int .i64 2, .int .i64 0, .int .i64 0, .int .i64 2]] (.int .i64 16) := by
  have h := ok50 (f := true) [(0, 0), (2, 2), (2, 0), (0, 2)] (by decide)
  rw [show polErr [(0, 0), (2, 2), (2, 0), (0, 2)] = 16 by kernel_rfl] at h
  exact h
def rotA : D := .slc false 4 [.int .i64 0, .int .i64 1, .int .i64 0, .int .i64 1]
def rndA : D := .slc false 3 [.int .i64 0, .int .i64 1, .int .i64 0]
def T17 : List Ent := [(74, [], holeA), (19, [holeA, pl 90 0], .tup [S [103, 114, 101, 101, 110], .int .i64 2, .int .i64 0]), (19, [holeA, pl 121 0], .tup [S [111, 117, 116], .int .i64 (-1), .int .i64 0]),
  (20, [holeA], .tup [.int .i64 100, .int .i64 0]), (52, [crA], .tup [.int .i64 3200, .int .i64 0]), (45, [crA, pl 10 0], .tup [.int .i64 0, .int .i64 0]),
  (26, [holeA, pl 0 0, pl 100 0], .tup [.slc false 5 ptsA, .int .i64 0]), (27, [holeA, pl 0 0, pl 100 0, waterD], .tup [.str (ByteArray.mk #[50, 47, 53]), .int .i64 0]),
  (34, [holeA, pl 45 0, waterD, .int .i64 10], .tup [pl 39 0, .int .i64 0]), (64, [holeA, .int .i64 1], .tup [turnedA, .int .i64 0]), (58, [.int .i64 3, rulesA (-6)], .tup [daysA, .int .i64 0]),
  (36, [.slc true 3 [.int .i64 0, .int .i64 0, .int .i64 10, .int .i64 0, .int .i64 3, .int .i64 4], .int .i64 5, .int .i64 4], .tup [rotA, .int .i64 0]),
  (37, [.slc true 3 [.int .i64 5, .int .i64 4, .int .i64 3], .int .i64 8], .tup [rndA, .int .i64 0]),
  (50, [.slc true 4 [.int .i64 0, .int .i64 0, .int .i64 2, .int .i64 2, .int .i64 2, .int .i64 0, .int .i64 0, .int .i64 2]], .int .i64 16),
  (42, [daysA, .slc true 3 [.int .i64 0, .int .i64 3, .int .i64 5]], .bool true), (42, [rotA, .slc true 4 [.int .i64 0, .int .i64 1, .int .i64 0, .int .i64 1]], .bool true), (42, [rndA, .slc true 3 [.int .i64 0, .int .i64 1, .int .i64 0]], .bool true),
  (60, [.int .i64 3, rulesA (-4), .slc true 3 [.int .i64 0, .int .i64 1, .int .i64 2]], .int .i64 0)]
theorem T17_ok : ∀ e ∈ T17, OK2 e.1 e.2.1 e.2.2 := by
  intro e he
  simp only [T17, List.mem_cons, List.not_mem_nil, or_false] at he
  rcases he with rfl | rfl | rfl | rfl | rfl | rfl | rfl | rfl | rfl | rfl | rfl | rfl | rfl | rfl | rfl | rfl | rfl | rfl
  · exact a74
  · exact a19
  · exact a19o
  · exact a20
  · exact a52
  · exact a45
  · exact a26
  · exact a27
  · exact a34
  · exact a64
  · exact a58
  · exact a36
  · exact a37
  · exact a50
  · exact ok42 (f := false) (g := true) [0, 3, 5] (by decide)
  · exact ok42 (f := false) (g := true) [0, 1, 0, 1] (by decide)
  · exact ok42 (f := false) (g := true) [0, 1, 0] (by decide)
  · exact a60
theorem ok17 : OK2 17 [] (.bool true) := evB_ok T17_ok (n := 3) (by kernel_rfl)
end Go.Pd
end
