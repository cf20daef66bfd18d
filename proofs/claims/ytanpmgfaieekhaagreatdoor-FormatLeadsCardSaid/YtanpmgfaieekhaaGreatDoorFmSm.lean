/-
  Chapter 5: what FormatSums makes of open arguments (printed by the desk's tool, each proved by the kernel).
  Chapter 5, FormatSums: the plain sums.
  Chapter 5, FormatSums: the law.
  A player and holes, laid open.
-/
import Derived.Test.YtanpmgfaieekhaaGreatDoorFmA
import Derived.KernelRfl
import Derived.Test.YtanpmgfaieekhaaGreatDoorFmC2
import Derived.Test.YtanpmgfaieekhaaGreatDoorFmLaw
import Derived.Test.YtanpmgfaieekhaaGreatDoorFmC1
section
namespace Go.Pd
open Go Go.Proofs
set_option maxRecDepth 100000
end Go.Pd
end

section
namespace Go.Pd
open Go Go.Proofs Go.RowKit

/-! ### Scores -/
/-- A valid entry's strokes. -/
theorem entE_strokes {x : NetV} (h : entE x = 0) : 0 ≤ x.1 ∧ x.1 ≤ 99 := by
  unfold entE at h
  cases h1 : (emptyB x.2 || markC x.2) with
  | true =>
    rw [h1, ifK_true] at h
    cases h2 : (decide (x.1 < 1) || decide (x.1 > 99)) with
    | true => rw [h2, ifK_true] at h; cases h
    | false => simp at h2; omega
  | false =>
    rw [h1, ifK_false] at h
    cases h2 : (markX x.2 || dashB x.2) with
    | false => rw [h2, ifK_false] at h; cases h
    | true =>
      rw [h2, ifK_true] at h
      cases h3 : x.1 != 0 with
      | true => rw [h3, ifK_true] at h; cases h
      | false =>
        have : x.1 = 0 := by simpa using h3
        omega
theorem nvE_b {g : Nat → Int} {x : NetV} {i : Nat} (hg : -99 ≤ g i ∧ g i ≤ 100) (he : entE x = 0) : -100 ≤ (nvE g x i).1 ∧ (nvE g x i).1 ≤ 198 := by
  have := entE_strokes he
  unfold nvE
  cases (emptyB x.2 || markC x.2) with
  | true => rw [ifK_true]; show -100 ≤ IntKind.wrap .i64 (x.1 - g i) ∧ _; rw [wrap_id (by omega)]; omega
  | false => rw [ifK_false]; show -100 ≤ (0 : Int) ∧ (0 : Int) ≤ 198; omega
theorem ntGo_b {g : Nat → Int} (hg : ∀ i, -99 ≤ g i ∧ g i ≤ 100) : ∀ (l : List NetV) (i : Nat), (∀ x ∈ l, entE x = 0) → ∀ y ∈ ntGo g l i, -1000 ≤ y.1 ∧ y.1 ≤ 1000
  | [], _, _, y, hy => by cases hy
  | x :: r, i, h, y, hy => by
    rw [show ntGo g (x :: r) i = nvE g x i :: ntGo g r (i + 1) from rfl] at hy
    rcases List.mem_cons.1 hy with rfl | hy
    · have := nvE_b (hg i) (h x (by simp)); omega
    · exact ntGo_b hg r (i + 1) (fun z hz => h z (List.mem_cons_of_mem _ hz)) y hy
end Go.Pd
end

section
namespace Go.Pd
open Go Go.Proofs Go.RowKit

section
variable {call : FuncId → List D → Option D} {f gf qf g : Bool} {n : Nat} {c lc : List D} {P S gv : Nat → Int} {s : ByteArray} {ln : Nat} {h : Int}
end
theorem gvH_b {n : Nat} (h0 : 0 < n) (hn : n ≤ 36) {S : Nat → Int} {h : Int} (hl : -99 ≤ h) (hr : h ≤ 99) : ∀ i, -99 ≤ gvH n S h i ∧ gvH n S h i ≤ 100 := fun i => by
  obtain ⟨q1, q2, _⟩ := quo_bound h0 hn hl hr
  unfold gvH
  cases decide (S i ≤ h % n) with
  | true => rw [ifK_true]; omega
  | false => rw [ifK_false]; omega
end Go.Pd
end

section
namespace Go.Pd
open Go Go.Proofs Go.RowKit
set_option maxRecDepth 100000
theorem ty_entry {n : Nat} {d : List D} (h : Ty Tryz.prog (n + 2) 139 d) : ∃ x, d = netD x := by
  obtain ⟨g1, g2, rfl, h1, h2⟩ := ty_struct2 Tryz.underlying139 rfl h
  obtain ⟨x, rfl, _⟩ := ty_int Tryz.underlying3 h1
  obtain ⟨s, rfl, _⟩ := ty_str Tryz.underlying9 h2
  exact ⟨(x, s), rfl⟩
theorem ty_player {n : Nat} {c : List D} (h : Ty Tryz.prog (n + 5) 37 c) : ∃ (s : ByteArray) (l : List NetV) (x : Int), c = [.str s, .slc false l.length (l.flatMap netD), .int .i64 x] := by
  obtain ⟨g1, g2, rfl, h1, h2⟩ := ty_struct2 Tryz.underlying37 rfl h
  obtain ⟨g3, g4, rfl, h3, h4⟩ := ty_struct2 Tryz.underlying35 rfl h1
  obtain ⟨x, rfl, _⟩ := ty_int Tryz.underlying3 h2
  obtain ⟨s, rfl, _⟩ := ty_str Tryz.underlying9 h3
  obtain ⟨gs, rfl, _, h5⟩ := ty_slice Tryz.underlying33 h4
  obtain ⟨l, h6, h7⟩ := rows_of netD (p := Ty Tryz.prog (n + 2) 139) (fun d hd => ty_entry hd) gs h5
  exact ⟨s, l, x, by rw [h6, h7]; rfl⟩
def holeE (h : Int × Int) : List D := [.int .i64 h.1, .int .i64 h.2]
theorem ty_holeE {n : Nat} {d : List D} (h : Ty Tryz.prog (n + 2) 83 d) : ∃ x, d = holeE x := by
  obtain ⟨g1, g2, rfl, h1, h2⟩ := ty_struct2 Tryz.underlying83 rfl h
  obtain ⟨x, rfl, _⟩ := ty_int Tryz.underlying3 h1
  obtain ⟨y, rfl, _⟩ := ty_int Tryz.underlying3 h2
  exact ⟨(x, y), rfl⟩
/-- Holes, by their pars and indices. -/
theorem ty_holesE {m : Nat} {c : List D} (h : Ty Tryz.prog (m + 3) 22 c) : ∃ (n : Nat) (d : List D) (P S : Nat → Int), c = [.slc false n d] ∧ HolesC n d P S := by
  obtain ⟨gs, rfl, _, h1⟩ := ty_slice Tryz.underlying22 h
  obtain ⟨l, h2, h3⟩ := rows_of holeE (fun d hd => ty_holeE hd) gs h1
  refine ⟨l.length, l.flatMap holeE, fun i => (l[i]?.getD (0, 0)).1, fun i => (l[i]?.getD (0, 0)).2, by rw [h2, h3], fun i hi => ?_⟩
  have hsplit : l = l.take i ++ l[i] :: l.drop (i + 1) := by simp
  have hlen : (l.take i).length = i := by simp; omega
  have key : ∀ j, j < 2 → (l.flatMap holeE)[i * 2 + j]? = (holeE l[i])[j]? := fun j hj => by
    have := flat_get l[i] (l.drop (i + 1)) holeE 2 (fun _ => rfl) (l.take i) j hj
    rw [← hsplit, hlen] at this
    exact this
  rw [key 0 (by omega), key 1 (by omega)]
  simp only [List.getElem?_eq_getElem hi]
  exact ⟨rfl, rfl⟩
end Go.Pd
end
