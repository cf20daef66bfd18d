/-
  A player and holes, laid open.
-/
import Derived.Test.YtanpmgfaieekhaaGreatDoorFmLaw
import Derived.Test.YtanpmgfaieekhaaGreatDoorFmC1
section
namespace Go.Pd
open Go Go.Proofs Go.RowKit
set_option maxRecDepth 100000
theorem ty_entry {n : Nat} {d : List D} (h : Ty Tryz.prog (n + 2) 139 d) : ∃ x, d = netD x := by
  obtain ⟨g1, g2, rfl, h1, h2⟩ := ty_struct2 Tryz.underlying139 rfl h
  obtain ⟨x, rfl, _⟩ := ty_int Tryz.underlying3 h1
  obtain ⟨s, rfl, _⟩ := ty_str Tryz.underlying9 h2
  exact ⟨(x, s), rfl⟩
theorem ty_player {n : Nat} {c : List D} (h : Ty Tryz.prog (n + 5) 37 c) : ∃ (s : ByteArray) (l : List NetV) (x : Int), c = [.str s, .slc false l.length (l.flatMap netD), .int .i64 x] := by
  obtain ⟨g1, g2, rfl, h1, h2⟩ := ty_struct2 Tryz.underlying37 rfl h
  obtain ⟨g3, g4, rfl, h3, h4⟩ := ty_struct2 Tryz.underlying35 rfl h1
  obtain ⟨x, rfl, _⟩ := ty_int Tryz.underlying3 h2
  obtain ⟨s, rfl, _⟩ := ty_str Tryz.underlying9 h3
  obtain ⟨gs, rfl, _, h5⟩ := ty_slice Tryz.underlying33 h4
  obtain ⟨l, h6, h7⟩ := rows_of netD (p := Ty Tryz.prog (n + 2) 139) (fun d hd => ty_entry hd) gs h5
  exact ⟨s, l, x, by rw [h6, h7]; rfl⟩
def holeE (h : Int × Int) : List D := [.int .i64 h.1, .int .i64 h.2]
theorem ty_holeE {n : Nat} {d : List D} (h : Ty Tryz.prog (n + 2) 83 d) : ∃ x, d = holeE x := by
  obtain ⟨g1, g2, rfl, h1, h2⟩ := ty_struct2 Tryz.underlying83 rfl h
  obtain ⟨x, rfl, _⟩ := ty_int Tryz.underlying3 h1
  obtain ⟨y, rfl, _⟩ := ty_int Tryz.underlying3 h2
  exact ⟨(x, y), rfl⟩
/-- Holes, by their pars and indices. -/
theorem ty_holesE {m : Nat} {c : List D} (h : Ty Tryz.prog (m + 3) 22 c) : ∃ (n : Nat) (d : List D) (P S : Nat → Int), c = [.slc false n d] ∧ HolesC n d P S := by
  obtain ⟨gs, rfl, _, h1⟩ := ty_slice Tryz.underlying22 h
  obtain ⟨l, h2, h3⟩ := rows_of holeE (fun d hd => ty_holeE hd) gs h1
  refine ⟨l.length, l.flatMap holeE, fun i => (l[i]?.getD (0, 0)).1, fun i => (l[i]?.getD (0, 0)).2, by rw [h2, h3], fun i hi => ?_⟩
  have hsplit : l = l.take i ++ l[i] :: l.drop (i + 1) := by simp
  have hlen : (l.take i).length = i := by simp; omega
  have key : ∀ j, j < 2 → (l.flatMap holeE)[i * 2 + j]? = (holeE l[i])[j]? := fun j hj => by
    have := flat_get l[i] (l.drop (i + 1)) holeE 2 (fun _ => rfl) (l.take i) j hj
    rw [← hsplit, hlen] at this
    exact this
  rw [key 0 (by omega), key 1 (by omega)]
  simp only [List.getElem?_eq_getElem hi]
  exact ⟨rfl, rfl⟩
end Go.Pd
end
