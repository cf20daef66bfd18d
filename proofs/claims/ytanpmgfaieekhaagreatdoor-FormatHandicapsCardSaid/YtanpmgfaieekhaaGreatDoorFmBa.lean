/-
  Chapter 5: a table of calls from what is known of each of them.
-/
import Derived.Test.YtanpmgfaieekhaaGreatDoorFmC2
section
namespace Go.Pd
open Go Go.Proofs Go.RowKit
/-! ### Families of calls -/
structure Fam where
  f : FuncId
  ι : Type
  a : ι → List D
  r : ι → D
def Fam.Good (F : Fam) : Prop := (∀ i, OK5 F.f (F.a i) (F.r i)) ∧ (∀ i j, F.a i = F.a j → F.r i = F.r j) ∧ ∀ i, cstG F.f (F.a i) = none
def AllGood : List Fam → Prop
  | [] => True
  | F :: l => F.Good ∧ AllGood l
def AllF (B : FuncId → List D → Option D) : List Fam → Prop
  | [] => True
  | F :: l => (∀ i, callOf B F.f (F.a i) = some (F.r i)) ∧ AllF B l
theorem allGood_mem : ∀ {l : List Fam}, AllGood l → ∀ F ∈ l, F.Good
  | [], _, F, hF => by cases hF
  | F0 :: l, h, F, hF => by
    rcases List.mem_cons.1 hF with rfl | hF
    · exact h.1
    · exact allGood_mem h.2 F hF
theorem allF_of {B : FuncId → List D → Option D} : ∀ {l : List Fam}, (∀ F ∈ l, ∀ i, callOf B F.f (F.a i) = some (F.r i)) → AllF B l
  | [], _ => trivial
  | F :: _, h => ⟨h F (List.mem_cons_self ..), allF_of fun e he => h e (List.mem_cons_of_mem _ he)⟩
open Classical in
noncomputable def bFam (l : List Fam) : FuncId → List D → Option D := fun k ds =>
  if h : ∃ r, ∃ F ∈ l, ∃ i : F.ι, F.f = k ∧ F.a i = ds ∧ F.r i = r then some h.choose else none
theorem bFam_ok {l : List Fam} (h : AllGood l) : CallsT (bFam l) := by
  intro k ds r hr
  unfold bFam at hr
  split at hr
  · rename_i hx
    cases hr
    obtain ⟨F, hF, i, rfl, rfl, h3⟩ := hx.choose_spec
    rw [← h3]
    exact (allGood_mem h F hF).1 i
  · cases hr
def newF : List FuncId → Bool
  | [] => true
  | x :: l => l.all (fun y => x != y) && newF l
theorem newF_eq : ∀ {l : List Fam}, newF (l.map Fam.f) = true → ∀ F ∈ l, ∀ F' ∈ l, F.f = F'.f → F = F'
  | [], _, F, hF, _, _, _ => by cases hF
  | F0 :: l, h, F, hF, F', hF', he => by
    simp only [List.map_cons, newF, Bool.and_eq_true, List.all_eq_true, bne_iff_ne, ne_eq] at h
    have key : ∀ G ∈ l, F0.f ≠ G.f := fun G hG => h.1 G.f (List.mem_map.2 ⟨G, hG, rfl⟩)
    rcases List.mem_cons.1 hF with h1 | h1
    · rcases List.mem_cons.1 hF' with h2 | h2
      · rw [h1, h2]
      · exact absurd (h1 ▸ he) (key F' h2)
    · rcases List.mem_cons.1 hF' with h2 | h2
      · exact absurd (h2 ▸ he).symm (key F h1)
      · exact newF_eq h.2 F h1 F' h2 he
theorem exF (l : List Fam) (h : AllGood l) (hn : newF (l.map Fam.f) = true) : ∃ B, CallsT B ∧ AllF B l := by
  refine ⟨bFam l, bFam_ok h, allF_of fun F hF i => ?_⟩
  obtain ⟨_, h2, h3⟩ := allGood_mem h F hF
  rw [callOf_b (h3 i)]
  have hx : ∃ r, ∃ F' ∈ l, ∃ j : F'.ι, F'.f = F.f ∧ F'.a j = F.a i ∧ F'.r j = r := ⟨F.r i, F, hF, i, rfl, rfl, rfl⟩
  unfold bFam
  rw [dif_pos hx]
  obtain ⟨F', hF', j, h4, h5, h6⟩ := hx.choose_spec
  obtain rfl := newF_eq hn F' hF' F hF h4
  rw [← h6, h2 j i h5]
def one (f : FuncId) (ds : List D) (r : D) : Fam := ⟨f, Unit, fun _ => ds, fun _ => r⟩
theorem one_good {f : FuncId} {ds : List D} {r : D} (h : OK5 f ds r) (hc : cstG f ds = none) : (one f ds r).Good := ⟨fun _ => h, fun _ _ _ => rfl, fun _ => hc⟩
end Go.Pd
end
