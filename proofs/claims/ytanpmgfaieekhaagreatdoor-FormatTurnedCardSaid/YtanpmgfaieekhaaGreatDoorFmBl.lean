/-
  Chapter 5: a table of calls from what is known of each of them.
-/
import Derived.Test.YtanpmgfaieekhaaGreatDoorFmC2
section
namespace Go.Pd
open Go Go.Proofs Go.RowKit

/-- Each of a list of calls keeps what is said of it. -/
def AllOK : List (FuncId × List D × D) → Prop
  | [] => True
  | (f, ds, r) :: l => OK5 f ds r ∧ AllOK l
/-- A table says of each call what the list says. -/
def AllT (B : FuncId → List D → Option D) : List (FuncId × List D × D) → Prop
  | [] => True
  | (f, ds, r) :: l => callOf B f ds = some r ∧ AllT B l
/-- A call is not named twice. -/
def AllNew : List (FuncId × List D × D) → Prop
  | [] => True
  | (f, ds, r) :: l => (cstG f ds = none ∧ ∀ e ∈ l, e.1 = f → e.2.1 = ds → e.2.2 = r) ∧ AllNew l
theorem allOK_mem : ∀ {l : List (FuncId × List D × D)}, AllOK l → ∀ e ∈ l, OK5 e.1 e.2.1 e.2.2
  | [], _, e, he => by cases he
  | (f, ds, r) :: l, h, e, he => by
    rcases List.mem_cons.1 he with rfl | he
    · exact h.1
    · exact allOK_mem h.2 e he
theorem tabC_mem : ∀ {l : List (FuncId × List D × D)} {f : FuncId} {ds : List D} {r : D}, (∃ e ∈ l, e.1 = f ∧ e.2.1 = ds) → (∀ e ∈ l, e.1 = f → e.2.1 = ds → e.2.2 = r) → tabC l f ds = some r
  | [], f, ds, r, ⟨e, he, _⟩, _ => by cases he
  | (f0, d0, r0) :: l, f, ds, r, ⟨e, he, h1, h2⟩, hu => by
    unfold tabC
    split
    · rename_i hc
      have := hu (f0, d0, r0) (List.mem_cons_self ..) hc.1.symm hc.2.symm
      exact congrArg some this
    · rename_i hc
      rcases List.mem_cons.1 he with rfl | he
      · exact absurd ⟨h1.symm, h2.symm⟩ hc
      · exact tabC_mem ⟨e, he, h1, h2⟩ (fun e he => hu e (List.mem_cons_of_mem _ he))
theorem allT_of {B : FuncId → List D → Option D} : ∀ {l : List (FuncId × List D × D)}, (∀ e ∈ l, callOf B e.1 e.2.1 = some e.2.2) → AllT B l
  | [], _ => trivial
  | (f, ds, r) :: _, h => ⟨h (f, ds, r) (List.mem_cons_self ..), allT_of fun e he => h e (List.mem_cons_of_mem _ he)⟩
theorem allNew_uniq : ∀ {l : List (FuncId × List D × D)}, AllNew l → ∀ e ∈ l, cstG e.1 e.2.1 = none ∧ ∀ e' ∈ l, e'.1 = e.1 → e'.2.1 = e.2.1 → e'.2.2 = e.2.2
  | [], _, e, he => by cases he
  | (f, ds, r) :: l, h, e, he => by
    rcases List.mem_cons.1 he with rfl | he
    · refine ⟨h.1.1, fun e' he' h1 h2 => ?_⟩
      rcases List.mem_cons.1 he' with rfl | he'
      · rfl
      · exact h.1.2 e' he' h1 h2
    · obtain ⟨h3, h4⟩ := allNew_uniq h.2 e he
      refine ⟨h3, fun e' he' h1 h2 => ?_⟩
      rcases List.mem_cons.1 he' with rfl | he'
      · exact (h.1.2 e he h1.symm h2.symm).symm
      · exact h4 e' he' h1 h2
theorem tabC_none {f : FuncId} {ds : List D} : ∀ (l : List (FuncId × List D × D)), (∀ e ∈ l, e.1 ≠ f) → tabC l f ds = none
  | [], _ => rfl
  | (f0, d0, r0) :: l, h => by
    rw [tabC_skip (fun hh => h (f0, d0, r0) (List.mem_cons_self ..) hh.symm)]
    exact tabC_none l fun e he => h e (List.mem_cons_of_mem _ he)
/-- What is known of calls makes a table. -/
theorem exT {base : FuncId → List D → Option D} (hbase : CallsT base) (l : List (FuncId × List D × D)) (h : AllOK l) (hn : AllNew l) :
    ∃ B, CallsT B ∧ AllT B l ∧ ∀ f ds, (∀ e ∈ l, e.1 ≠ f) → callOf B f ds = callOf base f ds := by
  refine ⟨orC (tabC l) base, orC_ok (tabC_ok (allOK_mem h)) hbase, allT_of fun e he => ?_, fun f ds hf => ?_⟩
  · obtain ⟨h1, h2⟩ := allNew_uniq hn e he
    rw [callOf_b h1]
    exact orC_l (tabC_mem ⟨e, he, rfl, rfl⟩ h2)
  · unfold callOf
    cases cstG f ds with
    | some r => rfl
    | none =>
      show orC (tabC l) base f ds = base f ds
      refine orC_r ?_
      cases ht : tabC l f ds with
      | none => rfl
      | some r =>
        rw [tabC_none l hf] at ht
        cases ht
/-- A table of one call. -/
theorem ex1 {f : FuncId} {ds : List D} {r : D} (h : OK5 f ds r) (hc : cstG f ds = none) : ∃ B, CallsT B ∧ callOf B f ds = some r := by
  obtain ⟨B, h1, h2, _⟩ := exT none_ok [(f, ds, r)] ⟨h, trivial⟩ ⟨⟨hc, fun e he => by cases he⟩, trivial⟩
  exact ⟨B, h1, h2.1⟩
/-! ### Families of calls -/
/-- Calls of one function, by what tells them apart. -/
structure Fam where
  f : FuncId
  ι : Type
  a : ι → List D
  r : ι → D
def Fam.Good (F : Fam) : Prop := (∀ i, OK5 F.f (F.a i) (F.r i)) ∧ (∀ i j, F.a i = F.a j → F.r i = F.r j) ∧ ∀ i, cstG F.f (F.a i) = none
def AllGood : List Fam → Prop
  | [] => True
  | F :: l => F.Good ∧ AllGood l
def AllF (B : FuncId → List D → Option D) : List Fam → Prop
  | [] => True
  | F :: l => (∀ i, callOf B F.f (F.a i) = some (F.r i)) ∧ AllF B l
theorem allGood_mem : ∀ {l : List Fam}, AllGood l → ∀ F ∈ l, F.Good
  | [], _, F, hF => by cases hF
  | F0 :: l, h, F, hF => by
    rcases List.mem_cons.1 hF with rfl | hF
    · exact h.1
    · exact allGood_mem h.2 F hF
theorem allF_of {B : FuncId → List D → Option D} : ∀ {l : List Fam}, (∀ F ∈ l, ∀ i, callOf B F.f (F.a i) = some (F.r i)) → AllF B l
  | [], _ => trivial
  | F :: _, h => ⟨h F (List.mem_cons_self ..), allF_of fun e he => h e (List.mem_cons_of_mem _ he)⟩
open Classical in
noncomputable def bFam (l : List Fam) : FuncId → List D → Option D := fun k ds =>
  if h : ∃ r, ∃ F ∈ l, ∃ i : F.ι, F.f = k ∧ F.a i = ds ∧ F.r i = r then some h.choose else none
theorem bFam_ok {l : List Fam} (h : AllGood l) : CallsT (bFam l) := by
  intro k ds r hr
  unfold bFam at hr
  split at hr
  · rename_i hx
    cases hr
    obtain ⟨F, hF, i, rfl, rfl, h3⟩ := hx.choose_spec
    rw [← h3]
    exact (allGood_mem h F hF).1 i
  · cases hr
/-- Is a number unlike others? -/
def newF : List FuncId → Bool
  | [] => true
  | x :: l => l.all (fun y => x != y) && newF l
theorem newF_eq : ∀ {l : List Fam}, newF (l.map Fam.f) = true → ∀ F ∈ l, ∀ F' ∈ l, F.f = F'.f → F = F'
  | [], _, F, hF, _, _, _ => by cases hF
  | F0 :: l, h, F, hF, F', hF', he => by
    simp only [List.map_cons, newF, Bool.and_eq_true, List.all_eq_true, bne_iff_ne, ne_eq] at h
    have key : ∀ G ∈ l, F0.f ≠ G.f := fun G hG => h.1 G.f (List.mem_map.2 ⟨G, hG, rfl⟩)
    rcases List.mem_cons.1 hF with h1 | h1
    · rcases List.mem_cons.1 hF' with h2 | h2
      · rw [h1, h2]
      · exact absurd (h1 ▸ he) (key F' h2)
    · rcases List.mem_cons.1 hF' with h2 | h2
      · exact absurd (h2 ▸ he).symm (key F h1)
      · exact newF_eq h.2 F h1 F' h2 he
/-- Families of calls make a table. -/
theorem exF (l : List Fam) (h : AllGood l) (hn : newF (l.map Fam.f) = true) : ∃ B, CallsT B ∧ AllF B l := by
  refine ⟨bFam l, bFam_ok h, allF_of fun F hF i => ?_⟩
  obtain ⟨_, h2, h3⟩ := allGood_mem h F hF
  rw [callOf_b (h3 i)]
  have hx : ∃ r, ∃ F' ∈ l, ∃ j : F'.ι, F'.f = F.f ∧ F'.a j = F.a i ∧ F'.r j = r := ⟨F.r i, F, hF, i, rfl, rfl, rfl⟩
  unfold bFam
  rw [dif_pos hx]
  obtain ⟨F', hF', j, h4, h5, h6⟩ := hx.choose_spec
  obtain rfl := newF_eq hn F' hF' F hF h4
  rw [← h6, h2 j i h5]
/-- One call. -/
def one (f : FuncId) (ds : List D) (r : D) : Fam := ⟨f, Unit, fun _ => ds, fun _ => r⟩
theorem one_good {f : FuncId} {ds : List D} {r : D} (h : OK5 f ds r) (hc : cstG f ds = none) : (one f ds r).Good := ⟨fun _ => h, fun _ _ _ => rfl, fun _ => hc⟩
def fam83 : Fam := ⟨83, Bool × Int, fun x => [.bool x.1, .int .i64 x.2], fun x => .int .i64 (ifK x.1 x.2 0)⟩
theorem fam83_good : fam83.Good := ⟨fun x => ok83 x.1 x.2, fun x y h => by
  simp only [fam83, List.cons.injEq, D.bool.injEq, D.int.injEq, true_and, and_true] at h
  show D.int .i64 (ifK x.1 x.2 0) = .int .i64 (ifK y.1 y.2 0)
  rw [h.1, h.2], fun _ => rfl⟩
def fam81 : Fam := ⟨81, Int × Int, fun x => [.slc true 2 [.int .i64 x.1, .int .i64 x.2]], fun x => .int .i64 (fst2 x.1 x.2)⟩
theorem fam81_good : fam81.Good := ⟨fun x => ok81 x.1 x.2, fun x y h => by
  simp only [fam81, List.cons.injEq, D.slc.injEq, D.int.injEq, true_and, and_true] at h
  show D.int .i64 (fst2 x.1 x.2) = .int .i64 (fst2 y.1 y.2)
  rw [h.1, h.2], fun _ => rfl⟩
end Go.Pd
end
