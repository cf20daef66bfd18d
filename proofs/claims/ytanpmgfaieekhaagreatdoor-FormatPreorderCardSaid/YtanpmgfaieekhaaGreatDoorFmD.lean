/-
  Chapter 5: the fixed examples hold.
-/
import Derived.Test.YtanpmgfaieekhaaGreatDoorFmB
import Derived.Test.YtanpmgfaieekhaaGreatDoorFmC
section
namespace Go.Pd
open Go Go.Proofs Go.RowKit Go.Shelf
theorem sorted_ok : ∀ ds r, sortedX ds = some r → CallOK Tryz.prog (fun _ => none) 95 ds r := by
  intro ds r h
  unfold sortedX at h
  split at h
  · rename_i f n cs
    split at h
    · rename_i zs hz
      split at h
      · rename_i hn
        simp only [decide_eq_true_eq] at hn
        obtain ⟨hzl, hlt⟩ := hn
        have hcs := intsOf_eq _ _ hz
        subst hcs hzl
        refine ⟨enters_of Tryz.func95 (by kernel_rfl) rfl, fun I w vs hI hgl hl hr => ?_⟩
        obtain ⟨l⟩ := vs
        match l, hl with
        | [v], _ =>
          refine (sorted_calls hI hlt (hr 0 _ v rfl rfl)).mono ?_
          rintro e w' ⟨u, rfl, hb, hrel⟩
          refine ⟨u, rfl, ?_, hb⟩
          cases zs with
          | nil => cases h; exact hrel
          | cons z zs => cases h; exact hrel
      · cases h
    · cases h
  · cases h
theorem X1_ok : ∀ f g, X1 f = some g → ∀ call : FuncId → List D → Option D, (∀ k ds r, call k ds = some r → CallOK Tryz.prog (fun _ => none) k ds r) → ∀ ds r, g call ds = some r → CallOK Tryz.prog (fun _ => none) f ds r := by
  intro f g h call _ ds r hr
  unfold X1 at h
  split at h
  · rename_i hf
    simp only [decide_eq_true_eq] at hf
    subst hf
    cases h
    exact itoa_ok ds r hr
  · split at h
    · rename_i hf
      simp only [decide_eq_true_eq] at hf
      subst hf
      cases h
      exact match_ok ds r hr
    · split at h
      · rename_i hf
        simp only [decide_eq_true_eq] at hf
        subst hf
        cases h
        exact sorted_ok ds r hr
      · cases h
def okAll (P : Program) (od : Nat → Option Ord) : List Nat → Bool
  | [] => true
  | f :: l => match od f, P.funcs[f]? with
    | some o, some fn => (match okFn P o fn with
      | true => okAll P od l
      | false => false)
    | _, _ => okAll P od l
theorem okAll_get {P : Program} {od : Nat → Option Ord} : ∀ (l : List Nat), okAll P od l = true → ∀ f ∈ l, ∀ o fn, od f = some o → P.funcs[f]? = some fn → okFn P o fn = true
  | [], _, f, hf, _, _, _, _ => by cases hf
  | g :: l, h, f, hf, o, fn, ho, hfn => by
    unfold okAll at h
    rcases List.mem_cons.1 hf with rfl | hf
    · rw [ho, hfn] at h
      dsimp only at h
      split at h
      · assumption
      · cases h
    · split at h
      · split at h
        · exact okAll_get l h f hf o fn ho hfn
        · cases h
      · exact okAll_get l h f hf o fn ho hfn
theorem okA : okAll Tryz.prog ordA (List.range 227) = true := by kernel_rfl
theorem awake_ok : CallOK Tryz.prog (fun _ => none) 16 [] (.bool true) := by
  refine evF_ok mixedT X1_ok m1_ok m1_no (fun f od fn _ ho hf => ?_) 40 16 [] _ awake_ev
  refine okAll_get _ okA f ?_ od fn ho hf
  unfold ordA at ho
  split at ho
  · rename_i hd
    simp only [decide_eq_true_eq] at hd
    simp; omega
  · cases ho
end Go.Pd
end
