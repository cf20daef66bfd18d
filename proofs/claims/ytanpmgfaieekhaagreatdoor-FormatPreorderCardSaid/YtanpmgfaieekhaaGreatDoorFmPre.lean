/-
  FormatPreorder: count-back is antisymmetric, transitive and total, equal lists are tied, and the ranks follow it, for all lists.
-/
import Derived.Test.YtanpmgfaieekhaaGreatDoorFmLaw
import Derived.Test.YtanpmgfaieekhaaGreatDoorFmP1
section
namespace Go.Pd
open Go Go.Proofs Go.RowKit
set_option maxRecDepth 100000
theorem flatMap_one {α : Type} (g : α → D) : ∀ l : List α, l.flatMap (fun x => [g x]) = l.map g
  | [] => rfl
  | x :: l => by rw [List.flatMap_cons, flatMap_one g l]; rfl
theorem ty_ints {n : Nat} {c : List D} (h : Ty Tryz.prog (n + 2) 25 c) : ∃ l : List Int, c = [.slc false l.length (ints l)] := by
  obtain ⟨gs, rfl, _, h1⟩ := ty_slice Tryz.underlying25 h
  obtain ⟨l, h2, h3⟩ := rows_of (fun x : Int => [D.int .i64 x]) (p := Ty Tryz.prog (n + 1) 3) (fun d hd => by
    obtain ⟨x, rfl, _⟩ := ty_int Tryz.underlying3 hd
    exact ⟨x, rfl⟩) gs h1
  rw [flatMap_one] at h3
  exact ⟨l, by rw [h2, h3]; rfl⟩
theorem ty_rows {n : Nat} {c : List D} (h : Ty Tryz.prog (n + 3) 73 c) : ∃ l : List (List Int), c = [.slc false l.length (rows l)] := by
  obtain ⟨gs, rfl, _, h1⟩ := ty_slice Tryz.underlying73 h
  obtain ⟨l, h2, h3⟩ := rows_of (fun x : List Int => [D.slc false x.length (ints x)]) (p := Ty Tryz.prog (n + 2) 25) (fun d hd => ty_ints hd) gs h1
  rw [flatMap_one] at h3
  exact ⟨l, by rw [h2, h3]; rfl⟩
theorem law9 (cs : List (List D)) (h : AllTy Tryz.prog 12 Tryz.f9.params.toList cs) : CallOK Tryz.prog (fun _ => none) 9 (argsOf Tryz.prog Tryz.f9.params.toList cs) (.bool true) := by
  rw [Tryz.params9] at h ⊢
  obtain ⟨c1, rfl, h1⟩ := all_ty1 h
  obtain ⟨l, rfl⟩ := ty_rows h1
  have e : argsOf Tryz.prog #[73].toList [[.slc false l.length (rows l)]] = [.slc false l.length (rows l)] := by
    simp [argsOf, argOf, isAggD, Tryz.underlying73]
  rw [e]
  exact ok9 l
end Go.Pd
namespace Go.Proofs.YtanpmgfaieekhaaGreatDoor.formatPreorder
set_option maxRecDepth 100000
open Go Go.Pd Go.ChangeShapes Go.WideShapes Go.ChangeAt Go.RowKit
theorem contract (H : Type) (enc : TypeId × Value → H) (W : World) (args : Array Value) (ds gs : List (DataW H)) (before : List MemPlace)
    (hval : ∀ (j : Nat) t v, Tryz.f9.params[j]? = some t → args[j]? = some v → Value.okWide Tryz.prog W .any 0 t v)
    (hW : DataW.Whole enc Tryz.prog Tryz.f9.params.toList Rows.formatPreorderSpec.vars false W args.toList ds gs before) :
    Calls Tryz.prog 9 args W fun e W' => ∃ v, e = .returned v ∧ Rows.formatPreorderSpec.post enc Tryz.prog Tryz.f9 false true false false W args v W' :=
  law_call (tb := 4) (fun _ => rfl) laidOut Tryz.underlying4 (by kernel_rfl) (List.all_eq_true.1 (by kernel_rfl : Tryz.f9.params.toList.all (carryB Tryz.prog) = true)) enc rfl (fun ds hl => by
    rw [Tryz.params9] at hl
    match ds, hl with
    | [d1], _ => rfl) W args ds gs before hval hW law9
theorem reads (os : Os) {H : Type} (enc : TypeId × Value → H) : DataW.whole enc Tryz.prog ((laidWorld os).forCall (fun _ _ => 0) ⟨#[], #[.slice none 0 0], []⟩).memory Tryz.f9.params.toList Rows.formatPreorderSpec.vars false (#[.slice none 0 0] : Array Value).toList 8 = some ([.nil], [], []) := by kernel_rfl
theorem lifted (os : Os) (started : os.Started) (H : Type) (enc : TypeId × Value → H) (F : Stop.Interp) :
    ReturnsInHanded {} Tryz.checked os 9 .any ((OpenSpec.ofChange Rows.formatPreorderSpec).preRow enc Tryz.prog Tryz.f9 Rows.formatPreorderRow.domain false Rows.formatPreorderRow.laid) (((OpenSpec.ofChange Rows.formatPreorderSpec).at F).post enc Tryz.prog Tryz.f9 false true false false) := by
  refine returnsInHanded_of_row (C := Tryz.checked) (s := OpenSpec.ofChange Rows.formatPreorderSpec) own started (by kernel_rfl) Tryz.func9
    (witness_row_at (enc := enc) (C := Tryz.checked) false (laidWorld os) #[.slice none 0 0] rfl (by kernel_rfl) (by kernel_rfl) (by kernel_rfl)
      (OpenSpec.preRow_of_cond 8 (reads os enc) (by kernel_rfl) (fun k hk => by cases hk) (by kernel_rfl) (laid_met os _))) ?_
  intro W base args ds gs before hval hW _ _ _ _ _ _
  exact contract H enc W args ds gs before (fun j t v ht hv => hval j t v ht hv) hW
theorem said : Rows.FormatPreorderSaid :=
  OpenClaim.holds_of_cond 9 Tryz.f9 rfl rfl rfl rfl rfl rfl rfl ⟨rfl, rfl, rfl, rfl, rfl⟩ rfl rfl rfl rfl rfl (by kernel_rfl) Tryz.func9 (by kernel_rfl)
    (of_decide_eq_true (by kernel_rfl)) (by unfold Func.isWrapper; first | (rw [if_pos (by decide +kernel)]; kernel_rfl) | (rw [if_neg (by decide +kernel)]; exact ⟨rfl, rfl⟩))
    (fun os started H enc _ F => by rw [OpenClaim.pre_eq_preRow]; exact lifted os started H enc F)
theorem plain (f : FuncId) (fn : Func) (hf : Tryz.pinned.checked.prog.funcNamed "niblick/niblicklaw05.FormatPreorder" = some f) (hfn : Tryz.pinned.checked.prog.funcs[f]? = some fn) :
    false = Tryz.pinned.checked.prog.looks [] ∧ ∀ (j : Nat) t, fn.params[j]? = some t → Tryz.pinned.checked.prog.wantsStandIn t = false := by
  obtain rfl : f = 9 := Option.some.inj ((show Tryz.prog.funcNamed "niblick/niblicklaw05.FormatPreorder" = some 9 by kernel_rfl).symm.trans hf) |>.symm
  obtain rfl : fn = Tryz.f9 := (Option.some.inj (Tryz.func9.symm.trans hfn)).symm
  refine ⟨by kernel_rfl, fun j t ht => ?_⟩
  have hall : Tryz.f9.params.toList.all (fun t => !Tryz.prog.wantsStandIn t) = true := by kernel_rfl
  have := List.all_eq_true.1 hall t (by simpa using Array.mem_of_getElem? ht)
  exact (by simpa using this : Tryz.prog.wantsStandIn t = false)
theorem card : Rows.FormatPreorderCardSaid :=
  Claim7.holds_tied_plain_at .later [] _ _ _ _ said (fun _ h => by cases h) (by kernel_rfl) (fun _ h => by cases h) formatPreorder_row_tie rfl ⟨rfl, rfl⟩ (by kernel_rfl) rfl plain (by kernel_rfl)
end Go.Proofs.YtanpmgfaieekhaaGreatDoor.formatPreorder
end
