/-
  FormatTies: Countback and Ranks return the results or the errors of the reference, for all lists.
-/
import Derived.Test.YtanpmgfaieekhaaGreatDoorFmLaw
import Derived.Test.YtanpmgfaieekhaaGreatDoorFmT
section
namespace Go.Pd
open Go Go.Proofs Go.RowKit
set_option maxRecDepth 100000
theorem flatMap_one {α : Type} (g : α → D) : ∀ l : List α, l.flatMap (fun x => [g x]) = l.map g
  | [] => rfl
  | x :: l => by rw [List.flatMap_cons, flatMap_one g l]; rfl
theorem ty_ints {n : Nat} {c : List D} (h : Ty Tryz.prog (n + 2) 25 c) : ∃ l : List Int, c = [.slc false l.length (ints l)] := by
  obtain ⟨gs, rfl, _, h1⟩ := ty_slice Tryz.underlying25 h
  obtain ⟨l, h2, h3⟩ := rows_of (fun x : Int => [D.int .i64 x]) (p := Ty Tryz.prog (n + 1) 3) (fun d hd => by
    obtain ⟨x, rfl, _⟩ := ty_int Tryz.underlying3 hd
    exact ⟨x, rfl⟩) gs h1
  rw [flatMap_one] at h3
  exact ⟨l, by rw [h2, h3]; rfl⟩
theorem ty_rows {n : Nat} {c : List D} (h : Ty Tryz.prog (n + 3) 73 c) : ∃ l : List (List Int), c = [.slc false l.length (rows l)] := by
  obtain ⟨gs, rfl, _, h1⟩ := ty_slice Tryz.underlying73 h
  obtain ⟨l, h2, h3⟩ := rows_of (fun x : List Int => [D.slc false x.length (ints x)]) (p := Ty Tryz.prog (n + 2) 25) (fun d hd => ty_ints hd) gs h1
  rw [flatMap_one] at h3
  exact ⟨l, by rw [h2, h3]; rfl⟩
theorem law7 (cs : List (List D)) (h : AllTy Tryz.prog 12 Tryz.f7.params.toList cs) : CallOK Tryz.prog (fun _ => none) 7 (argsOf Tryz.prog Tryz.f7.params.toList cs) (.bool true) := by
  rw [Tryz.params7] at h ⊢
  obtain ⟨c1, c2, c3, rfl, h1, h2, h3⟩ := all_ty3 h
  obtain ⟨a, rfl⟩ := ty_ints h1
  obtain ⟨b, rfl⟩ := ty_ints h2
  obtain ⟨l, rfl⟩ := ty_rows h3
  have e : argsOf Tryz.prog #[25, 25, 73].toList [[.slc false a.length (ints a)], [.slc false b.length (ints b)], [.slc false l.length (rows l)]] = [.slc false a.length (ints a), .slc false b.length (ints b), .slc false l.length (rows l)] := by
    simp [argsOf, argOf, isAggD, Tryz.underlying25, Tryz.underlying73]
  rw [e]
  exact ok7 a b l
end Go.Pd
namespace Go.Proofs.YtanpmgfaieekhaaGreatDoor.formatTies
set_option maxRecDepth 100000
open Go Go.Pd Go.ChangeShapes Go.WideShapes Go.ChangeAt Go.RowKit

theorem contract (H : Type) (enc : TypeId × Value → H) (W : World) (args : Array Value) (ds gs : List (DataW H)) (before : List MemPlace)
    (hval : ∀ (j : Nat) t v, Tryz.f7.params[j]? = some t → args[j]? = some v → Value.okWide Tryz.prog W .any 0 t v)
    (hW : DataW.Whole enc Tryz.prog Tryz.f7.params.toList Rows.formatTiesSpec.vars false W args.toList ds gs before) :
    Calls Tryz.prog 7 args W fun e W' => ∃ v, e = .returned v ∧ Rows.formatTiesSpec.post enc Tryz.prog Tryz.f7 false true false false W args v W' :=
  law_call (tb := 4) (fun _ => rfl) laidOut Tryz.underlying4 (by kernel_rfl) (List.all_eq_true.1 (by kernel_rfl : Tryz.f7.params.toList.all (carryB Tryz.prog) = true)) enc rfl (fun ds hl => by
    rw [Tryz.params7] at hl
    match ds, hl with
    | [d1, d2, d3], _ => rfl) W args ds gs before hval hW law7

theorem reads (os : Os) {H : Type} (enc : TypeId × Value → H) : DataW.whole enc Tryz.prog ((laidWorld os).forCall (fun _ _ => 0) ⟨#[], #[.slice none 0 0, .slice none 0 0, .slice none 0 0], []⟩).memory Tryz.f7.params.toList Rows.formatTiesSpec.vars false (#[.slice none 0 0, .slice none 0 0, .slice none 0 0] : Array Value).toList 8 = some ([.nil, .nil, .nil], [], []) := by kernel_rfl

theorem lifted (os : Os) (started : os.Started) (H : Type) (enc : TypeId × Value → H) (F : Stop.Interp) :
    ReturnsInHanded {} Tryz.checked os 7 .any ((OpenSpec.ofChange Rows.formatTiesSpec).preRow enc Tryz.prog Tryz.f7 Rows.formatTiesRow.domain false Rows.formatTiesRow.laid) (((OpenSpec.ofChange Rows.formatTiesSpec).at F).post enc Tryz.prog Tryz.f7 false true false false) := by
  refine returnsInHanded_of_row (C := Tryz.checked) (s := OpenSpec.ofChange Rows.formatTiesSpec) own started (by kernel_rfl) Tryz.func7
    (witness_row_at (enc := enc) (C := Tryz.checked) false (laidWorld os) #[.slice none 0 0, .slice none 0 0, .slice none 0 0] rfl (by kernel_rfl) (by kernel_rfl) (by kernel_rfl)
      (OpenSpec.preRow_of_cond 8 (reads os enc) (by kernel_rfl) (fun k hk => by cases hk) (by kernel_rfl) (laid_met os _))) ?_
  intro W base args ds gs before hval hW _ _ _ _ _ _
  exact contract H enc W args ds gs before (fun j t v ht hv => hval j t v ht hv) hW

theorem said : Rows.FormatTiesSaid :=
  OpenClaim.holds_of_cond 7 Tryz.f7 rfl rfl rfl rfl rfl rfl rfl ⟨rfl, rfl, rfl, rfl, rfl⟩ rfl rfl rfl rfl rfl (by kernel_rfl) Tryz.func7 (by kernel_rfl)
    (of_decide_eq_true (by kernel_rfl)) (by unfold Func.isWrapper; first | (rw [if_pos (by decide +kernel)]; kernel_rfl) | (rw [if_neg (by decide +kernel)]; exact ⟨rfl, rfl⟩))
    (fun os started H enc _ F => by rw [OpenClaim.pre_eq_preRow]; exact lifted os started H enc F)

theorem plain (f : FuncId) (fn : Func) (hf : Tryz.pinned.checked.prog.funcNamed "niblick/niblicklaw05.FormatTies" = some f) (hfn : Tryz.pinned.checked.prog.funcs[f]? = some fn) :
    false = Tryz.pinned.checked.prog.looks [] ∧ ∀ (j : Nat) t, fn.params[j]? = some t → Tryz.pinned.checked.prog.wantsStandIn t = false := by
  obtain rfl : f = 7 := Option.some.inj ((show Tryz.prog.funcNamed "niblick/niblicklaw05.FormatTies" = some 7 by kernel_rfl).symm.trans hf) |>.symm
  obtain rfl : fn = Tryz.f7 := (Option.some.inj (Tryz.func7.symm.trans hfn)).symm
  refine ⟨by kernel_rfl, fun j t ht => ?_⟩
  have hall : Tryz.f7.params.toList.all (fun t => !Tryz.prog.wantsStandIn t) = true := by kernel_rfl
  have := List.all_eq_true.1 hall t (by simpa using Array.mem_of_getElem? ht)
  exact (by simpa using this : Tryz.prog.wantsStandIn t = false)

/-- THE CARD. -/
theorem card : Rows.FormatTiesCardSaid :=
  Claim7.holds_tied_plain_at .later [] _ _ _ _ said (fun _ h => by cases h) (by kernel_rfl) (fun _ h => by cases h) formatTies_row_tie rfl ⟨rfl, rfl⟩ (by kernel_rfl) rfl plain (by kernel_rfl)
end Go.Proofs.YtanpmgfaieekhaaGreatDoor.formatTies
end
