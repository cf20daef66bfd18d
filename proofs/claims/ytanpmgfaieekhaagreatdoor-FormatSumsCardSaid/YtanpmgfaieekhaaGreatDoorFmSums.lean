/-
  FormatSums: the strokes given add up to the handicap strokes, a net score is the gross score less them, points are twice the holes and the pars less the net score, for all holes and players.
-/
import Derived.Test.YtanpmgfaieekhaaGreatDoorFmSm
section
namespace Go.Pd
open Go Go.Proofs Go.RowKit
set_option maxRecDepth 100000
theorem law8 (cs : List (List D)) (h : AllTy Tryz.prog 12 Tryz.f8.params.toList cs) : CallOK Tryz.prog (fun _ => none) 8 (argsOf Tryz.prog Tryz.f8.params.toList cs) (.bool true) := by
  rw [Tryz.params8] at h ⊢
  obtain ⟨c1, c2, rfl, h1, h2⟩ := all_ty2 h
  obtain ⟨n, d, P, S, rfl, hc⟩ := ty_holesE h1
  obtain ⟨s, l, x, rfl⟩ := ty_player h2
  have e : argsOf Tryz.prog #[22, 37].toList [[.slc false n d], [.str s, .slc false l.length (l.flatMap netD), .int .i64 x]] = [.slc false n d, plD s false l x] := by
    simp [argsOf, argOf, isAggD, Tryz.underlying22, Tryz.underlying37, plD]
  rw [e]
  exact ok8 hc s l x
end Go.Pd
namespace Go.Proofs.YtanpmgfaieekhaaGreatDoor.formatSums
set_option maxRecDepth 100000
open Go Go.Pd Go.ChangeShapes Go.WideShapes Go.ChangeAt Go.RowKit

theorem contract (H : Type) (enc : TypeId × Value → H) (W : World) (args : Array Value) (ds gs : List (DataW H)) (before : List MemPlace)
    (hval : ∀ (j : Nat) t v, Tryz.f8.params[j]? = some t → args[j]? = some v → Value.okWide Tryz.prog W .any 0 t v)
    (hW : DataW.Whole enc Tryz.prog Tryz.f8.params.toList Rows.formatSumsSpec.vars false W args.toList ds gs before) :
    Calls Tryz.prog 8 args W fun e W' => ∃ v, e = .returned v ∧ Rows.formatSumsSpec.post enc Tryz.prog Tryz.f8 false true false false W args v W' :=
  law_call (tb := 4) (fun _ => rfl) laidOut Tryz.underlying4 (by kernel_rfl) (List.all_eq_true.1 (by kernel_rfl : Tryz.f8.params.toList.all (carryB Tryz.prog) = true)) enc rfl (fun ds hl => by
    rw [Tryz.params8] at hl
    match ds, hl with
    | [d1, d2], _ => rfl) W args ds gs before hval hW law8

theorem reads (os : Os) {H : Type} (enc : TypeId × Value → H) : DataW.whole enc Tryz.prog ((laidWorld os).forCall (fun _ _ => 0) ⟨#[], #[.slice none 0 0, .agg #[.string ⟨#[]⟩, .slice none 0 0, .int .i64 0]], []⟩).memory Tryz.f8.params.toList Rows.formatSumsSpec.vars false (#[.slice none 0 0, .agg #[.string ⟨#[]⟩, .slice none 0 0, .int .i64 0]] : Array Value).toList 8 = some ([.nil, .agg [.agg [.lit (.string []), .nil], .lit (.int .i64 0)]], [], []) := by kernel_rfl

theorem lifted (os : Os) (started : os.Started) (H : Type) (enc : TypeId × Value → H) (F : Stop.Interp) :
    ReturnsInHanded {} Tryz.checked os 8 .any ((OpenSpec.ofChange Rows.formatSumsSpec).preRow enc Tryz.prog Tryz.f8 Rows.formatSumsRow.domain false Rows.formatSumsRow.laid) (((OpenSpec.ofChange Rows.formatSumsSpec).at F).post enc Tryz.prog Tryz.f8 false true false false) := by
  refine returnsInHanded_of_row (C := Tryz.checked) (s := OpenSpec.ofChange Rows.formatSumsSpec) own started (by kernel_rfl) Tryz.func8
    (witness_row_at (enc := enc) (C := Tryz.checked) false (laidWorld os) #[.slice none 0 0, .agg #[.string ⟨#[]⟩, .slice none 0 0, .int .i64 0]] rfl (by kernel_rfl) (by kernel_rfl) (by kernel_rfl)
      (OpenSpec.preRow_of_cond 8 (reads os enc) (by kernel_rfl) (fun k hk => by cases hk) (by kernel_rfl) (laid_met os _))) ?_
  intro W base args ds gs before hval hW _ _ _ _ _ _
  exact contract H enc W args ds gs before (fun j t v ht hv => hval j t v ht hv) hW

theorem said : Rows.FormatSumsSaid :=
  OpenClaim.holds_of_cond 8 Tryz.f8 rfl rfl rfl rfl rfl rfl rfl ⟨rfl, rfl, rfl, rfl, rfl⟩ rfl rfl rfl rfl rfl (by kernel_rfl) Tryz.func8 (by kernel_rfl)
    (of_decide_eq_true (by kernel_rfl)) (by unfold Func.isWrapper; first | (rw [if_pos (by decide +kernel)]; kernel_rfl) | (rw [if_neg (by decide +kernel)]; exact ⟨rfl, rfl⟩))
    (fun os started H enc _ F => by rw [OpenClaim.pre_eq_preRow]; exact lifted os started H enc F)

theorem plain (f : FuncId) (fn : Func) (hf : Tryz.pinned.checked.prog.funcNamed "niblick/niblicklaw05.FormatSums" = some f) (hfn : Tryz.pinned.checked.prog.funcs[f]? = some fn) :
    false = Tryz.pinned.checked.prog.looks [] ∧ ∀ (j : Nat) t, fn.params[j]? = some t → Tryz.pinned.checked.prog.wantsStandIn t = false := by
  obtain rfl : f = 8 := Option.some.inj ((show Tryz.prog.funcNamed "niblick/niblicklaw05.FormatSums" = some 8 by kernel_rfl).symm.trans hf) |>.symm
  obtain rfl : fn = Tryz.f8 := (Option.some.inj (Tryz.func8.symm.trans hfn)).symm
  refine ⟨by kernel_rfl, fun j t ht => ?_⟩
  have hall : Tryz.f8.params.toList.all (fun t => !Tryz.prog.wantsStandIn t) = true := by kernel_rfl
  have := List.all_eq_true.1 hall t (by simpa using Array.mem_of_getElem? ht)
  exact (by simpa using this : Tryz.prog.wantsStandIn t = false)

/-- THE CARD. -/
theorem card : Rows.FormatSumsCardSaid :=
  Claim7.holds_tied_plain_at .later [] _ _ _ _ said (fun _ h => by cases h) (by kernel_rfl) (fun _ h => by cases h) formatSums_row_tie rfl ⟨rfl, rfl⟩ (by kernel_rfl) rfl plain (by kernel_rfl)
end Go.Proofs.YtanpmgfaieekhaaGreatDoor.formatSums
end
