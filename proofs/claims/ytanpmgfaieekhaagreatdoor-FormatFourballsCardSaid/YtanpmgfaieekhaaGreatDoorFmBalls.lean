/-
  FormatFourballs: Fourball and Aggregate return the net strokes or the errors of the reference, for all holes and players.
-/
import Derived.Test.YtanpmgfaieekhaaGreatDoorFmSm
import Derived.Test.YtanpmgfaieekhaaGreatDoorFmBl
section
namespace Go.Pd
open Go Go.Proofs Go.RowKit
set_option maxRecDepth 100000
theorem ty_players {m : Nat} {c : List D} (h : Ty Tryz.prog (m + 6) 59 c) : ∃ l : List PlV, c = [.slc false l.length (l.flatMap plC)] := by
  obtain ⟨gs, rfl, _, h1⟩ := ty_slice Tryz.underlying59 h
  obtain ⟨l, h2, h3⟩ := rows_of plC (p := Ty Tryz.prog (m + 5) 37) (fun d hd => by
    obtain ⟨s, l, x, rfl⟩ := ty_player hd
    exact ⟨(s, l, x), rfl⟩) gs h1
  exact ⟨l, by rw [h2, h3]⟩
theorem law6 (cs : List (List D)) (h : AllTy Tryz.prog 12 Tryz.f6.params.toList cs) : CallOK Tryz.prog (fun _ => none) 6 (argsOf Tryz.prog Tryz.f6.params.toList cs) (.bool true) := by
  rw [Tryz.params6] at h ⊢
  obtain ⟨c1, c2, rfl, h1, h2⟩ := all_ty2 h
  obtain ⟨n, d, P, S, rfl, hc⟩ := ty_holesE h1
  obtain ⟨l, rfl⟩ := ty_players h2
  have e : argsOf Tryz.prog #[22, 59].toList [[.slc false n d], [.slc false l.length (l.flatMap plC)]] = [.slc false n d, .slc false l.length (l.flatMap plC)] := by
    simp [argsOf, argOf, isAggD, Tryz.underlying22, Tryz.underlying59]
  rw [e]
  exact ok6 hc l
end Go.Pd
namespace Go.Proofs.YtanpmgfaieekhaaGreatDoor.formatFourballs
set_option maxRecDepth 100000
open Go Go.Pd Go.ChangeShapes Go.WideShapes Go.ChangeAt Go.RowKit

theorem contract (H : Type) (enc : TypeId × Value → H) (W : World) (args : Array Value) (ds gs : List (DataW H)) (before : List MemPlace)
    (hval : ∀ (j : Nat) t v, Tryz.f6.params[j]? = some t → args[j]? = some v → Value.okWide Tryz.prog W .any 0 t v)
    (hW : DataW.Whole enc Tryz.prog Tryz.f6.params.toList Rows.formatFourballsSpec.vars false W args.toList ds gs before) :
    Calls Tryz.prog 6 args W fun e W' => ∃ v, e = .returned v ∧ Rows.formatFourballsSpec.post enc Tryz.prog Tryz.f6 false true false false W args v W' :=
  law_call (tb := 4) (fun _ => rfl) laidOut Tryz.underlying4 (by kernel_rfl) (List.all_eq_true.1 (by kernel_rfl : Tryz.f6.params.toList.all (carryB Tryz.prog) = true)) enc rfl (fun ds hl => by
    rw [Tryz.params6] at hl
    match ds, hl with
    | [d1, d2], _ => rfl) W args ds gs before hval hW law6

theorem reads (os : Os) {H : Type} (enc : TypeId × Value → H) : DataW.whole enc Tryz.prog ((laidWorld os).forCall (fun _ _ => 0) ⟨#[], #[.slice none 0 0, .slice none 0 0], []⟩).memory Tryz.f6.params.toList Rows.formatFourballsSpec.vars false (#[.slice none 0 0, .slice none 0 0] : Array Value).toList 8 = some ([.nil, .nil], [], []) := by kernel_rfl

theorem lifted (os : Os) (started : os.Started) (H : Type) (enc : TypeId × Value → H) (F : Stop.Interp) :
    ReturnsInHanded {} Tryz.checked os 6 .any ((OpenSpec.ofChange Rows.formatFourballsSpec).preRow enc Tryz.prog Tryz.f6 Rows.formatFourballsRow.domain false Rows.formatFourballsRow.laid) (((OpenSpec.ofChange Rows.formatFourballsSpec).at F).post enc Tryz.prog Tryz.f6 false true false false) := by
  refine returnsInHanded_of_row (C := Tryz.checked) (s := OpenSpec.ofChange Rows.formatFourballsSpec) own started (by kernel_rfl) Tryz.func6
    (witness_row_at (enc := enc) (C := Tryz.checked) false (laidWorld os) #[.slice none 0 0, .slice none 0 0] rfl (by kernel_rfl) (by kernel_rfl) (by kernel_rfl)
      (OpenSpec.preRow_of_cond 8 (reads os enc) (by kernel_rfl) (fun k hk => by cases hk) (by kernel_rfl) (laid_met os _))) ?_
  intro W base args ds gs before hval hW _ _ _ _ _ _
  exact contract H enc W args ds gs before (fun j t v ht hv => hval j t v ht hv) hW

theorem said : Rows.FormatFourballsSaid :=
  OpenClaim.holds_of_cond 6 Tryz.f6 rfl rfl rfl rfl rfl rfl rfl ⟨rfl, rfl, rfl, rfl, rfl⟩ rfl rfl rfl rfl rfl (by kernel_rfl) Tryz.func6 (by kernel_rfl)
    (of_decide_eq_true (by kernel_rfl)) (by unfold Func.isWrapper; first | (rw [if_pos (by decide +kernel)]; kernel_rfl) | (rw [if_neg (by decide +kernel)]; exact ⟨rfl, rfl⟩))
    (fun os started H enc _ F => by rw [OpenClaim.pre_eq_preRow]; exact lifted os started H enc F)

theorem plain (f : FuncId) (fn : Func) (hf : Tryz.pinned.checked.prog.funcNamed "niblick/niblicklaw05.FormatFourballs" = some f) (hfn : Tryz.pinned.checked.prog.funcs[f]? = some fn) :
    false = Tryz.pinned.checked.prog.looks [] ∧ ∀ (j : Nat) t, fn.params[j]? = some t → Tryz.pinned.checked.prog.wantsStandIn t = false := by
  obtain rfl : f = 6 := Option.some.inj ((show Tryz.prog.funcNamed "niblick/niblicklaw05.FormatFourballs" = some 6 by kernel_rfl).symm.trans hf) |>.symm
  obtain rfl : fn = Tryz.f6 := (Option.some.inj (Tryz.func6.symm.trans hfn)).symm
  refine ⟨by kernel_rfl, fun j t ht => ?_⟩
  have hall : Tryz.f6.params.toList.all (fun t => !Tryz.prog.wantsStandIn t) = true := by kernel_rfl
  have := List.all_eq_true.1 hall t (by simpa using Array.mem_of_getElem? ht)
  exact (by simpa using this : Tryz.prog.wantsStandIn t = false)

/-- THE CARD. -/
theorem card : Rows.FormatFourballsCardSaid :=
  Claim7.holds_tied_plain_at .later [] _ _ _ _ said (fun _ h => by cases h) (by kernel_rfl) (fun _ h => by cases h) formatFourballs_row_tie rfl ⟨rfl, rfl⟩ (by kernel_rfl) rfl plain (by kernel_rfl)
end Go.Proofs.YtanpmgfaieekhaaGreatDoor.formatFourballs
end
