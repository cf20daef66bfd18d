/-
  FormatTurned: a match the other way round, raised on a hole, and of a list with itself, for all lists and rises.
-/
import Derived.Test.YtanpmgfaieekhaaGreatDoorFmLaw
import Derived.Test.YtanpmgfaieekhaaGreatDoorFmA
import Derived.Test.YtanpmgfaieekhaaGreatDoorFmTu
section
namespace Go.Pd
open Go Go.Proofs Go.RowKit
set_option maxRecDepth 100000
theorem ty_net' {n : Nat} {d : List D} (h : Ty Tryz.prog (n + 2) 88 d) : ∃ x, d = netD x := by
  obtain ⟨g1, g2, rfl, h1, h2⟩ := ty_struct2 Tryz.underlying88 rfl h
  obtain ⟨x, rfl, _⟩ := ty_int Tryz.underlying3 h1
  obtain ⟨s, rfl, _⟩ := ty_str Tryz.underlying9 h2
  exact ⟨(x, s), rfl⟩
theorem ty_nets' {n : Nat} {c : List D} (h : Ty Tryz.prog (n + 3) 62 c) : ∃ l : List NetV, c = [.slc false l.length (l.flatMap netD)] ∧ l.length ≤ maxLen := by
  obtain ⟨gs, rfl, hl, h1⟩ := ty_slice Tryz.underlying62 h
  obtain ⟨l, h2, h3⟩ := rows_of netD (fun d hd => ty_net' hd) gs h1
  exact ⟨l, by rw [h2, h3], by rw [h2]; exact hl⟩
theorem ty_two {n : Nat} {c : List D} (h : Ty Tryz.prog (n + 2) 105 c) : ∃ x y : Int, c = [.int .i64 x, .int .i64 y] := by
  unfold Ty at h
  rw [Tryz.underlying105] at h
  obtain ⟨gs, rfl, hl, h1⟩ := h
  match gs, hl with
  | [g1, g2], _ =>
    obtain ⟨x, rfl, _⟩ := ty_int Tryz.underlying3 (h1 g1 (by simp))
    obtain ⟨y, rfl, _⟩ := ty_int Tryz.underlying3 (h1 g2 (by simp))
    exact ⟨x, y, rfl⟩
theorem maxLen_lt' : maxLen ≤ 9223372036854775807 := by decide
theorem law13 (cs : List (List D)) (h : AllTy Tryz.prog 12 Tryz.f13.params.toList cs) : CallOK Tryz.prog (fun _ => none) 13 (argsOf Tryz.prog Tryz.f13.params.toList cs) (.bool true) := by
  rw [Tryz.params13] at h ⊢
  obtain ⟨c1, c2, c3, rfl, h1, h2, h3⟩ := all_ty3 h
  obtain ⟨a, rfl, ha⟩ := ty_nets' h1
  obtain ⟨b, rfl, hb⟩ := ty_nets' h2
  obtain ⟨x, y, rfl⟩ := ty_two h3
  have e : argsOf Tryz.prog #[62, 62, 105].toList [[.slc false a.length (a.flatMap netD)], [.slc false b.length (b.flatMap netD)], [.int .i64 x, .int .i64 y]] = [.slc false a.length (a.flatMap netD), .slc false b.length (b.flatMap netD), .agg [.int .i64 x, .int .i64 y]] := by
    simp [argsOf, argOf, isAggD, Tryz.underlying62, Tryz.underlying105]
  rw [e]
  exact ok13 a b x y (Nat.le_trans ha maxLen_lt') (Nat.le_trans hb maxLen_lt')
end Go.Pd
namespace Go.Proofs.YtanpmgfaieekhaaGreatDoor.formatTurned
set_option maxRecDepth 100000
open Go Go.Pd Go.ChangeShapes Go.WideShapes Go.ChangeAt Go.RowKit

theorem contract (H : Type) (enc : TypeId × Value → H) (W : World) (args : Array Value) (ds gs : List (DataW H)) (before : List MemPlace)
    (hval : ∀ (j : Nat) t v, Tryz.f13.params[j]? = some t → args[j]? = some v → Value.okWide Tryz.prog W .any 0 t v)
    (hW : DataW.Whole enc Tryz.prog Tryz.f13.params.toList Rows.formatTurnedSpec.vars false W args.toList ds gs before) :
    Calls Tryz.prog 13 args W fun e W' => ∃ v, e = .returned v ∧ Rows.formatTurnedSpec.post enc Tryz.prog Tryz.f13 false true false false W args v W' :=
  law_call (tb := 4) (fun _ => rfl) laidOut Tryz.underlying4 (by kernel_rfl) (List.all_eq_true.1 (by kernel_rfl : Tryz.f13.params.toList.all (carryB Tryz.prog) = true)) enc rfl (fun ds hl => by
    rw [Tryz.params13] at hl
    match ds, hl with
    | [d1, d2, d3], _ => rfl) W args ds gs before hval hW law13

theorem reads (os : Os) {H : Type} (enc : TypeId × Value → H) : DataW.whole enc Tryz.prog ((laidWorld os).forCall (fun _ _ => 0) ⟨#[], #[.slice none 0 0, .slice none 0 0, .agg #[.int .i64 0, .int .i64 0]], []⟩).memory Tryz.f13.params.toList Rows.formatTurnedSpec.vars false (#[.slice none 0 0, .slice none 0 0, .agg #[.int .i64 0, .int .i64 0]] : Array Value).toList 8 = some ([.nil, .nil, .agg [.lit (.int .i64 0), .lit (.int .i64 0)]], [], []) := by kernel_rfl

theorem lifted (os : Os) (started : os.Started) (H : Type) (enc : TypeId × Value → H) (F : Stop.Interp) :
    ReturnsInHanded {} Tryz.checked os 13 .any ((OpenSpec.ofChange Rows.formatTurnedSpec).preRow enc Tryz.prog Tryz.f13 Rows.formatTurnedRow.domain false Rows.formatTurnedRow.laid) (((OpenSpec.ofChange Rows.formatTurnedSpec).at F).post enc Tryz.prog Tryz.f13 false true false false) := by
  refine returnsInHanded_of_row (C := Tryz.checked) (s := OpenSpec.ofChange Rows.formatTurnedSpec) own started (by kernel_rfl) Tryz.func13
    (witness_row_at (enc := enc) (C := Tryz.checked) false (laidWorld os) #[.slice none 0 0, .slice none 0 0, .agg #[.int .i64 0, .int .i64 0]] rfl (by kernel_rfl) (by kernel_rfl) (by kernel_rfl)
      (OpenSpec.preRow_of_cond 8 (reads os enc) (by kernel_rfl) (fun k hk => by cases hk) (by kernel_rfl) (laid_met os _))) ?_
  intro W base args ds gs before hval hW _ _ _ _ _ _
  exact contract H enc W args ds gs before (fun j t v ht hv => hval j t v ht hv) hW

theorem said : Rows.FormatTurnedSaid :=
  OpenClaim.holds_of_cond 13 Tryz.f13 rfl rfl rfl rfl rfl rfl rfl ⟨rfl, rfl, rfl, rfl, rfl⟩ rfl rfl rfl rfl rfl (by kernel_rfl) Tryz.func13 (by kernel_rfl)
    (of_decide_eq_true (by kernel_rfl)) (by unfold Func.isWrapper; first | (rw [if_pos (by decide +kernel)]; kernel_rfl) | (rw [if_neg (by decide +kernel)]; exact ⟨rfl, rfl⟩))
    (fun os started H enc _ F => by rw [OpenClaim.pre_eq_preRow]; exact lifted os started H enc F)

theorem plain (f : FuncId) (fn : Func) (hf : Tryz.pinned.checked.prog.funcNamed "niblick/niblicklaw05.FormatTurned" = some f) (hfn : Tryz.pinned.checked.prog.funcs[f]? = some fn) :
    false = Tryz.pinned.checked.prog.looks [] ∧ ∀ (j : Nat) t, fn.params[j]? = some t → Tryz.pinned.checked.prog.wantsStandIn t = false := by
  obtain rfl : f = 13 := Option.some.inj ((show Tryz.prog.funcNamed "niblick/niblicklaw05.FormatTurned" = some 13 by kernel_rfl).symm.trans hf) |>.symm
  obtain rfl : fn = Tryz.f13 := (Option.some.inj (Tryz.func13.symm.trans hfn)).symm
  refine ⟨by kernel_rfl, fun j t ht => ?_⟩
  have hall : Tryz.f13.params.toList.all (fun t => !Tryz.prog.wantsStandIn t) = true := by kernel_rfl
  have := List.all_eq_true.1 hall t (by simpa using Array.mem_of_getElem? ht)
  exact (by simpa using this : Tryz.prog.wantsStandIn t = false)

/-- THE CARD. -/
theorem card : Rows.FormatTurnedCardSaid :=
  Claim7.holds_tied_plain_at .later [] _ _ _ _ said (fun _ h => by cases h) (by kernel_rfl) (fun _ h => by cases h) formatTurned_row_tie rfl ⟨rfl, rfl⟩ (by kernel_rfl) rfl plain (by kernel_rfl)
end Go.Proofs.YtanpmgfaieekhaaGreatDoor.formatTurned
end
