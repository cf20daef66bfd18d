/-
  FormatGives: Given returns the strokes or the error of the reference, for all holes and all handicap strokes.
-/
import Derived.Test.YtanpmgfaieekhaaGreatDoorFmLaw
import Derived.Test.YtanpmgfaieekhaaGreatDoorFmE
import Derived.Test.YtanpmgfaieekhaaGreatDoorFmA
section
namespace Go.Pd
open Go Go.Proofs Go.RowKit
set_option maxRecDepth 100000
/-- A hole. -/
def holeD (h : Int × Int) : List D := [.int .i64 h.1, .int .i64 h.2]
theorem ty_hole {n : Nat} {d : List D} (h : Ty Tryz.prog (n + 2) 83 d) : ∃ x, d = holeD x := by
  obtain ⟨g1, g2, rfl, h1, h2⟩ := ty_struct2 Tryz.underlying83 rfl h
  obtain ⟨x, rfl, _⟩ := ty_int Tryz.underlying3 h1
  obtain ⟨y, rfl, _⟩ := ty_int Tryz.underlying3 h2
  exact ⟨(x, y), rfl⟩
theorem ty_holes {n : Nat} {c : List D} (h : Ty Tryz.prog (n + 3) 22 c) : ∃ l : List (Int × Int), c = [.slc false l.length (l.flatMap holeD)] := by
  obtain ⟨gs, rfl, _, h1⟩ := ty_slice Tryz.underlying22 h
  obtain ⟨l, h2, h3⟩ := rows_of holeD (fun d hd => ty_hole hd) gs h1
  exact ⟨l, by rw [h2, h3]⟩
theorem holes_c (l : List (Int × Int)) : HolesC l.length (l.flatMap holeD) (fun i => (l[i]?.getD (0, 0)).1) (fun i => (l[i]?.getD (0, 0)).2) := fun i hi => by
  have hsplit : l = l.take i ++ l[i] :: l.drop (i + 1) := by simp
  have hlen : (l.take i).length = i := by simp; omega
  have key : ∀ j, j < 2 → (l.flatMap holeD)[i * 2 + j]? = (holeD l[i])[j]? := fun j hj => by
    have := flat_get l[i] (l.drop (i + 1)) holeD 2 (fun _ => rfl) (l.take i) j hj
    rw [← hsplit, hlen] at this
    exact this
  rw [key 0 (by omega), key 1 (by omega)]
  simp only [List.getElem?_eq_getElem hi]
  exact ⟨rfl, rfl⟩
theorem law3 (cs : List (List D)) (h : AllTy Tryz.prog 12 Tryz.f3.params.toList cs) : CallOK Tryz.prog (fun _ => none) 3 (argsOf Tryz.prog Tryz.f3.params.toList cs) (.bool true) := by
  rw [Tryz.params3] at h ⊢
  obtain ⟨c1, c2, rfl, h1, h2⟩ := all_ty2 h
  obtain ⟨l, rfl⟩ := ty_holes h1
  obtain ⟨x, rfl, _⟩ := ty_int Tryz.underlying3 h2
  have e : argsOf Tryz.prog #[22, 3].toList [[.slc false l.length (l.flatMap holeD)], [.int .i64 x]] = [.slc false l.length (l.flatMap holeD), .int .i64 x] := by
    simp [argsOf, argOf, isAggD, Tryz.underlying22, Tryz.underlying3]
  rw [e]
  exact ok3 (holes_c l) x
end Go.Pd
namespace Go.Proofs.YtanpmgfaieekhaaGreatDoor.formatGives
set_option maxRecDepth 100000
open Go Go.Pd Go.ChangeShapes Go.WideShapes Go.ChangeAt Go.RowKit

theorem contract (H : Type) (enc : TypeId × Value → H) (W : World) (args : Array Value) (ds gs : List (DataW H)) (before : List MemPlace)
    (hval : ∀ (j : Nat) t v, Tryz.f3.params[j]? = some t → args[j]? = some v → Value.okWide Tryz.prog W .any 0 t v)
    (hW : DataW.Whole enc Tryz.prog Tryz.f3.params.toList Rows.formatGivesSpec.vars false W args.toList ds gs before) :
    Calls Tryz.prog 3 args W fun e W' => ∃ v, e = .returned v ∧ Rows.formatGivesSpec.post enc Tryz.prog Tryz.f3 false true false false W args v W' :=
  law_call (tb := 4) (fun _ => rfl) laidOut Tryz.underlying4 (by kernel_rfl) (List.all_eq_true.1 (by kernel_rfl : Tryz.f3.params.toList.all (carryB Tryz.prog) = true)) enc rfl (fun ds hl => by
    rw [Tryz.params3] at hl
    match ds, hl with
    | [d1, d2], _ => rfl) W args ds gs before hval hW law3

theorem reads (os : Os) {H : Type} (enc : TypeId × Value → H) : DataW.whole enc Tryz.prog ((laidWorld os).forCall (fun _ _ => 0) ⟨#[], #[.slice none 0 0, .int .i64 0], []⟩).memory Tryz.f3.params.toList Rows.formatGivesSpec.vars false #[Value.slice none 0 0, Value.int .i64 0].toList 8 = some ([.nil, .lit (.int .i64 0)], [], []) := by kernel_rfl

set_option maxRecDepth 100000 in
theorem lifted (os : Os) (started : os.Started) (H : Type) (enc : TypeId × Value → H) (F : Stop.Interp) :
    ReturnsInHanded {} Tryz.checked os 3 .any ((OpenSpec.ofChange Rows.formatGivesSpec).preRow enc Tryz.prog Tryz.f3 Rows.formatGivesRow.domain false Rows.formatGivesRow.laid) (((OpenSpec.ofChange Rows.formatGivesSpec).at F).post enc Tryz.prog Tryz.f3 false true false false) := by
  refine returnsInHanded_of_row (C := Tryz.checked) (s := OpenSpec.ofChange Rows.formatGivesSpec) own started (by kernel_rfl) Tryz.func3
    (witness_row_at (enc := enc) (C := Tryz.checked) false (laidWorld os) #[.slice none 0 0, .int .i64 0] rfl (by kernel_rfl) (by kernel_rfl) (by kernel_rfl)
      (OpenSpec.preRow_of_cond 8 (reads os enc) (by kernel_rfl) (fun k hk => by cases hk) (by kernel_rfl) (laid_met os _))) ?_
  intro W base args ds gs before hval hW _ _ _ _ _ _
  exact contract H enc W args ds gs before (fun j t v ht hv => hval j t v ht hv) hW

theorem said : Rows.FormatGivesSaid :=
  OpenClaim.holds_of_cond 3 Tryz.f3 rfl rfl rfl rfl rfl rfl rfl ⟨rfl, rfl, rfl, rfl, rfl⟩ rfl rfl rfl rfl rfl (by kernel_rfl) Tryz.func3 (by kernel_rfl)
    (of_decide_eq_true (by kernel_rfl)) (by unfold Func.isWrapper; first | (rw [if_pos (by decide +kernel)]; kernel_rfl) | (rw [if_neg (by decide +kernel)]; exact ⟨rfl, rfl⟩))
    (fun os started H enc _ F => by rw [OpenClaim.pre_eq_preRow]; exact lifted os started H enc F)

theorem plain (f : FuncId) (fn : Func) (hf : Tryz.pinned.checked.prog.funcNamed "niblick/niblicklaw05.FormatGives" = some f) (hfn : Tryz.pinned.checked.prog.funcs[f]? = some fn) :
    false = Tryz.pinned.checked.prog.looks [] ∧ ∀ (j : Nat) t, fn.params[j]? = some t → Tryz.pinned.checked.prog.wantsStandIn t = false := by
  obtain rfl : f = 3 := Option.some.inj ((show Tryz.prog.funcNamed "niblick/niblicklaw05.FormatGives" = some 3 by kernel_rfl).symm.trans hf) |>.symm
  obtain rfl : fn = Tryz.f3 := (Option.some.inj (Tryz.func3.symm.trans hfn)).symm
  refine ⟨by kernel_rfl, fun j t ht => ?_⟩
  have hall : Tryz.f3.params.toList.all (fun t => !Tryz.prog.wantsStandIn t) = true := by kernel_rfl
  have := List.all_eq_true.1 hall t (by simpa using Array.mem_of_getElem? ht)
  exact (by simpa using this : Tryz.prog.wantsStandIn t = false)

/-- ████ THE CARD ████ -/
theorem card : Rows.FormatGivesCardSaid :=
  Claim7.holds_tied_plain_at .later [] _ _ _ _ said (fun _ h => by cases h) (by kernel_rfl) (fun _ h => by cases h) formatGives_row_tie rfl ⟨rfl, rfl⟩ (by kernel_rfl) rfl plain (by kernel_rfl)
end Go.Proofs.YtanpmgfaieekhaaGreatDoor.formatGives
end
