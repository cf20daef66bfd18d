/-
  CourseDays: Earliest, Conflict and CheckConflict return the results or the errors of the reference, for all conditions and cycles.
-/
import Derived.Test.YtmhbhlbnlmbhlaaGreatDoorCrLaw
import Derived.Test.YtmhbhlbnlmbhlaaGreatDoorCrO
section
namespace Go.Pd
open Go Go.Proofs Go.RowKit
set_option maxRecDepth 100000
theorem law10 (cs : List (List D)) (h : AllTy Tryz.prog 12 Tryz.f10.params.toList cs) : CallOK Tryz.prog glO 10 (argsOf Tryz.prog Tryz.f10.params.toList cs) (.bool true) := by
  rw [Tryz.params10] at h ⊢
  obtain ⟨c1, c2, c3, rfl, h1, h2, h3⟩ := all_ty3 h
  obtain ⟨x, rfl, _⟩ := ty_int Tryz.underlying3 h1
  obtain ⟨L, rfl⟩ := ty_rules h2
  obtain ⟨fl, rfl⟩ := ty_ints h3
  have e : argsOf Tryz.prog #[3, 97, 69].toList [[.int .i64 x], [.slc false L.length (rzC L)], [.slc false fl.length (ints fl)]] = [.int .i64 x, .slc false L.length (rzC L), .slc false fl.length (ints fl)] := by
    simp [argsOf, argOf, isAggD, Tryz.underlying3, Tryz.underlying97, Tryz.underlying69]
  rw [e]
  exact ok10 x L fl
end Go.Pd
namespace Go.Proofs.YtmhbhlbnlmbhlaaGreatDoor.courseDays
set_option maxRecDepth 100000
open Go Go.Pd Go.ChangeShapes Go.WideShapes Go.ChangeAt Go.RowKit

theorem laid_has : ("niblick/course.order", Rows.laid_niblick_course_order) ∈ Rows.courseDaysRow.laid := List.mem_iff_getElem?.2 ⟨3, rfl⟩
theorem laid_met (os : Os) (args : Array Value) : laidMet Tryz.prog Rows.courseDaysRow.laid ((laidWorld Rows.courseDaysRow.laid os).forCall (fun _ _ => 0) ⟨#[], args, []⟩).memory :=
  laidMet_of_run' 8 (by kernel_rfl) (by kernel_rfl)

theorem contract (H : Type) (enc : TypeId × Value → H) (W : World) (args : Array Value) (ds gs : List (DataW H)) (before : List MemPlace)
    (hval : ∀ (j : Nat) t v, Tryz.f10.params[j]? = some t → args[j]? = some v → Value.okWide Tryz.prog W .any 0 t v)
    (hW : DataW.Whole enc Tryz.prog Tryz.f10.params.toList Rows.courseDaysSpec.vars false W args.toList ds gs before) (hm : laidMet Tryz.prog Rows.courseDaysRow.laid W) :
    Calls Tryz.prog 10 args W fun e W' => ∃ v, e = .returned v ∧ Rows.courseDaysSpec.post enc Tryz.prog Tryz.f10 false true false false W args v W' :=
  law_callG (tb := 4) laidOut Tryz.underlying4 (by kernel_rfl) (List.all_eq_true.1 (by kernel_rfl : Tryz.f10.params.toList.all (carryB Tryz.prog) = true)) enc rfl (fun ds hl => by
    rw [Tryz.params10] at hl
    match ds, hl with
    | [d1, d2, d3], _ => rfl) W args ds gs before hval hW (gl_of laid_has hm) law10

theorem reads (os : Os) {H : Type} (enc : TypeId × Value → H) : DataW.whole enc Tryz.prog ((laidWorld Rows.courseDaysRow.laid os).forCall (fun _ _ => 0) ⟨#[], #[.int .i64 0, .slice none 0 0, .slice none 0 0], []⟩).memory Tryz.f10.params.toList Rows.courseDaysSpec.vars false (#[.int .i64 0, .slice none 0 0, .slice none 0 0] : Array Value).toList 8 = some ([.lit (.int .i64 0), .nil, .nil], [], []) := by kernel_rfl

theorem lifted (os : Os) (started : os.Started) (H : Type) (enc : TypeId × Value → H) (F : Stop.Interp) :
    ReturnsInHanded {} Tryz.checked os 10 .any ((OpenSpec.ofChange Rows.courseDaysSpec).preRow enc Tryz.prog Tryz.f10 Rows.courseDaysRow.domain false Rows.courseDaysRow.laid) (((OpenSpec.ofChange Rows.courseDaysSpec).at F).post enc Tryz.prog Tryz.f10 false true false false) := by
  refine returnsInHanded_of_row (C := Tryz.checked) (s := OpenSpec.ofChange Rows.courseDaysSpec) own started (by kernel_rfl) Tryz.func10
    (witness_row_at (enc := enc) (C := Tryz.checked) false (laidWorld Rows.courseDaysRow.laid os) #[.int .i64 0, .slice none 0 0, .slice none 0 0] rfl (by kernel_rfl) (by kernel_rfl) (by kernel_rfl)
      (OpenSpec.preRow_of_cond 8 (reads os enc) (by kernel_rfl) (fun k hk => by cases hk) (by kernel_rfl) (laid_met os _))) ?_
  intro W base args ds gs before hval hW _ _ _ hm _ _
  exact contract H enc W args ds gs before (fun j t v ht hv => hval j t v ht hv) hW hm

theorem jName : Tryz.pinned.checked.prog.funcNamed Rows.courseDaysRow.func = some 10 := by kernel_rfl
theorem jIn : Tryz.pinned.checked.prog.inPlace 10 = Rows.courseDaysRow.inPlace := by kernel_rfl
theorem jUn : Tryz.pinned.checked.prog.unfollowed 10 = Rows.courseDaysRow.unfollowed := by kernel_rfl
theorem jRe : Tryz.pinned.checked.prog.recurses 10 = Rows.courseDaysRow.recurses := by kernel_rfl
theorem jVa : Tryz.pinned.checked.prog.varsNamed 10 = Rows.courseDaysRow.named := by kernel_rfl
theorem jAll : joinedFacts Tryz.pinned.checked.prog 10 Tryz.f10 (OpenSpec.ofChange Rows.courseDaysSpec).bare Rows.courseDaysRow = true := by
  unfold joinedFacts
  rw [jIn, jUn, jRe, jVa]
  kernel_rfl
theorem jInst : Tryz.f10.isInstance Tryz.pinned.checked.prog Rows.courseDaysRow.origin Rows.courseDaysRow.targs := of_decide_eq_true (by kernel_rfl)
theorem jWrap : Tryz.f10.isWrapper Tryz.pinned.checked.prog Rows.courseDaysRow.wrapper Rows.courseDaysRow.mainSum := by unfold Func.isWrapper; first | (rw [if_pos (by decide +kernel)]; kernel_rfl) | (rw [if_neg (by decide +kernel)]; exact ⟨rfl, rfl⟩)
theorem said : Rows.CourseDaysSaid :=
  OpenClaim.holds_of_cond 10 Tryz.f10 rfl rfl rfl rfl rfl rfl rfl ⟨rfl, rfl, rfl, rfl, rfl⟩ rfl rfl rfl rfl rfl jName Tryz.func10 jAll jInst jWrap
    (fun os started H enc _ F => by rw [OpenClaim.pre_eq_preRow]; exact lifted os started H enc F)

theorem plain (f : FuncId) (fn : Func) (hf : Tryz.pinned.checked.prog.funcNamed Rows.courseDaysRow.func = some f) (hfn : Tryz.pinned.checked.prog.funcs[f]? = some fn) :
    true = Tryz.pinned.checked.prog.looks [] ∧ ∀ (j : Nat) t, fn.params[j]? = some t → Tryz.pinned.checked.prog.wantsStandIn t = false := by
  obtain rfl : f = 10 := Option.some.inj (jName.symm.trans hf) |>.symm
  obtain rfl : fn = Tryz.f10 := (Option.some.inj (Tryz.func10.symm.trans hfn)).symm
  refine ⟨looks0, fun j t ht => ?_⟩
  have hall : Tryz.f10.params.toList.all (fun t => !Tryz.prog.wantsStandIn t) = true := by kernel_rfl
  have := List.all_eq_true.1 hall t (by simpa using Array.mem_of_getElem? ht)
  exact (by simpa using this : Tryz.prog.wantsStandIn t = false)
theorem jForm : Rows.courseDaysRow.wfByText (OpenSpec.ofChange Rows.courseDaysSpec) = true := by kernel_rfl
theorem jGoes : false = Rows.courseDaysRow.goesBy Tryz.pinned.checked.prog := by kernel_rfl

theorem card : Rows.CourseDaysCardSaid :=
  Claim7.holds_tied_plain_at .later [] _ _ _ _ said (fun _ h => by cases h) jForm (fun _ h => by cases h) courseDays_row_tie rfl ⟨rfl, rfl⟩ main0 rfl plain jGoes
end Go.Proofs.YtmhbhlbnlmbhlaaGreatDoor.courseDays
end
