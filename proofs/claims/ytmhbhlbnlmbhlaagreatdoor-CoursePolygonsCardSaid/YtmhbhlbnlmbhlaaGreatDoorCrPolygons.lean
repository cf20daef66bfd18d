/-
  CoursePolygons: Twice, Contains and CheckPolygon return the results or the errors of the reference, for all polygons.
-/
import Derived.Test.YtmhbhlbnlmbhlaaGreatDoorCrLaw
import Derived.Test.YtmhbhlbnlmbhlaaGreatDoorCrI
import Derived.Test.YtmhbhlbnlmbhlaaGreatDoorCrJ
section
namespace Go.Pd
open Go Go.Proofs Go.RowKit
set_option maxRecDepth 100000
theorem law9 (cs : List (List D)) (h : AllTy Tryz.prog 12 Tryz.f9.params.toList cs) : CallOK Tryz.prog glO 9 (argsOf Tryz.prog Tryz.f9.params.toList cs) (.bool true) := by
  rw [Tryz.params9] at h ⊢
  obtain ⟨c1, c2, c3, rfl, h1, h2, h3⟩ := all_ty3 h
  obtain ⟨l, rfl⟩ := ty_pts h1
  obtain ⟨p, rfl⟩ := ty_pt h2
  obtain ⟨q, rfl⟩ := ty_pt h3
  have e : argsOf Tryz.prog #[24, 23, 23].toList [[.slc false l.length (ptsC l)], ptC p, ptC q] = [.slc false l.length (ptsC l), ptD p, ptD q] := by
    simp [argsOf, argOf, isAggD, Tryz.underlying24, Tryz.underlying23, ptC]
  rw [e]
  exact ok9 ok17 l p q
end Go.Pd
namespace Go.Proofs.YtmhbhlbnlmbhlaaGreatDoor.coursePolygons
set_option maxRecDepth 100000
open Go Go.Pd Go.ChangeShapes Go.WideShapes Go.ChangeAt Go.RowKit

theorem laid_has : ("niblick/course.order", Rows.laid_niblick_course_order) ∈ Rows.coursePolygonsRow.laid := List.mem_iff_getElem?.2 ⟨3, rfl⟩
theorem laid_met (os : Os) (args : Array Value) : laidMet Tryz.prog Rows.coursePolygonsRow.laid ((laidWorld Rows.coursePolygonsRow.laid os).forCall (fun _ _ => 0) ⟨#[], args, []⟩).memory :=
  laidMet_of_run' 8 (by kernel_rfl) (by kernel_rfl)

theorem contract (H : Type) (enc : TypeId × Value → H) (W : World) (args : Array Value) (ds gs : List (DataW H)) (before : List MemPlace)
    (hval : ∀ (j : Nat) t v, Tryz.f9.params[j]? = some t → args[j]? = some v → Value.okWide Tryz.prog W .any 0 t v)
    (hW : DataW.Whole enc Tryz.prog Tryz.f9.params.toList Rows.coursePolygonsSpec.vars false W args.toList ds gs before) (hm : laidMet Tryz.prog Rows.coursePolygonsRow.laid W) :
    Calls Tryz.prog 9 args W fun e W' => ∃ v, e = .returned v ∧ Rows.coursePolygonsSpec.post enc Tryz.prog Tryz.f9 false true false false W args v W' :=
  law_callG (tb := 4) laidOut Tryz.underlying4 (by kernel_rfl) (List.all_eq_true.1 (by kernel_rfl : Tryz.f9.params.toList.all (carryB Tryz.prog) = true)) enc rfl (fun ds hl => by
    rw [Tryz.params9] at hl
    match ds, hl with
    | [d1, d2, d3], _ => rfl) W args ds gs before hval hW (gl_of laid_has hm) law9

theorem reads (os : Os) {H : Type} (enc : TypeId × Value → H) : DataW.whole enc Tryz.prog ((laidWorld Rows.coursePolygonsRow.laid os).forCall (fun _ _ => 0) ⟨#[], #[.slice none 0 0, .agg #[.int .i64 0, .int .i64 0], .agg #[.int .i64 0, .int .i64 0]], []⟩).memory Tryz.f9.params.toList Rows.coursePolygonsSpec.vars false (#[.slice none 0 0, .agg #[.int .i64 0, .int .i64 0], .agg #[.int .i64 0, .int .i64 0]] : Array Value).toList 8 = some ([.nil, .agg [.lit (.int .i64 0), .lit (.int .i64 0)], .agg [.lit (.int .i64 0), .lit (.int .i64 0)]], [], []) := by kernel_rfl

theorem lifted (os : Os) (started : os.Started) (H : Type) (enc : TypeId × Value → H) (F : Stop.Interp) :
    ReturnsInHanded {} Tryz.checked os 9 .any ((OpenSpec.ofChange Rows.coursePolygonsSpec).preRow enc Tryz.prog Tryz.f9 Rows.coursePolygonsRow.domain false Rows.coursePolygonsRow.laid) (((OpenSpec.ofChange Rows.coursePolygonsSpec).at F).post enc Tryz.prog Tryz.f9 false true false false) := by
  refine returnsInHanded_of_row (C := Tryz.checked) (s := OpenSpec.ofChange Rows.coursePolygonsSpec) own started (by kernel_rfl) Tryz.func9
    (witness_row_at (enc := enc) (C := Tryz.checked) false (laidWorld Rows.coursePolygonsRow.laid os) #[.slice none 0 0, .agg #[.int .i64 0, .int .i64 0], .agg #[.int .i64 0, .int .i64 0]] rfl (by kernel_rfl) (by kernel_rfl) (by kernel_rfl)
      (OpenSpec.preRow_of_cond 8 (reads os enc) (by kernel_rfl) (fun k hk => by cases hk) (by kernel_rfl) (laid_met os _))) ?_
  intro W base args ds gs before hval hW _ _ _ hm _ _
  exact contract H enc W args ds gs before (fun j t v ht hv => hval j t v ht hv) hW hm

theorem jName : Tryz.pinned.checked.prog.funcNamed Rows.coursePolygonsRow.func = some 9 := by kernel_rfl
theorem jIn : Tryz.pinned.checked.prog.inPlace 9 = Rows.coursePolygonsRow.inPlace := by kernel_rfl
theorem jUn : Tryz.pinned.checked.prog.unfollowed 9 = Rows.coursePolygonsRow.unfollowed := by kernel_rfl
theorem jRe : Tryz.pinned.checked.prog.recurses 9 = Rows.coursePolygonsRow.recurses := by kernel_rfl
theorem jVa : Tryz.pinned.checked.prog.varsNamed 9 = Rows.coursePolygonsRow.named := by kernel_rfl
theorem jAll : joinedFacts Tryz.pinned.checked.prog 9 Tryz.f9 (OpenSpec.ofChange Rows.coursePolygonsSpec).bare Rows.coursePolygonsRow = true := by
  unfold joinedFacts
  rw [jIn, jUn, jRe, jVa]
  kernel_rfl
theorem jInst : Tryz.f9.isInstance Tryz.pinned.checked.prog Rows.coursePolygonsRow.origin Rows.coursePolygonsRow.targs := of_decide_eq_true (by kernel_rfl)
theorem jWrap : Tryz.f9.isWrapper Tryz.pinned.checked.prog Rows.coursePolygonsRow.wrapper Rows.coursePolygonsRow.mainSum := by unfold Func.isWrapper; first | (rw [if_pos (by decide +kernel)]; kernel_rfl) | (rw [if_neg (by decide +kernel)]; exact ⟨rfl, rfl⟩)
theorem said : Rows.CoursePolygonsSaid :=
  OpenClaim.holds_of_cond 9 Tryz.f9 rfl rfl rfl rfl rfl rfl rfl ⟨rfl, rfl, rfl, rfl, rfl⟩ rfl rfl rfl rfl rfl jName Tryz.func9 jAll jInst jWrap
    (fun os started H enc _ F => by rw [OpenClaim.pre_eq_preRow]; exact lifted os started H enc F)

theorem plain (f : FuncId) (fn : Func) (hf : Tryz.pinned.checked.prog.funcNamed Rows.coursePolygonsRow.func = some f) (hfn : Tryz.pinned.checked.prog.funcs[f]? = some fn) :
    true = Tryz.pinned.checked.prog.looks [] ∧ ∀ (j : Nat) t, fn.params[j]? = some t → Tryz.pinned.checked.prog.wantsStandIn t = false := by
  obtain rfl : f = 9 := Option.some.inj (jName.symm.trans hf) |>.symm
  obtain rfl : fn = Tryz.f9 := (Option.some.inj (Tryz.func9.symm.trans hfn)).symm
  refine ⟨looks0, fun j t ht => ?_⟩
  have hall : Tryz.f9.params.toList.all (fun t => !Tryz.prog.wantsStandIn t) = true := by kernel_rfl
  have := List.all_eq_true.1 hall t (by simpa using Array.mem_of_getElem? ht)
  exact (by simpa using this : Tryz.prog.wantsStandIn t = false)
theorem jForm : Rows.coursePolygonsRow.wfByText (OpenSpec.ofChange Rows.coursePolygonsSpec) = true := by kernel_rfl
theorem jGoes : false = Rows.coursePolygonsRow.goesBy Tryz.pinned.checked.prog := by kernel_rfl

/-- THE CARD. -/
theorem card : Rows.CoursePolygonsCardSaid :=
  Claim7.holds_tied_plain_at .later [] _ _ _ _ said (fun _ h => by cases h) jForm (fun _ h => by cases h) coursePolygons_row_tie rfl ⟨rfl, rfl⟩ main0 rfl plain jGoes
end Go.Proofs.YtmhbhlbnlmbhlaaGreatDoor.coursePolygons
end
