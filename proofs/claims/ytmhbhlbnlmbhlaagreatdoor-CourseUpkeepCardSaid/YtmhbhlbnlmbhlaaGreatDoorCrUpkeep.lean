/-
  CourseUpkeep: Rotation and Rounds return the results or the errors of the reference, for all places, numbers and flows.
-/
import Derived.Test.YtmhbhlbnlmbhlaaGreatDoorCrLaw
import Derived.Test.YtmhbhlbnlmbhlaaGreatDoorCrN
section
namespace Go.Pd
open Go Go.Proofs Go.RowKit
set_option maxRecDepth 100000
theorem law6 (cs : List (List D)) (h : AllTy Tryz.prog 12 Tryz.f6.params.toList cs) : CallOK Tryz.prog glO 6 (argsOf Tryz.prog Tryz.f6.params.toList cs) (.bool true) := by
  rw [Tryz.params6] at h ⊢
  obtain ⟨c1, c2, c3, rfl, h1, h2, h3⟩ := all_ty3 h
  obtain ⟨l, rfl⟩ := ty_pts h1
  obtain ⟨x, y, rfl⟩ := ty_two h2
  obtain ⟨fl, rfl⟩ := ty_ints h3
  have e : argsOf Tryz.prog #[24, 68, 69].toList [[.slc false l.length (ptsC l)], [.int .i64 x, .int .i64 y], [.slc false fl.length (ints fl)]] = [.slc false l.length (ptsC l), .agg [.int .i64 x, .int .i64 y], .slc false fl.length (ints fl)] := by
    simp [argsOf, argOf, isAggD, Tryz.underlying24, Tryz.underlying68, Tryz.underlying69]
  rw [e]
  exact ok6 l x y fl
end Go.Pd
namespace Go.Proofs.YtmhbhlbnlmbhlaaGreatDoor.courseUpkeep
set_option maxRecDepth 100000
open Go Go.Pd Go.ChangeShapes Go.WideShapes Go.ChangeAt Go.RowKit

theorem laid_has : ("niblick/course.order", Rows.laid_niblick_course_order) ∈ Rows.courseUpkeepRow.laid := List.mem_iff_getElem?.2 ⟨3, rfl⟩
theorem laid_met (os : Os) (args : Array Value) : laidMet Tryz.prog Rows.courseUpkeepRow.laid ((laidWorld Rows.courseUpkeepRow.laid os).forCall (fun _ _ => 0) ⟨#[], args, []⟩).memory :=
  laidMet_of_run' 8 (by kernel_rfl) (by kernel_rfl)

theorem contract (H : Type) (enc : TypeId × Value → H) (W : World) (args : Array Value) (ds gs : List (DataW H)) (before : List MemPlace)
    (hval : ∀ (j : Nat) t v, Tryz.f6.params[j]? = some t → args[j]? = some v → Value.okWide Tryz.prog W .any 0 t v)
    (hW : DataW.Whole enc Tryz.prog Tryz.f6.params.toList Rows.courseUpkeepSpec.vars false W args.toList ds gs before) (hm : laidMet Tryz.prog Rows.courseUpkeepRow.laid W) :
    Calls Tryz.prog 6 args W fun e W' => ∃ v, e = .returned v ∧ Rows.courseUpkeepSpec.post enc Tryz.prog Tryz.f6 false true false false W args v W' :=
  law_callG (tb := 4) laidOut Tryz.underlying4 (by kernel_rfl) (List.all_eq_true.1 (by kernel_rfl : Tryz.f6.params.toList.all (carryB Tryz.prog) = true)) enc rfl (fun ds hl => by
    rw [Tryz.params6] at hl
    match ds, hl with
    | [d1, d2, d3], _ => rfl) W args ds gs before hval hW (gl_of laid_has hm) law6

theorem reads (os : Os) {H : Type} (enc : TypeId × Value → H) : DataW.whole enc Tryz.prog ((laidWorld Rows.courseUpkeepRow.laid os).forCall (fun _ _ => 0) ⟨#[], #[.slice none 0 0, .agg #[.int .i64 0, .int .i64 0], .slice none 0 0], []⟩).memory Tryz.f6.params.toList Rows.courseUpkeepSpec.vars false (#[.slice none 0 0, .agg #[.int .i64 0, .int .i64 0], .slice none 0 0] : Array Value).toList 8 = some ([.nil, .agg [.lit (.int .i64 0), .lit (.int .i64 0)], .nil], [], []) := by kernel_rfl

theorem lifted (os : Os) (started : os.Started) (H : Type) (enc : TypeId × Value → H) (F : Stop.Interp) :
    ReturnsInHanded {} Tryz.checked os 6 .any ((OpenSpec.ofChange Rows.courseUpkeepSpec).preRow enc Tryz.prog Tryz.f6 Rows.courseUpkeepRow.domain false Rows.courseUpkeepRow.laid) (((OpenSpec.ofChange Rows.courseUpkeepSpec).at F).post enc Tryz.prog Tryz.f6 false true false false) := by
  refine returnsInHanded_of_row (C := Tryz.checked) (s := OpenSpec.ofChange Rows.courseUpkeepSpec) own started (by kernel_rfl) Tryz.func6
    (witness_row_at (enc := enc) (C := Tryz.checked) false (laidWorld Rows.courseUpkeepRow.laid os) #[.slice none 0 0, .agg #[.int .i64 0, .int .i64 0], .slice none 0 0] rfl (by kernel_rfl) (by kernel_rfl) (by kernel_rfl)
      (OpenSpec.preRow_of_cond 8 (reads os enc) (by kernel_rfl) (fun k hk => by cases hk) (by kernel_rfl) (laid_met os _))) ?_
  intro W base args ds gs before hval hW _ _ _ hm _ _
  exact contract H enc W args ds gs before (fun j t v ht hv => hval j t v ht hv) hW hm

theorem jName : Tryz.pinned.checked.prog.funcNamed Rows.courseUpkeepRow.func = some 6 := by kernel_rfl
theorem jIn : Tryz.pinned.checked.prog.inPlace 6 = Rows.courseUpkeepRow.inPlace := by kernel_rfl
theorem jUn : Tryz.pinned.checked.prog.unfollowed 6 = Rows.courseUpkeepRow.unfollowed := by kernel_rfl
theorem jRe : Tryz.pinned.checked.prog.recurses 6 = Rows.courseUpkeepRow.recurses := by kernel_rfl
theorem jVa : Tryz.pinned.checked.prog.varsNamed 6 = Rows.courseUpkeepRow.named := by kernel_rfl
theorem jAll : joinedFacts Tryz.pinned.checked.prog 6 Tryz.f6 (OpenSpec.ofChange Rows.courseUpkeepSpec).bare Rows.courseUpkeepRow = true := by
  unfold joinedFacts
  rw [jIn, jUn, jRe, jVa]
  kernel_rfl
theorem jInst : Tryz.f6.isInstance Tryz.pinned.checked.prog Rows.courseUpkeepRow.origin Rows.courseUpkeepRow.targs := of_decide_eq_true (by kernel_rfl)
theorem jWrap : Tryz.f6.isWrapper Tryz.pinned.checked.prog Rows.courseUpkeepRow.wrapper Rows.courseUpkeepRow.mainSum := by unfold Func.isWrapper; first | (rw [if_pos (by decide +kernel)]; kernel_rfl) | (rw [if_neg (by decide +kernel)]; exact ⟨rfl, rfl⟩)
theorem said : Rows.CourseUpkeepSaid :=
  OpenClaim.holds_of_cond 6 Tryz.f6 rfl rfl rfl rfl rfl rfl rfl ⟨rfl, rfl, rfl, rfl, rfl⟩ rfl rfl rfl rfl rfl jName Tryz.func6 jAll jInst jWrap
    (fun os started H enc _ F => by rw [OpenClaim.pre_eq_preRow]; exact lifted os started H enc F)

theorem plain (f : FuncId) (fn : Func) (hf : Tryz.pinned.checked.prog.funcNamed Rows.courseUpkeepRow.func = some f) (hfn : Tryz.pinned.checked.prog.funcs[f]? = some fn) :
    true = Tryz.pinned.checked.prog.looks [] ∧ ∀ (j : Nat) t, fn.params[j]? = some t → Tryz.pinned.checked.prog.wantsStandIn t = false := by
  obtain rfl : f = 6 := Option.some.inj (jName.symm.trans hf) |>.symm
  obtain rfl : fn = Tryz.f6 := (Option.some.inj (Tryz.func6.symm.trans hfn)).symm
  refine ⟨looks0, fun j t ht => ?_⟩
  have hall : Tryz.f6.params.toList.all (fun t => !Tryz.prog.wantsStandIn t) = true := by kernel_rfl
  have := List.all_eq_true.1 hall t (by simpa using Array.mem_of_getElem? ht)
  exact (by simpa using this : Tryz.prog.wantsStandIn t = false)
theorem jForm : Rows.courseUpkeepRow.wfByText (OpenSpec.ofChange Rows.courseUpkeepSpec) = true := by kernel_rfl
theorem jGoes : false = Rows.courseUpkeepRow.goesBy Tryz.pinned.checked.prog := by kernel_rfl

theorem card : Rows.CourseUpkeepCardSaid :=
  Claim7.holds_tied_plain_at .later [] _ _ _ _ said (fun _ h => by cases h) jForm (fun _ h => by cases h) courseUpkeep_row_tie rfl ⟨rfl, rfl⟩ main0 rfl plain jGoes
end Go.Proofs.YtmhbhlbnlmbhlaaGreatDoor.courseUpkeep
end
