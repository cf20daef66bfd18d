/-
  CoursePlanned: the days fulfil all conditions, each day is 0 or follows from one that is just fulfilled, a contradiction is one, and conditions that are added keep or break them, for all conditions.
-/
import Derived.Test.YtmhbhlbnlmbhlaaGreatDoorCrLaw
import Derived.Test.YtmhbhlbnlmbhlaaGreatDoorCrO
import Derived.Test.YtmhbhlbnlmbhlaaGreatDoorCrP
section
namespace Go.Pd
open Go Go.Proofs Go.RowKit
set_option maxRecDepth 100000
theorem law11 (cs : List (List D)) (h : AllTy Tryz.prog 12 Tryz.f11.params.toList cs) (hb : ∀ g m c, (argsOf Tryz.prog Tryz.f11.params.toList cs)[1]? = some (.slc g m c) → m * 24 ≤ reachBytes) : CallOK Tryz.prog glO 11 (argsOf Tryz.prog Tryz.f11.params.toList cs) (.bool true) := by
  rw [Tryz.params11] at h hb ⊢
  obtain ⟨c1, c2, c3, rfl, h1, h2, h3⟩ := all_ty3 h
  obtain ⟨x, rfl, _⟩ := ty_int Tryz.underlying3 h1
  obtain ⟨L, rfl⟩ := ty_rules h2
  obtain ⟨y, rfl, hy⟩ := ty_int Tryz.underlying5 h3
  have e : argsOf Tryz.prog #[3, 97, 5].toList [[.int .i64 x], [.slc false L.length (rzC L)], [.int .u8 y]] = [.int .i64 x, .slc false L.length (rzC L), .int .u8 y] := by
    simp [argsOf, argOf, isAggD, Tryz.underlying3, Tryz.underlying97, Tryz.underlying5]
  rw [e] at hb ⊢
  have h24 := hb _ _ _ rfl
  exact ok11 x L (Nat.le_of_lt (Nat.lt_of_le_of_lt h24 reachBytes_lt)) y (u8_in hy)
end Go.Pd
namespace Go.Proofs.YtmhbhlbnlmbhlaaGreatDoor.coursePlanned
set_option maxRecDepth 100000
open Go Go.Pd Go.ChangeShapes Go.WideShapes Go.ChangeAt Go.RowKit

theorem laid_has : ("niblick/course.order", Rows.laid_niblick_course_order) ∈ Rows.coursePlannedRow.laid := List.mem_iff_getElem?.2 ⟨3, rfl⟩
theorem laid_met (os : Os) (args : Array Value) : laidMet Tryz.prog Rows.coursePlannedRow.laid ((laidWorld Rows.coursePlannedRow.laid os).forCall (fun _ _ => 0) ⟨#[], args, []⟩).memory :=
  laidMet_of_run' 8 (by kernel_rfl) (by kernel_rfl)

theorem contract (H : Type) (enc : TypeId × Value → H) (W : World) (args : Array Value) (ds gs : List (DataW H)) (before : List MemPlace)
    (hval : ∀ (j : Nat) t v, Tryz.f11.params[j]? = some t → args[j]? = some v → Value.okWide Tryz.prog W .any 0 t v)
    (hW : DataW.Whole enc Tryz.prog Tryz.f11.params.toList Rows.coursePlannedSpec.vars false W args.toList ds gs before) (hm : laidMet Tryz.prog Rows.coursePlannedRow.laid W)
    (hw : (DataW.weightsEach Tryz.prog (Tryz.f11.params.toList ++ (OpenSpec.ofChange Rows.coursePlannedSpec).bare.plain.varTypes Tryz.prog) (ds ++ gs)).all (· ≤ reachBytes) = true) :
    Calls Tryz.prog 11 args W fun e W' => ∃ v, e = .returned v ∧ Rows.coursePlannedSpec.post enc Tryz.prog Tryz.f11 false true false false W args v W' :=
  law_callWG (tb := 4) laidOut Tryz.underlying4 (by kernel_rfl) (List.all_eq_true.1 (by kernel_rfl : Tryz.f11.params.toList.all (carryB Tryz.prog) = true)) enc rfl (fun ds hl => by
    rw [Tryz.params11] at hl
    match ds, hl with
    | [d1, d2, d3], _ => rfl) W args ds gs before hval hW (gl_of laid_has hm) fun cs hcs ⟨p, hA⟩ hr => law11 cs hcs fun g m c hd => by
      rw [show Tryz.f11.params.toList = [3, 97, 5] by rw [Tryz.params11]] at hA
      obtain ⟨v0, vs0, d0, ds0, p0, q0, hvs0, hds0, _, hv0, hA0⟩ := trodAll_cons hA
      obtain ⟨v1, vs1, d1, ds1, p1, q1, hvs1, hds1, _, hv1, hA1⟩ := trodAll_cons hA0
      have hrel := hr 1 _ v1 hd (by rw [hvs0, hvs1]; rfl)
      have hb := len_boundS Tryz.underlying97 hv1 (fun k hk => by
        have := List.all_eq_true.1 hw k (DataW.weights_mem_each (j := 1) (t := 97) (d := d1) (by rw [Tryz.params11]; rfl) (by rw [hds0, hds1]; rfl) k hk)
        simpa using this) hrel
      rw [show Tryz.prog.bytesOf 109 = 24 by kernel_rfl] at hb
      exact hb

theorem reads (os : Os) {H : Type} (enc : TypeId × Value → H) : DataW.whole enc Tryz.prog ((laidWorld Rows.coursePlannedRow.laid os).forCall (fun _ _ => 0) ⟨#[], #[.int .i64 0, .slice none 0 0, .int .u8 0], []⟩).memory Tryz.f11.params.toList Rows.coursePlannedSpec.vars false (#[.int .i64 0, .slice none 0 0, .int .u8 0] : Array Value).toList 8 = some ([.lit (.int .i64 0), .nil, .lit (.int .u8 0)], [], []) := by kernel_rfl

theorem lifted (os : Os) (started : os.Started) (H : Type) (enc : TypeId × Value → H) (F : Stop.Interp) :
    ReturnsInHanded {} Tryz.checked os 11 .any ((OpenSpec.ofChange Rows.coursePlannedSpec).preRow enc Tryz.prog Tryz.f11 Rows.coursePlannedRow.domain false Rows.coursePlannedRow.laid) (((OpenSpec.ofChange Rows.coursePlannedSpec).at F).post enc Tryz.prog Tryz.f11 false true false false) := by
  refine returnsInHanded_of_row (C := Tryz.checked) (s := OpenSpec.ofChange Rows.coursePlannedSpec) own started (by kernel_rfl) Tryz.func11
    (witness_row_at (enc := enc) (C := Tryz.checked) false (laidWorld Rows.coursePlannedRow.laid os) #[.int .i64 0, .slice none 0 0, .int .u8 0] rfl (by kernel_rfl) (by kernel_rfl) (by kernel_rfl)
      (OpenSpec.preRow_of_cond 8 (reads os enc) (by kernel_rfl) (fun k hk => by cases hk) (by kernel_rfl) (laid_met os _))) ?_
  intro W base args ds gs before hval hW _ _ hw hm _ _
  exact contract H enc W args ds gs before (fun j t v ht hv => hval j t v ht hv) hW hm hw

theorem jName : Tryz.pinned.checked.prog.funcNamed Rows.coursePlannedRow.func = some 11 := by kernel_rfl
theorem jIn : Tryz.pinned.checked.prog.inPlace 11 = Rows.coursePlannedRow.inPlace := by kernel_rfl
theorem jUn : Tryz.pinned.checked.prog.unfollowed 11 = Rows.coursePlannedRow.unfollowed := by kernel_rfl
theorem jRe : Tryz.pinned.checked.prog.recurses 11 = Rows.coursePlannedRow.recurses := by kernel_rfl
theorem jVa : Tryz.pinned.checked.prog.varsNamed 11 = Rows.coursePlannedRow.named := by kernel_rfl
theorem jAll : joinedFacts Tryz.pinned.checked.prog 11 Tryz.f11 (OpenSpec.ofChange Rows.coursePlannedSpec).bare Rows.coursePlannedRow = true := by
  unfold joinedFacts
  rw [jIn, jUn, jRe, jVa]
  kernel_rfl
theorem jInst : Tryz.f11.isInstance Tryz.pinned.checked.prog Rows.coursePlannedRow.origin Rows.coursePlannedRow.targs := of_decide_eq_true (by kernel_rfl)
theorem jWrap : Tryz.f11.isWrapper Tryz.pinned.checked.prog Rows.coursePlannedRow.wrapper Rows.coursePlannedRow.mainSum := by unfold Func.isWrapper; first | (rw [if_pos (by decide +kernel)]; kernel_rfl) | (rw [if_neg (by decide +kernel)]; exact ⟨rfl, rfl⟩)
theorem said : Rows.CoursePlannedSaid :=
  OpenClaim.holds_of_cond 11 Tryz.f11 rfl rfl rfl rfl rfl rfl rfl ⟨rfl, rfl, rfl, rfl, rfl⟩ rfl rfl rfl rfl rfl jName Tryz.func11 jAll jInst jWrap
    (fun os started H enc _ F => by rw [OpenClaim.pre_eq_preRow]; exact lifted os started H enc F)

theorem plain (f : FuncId) (fn : Func) (hf : Tryz.pinned.checked.prog.funcNamed Rows.coursePlannedRow.func = some f) (hfn : Tryz.pinned.checked.prog.funcs[f]? = some fn) :
    true = Tryz.pinned.checked.prog.looks [] ∧ ∀ (j : Nat) t, fn.params[j]? = some t → Tryz.pinned.checked.prog.wantsStandIn t = false := by
  obtain rfl : f = 11 := Option.some.inj (jName.symm.trans hf) |>.symm
  obtain rfl : fn = Tryz.f11 := (Option.some.inj (Tryz.func11.symm.trans hfn)).symm
  refine ⟨looks0, fun j t ht => ?_⟩
  have hall : Tryz.f11.params.toList.all (fun t => !Tryz.prog.wantsStandIn t) = true := by kernel_rfl
  have := List.all_eq_true.1 hall t (by simpa using Array.mem_of_getElem? ht)
  exact (by simpa using this : Tryz.prog.wantsStandIn t = false)
theorem jForm : Rows.coursePlannedRow.wfByText (OpenSpec.ofChange Rows.coursePlannedSpec) = true := by kernel_rfl
theorem jGoes : false = Rows.coursePlannedRow.goesBy Tryz.pinned.checked.prog := by kernel_rfl

theorem card : Rows.CoursePlannedCardSaid :=
  Claim7.holds_tied_plain_at .later [] _ _ _ _ said (fun _ h => by cases h) jForm (fun _ h => by cases h) coursePlanned_row_tie rfl ⟨rfl, rfl⟩ main0 rfl plain jGoes
end Go.Proofs.YtmhbhlbnlmbhlaaGreatDoor.coursePlanned
end
