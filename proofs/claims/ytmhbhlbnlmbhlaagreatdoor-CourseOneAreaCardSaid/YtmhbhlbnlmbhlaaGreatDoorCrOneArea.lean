/-
  CourseOneArea: a place lies in one area alone, for all holes, places and turns.
-/
import Derived.Test.YtmhbhlbnlmbhlaaGreatDoorCrLaw
import Derived.Test.YtmhbhlbnlmbhlaaGreatDoorCrK
import Derived.Test.YtmhbhlbnlmbhlaaGreatDoorCrP
import Derived.Test.YtmhbhlbnlmbhlaaGreatDoorCrS
section
namespace Go.Pd
open Go Go.Proofs Go.RowKit
set_option maxRecDepth 100000
theorem law7 (cs : List (List D)) (h : AllTy Tryz.prog 12 Tryz.f7.params.toList cs) (hb : ∀ cs' g m c, (argsOf Tryz.prog Tryz.f7.params.toList cs)[0]? = some (.agg cs') → cs'[6]? = some (.slc g m c) → m * 40 ≤ reachBytes) : CallOK Tryz.prog glO 7 (argsOf Tryz.prog Tryz.f7.params.toList cs) (.bool true) := by
  rw [Tryz.params7] at h hb ⊢
  obtain ⟨c1, c2, c3, rfl, h1, h2, h3⟩ := all_ty3 h
  obtain ⟨hl, rfl⟩ := ty_hole h1
  obtain ⟨p, rfl⟩ := ty_pt h2
  obtain ⟨y, rfl, hy⟩ := ty_int Tryz.underlying5 h3
  obtain ⟨y0, y1⟩ := u8_in hy
  obtain ⟨t, rfl⟩ : ∃ t : Nat, y = (t : Int) := ⟨y.toNat, by omega⟩
  have e : argsOf Tryz.prog #[27, 23, 5].toList [hl.cells, ptC p, [.int .u8 (t : Int)]] = [holeD hl, ptD p, .int .u8 (t : Int)] := by
    simp [argsOf, argOf, isAggD, Tryz.underlying27, Tryz.underlying23, Tryz.underlying5, ptC, Hl.cells]
  rw [e] at hb ⊢
  have h40 := hb _ _ _ _ rfl rfl
  exact ok7 hl (Nat.le_of_lt (Nat.lt_of_le_of_lt h40 reachBytes_lt)) p t (by omega)
end Go.Pd
namespace Go.Proofs.YtmhbhlbnlmbhlaaGreatDoor.courseOneArea
set_option maxRecDepth 100000
open Go Go.Pd Go.ChangeShapes Go.WideShapes Go.ChangeAt Go.RowKit
theorem laid_has : ("niblick/course.order", Rows.laid_niblick_course_order) ∈ Rows.courseOneAreaRow.laid := List.mem_iff_getElem?.2 ⟨3, rfl⟩
theorem laid_met (os : Os) (args : Array Value) : laidMet Tryz.prog Rows.courseOneAreaRow.laid ((laidWorld Rows.courseOneAreaRow.laid os).forCall (fun _ _ => 0) ⟨#[], args, []⟩).memory :=
  laidMet_of_run' 8 (by kernel_rfl) (by kernel_rfl)
theorem contract (H : Type) (enc : TypeId × Value → H) (W : World) (args : Array Value) (ds gs : List (DataW H)) (before : List MemPlace)
    (hval : ∀ (j : Nat) t v, Tryz.f7.params[j]? = some t → args[j]? = some v → Value.okWide Tryz.prog W .any 0 t v)
    (hW : DataW.Whole enc Tryz.prog Tryz.f7.params.toList Rows.courseOneAreaSpec.vars false W args.toList ds gs before) (hm : laidMet Tryz.prog Rows.courseOneAreaRow.laid W)
    (hw : (DataW.weightsEach Tryz.prog (Tryz.f7.params.toList ++ (OpenSpec.ofChange Rows.courseOneAreaSpec).bare.plain.varTypes Tryz.prog) (ds ++ gs)).all (· ≤ reachBytes) = true) :
    Calls Tryz.prog 7 args W fun e W' => ∃ v, e = .returned v ∧ Rows.courseOneAreaSpec.post enc Tryz.prog Tryz.f7 false true false false W args v W' :=
  law_callWG (tb := 4) laidOut Tryz.underlying4 (by kernel_rfl) (List.all_eq_true.1 (by kernel_rfl : Tryz.f7.params.toList.all (carryB Tryz.prog) = true)) enc rfl (fun ds hl => by
    rw [Tryz.params7] at hl
    match ds, hl with
    | [d1, d2, d3], _ => rfl) W args ds gs before hval hW (gl_of laid_has hm) fun cs hcs ⟨p, hA⟩ hr => law7 cs hcs fun cs' g m c hd hc6 => by
      rw [show Tryz.f7.params.toList = [27, 23, 5] by rw [Tryz.params7]] at hA
      obtain ⟨v, vs1, d, ds1, p1, q1, hvs, hds, _, hv, _⟩ := trodAll_cons hA
      have hrel := hr 0 _ v hd (by rw [hvs]; rfl)
      have hb := len_boundJ (j := 4) Tryz.underlying27 rfl Tryz.underlying25 (by kernel_rfl) hv (fun k hk => by
        have := List.all_eq_true.1 hw k (DataW.weights_mem_each (j := 0) (t := 27) (d := d) (by rw [Tryz.params7]; rfl) (by rw [hds]; rfl) k hk)
        simpa using this) hrel hc6
      rw [show Tryz.prog.bytesOf 84 = 40 by kernel_rfl] at hb
      exact hb
theorem reads (os : Os) {H : Type} (enc : TypeId × Value → H) : DataW.whole enc Tryz.prog ((laidWorld Rows.courseOneAreaRow.laid os).forCall (fun _ _ => 0) ⟨#[], #[.agg #[.string ⟨#[]⟩, .int .i64 0, .int .i64 0, .int .i64 0, .int .i64 0, .slice none 0 0, .slice none 0 0], .agg #[.int .i64 0, .int .i64 0], .int .u8 0], []⟩).memory Tryz.f7.params.toList Rows.courseOneAreaSpec.vars false (#[.agg #[.string ⟨#[]⟩, .int .i64 0, .int .i64 0, .int .i64 0, .int .i64 0, .slice none 0 0, .slice none 0 0], .agg #[.int .i64 0, .int .i64 0], .int .u8 0] : Array Value).toList 8 = some ([.agg [.lit (.string []), .agg [.lit (.int .i64 0), .lit (.int .i64 0)], .agg [.lit (.int .i64 0), .lit (.int .i64 0)], .nil, .nil], .agg [.lit (.int .i64 0), .lit (.int .i64 0)], .lit (.int .u8 0)], [], []) := by kernel_rfl
theorem lifted (os : Os) (started : os.Started) (H : Type) (enc : TypeId × Value → H) (F : Stop.Interp) :
    ReturnsInHanded {} Tryz.checked os 7 .any ((OpenSpec.ofChange Rows.courseOneAreaSpec).preRow enc Tryz.prog Tryz.f7 Rows.courseOneAreaRow.domain false Rows.courseOneAreaRow.laid) (((OpenSpec.ofChange Rows.courseOneAreaSpec).at F).post enc Tryz.prog Tryz.f7 false true false false) := by
  refine returnsInHanded_of_row (C := Tryz.checked) (s := OpenSpec.ofChange Rows.courseOneAreaSpec) own started (by kernel_rfl) Tryz.func7
    (witness_row_at (enc := enc) (C := Tryz.checked) false (laidWorld Rows.courseOneAreaRow.laid os) #[.agg #[.string ⟨#[]⟩, .int .i64 0, .int .i64 0, .int .i64 0, .int .i64 0, .slice none 0 0, .slice none 0 0], .agg #[.int .i64 0, .int .i64 0], .int .u8 0] rfl (by kernel_rfl) (by kernel_rfl) (by kernel_rfl)
      (OpenSpec.preRow_of_cond 8 (reads os enc) (by kernel_rfl) (fun k hk => by cases hk) (by kernel_rfl) (laid_met os _))) ?_
  intro W base args ds gs before hval hW _ _ hw hm _ _
  exact contract H enc W args ds gs before (fun j t v ht hv => hval j t v ht hv) hW hm hw
theorem jName : Tryz.pinned.checked.prog.funcNamed Rows.courseOneAreaRow.func = some 7 := by kernel_rfl
theorem jIn : Tryz.pinned.checked.prog.inPlace 7 = Rows.courseOneAreaRow.inPlace := by kernel_rfl
theorem jUn : Tryz.pinned.checked.prog.unfollowed 7 = Rows.courseOneAreaRow.unfollowed := by kernel_rfl
theorem jRe : Tryz.pinned.checked.prog.recurses 7 = Rows.courseOneAreaRow.recurses := by kernel_rfl
theorem jVa : Tryz.pinned.checked.prog.varsNamed 7 = Rows.courseOneAreaRow.named := by kernel_rfl
theorem jAll : joinedFacts Tryz.pinned.checked.prog 7 Tryz.f7 (OpenSpec.ofChange Rows.courseOneAreaSpec).bare Rows.courseOneAreaRow = true := by
  unfold joinedFacts
  rw [jIn, jUn, jRe, jVa]
  kernel_rfl
theorem jInst : Tryz.f7.isInstance Tryz.pinned.checked.prog Rows.courseOneAreaRow.origin Rows.courseOneAreaRow.targs := of_decide_eq_true (by kernel_rfl)
theorem jWrap : Tryz.f7.isWrapper Tryz.pinned.checked.prog Rows.courseOneAreaRow.wrapper Rows.courseOneAreaRow.mainSum := by unfold Func.isWrapper; first | (rw [if_pos (by decide +kernel)]; kernel_rfl) | (rw [if_neg (by decide +kernel)]; exact ⟨rfl, rfl⟩)
theorem said : Rows.CourseOneAreaSaid :=
  OpenClaim.holds_of_cond 7 Tryz.f7 rfl rfl rfl rfl rfl rfl rfl ⟨rfl, rfl, rfl, rfl, rfl⟩ rfl rfl rfl rfl rfl jName Tryz.func7 jAll jInst jWrap
    (fun os started H enc _ F => by rw [OpenClaim.pre_eq_preRow]; exact lifted os started H enc F)
theorem plain (f : FuncId) (fn : Func) (hf : Tryz.pinned.checked.prog.funcNamed Rows.courseOneAreaRow.func = some f) (hfn : Tryz.pinned.checked.prog.funcs[f]? = some fn) :
    true = Tryz.pinned.checked.prog.looks [] ∧ ∀ (j : Nat) t, fn.params[j]? = some t → Tryz.pinned.checked.prog.wantsStandIn t = false := by
  obtain rfl : f = 7 := Option.some.inj (jName.symm.trans hf) |>.symm
  obtain rfl : fn = Tryz.f7 := (Option.some.inj (Tryz.func7.symm.trans hfn)).symm
  refine ⟨looks0, fun j t ht => ?_⟩
  have hall : Tryz.f7.params.toList.all (fun t => !Tryz.prog.wantsStandIn t) = true := by kernel_rfl
  have := List.all_eq_true.1 hall t (by simpa using Array.mem_of_getElem? ht)
  exact (by simpa using this : Tryz.prog.wantsStandIn t = false)
theorem jForm : Rows.courseOneAreaRow.wfByText (OpenSpec.ofChange Rows.courseOneAreaSpec) = true := by kernel_rfl
theorem jGoes : false = Rows.courseOneAreaRow.goesBy Tryz.pinned.checked.prog := by kernel_rfl
theorem card : Rows.CourseOneAreaCardSaid :=
  Claim7.holds_tied_plain_at .later [] _ _ _ _ said (fun _ h => by cases h) jForm (fun _ h => by cases h) courseOneArea_row_tie rfl ⟨rfl, rfl⟩ main0 rfl plain jGoes
end Go.Proofs.YtmhbhlbnlmbhlaaGreatDoor.courseOneArea
end
