/-
  FormatLeads: CheckField, Leaders and Playoff return the results or the errors of the reference, for all fields and play-offs.
-/
import Derived.Test.YtanpmgfaieekhaaGreatDoorFmLaw
import Derived.Test.YtanpmgfaieekhaaGreatDoorFmSm
import Derived.Test.YtanpmgfaieekhaaGreatDoorFmLe
section
namespace Go.Pd
open Go Go.Proofs Go.RowKit Go.ChangeShapes
set_option maxRecDepth 100000
theorem flatMap_oneL {α : Type} (g : α → D) : ∀ l : List α, l.flatMap (fun x => [g x]) = l.map g
  | [] => rfl
  | x :: l => by rw [List.flatMap_cons, flatMap_oneL g l]; rfl
theorem ty_intsL {n : Nat} {c : List D} (h : Ty Tryz.prog (n + 2) 25 c) : ∃ l : List Int, c = [.slc false l.length (ints l)] := by
  obtain ⟨gs, rfl, _, h1⟩ := ty_slice Tryz.underlying25 h
  obtain ⟨l, h2, h3⟩ := rows_of (fun x : Int => [D.int .i64 x]) (p := Ty Tryz.prog (n + 1) 3) (fun d hd => by
    obtain ⟨x, rfl, _⟩ := ty_int Tryz.underlying3 hd
    exact ⟨x, rfl⟩) gs h1
  rw [flatMap_oneL] at h3
  exact ⟨l, by rw [h2, h3]; rfl⟩
theorem ty_rowsL {n : Nat} {c : List D} (h : Ty Tryz.prog (n + 3) 73 c) : ∃ l : List (List Int), c = [.slc false l.length (rows l)] := by
  obtain ⟨gs, rfl, _, h1⟩ := ty_slice Tryz.underlying73 h
  obtain ⟨l, h2, h3⟩ := rows_of (fun x : List Int => [D.slc false x.length (ints x)]) (p := Ty Tryz.prog (n + 2) 25) (fun d hd => ty_intsL hd) gs h1
  rw [flatMap_oneL] at h3
  exact ⟨l, by rw [h2, h3]; rfl⟩
theorem ty_playersL {m : Nat} {c : List D} (h : Ty Tryz.prog (m + 6) 59 c) : ∃ l : List PlV, c = [.slc false l.length (l.flatMap plC)] := by
  obtain ⟨gs, rfl, _, h1⟩ := ty_slice Tryz.underlying59 h
  obtain ⟨l, h2, h3⟩ := rows_of plC (p := Ty Tryz.prog (m + 5) 37) (fun d hd => by
    obtain ⟨s, l, x, rfl⟩ := ty_player hd
    exact ⟨(s, l, x), rfl⟩) gs h1
  exact ⟨l, by rw [h2, h3]⟩
theorem m48 {m : Nat} (h : m * 48 ≤ reachBytes) : m ≤ 2932031007402 :=
  Nat.le_of_not_lt fun hlt => absurd (Nat.lt_of_le_of_lt (Nat.mul_le_mul_right 48 (show 2932031007403 ≤ m from hlt)) (Nat.lt_of_le_of_lt h reachBytes_lt)) (by decide)
theorem law14 (cs : List (List D)) (h : AllTy Tryz.prog 12 Tryz.f14.params.toList cs) (hb : ∀ d1 g m c, (argsOf Tryz.prog Tryz.f14.params.toList cs)[0]? = some (.agg [d1, .slc g m c]) → m ≤ 2932031007402) : CallOK Tryz.prog (fun _ => none) 14 (argsOf Tryz.prog Tryz.f14.params.toList cs) (.bool true) := by
  rw [Tryz.params14] at h hb ⊢
  obtain ⟨c1, c2, rfl, h1, h2⟩ := all_ty2 h
  obtain ⟨g1, g2, rfl, h3, h4⟩ := ty_struct2 Tryz.underlying110 rfl h1
  obtain ⟨n, d, P, S, rfl, hc⟩ := ty_holesE h3
  obtain ⟨l, rfl⟩ := ty_playersL h4
  obtain ⟨ll, rfl⟩ := ty_rowsL h2
  have e : argsOf Tryz.prog #[110, 73].toList [[.slc false n d] ++ [.slc false l.length (l.flatMap plC)], [.slc false ll.length (rows ll)]] = [.agg [.slc false n d, .slc false l.length (l.flatMap plC)], .slc false ll.length (rows ll)] := by
    simp [argsOf, argOf, isAggD, Tryz.underlying110, Tryz.underlying73]
  rw [e] at hb ⊢
  exact ok14 hc l (hb _ _ _ _ rfl) ll
end Go.Pd
namespace Go.Proofs.YtanpmgfaieekhaaGreatDoor.formatLeads
set_option maxRecDepth 100000
open Go Go.Pd Go.ChangeShapes Go.WideShapes Go.ChangeAt Go.RowKit

theorem contract (H : Type) (enc : TypeId × Value → H) (W : World) (args : Array Value) (ds gs : List (DataW H)) (before : List MemPlace)
    (hval : ∀ (j : Nat) t v, Tryz.f14.params[j]? = some t → args[j]? = some v → Value.okWide Tryz.prog W .any 0 t v)
    (hW : DataW.Whole enc Tryz.prog Tryz.f14.params.toList Rows.formatLeadsSpec.vars false W args.toList ds gs before)
    (hw : (DataW.weightsEach Tryz.prog (Tryz.f14.params.toList ++ (OpenSpec.ofChange Rows.formatLeadsSpec).bare.plain.varTypes Tryz.prog) (ds ++ gs)).all (· ≤ reachBytes) = true) :
    Calls Tryz.prog 14 args W fun e W' => ∃ v, e = .returned v ∧ Rows.formatLeadsSpec.post enc Tryz.prog Tryz.f14 false true false false W args v W' :=
  law_callW (tb := 4) (fun _ => rfl) laidOut Tryz.underlying4 (by kernel_rfl) (List.all_eq_true.1 (by kernel_rfl : Tryz.f14.params.toList.all (carryB Tryz.prog) = true)) enc rfl (fun ds hl => by
    rw [Tryz.params14] at hl
    match ds, hl with
    | [d1, d2], _ => rfl) W args ds gs before hval hW fun cs hcs ⟨p, hA⟩ hr => law14 cs hcs fun d1 g m c hd => by
      rw [show Tryz.f14.params.toList = [110, 73] by rw [Tryz.params14]] at hA
      obtain ⟨v, vs1, d, ds1, p1, q1, hvs, hds, _, hv, _⟩ := trodAll_cons hA
      have hrel := hr 0 _ v hd (by rw [hvs]; rfl)
      have hb := len_bound Tryz.underlying110 rfl Tryz.underlying59 rfl (by kernel_rfl) hv (fun k hk => by
        have := List.all_eq_true.1 hw k (DataW.weights_mem_each (j := 0) (t := 110) (d := d) (by rw [Tryz.params14]; rfl) (by rw [hds]; rfl) k hk)
        simpa using this) hrel
      rw [show Tryz.prog.bytesOf 37 = 48 by kernel_rfl] at hb
      exact m48 hb

theorem reads (os : Os) {H : Type} (enc : TypeId × Value → H) : DataW.whole enc Tryz.prog ((laidWorld os).forCall (fun _ _ => 0) ⟨#[], #[.agg #[.slice none 0 0, .slice none 0 0], .slice none 0 0], []⟩).memory Tryz.f14.params.toList Rows.formatLeadsSpec.vars false (#[.agg #[.slice none 0 0, .slice none 0 0], .slice none 0 0] : Array Value).toList 8 = some ([.agg [.nil, .nil], .nil], [], []) := by kernel_rfl

theorem lifted (os : Os) (started : os.Started) (H : Type) (enc : TypeId × Value → H) (F : Stop.Interp) :
    ReturnsInHanded {} Tryz.checked os 14 .any ((OpenSpec.ofChange Rows.formatLeadsSpec).preRow enc Tryz.prog Tryz.f14 Rows.formatLeadsRow.domain false Rows.formatLeadsRow.laid) (((OpenSpec.ofChange Rows.formatLeadsSpec).at F).post enc Tryz.prog Tryz.f14 false true false false) := by
  refine returnsInHanded_of_row (C := Tryz.checked) (s := OpenSpec.ofChange Rows.formatLeadsSpec) own started (by kernel_rfl) Tryz.func14
    (witness_row_at (enc := enc) (C := Tryz.checked) false (laidWorld os) #[.agg #[.slice none 0 0, .slice none 0 0], .slice none 0 0] rfl (by kernel_rfl) (by kernel_rfl) (by kernel_rfl)
      (OpenSpec.preRow_of_cond 8 (reads os enc) (by kernel_rfl) (fun k hk => by cases hk) (by kernel_rfl) (laid_met os _))) ?_
  intro W base args ds gs before hval hW _ _ hw _ _ _
  exact contract H enc W args ds gs before (fun j t v ht hv => hval j t v ht hv) hW hw

theorem said : Rows.FormatLeadsSaid :=
  OpenClaim.holds_of_cond 14 Tryz.f14 rfl rfl rfl rfl rfl rfl rfl ⟨rfl, rfl, rfl, rfl, rfl⟩ rfl rfl rfl rfl rfl (by kernel_rfl) Tryz.func14 (by kernel_rfl)
    (of_decide_eq_true (by kernel_rfl)) (by unfold Func.isWrapper; first | (rw [if_pos (by decide +kernel)]; kernel_rfl) | (rw [if_neg (by decide +kernel)]; exact ⟨rfl, rfl⟩))
    (fun os started H enc _ F => by rw [OpenClaim.pre_eq_preRow]; exact lifted os started H enc F)

theorem plain (f : FuncId) (fn : Func) (hf : Tryz.pinned.checked.prog.funcNamed "niblick/niblicklaw05.FormatLeads" = some f) (hfn : Tryz.pinned.checked.prog.funcs[f]? = some fn) :
    false = Tryz.pinned.checked.prog.looks [] ∧ ∀ (j : Nat) t, fn.params[j]? = some t → Tryz.pinned.checked.prog.wantsStandIn t = false := by
  obtain rfl : f = 14 := Option.some.inj ((show Tryz.prog.funcNamed "niblick/niblicklaw05.FormatLeads" = some 14 by kernel_rfl).symm.trans hf) |>.symm
  obtain rfl : fn = Tryz.f14 := (Option.some.inj (Tryz.func14.symm.trans hfn)).symm
  refine ⟨by kernel_rfl, fun j t ht => ?_⟩
  have hall : Tryz.f14.params.toList.all (fun t => !Tryz.prog.wantsStandIn t) = true := by kernel_rfl
  have := List.all_eq_true.1 hall t (by simpa using Array.mem_of_getElem? ht)
  exact (by simpa using this : Tryz.prog.wantsStandIn t = false)

/-- THE CARD. -/
theorem card : Rows.FormatLeadsCardSaid :=
  Claim7.holds_tied_plain_at .later [] _ _ _ _ said (fun _ h => by cases h) (by kernel_rfl) (fun _ h => by cases h) formatLeads_row_tie rfl ⟨rfl, rfl⟩ (by kernel_rfl) rfl plain (by kernel_rfl)
end Go.Proofs.YtanpmgfaieekhaaGreatDoor.formatLeads
end
