/-
  FormatScores: CheckPlayer, Gross, Nets, Score, Points and Against return the results or the errors of the reference, for all holes and players.
-/
import Derived.Test.YtanpmgfaieekhaaGreatDoorFmLaw
import Derived.Test.YtanpmgfaieekhaaGreatDoorFmC2
section
namespace Go.Pd
open Go Go.Proofs Go.RowKit
set_option maxRecDepth 100000
theorem ty_entry {n : Nat} {d : List D} (h : Ty Tryz.prog (n + 2) 139 d) : ∃ x, d = netD x := by
  obtain ⟨g1, g2, rfl, h1, h2⟩ := ty_struct2 Tryz.underlying139 rfl h
  obtain ⟨x, rfl, _⟩ := ty_int Tryz.underlying3 h1
  obtain ⟨s, rfl, _⟩ := ty_str Tryz.underlying9 h2
  exact ⟨(x, s), rfl⟩
theorem ty_player {n : Nat} {c : List D} (h : Ty Tryz.prog (n + 5) 37 c) : ∃ (s : ByteArray) (l : List NetV) (x : Int), c = [.str s, .slc false l.length (l.flatMap netD), .int .i64 x] := by
  obtain ⟨g1, g2, rfl, h1, h2⟩ := ty_struct2 Tryz.underlying37 rfl h
  obtain ⟨g3, g4, rfl, h3, h4⟩ := ty_struct2 Tryz.underlying35 rfl h1
  obtain ⟨x, rfl, _⟩ := ty_int Tryz.underlying3 h2
  obtain ⟨s, rfl, _⟩ := ty_str Tryz.underlying9 h3
  obtain ⟨gs, rfl, _, h5⟩ := ty_slice Tryz.underlying33 h4
  obtain ⟨l, h6, h7⟩ := rows_of netD (p := Ty Tryz.prog (n + 2) 139) (fun d hd => ty_entry hd) gs h5
  exact ⟨s, l, x, by rw [h6, h7]; rfl⟩
def holeE (h : Int × Int) : List D := [.int .i64 h.1, .int .i64 h.2]
theorem ty_holeE {n : Nat} {d : List D} (h : Ty Tryz.prog (n + 2) 83 d) : ∃ x, d = holeE x := by
  obtain ⟨g1, g2, rfl, h1, h2⟩ := ty_struct2 Tryz.underlying83 rfl h
  obtain ⟨x, rfl, _⟩ := ty_int Tryz.underlying3 h1
  obtain ⟨y, rfl, _⟩ := ty_int Tryz.underlying3 h2
  exact ⟨(x, y), rfl⟩
/-- Holes, by their pars and indices. -/
theorem ty_holesE {m : Nat} {c : List D} (h : Ty Tryz.prog (m + 3) 22 c) : ∃ (n : Nat) (d : List D) (P S : Nat → Int), c = [.slc false n d] ∧ HolesC n d P S := by
  obtain ⟨gs, rfl, _, h1⟩ := ty_slice Tryz.underlying22 h
  obtain ⟨l, h2, h3⟩ := rows_of holeE (fun d hd => ty_holeE hd) gs h1
  refine ⟨l.length, l.flatMap holeE, fun i => (l[i]?.getD (0, 0)).1, fun i => (l[i]?.getD (0, 0)).2, by rw [h2, h3], fun i hi => ?_⟩
  have hsplit : l = l.take i ++ l[i] :: l.drop (i + 1) := by simp
  have hlen : (l.take i).length = i := by simp; omega
  have key : ∀ j, j < 2 → (l.flatMap holeE)[i * 2 + j]? = (holeE l[i])[j]? := fun j hj => by
    have := flat_get l[i] (l.drop (i + 1)) holeE 2 (fun _ => rfl) (l.take i) j hj
    rw [← hsplit, hlen] at this
    exact this
  rw [key 0 (by omega), key 1 (by omega)]
  simp only [List.getElem?_eq_getElem hi]
  exact ⟨rfl, rfl⟩
theorem law11 (cs : List (List D)) (h : AllTy Tryz.prog 12 Tryz.f11.params.toList cs) : CallOK Tryz.prog (fun _ => none) 11 (argsOf Tryz.prog Tryz.f11.params.toList cs) (.bool true) := by
  rw [Tryz.params11] at h ⊢
  obtain ⟨c1, c2, rfl, h1, h2⟩ := all_ty2 h
  obtain ⟨n, d, P, S, rfl, hc⟩ := ty_holesE h1
  obtain ⟨s, l, x, rfl⟩ := ty_player h2
  have e : argsOf Tryz.prog #[22, 37].toList [[.slc false n d], [.str s, .slc false l.length (l.flatMap netD), .int .i64 x]] = [.slc false n d, plD s false l x] := by
    simp [argsOf, argOf, isAggD, Tryz.underlying22, Tryz.underlying37, plD]
  rw [e]
  exact ok11 hc s l x
end Go.Pd
namespace Go.Proofs.YtanpmgfaieekhaaGreatDoor.formatScores
set_option maxRecDepth 100000
open Go Go.Pd Go.ChangeShapes Go.WideShapes Go.ChangeAt Go.RowKit

theorem contract (H : Type) (enc : TypeId × Value → H) (W : World) (args : Array Value) (ds gs : List (DataW H)) (before : List MemPlace)
    (hval : ∀ (j : Nat) t v, Tryz.f11.params[j]? = some t → args[j]? = some v → Value.okWide Tryz.prog W .any 0 t v)
    (hW : DataW.Whole enc Tryz.prog Tryz.f11.params.toList Rows.formatScoresSpec.vars false W args.toList ds gs before) :
    Calls Tryz.prog 11 args W fun e W' => ∃ v, e = .returned v ∧ Rows.formatScoresSpec.post enc Tryz.prog Tryz.f11 false true false false W args v W' :=
  law_call (tb := 4) (fun _ => rfl) laidOut Tryz.underlying4 (by kernel_rfl) (List.all_eq_true.1 (by kernel_rfl : Tryz.f11.params.toList.all (carryB Tryz.prog) = true)) enc rfl (fun ds hl => by
    rw [Tryz.params11] at hl
    match ds, hl with
    | [d1, d2], _ => rfl) W args ds gs before hval hW law11

theorem reads (os : Os) {H : Type} (enc : TypeId × Value → H) : DataW.whole enc Tryz.prog ((laidWorld os).forCall (fun _ _ => 0) ⟨#[], #[.slice none 0 0, .agg #[.string ⟨#[]⟩, .slice none 0 0, .int .i64 0]], []⟩).memory Tryz.f11.params.toList Rows.formatScoresSpec.vars false (#[.slice none 0 0, .agg #[.string ⟨#[]⟩, .slice none 0 0, .int .i64 0]] : Array Value).toList 8 = some ([.nil, .agg [.agg [.lit (.string []), .nil], .lit (.int .i64 0)]], [], []) := by kernel_rfl

theorem lifted (os : Os) (started : os.Started) (H : Type) (enc : TypeId × Value → H) (F : Stop.Interp) :
    ReturnsInHanded {} Tryz.checked os 11 .any ((OpenSpec.ofChange Rows.formatScoresSpec).preRow enc Tryz.prog Tryz.f11 Rows.formatScoresRow.domain false Rows.formatScoresRow.laid) (((OpenSpec.ofChange Rows.formatScoresSpec).at F).post enc Tryz.prog Tryz.f11 false true false false) := by
  refine returnsInHanded_of_row (C := Tryz.checked) (s := OpenSpec.ofChange Rows.formatScoresSpec) own started (by kernel_rfl) Tryz.func11
    (witness_row_at (enc := enc) (C := Tryz.checked) false (laidWorld os) #[.slice none 0 0, .agg #[.string ⟨#[]⟩, .slice none 0 0, .int .i64 0]] rfl (by kernel_rfl) (by kernel_rfl) (by kernel_rfl)
      (OpenSpec.preRow_of_cond 8 (reads os enc) (by kernel_rfl) (fun k hk => by cases hk) (by kernel_rfl) (laid_met os _))) ?_
  intro W base args ds gs before hval hW _ _ _ _ _ _
  exact contract H enc W args ds gs before (fun j t v ht hv => hval j t v ht hv) hW

theorem said : Rows.FormatScoresSaid :=
  OpenClaim.holds_of_cond 11 Tryz.f11 rfl rfl rfl rfl rfl rfl rfl ⟨rfl, rfl, rfl, rfl, rfl⟩ rfl rfl rfl rfl rfl (by kernel_rfl) Tryz.func11 (by kernel_rfl)
    (of_decide_eq_true (by kernel_rfl)) (by unfold Func.isWrapper; first | (rw [if_pos (by decide +kernel)]; kernel_rfl) | (rw [if_neg (by decide +kernel)]; exact ⟨rfl, rfl⟩))
    (fun os started H enc _ F => by rw [OpenClaim.pre_eq_preRow]; exact lifted os started H enc F)

theorem plain (f : FuncId) (fn : Func) (hf : Tryz.pinned.checked.prog.funcNamed "niblick/niblicklaw05.FormatScores" = some f) (hfn : Tryz.pinned.checked.prog.funcs[f]? = some fn) :
    false = Tryz.pinned.checked.prog.looks [] ∧ ∀ (j : Nat) t, fn.params[j]? = some t → Tryz.pinned.checked.prog.wantsStandIn t = false := by
  obtain rfl : f = 11 := Option.some.inj ((show Tryz.prog.funcNamed "niblick/niblicklaw05.FormatScores" = some 11 by kernel_rfl).symm.trans hf) |>.symm
  obtain rfl : fn = Tryz.f11 := (Option.some.inj (Tryz.func11.symm.trans hfn)).symm
  refine ⟨by kernel_rfl, fun j t ht => ?_⟩
  have hall : Tryz.f11.params.toList.all (fun t => !Tryz.prog.wantsStandIn t) = true := by kernel_rfl
  have := List.all_eq_true.1 hall t (by simpa using Array.mem_of_getElem? ht)
  exact (by simpa using this : Tryz.prog.wantsStandIn t = false)

/-- THE CARD. -/
theorem card : Rows.FormatScoresCardSaid :=
  Claim7.holds_tied_plain_at .later [] _ _ _ _ said (fun _ h => by cases h) (by kernel_rfl) (fun _ h => by cases h) formatScores_row_tie rfl ⟨rfl, rfl⟩ (by kernel_rfl) rfl plain (by kernel_rfl)
end Go.Proofs.YtanpmgfaieekhaaGreatDoor.formatScores
end
