/-
  FormatLeads: the reference's Leaders.
  Chapter 5: what the reference's Playoff makes of open arguments (printed by the desk's tool, each proved by the kernel).
  FormatLeads: a play-off, plain, and the reference's.
  Chapter 5: what Playoff makes of open arguments (printed by the desk's tool, each proved by the kernel).
  Chapter 5: what the library's search makes of a play-off's strokes (printed by the desk's tool, each proved by the kernel).
  FormatLeads: the program's play-off.
  FormatLeads: the law.
  A law whose plain side asks for a bound on a slice of its first argument, a struct of two slices: the row's own reach gives it.
-/
import Derived.Test.YtanpmgfaieekhaaGreatDoorFmLd
import Derived.Test.YtanpmgfaieekhaaGreatDoorFmA
import Derived.KernelRfl
import Derived.Test.YtanpmgfaieekhaaGreatDoorFmT
import Derived.Test.YtanpmgfaieekhaaGreatDoorPdFf
import Derived.SizedLaws
section
namespace Go.Pd
open Go Go.Proofs Go.RowKit
set_option maxRecDepth 100000
section
variable {call : FuncId → List D → Option D} {f g g1 fo : Bool} {n m k q : Nat} {c cs : List D} {P S : Nat → Int} {w own : List Int}
theorem in74 {t : Int} {N : List NetV} {w : List Int} {rs : List (List Int)} (hw : w.length ≤ 1000) (hrs : rs.length ≤ 1000) (hN : N.length ≤ 1000) (h0 : 0 < N.length) : ∀ (r pre : List NetV) (fuel : Nat), N = pre ++ r → r.length < fuel →
    F74_250490 call LL C1 k fuel t g n c f m cs (owI w) (owL rs) (owI (pre.map (·.1))) g1 N.length (N.flatMap netD) (pre.length : Int) = F74_122 call LL C1 k g n c f m cs (owI (w ++ [t])) (owL (rs ++ [N.map (·.1)])) (IntKind.wrap .i64 (t + 1)) := by
  intro r
  induction r with
  | nil =>
    intro pre fuel hp hf
    cases fuel with
    | zero => exact absurd hf (Nat.not_lt_zero _)
    | succ fuel =>
      rw [List.append_nil] at hp
      subst hp
      cases N with
      | nil => exact absurd h0 (Nat.lt_irrefl _)
      | cons y ys =>
        rw [owI_snoc, owL_snoc, List.map_cons, owI_cons]
        rcases w with _ | ⟨w0, ws⟩ <;> rcases rs with _ | ⟨q0, qs⟩
        · rw [owI_nil, owL_nil, F74_250490_eqnno, show decide (((y :: ys).length : Int) < ((y :: ys).length : Int)) = false by simp, ifK_false]
          rfl
        · rw [owI_nil, owL_cons, F74_250490_eqnoo, show decide (((y :: ys).length : Int) < ((y :: ys).length : Int)) = false by simp, ifK_false, room24 (by simp at hrs; omega), chkK_true]
          rfl
        · rw [owI_cons, owL_nil, F74_250490_eqono, show decide (((y :: ys).length : Int) < ((y :: ys).length : Int)) = false by simp, ifK_false, roomK (by simp at hw; omega), chkK_true]
          rfl
        · rw [owI_cons, owL_cons, F74_250490_eqooo, show decide (((y :: ys).length : Int) < ((y :: ys).length : Int)) = false by simp, ifK_false, roomK (by simp at hw; omega), chkK_true, room24 (by simp at hrs; omega), chkK_true]
          rfl
  | cons x r ih =>
    intro pre fuel hp hf
    cases fuel with
    | zero => exact absurd hf (Nat.not_lt_zero _)
    | succ fuel =>
      have ih := ih (pre ++ [x]) fuel (by rw [app1]; exact hp) (by simp at hf; omega)
      have hl : (pre ++ x :: r).length ≤ 1000 := by rw [← hp]; exact hN
      rw [List.map_append, List.map_cons, List.map_nil, owI_snoc] at ih
      rw [← ih]
      clear ih
      subst hp
      rcases w with _ | ⟨w0, ws⟩ <;> rcases rs with _ | ⟨q0, qs⟩ <;> rcases pre with _ | ⟨y, ys⟩
      · rw [owI_nil, owL_nil, List.map_nil, owI_nil, F74_250490_eqnnn, lt_pre, ifK_true, in_pre, chkK_true, n0, intK_int, step_pre _ x r (by omega)]
        rfl
      · rw [owI_nil, owL_nil, List.map_cons, owI_cons, F74_250490_eqnno, lt_pre, ifK_true, in_pre, chkK_true, n0, intK_int, roomK (by simp at hl ⊢; omega), chkK_true, step_pre _ x r (by omega)]
        rfl
      · rw [owI_nil, owL_cons, List.map_nil, owI_nil, F74_250490_eqnon, lt_pre, ifK_true, in_pre, chkK_true, n0, intK_int, step_pre _ x r (by omega)]
        rfl
      · rw [owI_nil, owL_cons, List.map_cons, owI_cons, F74_250490_eqnoo, lt_pre, ifK_true, in_pre, chkK_true, n0, intK_int, roomK (by simp at hl ⊢; omega), chkK_true, step_pre _ x r (by omega)]
        rfl
      · rw [owI_cons, owL_nil, List.map_nil, owI_nil, F74_250490_eqonn, lt_pre, ifK_true, in_pre, chkK_true, n0, intK_int, step_pre _ x r (by omega)]
        rfl
      · rw [owI_cons, owL_nil, List.map_cons, owI_cons, F74_250490_eqono, lt_pre, ifK_true, in_pre, chkK_true, n0, intK_int, roomK (by simp at hl ⊢; omega), chkK_true, step_pre _ x r (by omega)]
        rfl
      · rw [owI_cons, owL_cons, List.map_nil, owI_nil, F74_250490_eqoon, lt_pre, ifK_true, in_pre, chkK_true, n0, intK_int, step_pre _ x r (by omega)]
        rfl
      · rw [owI_cons, owL_cons, List.map_cons, owI_cons, F74_250490_eqooo, lt_pre, ifK_true, in_pre, chkK_true, n0, intK_int, roomK (by simp at hl ⊢; omega), chkK_true, step_pre _ x r (by omega)]
        rfl
/-- What the reference does with the lists. -/
noncomputable def end74 (call : FuncId → List D → Option D) (w : List Int) (rs : List (List Int)) : Option D :=
  optK (call 51 [argL rs]) fun r => slcK r fun f n c => F74_1018 call LL C1 LL (owI w) f n c .nil .nil 1
theorem go74 {l : List PlV} (t59 : ∀ x ∈ l, ∃ z : Int, call 59 [.slc g n c, .agg [.str x.1, .slc false x.2.1.length (x.2.1.flatMap netD), .int .i64 x.2.2]] = some (.tup [.int .i64 z, .bool (allB (ntP n S x))]))
    (t26 : ∀ x ∈ l, call 26 [.slc g n c, .agg [.str x.1, .slc false x.2.1.length (x.2.1.flatMap netD), .int .i64 x.2.2]] = some (.slc (ntP n S x).isEmpty (ntP n S x).length ((ntP n S x).flatMap netD)))
    (hN : ∀ x ∈ l, 0 < (ntP n S x).length ∧ (ntP n S x).length ≤ 1000) (hl : l.length ≤ 1000) :
    ∀ (r pre : List PlV) (fuel : Nat) (w : List Int) (rs : List (List Int)), l = pre ++ r → r.length < fuel → w.length ≤ pre.length → rs.length = w.length →
      F74_122 call LL C1 fuel g n c f l.length (l.flatMap plC) (owI w) (owL rs) (pre.length : Int) = end74 call (w ++ whoGo n S r pre.length) (rs ++ rowGo n S r) := by
  intro r
  induction r with
  | nil =>
    intro pre fuel w rs hp hf hw hrs
    cases fuel with
    | zero => exact absurd hf (Nat.not_lt_zero _)
    | succ fuel =>
      have h1 : decide ((pre.length : Int) < (l.length : Int)) = false := by rw [hp]; simp
      rw [show whoGo n S [] pre.length = [] from rfl, show rowGo n S [] = [] from rfl, List.append_nil, List.append_nil]
      unfold end74
      rcases w with _ | ⟨w0, ws⟩ <;> rcases rs with _ | ⟨q0, qs⟩
      · rw [owI_nil, owL_nil, F74_122_eqnn, h1, ifK_false]
        rfl
      · cases hrs
      · cases hrs
      · rw [owI_cons, owL_cons, F74_122_eqoo, h1, ifK_false]
        rfl
  | cons x r ih =>
    intro pre fuel w rs hp hf hw hrs
    have hx : x ∈ l := by rw [hp]; simp
    have hlen : l.length = pre.length + r.length + 1 := by rw [hp]; simp; omega
    cases fuel with
    | zero => exact absurd hf (Nat.not_lt_zero _)
    | succ fuel =>
      have h1 : decide ((pre.length : Int) < (l.length : Int)) = true := by simp; omega
      have h2 : decide ((0 : Int) ≤ (pre.length : Int) ∧ (pre.length : Int) < (l.length : Int)) = true := by simp; omega
      have c0 : ∀ {γ : Type} (k : D → Option γ), cellK (l.flatMap plC) (Int.toNat (pre.length : Int) * 3 + 0) k = k (.str x.1) := fun k => by rw [hp]; exact p0 pre x r
      have c1 : ∀ {γ : Type} (k : D → Option γ), cellK (l.flatMap plC) (Int.toNat (pre.length : Int) * 3 + 1) k = k (.slc false x.2.1.length (x.2.1.flatMap netD)) := fun k => by rw [hp]; exact p1 pre x r
      have c2 : ∀ {γ : Type} (k : D → Option γ), cellK (l.flatMap plC) (Int.toNat (pre.length : Int) * 3 + 2) k = k (.int .i64 x.2.2) := fun k => by rw [hp]; exact p2 pre x r
      have hst : IntKind.wrap .i64 ((pre.length : Int) + 1) = ((pre ++ [x]).length : Int) := step_pre pre x r (by rw [← hp]; omega)
      have hN' := hN x hx
      obtain ⟨z, ht⟩ := t59 x hx
      have hpl : (pre ++ [x]).length = pre.length + 1 := by simp
      have hf' : r.length < fuel := by simp at hf; omega
      have ihf := ih (pre ++ [x]) fuel w rs (by rw [hp]; simp) hf' (by omega) hrs
      have iht := ih (pre ++ [x]) fuel (w ++ [(pre.length : Int)]) (rs ++ [stI n S x]) (by rw [hp]; simp) hf' (by simp; omega) (by simp [hrs])
      have hin := in74 (call := call) (f := f) (g := g) (g1 := (ntP n S x).isEmpty) (n := n) (m := l.length) (k := fuel) (c := c) (cs := l.flatMap plC) (t := (pre.length : Int)) (w := w) (rs := rs) (by omega) (by omega) hN'.2 hN'.1 (ntP n S x) [] LL rfl (by unfold LL; omega)
      rw [hst, hpl] at hin
      rw [hpl] at ihf iht
      replace hin := hin.trans iht
      rw [show whoGo n S (x :: r) pre.length = ifK (allB (ntP n S x)) ((pre.length : Int) :: whoGo n S r (pre.length + 1)) (whoGo n S r (pre.length + 1)) from rfl, show rowGo n S (x :: r) = ifK (allB (ntP n S x)) (stI n S x :: rowGo n S r) (rowGo n S r) from rfl]
      rw [List.append_assoc, List.append_assoc] at hin
      rw [← hpl, ← hst] at ihf
      have key : ∀ (a : Option D), a = ifK (!allB (ntP n S x)) (F74_122 call LL C1 fuel g n c f l.length (l.flatMap plC) (owI w) (owL rs) (IntKind.wrap .i64 ((pre.length : Int) + 1))) (F74_250490 call LL C1 fuel LL (pre.length : Int) g n c f l.length (l.flatMap plC) (owI w) (owL rs) .nil (ntP n S x).isEmpty (ntP n S x).length ((ntP n S x).flatMap netD) 0) →
          a = end74 call (w ++ ifK (allB (ntP n S x)) ((pre.length : Int) :: whoGo n S r (pre.length + 1)) (whoGo n S r (pre.length + 1))) (rs ++ ifK (allB (ntP n S x)) (stI n S x :: rowGo n S r) (rowGo n S r)) := fun a ha => by
        rw [ha]
        cases allB (ntP n S x) with
        | true => exact hin
        | false => rw [hpl] at ihf; exact ihf
      have e0 : ∀ k : D → Option D, cellK [D.int .i64 z, D.bool (allB (ntP n S x))] 0 k = k (.int .i64 z) := fun _ => rfl
      have e1 : ∀ k : D → Option D, cellK [D.int .i64 z, D.bool (allB (ntP n S x))] 1 k = k (.bool (allB (ntP n S x))) := fun _ => rfl
      rcases w with _ | ⟨w0, ws⟩ <;> rcases rs with _ | ⟨q0, qs⟩
      · exact key _ (by rw [owI_nil, owL_nil, F74_122_eqnn, h1, ifK_true, h2, chkK_true, c0, strK_str, c1, slcK_slc, c2, intK_int, ht, optK_some, tup2, e0, intK_int, e1, boolK_bool, chkK_true, c0, strK_str, c1, slcK_slc, c2, intK_int, t26 x hx, optK_some, slcK_slc])
      · cases hrs
      · cases hrs
      · exact key _ (by rw [owI_cons, owL_cons, F74_122_eqoo, h1, ifK_true, h2, chkK_true, c0, strK_str, c1, slcK_slc, c2, intK_int, ht, optK_some, tup2, e0, intK_int, e1, boolK_bool, chkK_true, c0, strK_str, c1, slcK_slc, c2, intK_int, t26 x hx, optK_some, slcK_slc])
/-- One rank: those who have it. -/
theorem in1018 {v : Int} (h0 : 0 < w.length) (hw : own.length = w.length) (hm : w.length ≤ 8) : ∀ (j i fuel : Nat) (A : List Int), i + j = w.length → j < fuel → A.length + j ≤ 2000 →
    F74_65170 call LL C1 q fuel fo own.length (ints own) v (owI w) (owI (A.map (rkV w))) (owI (A.map (rkV own))) (i : Int) =
      F74_1018 call LL C1 q (owI w) fo own.length (ints own) (owI ((A ++ (upI j i).filter (fun x => rkV own x == v)).map (rkV w))) (owI ((A ++ (upI j i).filter (fun x => rkV own x == v)).map (rkV own))) (IntKind.wrap .i64 (v + 1)) := by
  intro j
  induction j with
  | zero =>
    intro i fuel A hi hf hA
    cases fuel with
    | zero => exact absurd hf (Nat.not_lt_zero _)
    | succ fuel =>
      have h1 : decide ((i : Int) < (w.length : Int)) = false := by simp; omega
      rw [show (upI 0 i).filter (fun x => rkV own x == v) = [] from rfl, List.append_nil]
      cases w with
      | nil => exact absurd h0 (Nat.lt_irrefl _)
      | cons w0 ws =>
        rw [List.length_cons] at h1
        cases A with
        | nil => rw [owI_cons, List.map_nil, List.map_nil, owI_nil, F74_65170_eqonn, h1, ifK_false]
        | cons a A => rw [owI_cons, List.map_cons, List.map_cons, owI_cons, owI_cons, F74_65170_eqooo, h1, ifK_false]
  | succ j ih =>
    intro i fuel A hi hf hA
    cases fuel with
    | zero => exact absurd hf (Nat.not_lt_zero _)
    | succ fuel =>
      have ihf := ih (i + 1) fuel A (by omega) (by omega) (by omega)
      have iht := ih (i + 1) fuel (A ++ [(i : Int)]) (by omega) (by omega) (by simp; omega)
      have hst : IntKind.wrap .i64 ((i : Int) + 1) = ((i + 1 : Nat) : Int) := by rw [wrap_in (by omega)]; rfl
      have h1 : decide ((i : Int) < (w.length : Int)) = true := by simp; omega
      have h2 : decide ((0 : Int) ≤ (i : Int) ∧ (i : Int) < (own.length : Int)) = true := by simp; omega
      have h3 : decide ((0 : Int) ≤ (i : Int) ∧ (i : Int) < (w.length : Int)) = true := by simp; omega
      have g1 : ∀ {γ : Type} (k : D → Option γ), cellK (ints own) (Int.toNat (i : Int) * 1) k = k (.int .i64 (rkV own i)) := fun k => ints_get (by omega) k
      have g2 : ∀ {γ : Type} (k : D → Option γ), cellK (ints w) (Int.toNat (i : Int) * 1) k = k (.int .i64 (rkV w i)) := fun k => ints_get (by omega) k
      rw [show upI (j + 1) i = (i : Int) :: upI j (i + 1) from rfl]
      cases hq : rkV own (i : Int) == v with
      | true =>
        have hv : rkV own (i : Int) = v := by simpa using hq
        rw [List.filter_cons_of_pos (by simpa using hq)]
        rw [List.append_assoc, List.singleton_append] at iht
        rw [← iht, List.map_append, List.map_append, List.map_cons, List.map_cons, List.map_nil, List.map_nil, owI_snoc, owI_snoc, ← hst, hv]
        clear iht ihf ih
        cases w with
        | nil => exact absurd h0 (Nat.lt_irrefl _)
        | cons w0 ws =>
          rw [List.length_cons] at h1 h3
          cases A with
          | nil =>
            rw [owI_cons, List.map_nil, List.map_nil, owI_nil, F74_65170_eqonn, h1, ifK_true, h2, chkK_true, g1, intK_int, hq, ifK_true, h3, chkK_true, g2, intK_int]
            rfl
          | cons a A =>
            rw [owI_cons, List.map_cons, List.map_cons, owI_cons, owI_cons, F74_65170_eqooo, h1, ifK_true, h2, chkK_true, g1, intK_int, hq, ifK_true, h3, chkK_true, g2, intK_int, roomK (by simp at hA ⊢; omega), chkK_true, roomK (by simp at hA ⊢; omega), chkK_true]
            rfl
      | false =>
        rw [List.filter_cons_of_neg (by simpa using hq), ← ihf, ← hst]
        clear iht ihf ih
        cases w with
        | nil => exact absurd h0 (Nat.lt_irrefl _)
        | cons w0 ws =>
          rw [List.length_cons] at h1 h3
          cases A with
          | nil => rw [owI_cons, List.map_nil, List.map_nil, owI_nil, F74_65170_eqonn, h1, ifK_true, h2, chkK_true, g1, intK_int, hq, ifK_false]
          | cons a A => rw [owI_cons, List.map_cons, List.map_cons, owI_cons, owI_cons, F74_65170_eqooo, h1, ifK_true, h2, chkK_true, g1, intK_int, hq, ifK_false]
/-- All ranks. -/
theorem go1018 (h0 : 0 < w.length) (hw : own.length = w.length) (hm : w.length ≤ 8) : ∀ (j v fuel : Nat) (A : List Int), v + j = w.length + 1 → j < fuel → A.length + j * 8 ≤ 1000 →
    F74_1018 call LL C1 fuel (owI w) fo own.length (ints own) (owI (A.map (rkV w))) (owI (A.map (rkV own))) (v : Int) =
      some (.tup [slI ((A ++ bkGo (rkV own) (upI w.length 0) v j).map (rkV w)), slI ((A ++ bkGo (rkV own) (upI w.length 0) v j).map (rkV own))]) := by
  intro j
  induction j with
  | zero =>
    intro v fuel A hv hf hA
    cases fuel with
    | zero => exact absurd hf (Nat.not_lt_zero _)
    | succ fuel =>
      have h1 : decide ((v : Int) ≤ (w.length : Int)) = false := by simp; omega
      rw [show bkGo (rkV own) (upI w.length 0) (v : Int) 0 = [] from rfl, List.append_nil]
      cases w with
      | nil => exact absurd h0 (Nat.lt_irrefl _)
      | cons w0 ws =>
        rw [List.length_cons] at h1
        cases A with
        | nil =>
          rw [owI_cons, List.map_nil, List.map_nil, owI_nil, F74_1018_eqonn, h1, ifK_false]
          rfl
        | cons a A =>
          rw [owI_cons, List.map_cons, List.map_cons, owI_cons, owI_cons, F74_1018_eqooo, h1, ifK_false]
          rfl
  | succ j ih =>
    intro v fuel A hv hf hA
    cases fuel with
    | zero => exact absurd hf (Nat.not_lt_zero _)
    | succ fuel =>
      have hfl := List.length_filter_le (fun x => rkV own x == (v : Int)) (upI w.length 0)
      rw [upI_len] at hfl
      have ih := ih (v + 1) fuel (A ++ (upI w.length 0).filter (fun x => rkV own x == (v : Int))) (by omega) (by omega) (by rw [List.length_append]; omega)
      have hin := in1018 (call := call) (q := fuel) (fo := fo) (v := (v : Int)) h0 hw hm w.length 0 LL A (by omega) (by unfold LL; omega) (by omega)
      have hst : IntKind.wrap .i64 ((v : Int) + 1) = ((v + 1 : Nat) : Int) := by rw [wrap_in (by omega)]; rfl
      have h1 : decide ((v : Int) ≤ (w.length : Int)) = true := by simp; omega
      rw [show bkGo (rkV own) (upI w.length 0) (v : Int) (j + 1) = (upI w.length 0).filter (fun x => rkV own x == (v : Int)) ++ bkGo (rkV own) (upI w.length 0) ((v : Int) + 1) j from rfl, ← List.append_assoc]
      rw [hst] at hin
      replace hin := hin.trans ih
      rw [show ((v + 1 : Nat) : Int) = (v : Int) + 1 from rfl] at hin
      rw [← hin]
      clear hin ih hst hfl
      cases w with
      | nil => exact absurd h0 (Nat.lt_irrefl _)
      | cons w0 ws =>
        rw [List.length_cons] at h1
        cases A with
        | nil =>
          rw [owI_cons, List.map_nil, List.map_nil, owI_nil, F74_1018_eqonn, h1, ifK_true]
          rfl
        | cons a A =>
          rw [owI_cons, List.map_cons, List.map_cons, owI_cons, owI_cons, F74_1018_eqooo, h1, ifK_true]
          rfl
theorem ok51n : OK5 51 [.nils] (.slc true 0 []) :=
  CallOK.canon (fnT none_ok Tryz.func51 (ord := O0) (N := N51) (by kernel_rfl) ((F51_eq _ _ _ true 0 []).trans (F51_58_eqn _ _ _ (LL - 1) _ _ _ _)))
theorem ok51a {l : List (List Int)} {k : Nat} (hk : k ≤ 1000) (hs : sameLen k l) (hl : l.length ≤ 1000) : OK5 51 [argL l] (slI (ranksV l)) := by
  cases l with
  | nil => exact ok51n
  | cons x l =>
    have := ok51 (f := false) hk hs hl (by simp)
    have e : slI (ranksV (x :: l)) = .slc false (x :: l).length (ints (ranksV (x :: l))) := by
      show D.slc false ((l.map _).length + 1) _ = _
      rw [List.length_map]
      rfl
    rw [e]
    exact this
/-- The reference's Leaders, of valid players. -/
theorem ok74 (hc : HolesC n c P S) (l : List PlV) (hl : l.length ≤ 8) (hv : ∀ x ∈ l, plErr n P S x.1 x.2.1 x.2.2 = 0) : OK5 74 [.agg [.slc f n c, .slc g l.length (l.flatMap plC)]] (.tup [slI (ldOut n S l), slI (ldPl n S l)]) := by
  have hN : ∀ x ∈ l, 0 < (ntP n S x).length ∧ (ntP n S x).length ≤ 1000 := fun x hx => by
    have := (plErr_zero (hv x hx)).1
    rw [ntE_len (hv x hx)]
    omega
  have hrl := who_len n S l 0
  have h51 : OK5 51 [argL (rowGo n S l)] (slI (ranksV (rowGo n S l))) := by
    cases l with
    | nil => exact ok51n
    | cons x r => exact ok51a (k := n) (by have := (plErr_zero (hv x (by simp))).1.2.1; omega) (rows_same hv) (by omega)
  obtain ⟨B, hb, t59, t26, t51, _⟩ := exF [famPl 59 (.slc f n c) l fun x => .tup [.int .i64 (ifK (allB (ntP n S x)) (sumW (ntP n S x) 0) 0), .bool (allB (ntP n S x))], famPl 26 (.slc f n c) l fun x => slR netD (ntP n S x), one 51 [argL (rowGo n S l)] (slI (ranksV (rowGo n S l)))]
    ⟨famPl_good (fun x hx => (ok59 (f := f) (g := false) hc x.1 x.2.1 x.2.2 (hv x hx)).1) (fun _ => rfl), famPl_good (fun x hx => ok26p hc (hv x hx)) (fun _ => rfl), one_good h51 rfl, trivial⟩ rfl
  have t51 : callOf B 51 [argL (rowGo n S l)] = some (slI (ranksV (rowGo n S l))) := t51 ()
  refine fnT hb Tryz.func74 (ord := O0) (N := N74) (by kernel_rfl) ((F74_eq _ _ _ _ _ _ _ _ _).trans ?_)
  refine (go74 (S := S) (fun x hx => ⟨_, t59 ⟨x, hx⟩⟩) (fun x hx => t26 ⟨x, hx⟩) hN (by omega) l [] LL [] [] rfl (by unfold LL; omega) (Nat.le_refl _) rfl).trans ?_
  rw [List.nil_append, List.nil_append]
  unfold ldOut ldPl srtV end74
  rw [show callOf B 51 [argL (rowGo n S l)] = _ from t51, optK_some]
  generalize rowGo n S l = R at *
  generalize whoGo n S l 0 = W at *
  obtain ⟨hrl, hwl⟩ := hrl
  cases R with
  | nil =>
    cases W with
    | cons _ _ => cases hrl
    | nil =>
      show F74_1018 (callOf B) LL C1 LL .nil true 0 [] .nil .nil 1 = _
      exact F74_1018_eqnnn _ _ _ (LL - 1) _ _ _ _
  | cons x R =>
    have h0 : 0 < W.length := by rw [hrl]; simp
    have := go1018 (call := callOf B) (fo := false) (own := ranksV (x :: R)) h0 (by rw [hrl]; simp [ranksV]) (by omega) W.length 1 LL [] (by omega) (by unfold LL; omega) (by simp; omega)
    rw [hrl] at this
    show F74_1018 (callOf B) LL C1 LL (owI W) false (ranksV (x :: R)).length (ints (ranksV (x :: R))) .nil .nil 1 = _
    exact this
end
end Go.Pd
end

section
namespace Go.Pd
open Go Go.Proofs
set_option maxRecDepth 100000
def N77 : NTab := fun p => match p with
  | 58 => some { keep := [0, 4, 5], kl := [], ren := [(20, 20), (71, 20)] }
  | 122 => some { keep := [0, 4, 6], kl := [], ren := [(20, 20), (71, 20)] }
  | 31306 => some { keep := [0, 4, 6, 7, 8], kl := [], ren := [(20, 20), (71, 20)] }
  | 31311 => some { keep := [0, 6, 9], kl := [20], ren := [(20, 20), (71, 20)] }
  | 125242 => some { keep := [0, 4, 6, 7, 9, 10], kl := [], ren := [(20, 20), (71, 71)] }
  | _ => none
noncomputable def F77_31311 (call : FuncId → List D → Option D) (L : Nat) (C : Nat → Nat) (n_1 : Nat) (vl_f : Bool) (vl_n : Nat) (vl_c : List D) (vhole : Int) (vstay_1 : Ow) : Option D :=
  cutAt (TEf call L C) O0 N77 FinM.canon Tryz.f77 [true, true, true, false, true, false, false, true, false, false, true, true, true, true] [n_1]  (C 31311) (St.mk [D.slc vl_f vl_n vl_c, J, J, J, J, J, D.int IntKind.i64 vhole, J, J, ownD 20 vstay_1, J, J, J, J, J, J, J, J, J, J, J, J, J, J, J, J, J, J, J, J, J, J, J, J, J, J, J, J, J, J, J, J, J, J, J, J, J, J, J, J, J, J, J, J, J, J, J, J, J, J, J, J, J, J, J, J, J, J, J, J, J, J, J, J, J, J, J, J, J, J, J, J, J, J] [Z, Z, Z, Z, Z, Z, Z, Z, Z, Z, Z, Z, Z, Z, Z, Z, Z, Z, Z, Z, ownO 3 1 vstay_1, Z, Z, Z, Z, Z, Z, Z, Z, Z, Z, Z, Z, Z, Z, Z, Z, Z, Z, Z, Z, Z, Z, Z, Z, Z, Z, Z, Z, Z, Z, Z, Z, Z, Z, Z, Z, Z, Z, Z, Z, Z, Z, Z, Z, Z, Z, Z, Z, Z, Z, Z, Z, Z, Z, Z, Z, Z, Z, Z, Z, Z, Z, Z])
noncomputable def F77_125242 (call : FuncId → List D → Option D) (L : Nat) (C : Nat → Nat) (n_1 : Nat) (n_4 : Nat) (vl_f : Bool) (vl_n : Nat) (vl_c : List D) (vhole : Int) (vleast : Int) (vleft_3 : Ow) (vstay : Ow) (vi_2 : Int) : Option D :=
  loopAt (TEf call L C) O0 N77 FinM.canon Tryz.f77 [true, true, true, false, true, false, false, true, false, false, true, true, true, false, true, false] [n_1]  n_4 (St.mk [D.slc vl_f vl_n vl_c, J, J, J, ownD 20 vleft_3, J, D.int IntKind.i64 vhole, D.int IntKind.i64 vleast, J, ownD 71 vstay, D.int IntKind.i64 vi_2, J, J, J, J, J, J, J, J, J, J, J, J, J, J, J, J, J, J, J, J, J, J, J, J, J, J, J, J, J, J, J, J, J, J, J, J, J, J, J, J, J, J, J, J, J, J, J, J, J, J, J, J, J, J, J, J, J, J, J, J, J, J, J, J, J, J, J, J, J, J, J, J, J] [Z, Z, Z, Z, Z, Z, Z, Z, Z, Z, Z, Z, Z, Z, Z, Z, Z, Z, Z, Z, ownO 3 1 vleft_3, Z, Z, Z, Z, Z, Z, Z, Z, Z, Z, Z, Z, Z, Z, Z, Z, Z, Z, Z, Z, Z, Z, Z, Z, Z, Z, Z, Z, Z, Z, Z, Z, Z, Z, Z, Z, Z, Z, Z, Z, Z, Z, Z, Z, Z, Z, Z, Z, Z, Z, ownO 3 1 vstay, Z, Z, Z, Z, Z, Z, Z, Z, Z, Z, Z, Z])
noncomputable def F77_31306 (call : FuncId → List D → Option D) (L : Nat) (C : Nat → Nat) (n_1 : Nat) (n_3 : Nat) (vl_f : Bool) (vl_n : Nat) (vl_c : List D) (vhole : Int) (vleft_2 : Ow) (vleast : Int) (vi_1 : Int) : Option D :=
  loopAt (TEf call L C) O0 N77 FinM.canon Tryz.f77 [true, true, true, false, true, false, false, true, false, false, true, false, true, false] [n_1]  n_3 (St.mk [D.slc vl_f vl_n vl_c, J, J, J, ownD 20 vleft_2, J, D.int IntKind.i64 vhole, D.int IntKind.i64 vleast, D.int IntKind.i64 vi_1, J, J, J, J, J, J, J, J, J, J, J, J, J, J, J, J, J, J, J, J, J, J, J, J, J, J, J, J, J, J, J, J, J, J, J, J, J, J, J, J, J, J, J, J, J, J, J, J, J, J, J, J, J, J, J, J, J, J, J, J, J, J, J, J, J, J, J, J, J, J, J, J, J, J, J] [Z, Z, Z, Z, Z, Z, Z, Z, Z, Z, Z, Z, Z, Z, Z, Z, Z, Z, Z, Z, ownO 3 1 vleft_2, Z, Z, Z, Z, Z, Z, Z, Z, Z, Z, Z, Z, Z, Z, Z, Z, Z, Z, Z, Z, Z, Z, Z, Z, Z, Z, Z, Z, Z, Z, Z, Z, Z, Z, Z, Z, Z, Z, Z, Z, Z, Z, Z, Z, Z, Z, Z, Z, Z, Z, Z, Z, Z, Z, Z, Z, Z, Z, Z, Z, Z, Z, Z])
noncomputable def F77_122 (call : FuncId → List D → Option D) (L : Nat) (C : Nat → Nat) (n_1 : Nat) (vl_f : Bool) (vl_n : Nat) (vl_c : List D) (vleft_1 : Ow) (vhole : Int) : Option D :=
  loopAt (TEf call L C) O0 N77 FinM.canon Tryz.f77 [true, true, true, false, true, false] []  n_1 (St.mk [D.slc vl_f vl_n vl_c, J, J, J, ownD 20 vleft_1, J, D.int IntKind.i64 vhole, J, J, J, J, J, J, J, J, J, J, J, J, J, J, J, J, J, J, J, J, J, J, J, J, J, J, J, J, J, J, J, J, J, J, J, J, J, J, J, J, J, J, J, J, J, J, J, J, J, J, J, J, J, J, J, J, J, J, J, J, J, J, J, J, J, J, J, J, J, J, J, J, J, J, J, J, J] [Z, Z, Z, Z, Z, Z, Z, Z, Z, Z, Z, Z, Z, Z, Z, Z, Z, Z, Z, Z, ownO 3 1 vleft_1, Z, Z, Z, Z, Z, Z, Z, Z, Z, Z, Z, Z, Z, Z, Z, Z, Z, Z, Z, Z, Z, Z, Z, Z, Z, Z, Z, Z, Z, Z, Z, Z, Z, Z, Z, Z, Z, Z, Z, Z, Z, Z, Z, Z, Z, Z, Z, Z, Z, Z, Z, Z, Z, Z, Z, Z, Z, Z, Z, Z, Z, Z, Z])
noncomputable def F77_58 (call : FuncId → List D → Option D) (L : Nat) (C : Nat → Nat) (n : Nat) (vl_f : Bool) (vl_n : Nat) (vl_c : List D) (vleft : Ow) (vi : Int) : Option D :=
  loopAt (TEf call L C) O0 N77 FinM.canon Tryz.f77 [true, true, false, true, false] []  n (St.mk [D.slc vl_f vl_n vl_c, J, J, J, ownD 20 vleft, D.int IntKind.i64 vi, J, J, J, J, J, J, J, J, J, J, J, J, J, J, J, J, J, J, J, J, J, J, J, J, J, J, J, J, J, J, J, J, J, J, J, J, J, J, J, J, J, J, J, J, J, J, J, J, J, J, J, J, J, J, J, J, J, J, J, J, J, J, J, J, J, J, J, J, J, J, J, J, J, J, J, J, J, J] [Z, Z, Z, Z, Z, Z, Z, Z, Z, Z, Z, Z, Z, Z, Z, Z, Z, Z, Z, Z, ownO 3 1 vleft, Z, Z, Z, Z, Z, Z, Z, Z, Z, Z, Z, Z, Z, Z, Z, Z, Z, Z, Z, Z, Z, Z, Z, Z, Z, Z, Z, Z, Z, Z, Z, Z, Z, Z, Z, Z, Z, Z, Z, Z, Z, Z, Z, Z, Z, Z, Z, Z, Z, Z, Z, Z, Z, Z, Z, Z, Z, Z, Z, Z, Z, Z, Z])
theorem F77_31311_eqo (call : FuncId → List D → Option D) (L : Nat) (C : Nat → Nat) (n_1 : Nat) (vl_f : Bool) (vl_n : Nat) (vl_c : List D) (vhole : Int) (vstay_1_n : Nat) (vstay_1_c : List D) (hC : ∀ t, C t = 1) : F77_31311 call L C n_1 vl_f vl_n vl_c vhole (Ow.own vstay_1_n vstay_1_c) =
  (ifK ((vstay_1_n : Int) == 1)
    (some (D.tup [D.slc false vstay_1_n vstay_1_c, D.int IntKind.i64 (IntKind.wrap IntKind.i64 (vhole + 1))]))
    (F77_122 call L C n_1 vl_f vl_n vl_c (Ow.own vstay_1_n vstay_1_c) (IntKind.wrap IntKind.i64 (vhole + 1)))) := by
  unfold F77_31311
  rw [hC]
  kernel_rfl
theorem F77_125242_eqon (call : FuncId → List D → Option D) (L : Nat) (C : Nat → Nat) (n_1 : Nat) (n_4 : Nat) (vl_f : Bool) (vl_n : Nat) (vl_c : List D) (vhole : Int) (vleast : Int) (vleft_3_n : Nat) (vleft_3_c : List D) (vi_2 : Int) : F77_125242 call L C n_1 (n_4 + 1) vl_f vl_n vl_c vhole vleast (Ow.own vleft_3_n vleft_3_c) (Ow.nil) (vi_2) =
  (ifK (decide (vi_2 < (vleft_3_n : Int)))
    (chkK (decide (0 ≤ vi_2 ∧ vi_2 < (vleft_3_n : Int)))
      (cellK (vleft_3_c) (Int.toNat vi_2 * 1) fun d_1 =>
      (intK IntKind.i64 (d_1) fun x =>
      (chkK (decide (0 ≤ x ∧ x < (vl_n : Int)))
        (cellK (vl_c) (Int.toNat x * 1) fun d_2 =>
        (slcK (d_2) fun _f_1 n_6 c_1 =>
        (chkK (decide (0 ≤ vhole ∧ vhole < (n_6 : Int)))
          (cellK (c_1) (Int.toNat vhole * 1) fun d_3 =>
          (intK IntKind.i64 (d_3) fun x_1 =>
          (ifK (x_1 == vleast)
            (chkK (decide (0 ≤ vi_2 ∧ vi_2 < (vleft_3_n : Int)))
              (cellK (vleft_3_c) (Int.toNat vi_2 * 1) fun d_4 =>
              (intK IntKind.i64 (d_4) fun x_2 =>
              (F77_125242 call L C n_1 n_4 vl_f vl_n vl_c vhole vleast (Ow.own vleft_3_n vleft_3_c) (Ow.own 1 [D.int IntKind.i64 x_2]) (IntKind.wrap IntKind.i64 (vi_2 + 1))))))
            (F77_125242 call L C n_1 n_4 vl_f vl_n vl_c vhole vleast (Ow.own vleft_3_n vleft_3_c) (Ow.nil) (IntKind.wrap IntKind.i64 (vi_2 + 1)))))))))))))
    (F77_31311 call L C n_1 vl_f vl_n vl_c vhole (Ow.nil))) := by kernel_rfl
theorem F77_125242_eqoo (call : FuncId → List D → Option D) (L : Nat) (C : Nat → Nat) (n_1 : Nat) (n_4 : Nat) (vl_f : Bool) (vl_n : Nat) (vl_c : List D) (vhole : Int) (vleast : Int) (vleft_3_n : Nat) (vleft_3_c : List D) (vstay_n_1 : Nat) (vstay_c_1 : List D) (vi_2 : Int) : F77_125242 call L C n_1 (n_4 + 1) vl_f vl_n vl_c vhole vleast (Ow.own vleft_3_n vleft_3_c) (Ow.own vstay_n_1 vstay_c_1) (vi_2) =
  (ifK (decide (vi_2 < (vleft_3_n : Int)))
    (chkK (decide (0 ≤ vi_2 ∧ vi_2 < (vleft_3_n : Int)))
      (cellK (vleft_3_c) (Int.toNat vi_2 * 1) fun d_5 =>
      (intK IntKind.i64 (d_5) fun x_3 =>
      (chkK (decide (0 ≤ x_3 ∧ x_3 < (vl_n : Int)))
        (cellK (vl_c) (Int.toNat x_3 * 1) fun d_6 =>
        (slcK (d_6) fun _f_2 n_7 c_2 =>
        (chkK (decide (0 ≤ vhole ∧ vhole < (n_7 : Int)))
          (cellK (c_2) (Int.toNat vhole * 1) fun d_7 =>
          (intK IntKind.i64 (d_7) fun x_4 =>
          (ifK (x_4 == vleast)
            (chkK (decide (0 ≤ vi_2 ∧ vi_2 < (vleft_3_n : Int)))
              (cellK (vleft_3_c) (Int.toNat vi_2 * 1) fun d_8 =>
              (intK IntKind.i64 (d_8) fun x_5 =>
              (chkK (decide ((vstay_n_1 + 1) * 8 ≤ limit ∧ vstay_n_1 + 1 ≤ 9223372036854775807))
                (F77_125242 call L C n_1 n_4 vl_f vl_n vl_c vhole vleast (Ow.own vleft_3_n vleft_3_c) (Ow.own (vstay_n_1 + 1) (vstay_c_1 ++ [D.int IntKind.i64 x_5])) (IntKind.wrap IntKind.i64 (vi_2 + 1)))))))
            (F77_125242 call L C n_1 n_4 vl_f vl_n vl_c vhole vleast (Ow.own vleft_3_n vleft_3_c) (Ow.own vstay_n_1 vstay_c_1) (IntKind.wrap IntKind.i64 (vi_2 + 1)))))))))))))
    (F77_31311 call L C n_1 vl_f vl_n vl_c vhole (Ow.own vstay_n_1 vstay_c_1))) := by kernel_rfl
theorem F77_31306_eqo (call : FuncId → List D → Option D) (L : Nat) (C : Nat → Nat) (n_1 : Nat) (n_3 : Nat) (vl_f : Bool) (vl_n : Nat) (vl_c : List D) (vhole : Int) (vleft_2_n : Nat) (vleft_2_c : List D) (vleast : Int) (vi_1 : Int) : F77_31306 call L C n_1 (n_3 + 1) vl_f vl_n vl_c vhole (Ow.own vleft_2_n vleft_2_c) (vleast) (vi_1) =
  (ifK (decide (vi_1 < (vleft_2_n : Int)))
    (chkK (decide (0 ≤ vi_1 ∧ vi_1 < (vleft_2_n : Int)))
      (cellK (vleft_2_c) (Int.toNat vi_1 * 1) fun d_9 =>
      (intK IntKind.i64 (d_9) fun x_6 =>
      (chkK (decide (0 ≤ x_6 ∧ x_6 < (vl_n : Int)))
        (cellK (vl_c) (Int.toNat x_6 * 1) fun d_10 =>
        (slcK (d_10) fun _f_3 n_8 c_3 =>
        (chkK (decide (0 ≤ vhole ∧ vhole < (n_8 : Int)))
          (cellK (c_3) (Int.toNat vhole * 1) fun d_11 =>
          (intK IntKind.i64 (d_11) fun x_7 =>
          (F77_31306 call L C n_1 n_3 vl_f vl_n vl_c vhole (Ow.own vleft_2_n vleft_2_c) (if x_7 < vleast then x_7 else vleast) (IntKind.wrap IntKind.i64 (vi_1 + 1))))))))))))
    (F77_125242 call L C n_1 L vl_f vl_n vl_c vhole vleast (Ow.own vleft_2_n vleft_2_c) (Ow.nil) (0))) := by kernel_rfl
theorem F77_122_eqo (call : FuncId → List D → Option D) (L : Nat) (C : Nat → Nat) (n_1 : Nat) (vl_f : Bool) (vl_n : Nat) (vl_c : List D) (vleft_1_n : Nat) (vleft_1_c : List D) (vhole : Int) : F77_122 call L C  (n_1 + 1) vl_f vl_n vl_c (Ow.own vleft_1_n vleft_1_c) (vhole) =
  (chkK (decide ((0 : Int) ≤ 0 ∧ (0 : Int) < (vl_n : Int)))
    (cellK (vl_c) (0) fun d_13 =>
    (slcK (d_13) fun _f_5 n_10 _c_5 =>
    (ifK (decide (vhole < (n_10 : Int)))
      (F77_31306 call L C n_1 L vl_f vl_n vl_c vhole (Ow.own vleft_1_n vleft_1_c) (99) (0))
      (chkK (decide ((0 : Int) ≤ 0 ∧ (0 : Int) < (vl_n : Int)))
        (cellK (vl_c) (0) fun d_14 =>
        (slcK (d_14) fun _f_6 n_11 _c_6 =>
        (some (D.tup [D.slc false vleft_1_n vleft_1_c, D.int IntKind.i64 (n_11 : Int)]))))))))) := by kernel_rfl
theorem F77_58_eqn (call : FuncId → List D → Option D) (L : Nat) (C : Nat → Nat) (n : Nat) (vl_f : Bool) (vl_n : Nat) (vl_c : List D) (vi : Int) : F77_58 call L C  (n + 1) vl_f vl_n vl_c (Ow.nil) (vi) =
  (ifK (decide (vi < (vl_n : Int)))
    (F77_58 call L C n vl_f vl_n vl_c (Ow.own 1 [D.int IntKind.i64 vi]) (IntKind.wrap IntKind.i64 (vi + 1)))
    (F77_122 call L C L vl_f vl_n vl_c (Ow.nil) (0))) := by kernel_rfl
theorem F77_58_eqo (call : FuncId → List D → Option D) (L : Nat) (C : Nat → Nat) (n : Nat) (vl_f : Bool) (vl_n : Nat) (vl_c : List D) (vleft_n : Nat) (vleft_c : List D) (vi : Int) : F77_58 call L C  (n + 1) vl_f vl_n vl_c (Ow.own vleft_n vleft_c) (vi) =
  (ifK (decide (vi < (vl_n : Int)))
    (chkK (decide ((vleft_n + 1) * 8 ≤ limit ∧ vleft_n + 1 ≤ 9223372036854775807))
      (F77_58 call L C n vl_f vl_n vl_c (Ow.own (vleft_n + 1) (vleft_c ++ [D.int IntKind.i64 vi])) (IntKind.wrap IntKind.i64 (vi + 1))))
    (F77_122 call L C L vl_f vl_n vl_c (Ow.own vleft_n vleft_c) (0))) := by kernel_rfl
theorem F77_eq (call : FuncId → List D → Option D) (L : Nat) (C : Nat → Nat) (vl_f : Bool) (vl_n : Nat) (vl_c : List D) : evFnT (TEf call L C) O0 N77 FinM.canon Tryz.f77 [D.slc vl_f vl_n vl_c] =
  (F77_58 call L C L vl_f vl_n vl_c (Ow.nil) (0)) := by kernel_rfl
-- 20458 ms
end Go.Pd
end

section
namespace Go.Pd
open Go Go.Proofs Go.RowKit
set_option maxRecDepth 100000
/-! ### A play-off -/
/-- The strokes of a player at a hole. -/
def rwV (l : List (List Int)) (x : Int) : List Int := (l[x.toNat]?).getD []
def scV (l : List (List Int)) (h : Nat) (x : Int) : Int := rkV (rwV l x) (h : Int)
def mnGo (g : Int → Int) : List Int → Int → Int
  | [], m => m
  | x :: r, m => mnGo g r (if g x < m then g x else m)
theorem mnGo_le (g : Int → Int) : ∀ (L : List Int) (m : Int), mnGo g L m ≤ m ∧ ∀ x ∈ L, mnGo g L m ≤ g x
  | [], m => ⟨Int.le_refl _, fun x hx => by cases hx⟩
  | y :: r, m => by
    obtain ⟨h1, h2⟩ := mnGo_le g r (if g y < m then g y else m)
    rw [show mnGo g (y :: r) m = mnGo g r (if g y < m then g y else m) from rfl]
    have e : (if g y < m then g y else m) ≤ m ∧ (if g y < m then g y else m) ≤ g y := by split <;> omega
    refine ⟨Int.le_trans h1 e.1, fun x hx => ?_⟩
    rcases List.mem_cons.1 hx with rfl | hx
    · exact Int.le_trans h1 e.2
    · exact h2 x hx
theorem mnGo_at (g : Int → Int) : ∀ (L : List Int) (m : Int), mnGo g L m = m ∨ ∃ x ∈ L, mnGo g L m = g x
  | [], m => .inl rfl
  | y :: r, m => by
    rw [show mnGo g (y :: r) m = mnGo g r (if g y < m then g y else m) from rfl]
    rcases mnGo_at g r (if g y < m then g y else m) with h | ⟨x, hx, h⟩
    · by_cases hy : g y < m
      · rw [if_pos hy] at h
        exact .inr ⟨y, by simp, by rw [if_pos hy]; exact h⟩
      · rw [if_neg hy] at h
        exact .inl (by rw [if_neg hy]; exact h)
    · exact .inr ⟨x, by simp [hx], h⟩
theorem mnGo_hd (g : Int → Int) {a : Int} {r : List Int} (h : g a ≤ 99) : mnGo g (a :: r) 99 = mnGo g (a :: r) (g a) := by
  show mnGo g r (if g a < 99 then g a else 99) = mnGo g r (if g a < g a then g a else g a)
  have e1 : (if g a < 99 then g a else 99) = g a := by split <;> omega
  rw [e1, ite_self]
/-- Those who stay. -/
def stp (g : Int → Int) (L : List Int) : List Int := L.filter fun x => g x == mnGo g L 99
theorem stp_ne {g : Int → Int} {L : List Int} (h : ∀ x ∈ L, g x ≤ 99) (h0 : L ≠ []) : stp g L ≠ [] := by
  cases L with
  | nil => exact absurd rfl h0
  | cons a r =>
    have h1 : ∃ x ∈ a :: r, g x = mnGo g (a :: r) 99 := by
      have e := mnGo_hd g (r := r) (h a (by simp))
      rcases mnGo_at g (a :: r) (g a) with h2 | ⟨x, hx, h2⟩
      · exact ⟨a, by simp, by rw [e, h2]⟩
      · exact ⟨x, hx, by rw [e, h2]⟩
    obtain ⟨x, hx, h2⟩ := h1
    intro hn
    have : x ∈ stp g (a :: r) := List.mem_filter.2 ⟨hx, by simpa using h2⟩
    rw [hn] at this
    cases this
def rndGo (l : List (List Int)) : Nat → Nat → List Int → List Int × Nat
  | 0, h, L => (L, h)
  | j + 1, h, L => ifK (decide (1 < L.length)) (rndGo l j (h + 1) (stp (scV l h) L)) (L, h)
theorem rnd_one (l : List (List Int)) (j h : Nat) {L : List Int} (hL : L.length = 1) : rndGo l j h L = (L, h) := by
  cases j with
  | zero => rfl
  | succ j =>
    unfold rndGo
    rw [show decide (1 < L.length) = false by simp; omega, ifK_false]
structure PlOK (l : List (List Int)) (m : Nat) : Prop where
  n2 : 2 ≤ l.length
  n200 : l.length ≤ 200
  m0 : 0 < m
  m36 : m ≤ 36
  len : ∀ x ∈ l, x.length = m
  v : ∀ x ∈ l, ∀ y ∈ x, y ≤ 99
section
variable {call : FuncId → List D → Option D} {f : Bool} {l : List (List Int)} {m q : Nat}
theorem rw_mem {x : Int} (h : 0 ≤ x ∧ x < l.length) : rwV l x ∈ l := by
  have hl : x.toNat < l.length := by omega
  unfold rwV
  rw [List.getElem?_eq_getElem hl]
  exact List.getElem_mem hl
theorem rows_get {x : Int} (h : 0 ≤ x ∧ x < l.length) {γ : Type} (k : D → Option γ) : cellK (rows l) (Int.toNat x * 1) k = k (.slc false (rwV l x).length (ints (rwV l x))) := by
  have hl : x.toNat < l.length := by omega
  refine cellK_some ?_ k
  rw [Nat.mul_one]
  unfold rows rwV
  rw [List.getElem?_map, List.getElem?_eq_getElem hl]
  rfl
theorem sc_get (H : PlOK l m) {x : Int} (h : 0 ≤ x ∧ x < l.length) {i : Nat} (hi : i < m) {γ : Type} (k : D → Option γ) : cellK (ints (rwV l x)) (Int.toNat (i : Int) * 1) k = k (.int .i64 (scV l i x)) := by
  have := H.len _ (rw_mem h)
  exact ints_get (by omega) k
theorem sc_in (H : PlOK l m) {x : Int} (h : 0 ≤ x ∧ x < l.length) {i : Nat} (hi : i < m) : decide ((0 : Int) ≤ (i : Int) ∧ (i : Int) < ((rwV l x).length : Int)) = true := by
  have := H.len _ (rw_mem h)
  simp
  omega
theorem sc_99 (H : PlOK l m) {x : Int} (h : 0 ≤ x ∧ x < l.length) {i : Nat} (hi : i < m) : scV l i x ≤ 99 := by
  have := H.len _ (rw_mem h)
  exact H.v _ (rw_mem h) _ (rkV_mem ⟨by omega, by omega⟩)
variable {L : List Int}
theorem least77 (H : PlOK l m) {h : Nat} (hh : h < m) (hL : ∀ x ∈ L, 0 ≤ x ∧ x < (l.length : Int)) (h0 : L ≠ []) (hl : L.length ≤ 1000) : ∀ (r pre : List Int) (fuel : Nat) (mn : Int), L = pre ++ r → r.length < fuel →
    F77_31306 call LL C1 q fuel f l.length (rows l) (h : Int) (owI L) mn (pre.length : Int) = F77_125242 call LL C1 q LL f l.length (rows l) (h : Int) (mnGo (scV l h) r mn) (owI L) .nil 0 := by
  intro r
  induction r with
  | nil =>
    intro pre fuel mn hp hf
    cases fuel with
    | zero => exact absurd hf (Nat.not_lt_zero _)
    | succ fuel =>
      have h1 : decide ((pre.length : Int) < (L.length : Int)) = false := by rw [hp]; simp
      cases L with
      | nil => exact absurd rfl h0
      | cons a t =>
        rw [List.length_cons] at h1
        rw [owI_cons, F77_31306_eqo, h1, ifK_false]
        rfl
  | cons x r ih =>
    intro pre fuel mn hp hf
    cases fuel with
    | zero => exact absurd hf (Nat.not_lt_zero _)
    | succ fuel =>
      have ih := ih (pre ++ [x]) fuel (if scV l h x < mn then scV l h x else mn) (by rw [hp]; simp) (by simp at hf; omega)
      have hx := hL x (by rw [hp]; simp)
      have h1 : decide ((pre.length : Int) < (L.length : Int)) = true := by rw [hp]; simp; omega
      have h2 : decide ((0 : Int) ≤ (pre.length : Int) ∧ (pre.length : Int) < (L.length : Int)) = true := by rw [hp]; simp; omega
      have h3 : decide ((0 : Int) ≤ x ∧ x < (l.length : Int)) = true := by simpa using hx
      have hc : ∀ {γ : Type} (k : D → Option γ), cellK (ints L) (Int.toNat (pre.length : Int) * 1) k = k (.int .i64 x) := fun k => by rw [hp]; exact cell_ints pre x r k
      have hst : IntKind.wrap .i64 ((pre.length : Int) + 1) = ((pre ++ [x]).length : Int) := step_pre pre x r (by rw [← hp]; omega)
      rw [show mnGo (scV l h) (x :: r) mn = mnGo (scV l h) r (if scV l h x < mn then scV l h x else mn) from rfl, ← ih]
      clear ih
      cases L with
      | nil => exact absurd rfl h0
      | cons a t =>
        rw [List.length_cons] at h1 h2
        rw [owI_cons, F77_31306_eqo, h1, ifK_true, h2, chkK_true, hc, intK_int, h3, chkK_true, rows_get hx, slcK_slc, sc_in H hx hh, chkK_true, sc_get H hx hh, intK_int, hst]
theorem stay77 (H : PlOK l m) {h : Nat} (hh : h < m) (hL : ∀ x ∈ L, 0 ≤ x ∧ x < (l.length : Int)) (h0 : L ≠ []) (hl : L.length ≤ 1000) {mn : Int} : ∀ (r pre A : List Int) (fuel : Nat), L = pre ++ r → r.length < fuel → A.length ≤ pre.length →
    F77_125242 call LL C1 q fuel f l.length (rows l) (h : Int) mn (owI L) (owI A) (pre.length : Int) = F77_31311 call LL C1 q f l.length (rows l) (h : Int) (owI (A ++ r.filter fun x => scV l h x == mn)) := by
  intro r
  induction r with
  | nil =>
    intro pre A fuel hp hf hA
    cases fuel with
    | zero => exact absurd hf (Nat.not_lt_zero _)
    | succ fuel =>
      have h1 : decide ((pre.length : Int) < (L.length : Int)) = false := by rw [hp]; simp
      rw [show (([] : List Int).filter fun x => scV l h x == mn) = [] from rfl, List.append_nil]
      cases L with
      | nil => exact absurd rfl h0
      | cons a t =>
        rw [List.length_cons] at h1
        cases A with
        | nil => rw [owI_cons, owI_nil, F77_125242_eqon, h1, ifK_false]
        | cons b A => rw [owI_cons, owI_cons, F77_125242_eqoo, h1, ifK_false]
  | cons x r ih =>
    intro pre A fuel hp hf hA
    cases fuel with
    | zero => exact absurd hf (Nat.not_lt_zero _)
    | succ fuel =>
      have ihf := ih (pre ++ [x]) A fuel (by rw [hp]; simp) (by simp at hf; omega) (by simp; omega)
      have iht := ih (pre ++ [x]) (A ++ [x]) fuel (by rw [hp]; simp) (by simp at hf; omega) (by simp; omega)
      have hx := hL x (by rw [hp]; simp)
      have h1 : decide ((pre.length : Int) < (L.length : Int)) = true := by rw [hp]; simp; omega
      have h2 : decide ((0 : Int) ≤ (pre.length : Int) ∧ (pre.length : Int) < (L.length : Int)) = true := by rw [hp]; simp; omega
      have h3 : decide ((0 : Int) ≤ x ∧ x < (l.length : Int)) = true := by simpa using hx
      have hc : ∀ {γ : Type} (k : D → Option γ), cellK (ints L) (Int.toNat (pre.length : Int) * 1) k = k (.int .i64 x) := fun k => by rw [hp]; exact cell_ints pre x r k
      have hst : IntKind.wrap .i64 ((pre.length : Int) + 1) = ((pre ++ [x]).length : Int) := step_pre pre x r (by rw [← hp]; omega)
      have hpl : pre.length ≤ 1000 := by rw [hp] at hl; simp at hl; omega
      cases hq : scV l h x == mn with
      | true =>
        rw [List.filter_cons_of_pos (by simpa using hq)]
        rw [List.append_assoc, List.singleton_append] at iht
        rw [← iht, owI_snoc, ← hst]
        clear iht ihf ih
        cases L with
        | nil => exact absurd rfl h0
        | cons a t =>
          rw [List.length_cons] at h1 h2
          cases A with
          | nil =>
            rw [owI_cons, owI_nil, F77_125242_eqon, h1, ifK_true, h2, chkK_true, hc, intK_int, h3, chkK_true, rows_get hx, slcK_slc, sc_in H hx hh, chkK_true, sc_get H hx hh, intK_int, hq, ifK_true, chkK_true, hc, intK_int]
            rfl
          | cons b A =>
            rw [owI_cons, owI_cons, F77_125242_eqoo, h1, ifK_true, h2, chkK_true, hc, intK_int, h3, chkK_true, rows_get hx, slcK_slc, sc_in H hx hh, chkK_true, sc_get H hx hh, intK_int, hq, ifK_true, chkK_true, hc, intK_int, roomK (by simp at hA ⊢; omega), chkK_true]
            rfl
      | false =>
        rw [List.filter_cons_of_neg (by simpa using hq), ← ihf, ← hst]
        clear iht ihf ih
        cases L with
        | nil => exact absurd rfl h0
        | cons a t =>
          rw [List.length_cons] at h1 h2
          cases A with
          | nil => rw [owI_cons, owI_nil, F77_125242_eqon, h1, ifK_true, h2, chkK_true, hc, intK_int, h3, chkK_true, rows_get hx, slcK_slc, sc_in H hx hh, chkK_true, sc_get H hx hh, intK_int, hq, ifK_false]
          | cons b A => rw [owI_cons, owI_cons, F77_125242_eqoo, h1, ifK_true, h2, chkK_true, hc, intK_int, h3, chkK_true, rows_get hx, slcK_slc, sc_in H hx hh, chkK_true, sc_get H hx hh, intK_int, hq, ifK_false]
theorem stp_in {g : Int → Int} {p : Int → Prop} (h : ∀ x ∈ L, p x) : ∀ x ∈ stp g L, p x := fun x hx => h x (List.mem_filter.1 hx).1
theorem stp_len (g : Int → Int) (L : List Int) : (stp g L).length ≤ L.length := List.length_filter_le _ _
theorem pl_first (H : PlOK l m) {γ : Type} (k : D → Option γ) : cellK (rows l) 0 k = k (.slc false m (ints (l.headD []))) := by
  have h2 := H.n2
  have hm := H.len
  cases l with
  | nil => exact absurd h2 (by simp)
  | cons x r =>
    have := hm x (by simp)
    rw [← this]
    rfl
theorem rounds77 (H : PlOK l m) : ∀ (j h fuel : Nat) (L : List Int), h + j = m → j < fuel → 2 ≤ L.length → L.length ≤ 1000 → (∀ x ∈ L, 0 ≤ x ∧ x < (l.length : Int)) →
    F77_122 call LL C1 fuel f l.length (rows l) (owI L) (h : Int) = some (.tup [slI (rndGo l j h L).1, .int .i64 ((rndGo l j h L).2 : Int)]) := by
  have hin : decide ((0 : Int) ≤ 0 ∧ (0 : Int) < (l.length : Int)) = true := by have := H.n2; simp; omega
  intro j
  induction j with
  | zero =>
    intro h fuel L hj hf h2 hl hL
    cases fuel with
    | zero => exact absurd hf (Nat.not_lt_zero _)
    | succ fuel =>
      rw [Nat.add_zero] at hj
      subst hj
      cases L with
      | nil => exact absurd h2 (by simp)
      | cons a t =>
        rw [owI_cons, F77_122_eqo, hin, chkK_true, pl_first H, slcK_slc, show decide ((h : Int) < (h : Int)) = false by simp, ifK_false, chkK_true, pl_first H, slcK_slc]
        rfl
  | succ j ih =>
    intro h fuel L hj hf h2 hl hL
    cases fuel with
    | zero => exact absurd hf (Nat.not_lt_zero _)
    | succ fuel =>
      have hh : h < m := by omega
      have h0 : L ≠ [] := by
        rintro rfl
        exact absurd h2 (by simp)
      have e1 := least77 (call := call) (f := f) (q := fuel) H hh hL h0 hl L [] LL 99 rfl (by unfold LL; omega)
      have e2 := stay77 (call := call) (f := f) (q := fuel) (mn := mnGo (scV l h) L 99) H hh hL h0 hl L [] [] LL rfl (by unfold LL; omega) (Nat.le_refl _)
      have hst : IntKind.wrap .i64 ((h : Int) + 1) = ((h + 1 : Nat) : Int) := by have := H.m36; rw [wrap_in (by omega)]; rfl
      have hne := stp_ne (g := scV l h) (fun x hx => sc_99 H (hL x hx) hh) h0
      have hsl := stp_len (scV l h) L
      have hsi := stp_in (g := scV l h) hL
      rw [List.nil_append] at e2
      change _ = F77_31311 call LL C1 fuel f l.length (rows l) (h : Int) (owI (stp (scV l h) L)) at e2
      have hr : rndGo l (j + 1) h L = rndGo l j (h + 1) (stp (scV l h) L) := by
        rw [show rndGo l (j + 1) h L = ifK (decide (1 < L.length)) (rndGo l j (h + 1) (stp (scV l h) L)) (L, h) from rfl, show decide (1 < L.length) = true by simp; omega, ifK_true]
      have e3 : F77_122 call LL C1 (fuel + 1) f l.length (rows l) (owI L) (h : Int) = F77_31311 call LL C1 fuel f l.length (rows l) (h : Int) (owI (stp (scV l h) L)) := by
        refine Eq.trans ?_ (e1.trans e2)
        cases L with
        | nil => exact absurd rfl h0
        | cons a t =>
          rw [owI_cons, F77_122_eqo, hin, chkK_true, pl_first H, slcK_slc, show decide ((h : Int) < (m : Int)) = true by simp; omega, ifK_true]
          rfl
      rw [e3, hr]
      clear e1 e2 e3 hr
      generalize stp (scV l h) L = T at *
      cases T with
      | nil => exact absurd rfl hne
      | cons b T =>
        rw [owI_cons, F77_31311_eqo (hC := (fun _ => rfl : ∀ t, C1 t = 1)), hst]
        cases T with
        | nil =>
          rw [rnd_one l j (h + 1) rfl]
          rfl
        | cons d T =>
          rw [show ((((d :: T).length + 1 : Nat) : Int) == 1) = false by simp; omega, ifK_false]
          exact ih (h + 1) fuel (b :: d :: T) (by omega) (by omega) (by simp) (by omega) hsi
theorem left77 (hl : l.length ≤ 1000) (h0 : 0 < l.length) : ∀ (r i fuel : Nat), i + r = l.length → r < fuel →
    F77_58 call LL C1 fuel f l.length (rows l) (owI (upI i 0)) (i : Int) = F77_122 call LL C1 LL f l.length (rows l) (owI (upI l.length 0)) 0 := by
  intro r
  induction r with
  | zero =>
    intro i fuel hi hf
    cases fuel with
    | zero => exact absurd hf (Nat.not_lt_zero _)
    | succ fuel =>
      rw [Nat.add_zero] at hi
      subst hi
      have e : owI (upI l.length 0) = .own l.length (ints (upI l.length 0)) := by
        cases l with
        | nil => exact absurd h0 (Nat.lt_irrefl _)
        | cons x r =>
          show Ow.own ((upI r.length 1).length + 1) _ = _
          rw [upI_len]
          rfl
      rw [e, F77_58_eqo, show decide ((l.length : Int) < (l.length : Int)) = false by simp, ifK_false]
  | succ r ih =>
    intro i fuel hi hf
    cases fuel with
    | zero => exact absurd hf (Nat.not_lt_zero _)
    | succ fuel =>
      have ih := ih (i + 1) fuel (by omega) (by omega)
      have hst : IntKind.wrap .i64 ((i : Int) + 1) = ((i + 1 : Nat) : Int) := by rw [wrap_in (by omega)]; rfl
      have hlt : decide ((i : Int) < (l.length : Int)) = true := by simp; omega
      rw [← ih, upI_snoc, owI_snoc, upI_len, Nat.zero_add, ← hst]
      clear ih
      cases i with
      | zero =>
        rw [show owI (upI 0 0) = .nil from rfl, F77_58_eqn, hlt, ifK_true]
        rfl
      | succ i =>
        have e : owI (upI (i + 1) 0) = .own (i + 1) (ints (upI (i + 1) 0)) := by
          show Ow.own ((upI i 1).length + 1) _ = _
          rw [upI_len]
          rfl
        rw [e, F77_58_eqo, hlt, ifK_true, roomK (by omega), chkK_true]
/-- What is left, and how many holes were played. -/
def poV (l : List (List Int)) : List Int × Nat := rndGo l (l.headD []).length 0 (upI l.length 0)
theorem ok77 (H : PlOK l m) : OK5 77 [.slc f l.length (rows l)] (.tup [slI (poV l).1, .int .i64 ((poV l).2 : Int)]) := by
  have hm : (l.headD []).length = m := by
    have h2 := H.n2
    have hm := H.len
    cases l with
    | nil => exact absurd h2 (by simp)
    | cons x r => exact hm x (by simp)
  have h2 := H.n2
  have h200 := H.n200
  have h36 := H.m36
  refine fnT none_ok Tryz.func77 (ord := O0) (N := N77) (by kernel_rfl) ((F77_eq _ _ _ _ _ _).trans ?_)
  refine (left77 (f := f) (l := l) (by omega) (by omega) l.length 0 LL (by omega) (by unfold LL; omega)).trans ?_
  unfold poV
  rw [hm]
  refine rounds77 H m 0 LL (upI l.length 0) (by omega) (by unfold LL; omega) (by rw [upI_len]; exact h2) (by rw [upI_len]; omega) fun x hx => ?_
  have := upI_mem _ _ x hx
  omega
end
end Go.Pd
end

section
namespace Go.Pd
open Go Go.Proofs
set_option maxRecDepth 100000
def N75 : NTab := fun p => match p with
  | 122 => some { keep := [1, 6, 28, 29, 30], kl := [11, 12], ren := [(1, 1), (11, 11), (12, 12), (63, 63), (105, 63)] }
  | 252 => some { keep := [1, 6, 11], kl := [12], ren := [(1, 1), (11, 11), (12, 12), (63, 63), (105, 63)] }
  | 1009 => some { keep := [1, 6, 11], kl := [12], ren := [(1, 1), (11, 11), (12, 12), (63, 63), (105, 63)] }
  | 64586 => some { keep := [1, 6, 11, 12, 87, 88, 89], kl := [], ren := [(1, 1), (11, 11), (12, 12), (63, 63), (105, 63)] }
  | _ => none
def O75 : Ord := fun id => match id with
  | 17 => some { l := some [0, 1, 2, 3, 4, 5, 6, 7, 8, 9, 10], ks := [12] }
  | _ => none
noncomputable def F75_64586 (call : FuncId → List D → Option D) (mu : FuncId → List D → Option D) (L : Nat) (C : Nat → Nat) (n_3 : Nat) (n_8 : Nat) (vleft_n : Nat) (vl_f : Bool) (vl_n : Nat) (vl_c : List D) (vhole : Int) (t63_c : List D) (t88 : Int) (t89 : Int) (vleast : Int) : Option D :=
  loopAt (TEm call mu L C) O75 N75 FinM.canon Tryz.f75 [true, true, true, true, true, false, false, false, true, false, false, true, false, true, false] [n_3]  n_8 (St.mk [J, D.loc 1 0 0, J, J, J, J, D.own 63 0 vleft_n, J, J, J, J, D.loc 11 0 0, D.loc 12 0 0, J, J, J, J, J, J, J, J, J, J, J, J, J, J, J, J, J, J, J, J, J, J, J, J, J, J, J, J, J, J, J, J, J, J, J, J, J, J, J, J, J, J, J, J, J, J, J, J, J, J, J, J, J, J, J, J, J, J, J, J, J, J, J, J, J, J, J, J, J, J, J, J, J, J, D.own 63 0 vleft_n, D.int IntKind.i64 t88, D.int IntKind.i64 t89, J, J, J, J, J, J, J, J, J, J, J, J, J, J, J, J, J, J] [Z, (1, some (Ob.box [D.slc vl_f vl_n vl_c] false)), Z, Z, Z, Z, Z, Z, Z, Z, Z, (1, some (Ob.box [D.int IntKind.i64 vhole] false)), (1, some (Ob.box [D.int IntKind.i64 vleast] false)), Z, Z, Z, Z, Z, Z, Z, Z, Z, Z, Z, Z, Z, Z, Z, Z, Z, Z, Z, Z, Z, Z, Z, Z, Z, Z, Z, Z, Z, Z, Z, Z, Z, Z, Z, Z, Z, Z, Z, Z, Z, Z, Z, Z, Z, Z, Z, Z, Z, Z, (1, some (Ob.arr 3 1 t63_c false)), Z, Z, Z, Z, Z, Z, Z, Z, Z, Z, Z, Z, Z, Z, Z, Z, Z, Z, Z, Z, Z, Z, Z, Z, Z, Z, Z, Z, Z, Z, Z, Z, Z, Z, Z, Z, Z, Z, Z, Z, Z, Z, Z, Z])
noncomputable def F75_1009 (call : FuncId → List D → Option D) (mu : FuncId → List D → Option D) (L : Nat) (C : Nat → Nat) (n_3 : Nat) (vl_f : Bool) (vl_n : Nat) (vl_c : List D) (vhole : Int) (vleft_n : Nat) (t63_c : List D) : Option D :=
  cutAt (TEm call mu L C) O75 N75 FinM.canon Tryz.f75 [true, true, true, true, true, false, false, false, true] [n_3]  (C 1009) (St.mk [J, D.loc 1 0 0, J, J, J, J, D.own 63 0 vleft_n, J, J, J, J, D.loc 11 0 0, J, J, J, J, J, J, J, J, J, J, J, J, J, J, J, J, J, J, J, J, J, J, J, J, J, J, J, J, J, J, J, J, J, J, J, J, J, J, J, J, J, J, J, J, J, J, J, J, J, J, J, J, J, J, J, J, J, J, J, J, J, J, J, J, J, J, J, J, J, J, J, J, J, J, J, J, J, J, J, J, J, J, J, J, J, J, J, J, J, J, J, J, J, J, J, J] [Z, (1, some (Ob.box [D.slc vl_f vl_n vl_c] false)), Z, Z, Z, Z, Z, Z, Z, Z, Z, (1, some (Ob.box [D.int IntKind.i64 vhole] false)), Z, Z, Z, Z, Z, Z, Z, Z, Z, Z, Z, Z, Z, Z, Z, Z, Z, Z, Z, Z, Z, Z, Z, Z, Z, Z, Z, Z, Z, Z, Z, Z, Z, Z, Z, Z, Z, Z, Z, Z, Z, Z, Z, Z, Z, Z, Z, Z, Z, Z, Z, (1, some (Ob.arr 3 1 t63_c false)), Z, Z, Z, Z, Z, Z, Z, Z, Z, Z, Z, Z, Z, Z, Z, Z, Z, Z, Z, Z, Z, Z, Z, Z, Z, Z, Z, Z, Z, Z, Z, Z, Z, Z, Z, Z, Z, Z, Z, Z, Z, Z, Z, Z])
noncomputable def F75_252 (call : FuncId → List D → Option D) (mu : FuncId → List D → Option D) (L : Nat) (C : Nat → Nat) (n_3 : Nat) (vl_f : Bool) (vl_n : Nat) (vl_c : List D) (vleft_1 : Ow) (vhole : Int) : Option D :=
  loopAt (TEm call mu L C) O75 N75 FinM.canon Tryz.f75 [true, true, true, true, true, false, false] []  n_3 (St.mk [J, D.loc 1 0 0, J, J, J, J, ownD 63 vleft_1, J, J, J, J, D.loc 11 0 0, J, J, J, J, J, J, J, J, J, J, J, J, J, J, J, J, J, J, J, J, J, J, J, J, J, J, J, J, J, J, J, J, J, J, J, J, J, J, J, J, J, J, J, J, J, J, J, J, J, J, J, J, J, J, J, J, J, J, J, J, J, J, J, J, J, J, J, J, J, J, J, J, J, J, J, J, J, J, J, J, J, J, J, J, J, J, J, J, J, J, J, J, J, J, J, J] [Z, (1, some (Ob.box [D.slc vl_f vl_n vl_c] false)), Z, Z, Z, Z, Z, Z, Z, Z, Z, (1, some (Ob.box [D.int IntKind.i64 vhole] false)), Z, Z, Z, Z, Z, Z, Z, Z, Z, Z, Z, Z, Z, Z, Z, Z, Z, Z, Z, Z, Z, Z, Z, Z, Z, Z, Z, Z, Z, Z, Z, Z, Z, Z, Z, Z, Z, Z, Z, Z, Z, Z, Z, Z, Z, Z, Z, Z, Z, Z, Z, ownO 3 1 vleft_1, Z, Z, Z, Z, Z, Z, Z, Z, Z, Z, Z, Z, Z, Z, Z, Z, Z, Z, Z, Z, Z, Z, Z, Z, Z, Z, Z, Z, Z, Z, Z, Z, Z, Z, Z, Z, Z, Z, Z, Z, Z, Z, Z, Z])
noncomputable def F75_122 (call : FuncId → List D → Option D) (mu : FuncId → List D → Option D) (L : Nat) (C : Nat → Nat) (n : Nat) (vl_f : Bool) (vl_n : Nat) (vl_c : List D) (vleft : Ow) (t29 : Int) (t30 : Int) : Option D :=
  loopAt (TEm call mu L C) O75 N75 FinM.canon Tryz.f75 [true, true, true, false, true, false] []  n (St.mk [J, D.loc 1 0 0, J, J, J, J, ownD 63 vleft, J, J, J, J, J, J, J, J, J, J, J, J, J, J, J, J, J, J, J, J, J, D.slc vl_f vl_n vl_c, D.int IntKind.i64 t29, D.int IntKind.i64 t30, J, J, J, J, J, J, J, J, J, J, J, J, J, J, J, J, J, J, J, J, J, J, J, J, J, J, J, J, J, J, J, J, J, J, J, J, J, J, J, J, J, J, J, J, J, J, J, J, J, J, J, J, J, J, J, J, J, J, J, J, J, J, J, J, J, J, J, J, J, J, J, J, J, J, J, J, J] [Z, (1, some (Ob.box [D.slc vl_f vl_n vl_c] false)), Z, Z, Z, Z, Z, Z, Z, Z, Z, Z, Z, Z, Z, Z, Z, Z, Z, Z, Z, Z, Z, Z, Z, Z, Z, Z, Z, Z, Z, Z, Z, Z, Z, Z, Z, Z, Z, Z, Z, Z, Z, Z, Z, Z, Z, Z, Z, Z, Z, Z, Z, Z, Z, Z, Z, Z, Z, Z, Z, Z, Z, ownO 3 1 vleft, Z, Z, Z, Z, Z, Z, Z, Z, Z, Z, Z, Z, Z, Z, Z, Z, Z, Z, Z, Z, Z, Z, Z, Z, Z, Z, Z, Z, Z, Z, Z, Z, Z, Z, Z, Z, Z, Z, Z, Z, Z, Z, Z, Z])
theorem F75_64586_eq (call : FuncId → List D → Option D) (mu : FuncId → List D → Option D) (L : Nat) (C : Nat → Nat) (n_3 : Nat) (n_8 : Nat) (vleft_n : Nat) (vl_f : Bool) (vl_n : Nat) (vl_c : List D) (vhole : Int) (t63_c : List D) (t88 : Int) (t89 : Int) (vleast : Int) : F75_64586 call mu L C n_3 (n_8 + 1) vleft_n vl_f vl_n vl_c vhole t63_c (t88) (t89) (vleast) =
  (ifK (decide (t89 < t88))
    (chkK (decide (0 ≤ t89 ∧ t89 < (vleft_n : Int)))
      (cellK (t63_c) (Int.toNat t89 * 1) fun d_7 =>
      (intK IntKind.i64 (d_7) fun x_10 =>
      (chkK (decide (0 ≤ x_10 ∧ x_10 < (vl_n : Int)))
        (cellK (vl_c) (Int.toNat x_10 * 1) fun d_8 =>
        (slcK (d_8) fun _f_5 n_9 c_5 =>
        (chkK (decide (0 ≤ vhole ∧ vhole < (n_9 : Int)))
          (cellK (c_5) (Int.toNat vhole * 1) fun d_9 =>
          (intK IntKind.i64 (d_9) fun x_11 =>
          (F75_64586 call mu L C n_3 n_8 vleft_n vl_f vl_n vl_c vhole t63_c (t88) (IntKind.wrap IntKind.i64 (t89 + 1)) (if x_11 < vleast then x_11 else vleast)))))))))))
    (chkK (List.all t63_c D.plain)
      (optK (mu 124 [D.slc false vleft_n t63_c, D.fn (Fn.func 125) [] [D.snap [D.slc vl_f vl_n vl_c] 0, D.snap [D.int IntKind.i64 vhole] 0, D.snap [D.int IntKind.i64 vleast] 0]]) fun r_9 =>
        (slcK (r_9) fun _f_6 n_10 c_6 =>
        (chkK (decide (List.length c_6 = n_10 * 1))
          (chkK (decide (n_10 ≤ vleft_n))
            (chkK (List.all c_6 D.plain)
              (F75_252 call mu L C n_3 vl_f vl_n vl_c (Ow.own n_10 c_6) (IntKind.wrap IntKind.i64 (vhole + 1)))))))))) := by kernel_rfl
theorem F75_1009_eq (call : FuncId → List D → Option D) (mu : FuncId → List D → Option D) (L : Nat) (C : Nat → Nat) (n_3 : Nat) (vl_f : Bool) (vl_n : Nat) (vl_c : List D) (vhole : Int) (vleft_n : Nat) (t63_c : List D) (hC : ∀ t, C t = 1) : F75_1009 call mu L C n_3 vl_f vl_n vl_c vhole (vleft_n) (t63_c) =
  (chkK (decide ((0 : Int) ≤ 0 ∧ (0 : Int) < (vleft_n : Int)))
    (cellK (t63_c) (0) fun d_4 =>
    (intK IntKind.i64 (d_4) fun x_8 =>
    (chkK (decide (0 ≤ x_8 ∧ x_8 < (vl_n : Int)))
      (cellK (vl_c) (Int.toNat x_8 * 1) fun d_5 =>
      (slcK (d_5) fun _f_4 n_7 c_4 =>
      (chkK (decide (0 ≤ vhole ∧ vhole < (n_7 : Int)))
        (cellK (c_4) (Int.toNat vhole * 1) fun d_6 =>
        (intK IntKind.i64 (d_6) fun x_9 =>
        (F75_64586 call mu L C n_3 L vleft_n vl_f vl_n vl_c vhole t63_c ((vleft_n : Int)) (0) (x_9))))))))))) := by
  unfold F75_1009
  rw [hC]
  kernel_rfl
theorem F75_252_eqo (call : FuncId → List D → Option D) (mu : FuncId → List D → Option D) (L : Nat) (C : Nat → Nat) (n_3 : Nat) (vl_f : Bool) (vl_n : Nat) (vl_c : List D) (vleft_1_n : Nat) (vleft_1_c : List D) (vhole : Int) : F75_252 call mu L C  (n_3 + 1) vl_f vl_n vl_c (Ow.own vleft_1_n vleft_1_c) (vhole) =
  (chkK (decide ((0 : Int) ≤ 0 ∧ (0 : Int) < (vl_n : Int)))
    (cellK (vl_c) (0) fun d_3 =>
    (slcK (d_3) fun _f_3 n_5 _c_3 =>
    (ifK (decide (vhole < (n_5 : Int)))
      (ifK (decide ((vleft_1_n : Int) > 1))
        (F75_1009 call mu L C n_3 vl_f vl_n vl_c vhole (vleft_1_n) (vleft_1_c))
        (some (D.tup [D.slc false vleft_1_n vleft_1_c, D.int IntKind.i64 vhole, D.int IntKind.i64 0])))
      (some (D.tup [D.slc false vleft_1_n vleft_1_c, D.int IntKind.i64 vhole, D.int IntKind.i64 0])))))) := by kernel_rfl
theorem F75_122_eqn (call : FuncId → List D → Option D) (mu : FuncId → List D → Option D) (L : Nat) (C : Nat → Nat) (n : Nat) (vl_f : Bool) (vl_n : Nat) (vl_c : List D) (t29 : Int) (t30 : Int) : F75_122 call mu L C  (n + 1) vl_f vl_n vl_c (Ow.nil) (t29) (t30) =
  (ifK (decide (t30 < t29))
    (chkK (decide (0 ≤ t30 ∧ t30 < (vl_n : Int)))
      (cellK (vl_c) (Int.toNat t30 * 1) fun d =>
      (slcK (d) fun f n_1 c =>
      (optK (call 122 [D.slc f n_1 c, D.fn (Fn.func 123) [] []]) fun r_3 =>
        (boolK (r_3) fun b =>
        (optK (call 83 [D.bool ((n_1 : Int) == 0), D.int IntKind.i64 12]) fun r_4 =>
          (intK IntKind.i64 (r_4) fun x_3 =>
          (optK (call 83 [D.bool (decide ((n_1 : Int) > 36)), D.int IntKind.i64 5]) fun r_5 =>
            (intK IntKind.i64 (r_5) fun x_4 =>
            (optK (call 83 [D.bool b, D.int IntKind.i64 3]) fun r_6 =>
              (intK IntKind.i64 (r_6) fun x_5 =>
              (chkK (decide ((0 : Int) ≤ 0 ∧ (0 : Int) < (vl_n : Int)))
                (cellK (vl_c) (0) fun d_1 =>
                (slcK (d_1) fun _f_1 n_2 _c_1 =>
                (optK (call 83 [D.bool ((n_1 : Int) != (n_2 : Int)), D.int IntKind.i64 2]) fun r_7 =>
                  (intK IntKind.i64 (r_7) fun x_6 =>
                  (optK (call 81 [D.slc true 4 [D.int IntKind.i64 x_3, D.int IntKind.i64 x_4, D.int IntKind.i64 x_5, D.int IntKind.i64 x_6]]) fun r_8 =>
                    (intK IntKind.i64 (r_8) fun x_7 =>
                    (ifK (x_7 != 0)
                      (some (D.tup [D.slc true 0 [], D.int IntKind.i64 0, D.int IntKind.i64 x_7]))
                      (F75_122 call mu L C n vl_f vl_n vl_c (Ow.own 1 [D.int IntKind.i64 t30]) (t29) (IntKind.wrap IntKind.i64 (t30 + 1))))))))))))))))))))))
    (F75_252 call mu L C L vl_f vl_n vl_c (Ow.nil) (0))) := by kernel_rfl
theorem F75_122_eqo (call : FuncId → List D → Option D) (mu : FuncId → List D → Option D) (L : Nat) (C : Nat → Nat) (n : Nat) (vl_f : Bool) (vl_n : Nat) (vl_c : List D) (vleft_n_1 : Nat) (vleft_c : List D) (t29 : Int) (t30 : Int) : F75_122 call mu L C  (n + 1) vl_f vl_n vl_c (Ow.own vleft_n_1 vleft_c) (t29) (t30) =
  (ifK (decide (t30 < t29))
    (chkK (decide (0 ≤ t30 ∧ t30 < (vl_n : Int)))
      (cellK (vl_c) (Int.toNat t30 * 1) fun d_10 =>
      (slcK (d_10) fun f_7 n_11 c_7 =>
      (optK (call 122 [D.slc f_7 n_11 c_7, D.fn (Fn.func 123) [] []]) fun r_10 =>
        (boolK (r_10) fun b_1 =>
        (optK (call 83 [D.bool ((n_11 : Int) == 0), D.int IntKind.i64 12]) fun r_11 =>
          (intK IntKind.i64 (r_11) fun x_12 =>
          (optK (call 83 [D.bool (decide ((n_11 : Int) > 36)), D.int IntKind.i64 5]) fun r_12 =>
            (intK IntKind.i64 (r_12) fun x_13 =>
            (optK (call 83 [D.bool b_1, D.int IntKind.i64 3]) fun r_13 =>
              (intK IntKind.i64 (r_13) fun x_14 =>
              (chkK (decide ((0 : Int) ≤ 0 ∧ (0 : Int) < (vl_n : Int)))
                (cellK (vl_c) (0) fun d_11 =>
                (slcK (d_11) fun _f_8 n_12 _c_8 =>
                (optK (call 83 [D.bool ((n_11 : Int) != (n_12 : Int)), D.int IntKind.i64 2]) fun r_14 =>
                  (intK IntKind.i64 (r_14) fun x_15 =>
                  (optK (call 81 [D.slc true 4 [D.int IntKind.i64 x_12, D.int IntKind.i64 x_13, D.int IntKind.i64 x_14, D.int IntKind.i64 x_15]]) fun r_15 =>
                    (intK IntKind.i64 (r_15) fun x_16 =>
                    (ifK (x_16 != 0)
                      (some (D.tup [D.slc true 0 [], D.int IntKind.i64 0, D.int IntKind.i64 x_16]))
                      (chkK (decide ((vleft_n_1 + 1) * 8 ≤ limit ∧ vleft_n_1 + 1 ≤ 9223372036854775807))
                        (F75_122 call mu L C n vl_f vl_n vl_c (Ow.own (vleft_n_1 + 1) (vleft_c ++ [D.int IntKind.i64 t30])) (t29) (IntKind.wrap IntKind.i64 (t30 + 1)))))))))))))))))))))))
    (F75_252 call mu L C L vl_f vl_n vl_c (Ow.own vleft_n_1 vleft_c) (0))) := by kernel_rfl
theorem F75_eq (call : FuncId → List D → Option D) (mu : FuncId → List D → Option D) (L : Nat) (C : Nat → Nat) (vl_f : Bool) (vl_n : Nat) (vl_c : List D) : evFnT (TEm call mu L C) O75 N75 FinM.canon Tryz.f75 [D.slc vl_f vl_n vl_c] =
  (optK (call 83 [D.bool (decide ((vl_n : Int) < 2)), D.int IntKind.i64 2]) fun r =>
    (intK IntKind.i64 (r) fun x =>
    (optK (call 83 [D.bool (decide ((vl_n : Int) > 200)), D.int IntKind.i64 5]) fun r_1 =>
      (intK IntKind.i64 (r_1) fun x_1 =>
      (optK (call 81 [D.slc true 2 [D.int IntKind.i64 x, D.int IntKind.i64 x_1]]) fun r_2 =>
        (intK IntKind.i64 (r_2) fun x_2 =>
        (ifK (x_2 != 0)
          (some (D.tup [D.slc true 0 [], D.int IntKind.i64 0, D.int IntKind.i64 x_2]))
          (F75_122 call mu L C L vl_f vl_n vl_c (Ow.nil) ((vl_n : Int)) (0))))))))) := by kernel_rfl
-- 32867 ms
end Go.Pd
end

section
namespace Go.Pd
open Go Go.Proofs
set_option maxRecDepth 100000
theorem F123_eq (call : FuncId → List D → Option D) (L : Nat) (C : Nat → Nat) (vn : Int) : evFnT (TEf call L C) O0 N0 FinM.canon Tryz.f123 [D.int IntKind.i64 vn] =
  (ifK (decide (vn < 1))
    (some (D.bool true))
    (some (D.bool (decide (vn > 99))))) := by kernel_rfl
-- 96 ms
noncomputable def F150o_26 (call : FuncId → List D → Option D) (L : Nat) (C : Nat → Nat) (n : Nat) (vs_f : Bool) (vs_n : Nat) (vs_c : List D) (t7 : Int) (t8 : Int) : Option D :=
  loopAt (TEf call L C) O0 N150 FinM.canon Tryz.f150 [true, false, true, false] []  n (St.mk [D.slc vs_f vs_n vs_c, D.fn (Fn.func 123) [] [], J, J, J, J, J, D.int IntKind.i64 t7, D.int IntKind.i64 t8, J, J, J, J, J, J, J, J, J, J] [Z, Z, Z, Z, Z, Z, Z, Z, Z, Z, Z, Z, Z, Z, Z, Z, Z, Z, Z])
theorem F150o_26_eq (call : FuncId → List D → Option D) (L : Nat) (C : Nat → Nat) (n : Nat) (vs_f : Bool) (vs_n : Nat) (vs_c : List D) (t7 : Int) (t8 : Int) : F150o_26 call L C  (n + 1) vs_f vs_n vs_c (t7) (t8) =
  (ifK (decide (t8 < t7))
    (chkK (decide (0 ≤ t8 ∧ t8 < (vs_n : Int)))
      (cellK (vs_c) (Int.toNat t8 * 1) fun d =>
      (intK IntKind.i64 (d) fun x =>
      (optK (call 123 [D.int IntKind.i64 x]) fun r =>
        (boolK (r) fun b =>
        (ifK (b)
          (some (D.int IntKind.i64 t8))
          (F150o_26 call L C n vs_f vs_n vs_c (t7) (IntKind.wrap IntKind.i64 (t8 + 1)))))))))
    (some (D.int IntKind.i64 (-1)))) := by kernel_rfl
theorem F150o_eq (call : FuncId → List D → Option D) (L : Nat) (C : Nat → Nat) (vs_f : Bool) (vs_n : Nat) (vs_c : List D) : evFnT (TEf call L C) O0 N150 FinM.canon Tryz.f150 [D.slc vs_f vs_n vs_c, D.fn (Fn.func 123) [] []] =
  (F150o_26 call L C L vs_f vs_n vs_c ((vs_n : Int)) (0)) := by kernel_rfl
-- 414 ms
theorem F122o_eq (call : FuncId → List D → Option D) (L : Nat) (C : Nat → Nat) (vs_f : Bool) (vs_n : Nat) (vs_c : List D) : evFnT (TEf call L C) O0 N0 FinM.canon Tryz.f122 [D.slc vs_f vs_n vs_c, D.fn (Fn.func 123) [] []] =
  (optK (call 150 [D.slc vs_f vs_n vs_c, D.fn (Fn.func 123) [] []]) fun r =>
    (intK IntKind.i64 (r) fun x =>
    (some (D.bool (decide (x ≥ 0)))))) := by kernel_rfl
-- 116 ms
end Go.Pd
end

section
namespace Go.Pd
open Go Go.Proofs Go.RowKit
set_option maxRecDepth 100000
/-! ### The first error of some -/
def fstE : List Int → Int
  | [] => 0
  | x :: r => ifK (x != 0) x (fstE r)
theorem go81 {call : FuncId → List D → Option D} {f : Bool} : ∀ (r pre : List Int) (fuel : Nat), (pre ++ r).length ≤ 1000 → r.length < fuel → F81_26 call LL C1 fuel f (pre ++ r).length (ints (pre ++ r)) ((pre ++ r).length : Int) (pre.length : Int) = some (.int .i64 (fstE r)) := by
  intro r
  induction r with
  | nil =>
    intro pre fuel hl hf
    cases fuel with
    | zero => exact absurd hf (Nat.not_lt_zero _)
    | succ fuel =>
      rw [F81_26_eq, end_pre, ifK_false]
      rfl
  | cons x r ih =>
    intro pre fuel hl hf
    cases fuel with
    | zero => exact absurd hf (Nat.not_lt_zero _)
    | succ fuel =>
      have ih := ih (pre ++ [x]) fuel (by rw [app1]; exact hl) (by simp at hf; omega)
      rw [app1] at ih
      rw [F81_26_eq, lt_pre, ifK_true, in_pre, chkK_true, cell_ints, intK_int, step_pre pre x r (by omega), ih, show fstE (x :: r) = ifK (x != 0) x (fstE r) from rfl]
      cases x != 0 <;> rfl
theorem ok81L (l : List Int) (hl : l.length ≤ 1000) : OK5 81 [.slc true l.length (ints l)] (.int .i64 (fstE l)) := by
  refine fnT none_ok Tryz.func81 (ord := O0) (N := N81) (by kernel_rfl) ((F81_eq _ _ _ _ _ _).trans ?_)
  exact go81 (f := true) l [] LL hl (by unfold LL; omega)
def fam81L : Fam := ⟨81, {l : List Int // l.length ≤ 1000}, fun l => [.slc true l.1.length (ints l.1)], fun l => .int .i64 (fstE l.1)⟩
theorem fam81L_good : fam81L.Good := ⟨fun l => ok81L l.1 l.2, fun x y h => by
  simp only [fam81L, List.cons.injEq, D.slc.injEq, true_and, and_true] at h
  show D.int .i64 (fstE x.1) = .int .i64 (fstE y.1)
  rw [ints_inj h.2], fun _ => rfl⟩
/-! ### Strokes out of range -/
theorem ok123 (x : Int) : OK5 123 [.int .i64 x] (.bool (badS x)) := by
  refine fnT none_ok Tryz.func123 (ord := O0) (N := N0) (by kernel_rfl) ((F123_eq _ _ _ x).trans ?_)
  unfold badS
  cases decide (x < 1) <;> rfl
def bdGo : List Int → Int → Int
  | [], _ => -1
  | x :: r, i => ifK (badS x) i (bdGo r (i + 1))
theorem bdGo_any : ∀ (l : List Int) (i : Int), 0 ≤ i → decide (bdGo l i ≥ 0) = l.any badS
  | [], _, _ => rfl
  | x :: r, i, h => by
    have ih := bdGo_any r (i + 1) (by omega)
    rw [show bdGo (x :: r) i = ifK (badS x) i (bdGo r (i + 1)) from rfl, List.any_cons]
    cases badS x with
    | true => rw [ifK_true, Bool.true_or]; simpa using h
    | false => rw [ifK_false, Bool.false_or]; exact ih
theorem go150o {call : FuncId → List D → Option D} (t123 : ∀ x, call 123 [.int .i64 x] = some (.bool (badS x))) {f : Bool} : ∀ (r pre : List Int) (fuel : Nat), (pre ++ r).length ≤ 1000 → r.length < fuel → F150o_26 call LL C1 fuel f (pre ++ r).length (ints (pre ++ r)) ((pre ++ r).length : Int) (pre.length : Int) = some (.int .i64 (bdGo r pre.length)) := by
  intro r
  induction r with
  | nil =>
    intro pre fuel hl hf
    cases fuel with
    | zero => exact absurd hf (Nat.not_lt_zero _)
    | succ fuel =>
      rw [F150o_26_eq, end_pre, ifK_false]
      rfl
  | cons x r ih =>
    intro pre fuel hl hf
    cases fuel with
    | zero => exact absurd hf (Nat.not_lt_zero _)
    | succ fuel =>
      have ih := ih (pre ++ [x]) fuel (by rw [app1]; exact hl) (by simp at hf; omega)
      rw [app1] at ih
      rw [F150o_26_eq, lt_pre, ifK_true, in_pre, chkK_true, cell_ints, intK_int, t123, optK_some, boolK_bool, step_pre pre x r (by omega), ih, show ((pre ++ [x]).length : Int) = (pre.length : Int) + 1 by simp, show bdGo (x :: r) pre.length = ifK (badS x) (pre.length : Int) (bdGo r ((pre.length : Int) + 1)) from rfl]
      cases badS x <;> rfl
theorem ok122o {f : Bool} (l : List Int) (hl : l.length ≤ 1000) : OK5 122 [.slc f l.length (ints l), .fn (.func 123) [] []] (.bool (l.any badS)) := by
  obtain ⟨B, hb, h123, _⟩ := exF [⟨123, Int, fun x => [.int .i64 x], fun x => .bool (badS x)⟩] ⟨⟨fun x => ok123 x, fun x y e => by
    simp only [List.cons.injEq, D.int.injEq, true_and, and_true] at e
    show D.bool (badS x) = .bool (badS y)
    rw [e], fun _ => rfl⟩, trivial⟩ rfl
  have h150 : OK5 150 [.slc f l.length (ints l), .fn (.func 123) [] []] (.int .i64 (bdGo l 0)) := by
    refine fnT hb Tryz.func150 (ord := O0) (N := N150) (by kernel_rfl) ((F150o_eq _ _ _ _ _ _).trans ?_)
    exact go150o (f := f) h123 l [] LL hl (by unfold LL; omega)
  obtain ⟨B2, hb2, t150, _⟩ := exF [one 150 [.slc f l.length (ints l), .fn (.func 123) [] []] (.int .i64 (bdGo l 0))] ⟨one_good h150 rfl, trivial⟩ rfl
  refine fnT hb2 Tryz.func122 (ord := O0) (N := N0) (by kernel_rfl) ((F122o_eq _ _ _ _ _ _).trans ?_)
  rw [show callOf B2 150 [.slc f l.length (ints l), .fn (.func 123) [] []] = _ from t150 (), optK_some]
  show some (D.bool (decide (bdGo l 0 ≥ 0))) = _
  rw [bdGo_any l 0 (Int.le_refl _)]
/-! ### Deleting -/
/-- DeleteFunc with the play-off's closure, as a table. -/
def muDel : FuncId → List D → Option D := fun k ds => match k, ds with
  | 124, .slc false len cs :: rest => (match delG cs len rest with
    | some (cs', some m) => some (.slc false m cs')
    | _ => none)
  | _, _ => none
theorem muDel_ok : MutsT trimT muDel := by
  intro k cs len rest f m cs' h
  unfold muDel at h
  split at h
  · rename_i len' cs2 rest' e
    cases e
    split at h
    · rename_i cs3 m3 hg
      cases h
      show MutC Tryz.prog (fun _ => none) 124 cs len rest cs' (some m)
      intro I w b cap n e c vrest h1 h2 h3 h4 h5 h6 h7 h8 h9 h10 h11 h12 h13 h14
      exact del_mut.2 I w b cap n len e c cs rest cs' (some m) vrest h1 h2 h3 h4 h5 h6 h7 h8 h9 h10 h11 h12 hg h13 h14
    · cases h
  · cases h
section
variable {call mu : FuncId → List D → Option D} {f : Bool} {l : List (List Int)} {m q : Nat} {L : List Int}
theorem valAt_sc (H : PlOK l m) {h : Nat} (hh : h < m) {x : Int} (hx : 0 ≤ x ∧ x < (l.length : Int)) : valAt l.length (rows l) (h : Int) x = some (scV l h x) := by
  have hlen := H.len _ (rw_mem hx)
  have hxl : x.toNat < l.length := by omega
  have e1 : (rows l)[x.toNat]? = some (.slc false (rwV l x).length (ints (rwV l x))) := by
    unfold rows rwV
    rw [List.getElem?_map, List.getElem?_eq_getElem hxl]
    rfl
  have hhl : h < (rwV l x).length := by omega
  have e2 : (ints (rwV l x))[(h : Int).toNat]? = some (.int .i64 (scV l h x)) := by
    unfold ints scV rkV
    rw [List.getElem?_map, show ((h : Int).toNat) = h by omega, List.getElem?_eq_getElem hhl]
    rfl
  unfold valAt
  rw [show decide (0 ≤ x ∧ x < (l.length : Int) ∧ (0 : Int) ≤ (h : Int)) = true by simp; omega]
  simp only [e1]
  rw [show decide ((h : Int) < ((rwV l x).length : Int)) = true by simp; omega]
  simp only [e2]
theorem keep_sc (H : PlOK l m) {h : Nat} (hh : h < m) {mn : Int} : ∀ (L : List Int), (∀ x ∈ L, 0 ≤ x ∧ x < (l.length : Int)) → keepI l.length (rows l) (h : Int) mn L = some (L.filter fun x => !decide (mn < scV l h x))
  | [], _ => rfl
  | x :: r, hL => by
    have ih := keep_sc H hh (mn := mn) r fun y hy => hL y (by simp [hy])
    unfold keepI
    rw [valAt_sc H hh (hL x (by simp)), ih]
    cases hd : decide (mn < scV l h x) with
    | true => simp [hd]
    | false => simp [hd]
/-- Deleting leaves those at the least. -/
theorem mu_stp (H : PlOK l m) {h : Nat} (hh : h < m) (hL : ∀ x ∈ L, 0 ≤ x ∧ x < (l.length : Int)) (hl : L.length ≤ 1000) :
    muDel 124 [.slc false L.length (ints L), .fn (.func 125) [] [.snap [.slc f l.length (rows l)] 0, .snap [.int .i64 (h : Int)] 0, .snap [.int .i64 (mnGo (scV l h) L 99)] 0]] = some (.slc false (stp (scV l h) L).length (ints (stp (scV l h) L))) := by
  have hv0 := valAt_sc H hh (x := 0) (by have := H.n2; omega)
  have hk := keep_sc H hh (mn := mnGo (scV l h) L 99) L hL
  have hf : (L.filter fun x => !decide (mnGo (scV l h) L 99 < scV l h x)) = stp (scV l h) L := by
    unfold stp
    refine List.filter_congr fun x hx => ?_
    have := (mnGo_le (scV l h) L 99).2 x hx
    by_cases he : scV l h x = mnGo (scV l h) L 99
    · simp [he]
    · have : mnGo (scV l h) L 99 < scV l h x := by omega
      simp [he, this]
  rw [hf] at hk
  have hi : intsOf (ints L) = some L := intsOf_map L
  have hg : delG (ints L) L.length [.fn (.func 125) [] [.snap [.slc f l.length (rows l)] 0, .snap [.int .i64 (h : Int)] 0, .snap [.int .i64 (mnGo (scV l h) L 99)] 0]] = some (ints (stp (scV l h) L), some (stp (scV l h) L).length) := by
    unfold delG
    simp only [hi, hv0, hk]
    rw [show decide (True ∧ L.length ≤ 4611686018427387904) = true by simp; omega]
    rfl
  unfold muDel
  simp only [hg]
theorem own_ints (h0 : L ≠ []) : owI L = .own L.length (ints L) := by
  cases L with
  | nil => exact absurd rfl h0
  | cons a t => rfl
theorem least75 (H : PlOK l m) {h : Nat} (hh : h < m) (hL : ∀ x ∈ L, 0 ≤ x ∧ x < (l.length : Int)) (hl : L.length ≤ 1000) {mn0 : Int} (hmn : mnGo (scV l h) L mn0 = mnGo (scV l h) L 99) (hne : stp (scV l h) L ≠ []) : ∀ (r pre : List Int) (fuel : Nat) (mn : Int), L = pre ++ r → r.length < fuel → mnGo (scV l h) r mn = mnGo (scV l h) L mn0 →
    F75_64586 call muDel LL C1 q fuel L.length f l.length (rows l) (h : Int) (ints L) (L.length : Int) (pre.length : Int) mn = F75_252 call muDel LL C1 q f l.length (rows l) (owI (stp (scV l h) L)) ((h + 1 : Nat) : Int) := by
  have hsl := stp_len (scV l h) L
  intro r
  induction r with
  | nil =>
    intro pre fuel mn hp hf hm
    cases fuel with
    | zero => exact absurd hf (Nat.not_lt_zero _)
    | succ fuel =>
      have h1 : decide ((pre.length : Int) < (L.length : Int)) = false := by rw [hp]; simp
      have hst : IntKind.wrap .i64 ((h : Int) + 1) = ((h + 1 : Nat) : Int) := by have := H.m36; rw [wrap_in (by omega)]; rfl
      have hm' : mn = mnGo (scV l h) L 99 := hm.trans hmn
      have hmu := mu_stp (f := f) H hh hL hl
      rw [own_ints hne]
      rw [F75_64586_eq, h1, ifK_false, ints_plain, chkK_true, hm', hmu, optK_some, slcK_slc, show decide ((ints (stp (scV l h) L)).length = (stp (scV l h) L).length * 1) = true by rw [ints_len]; simp, chkK_true, show decide ((stp (scV l h) L).length ≤ L.length) = true by simpa using hsl, chkK_true, ints_plain, chkK_true, hst]
  | cons x r ih =>
    intro pre fuel mn hp hf hm
    cases fuel with
    | zero => exact absurd hf (Nat.not_lt_zero _)
    | succ fuel =>
      have ih := ih (pre ++ [x]) fuel (if scV l h x < mn then scV l h x else mn) (by rw [hp]; simp) (by simp at hf; omega) hm
      have hx := hL x (by rw [hp]; simp)
      have h1 : decide ((pre.length : Int) < (L.length : Int)) = true := by rw [hp]; simp; omega
      have h2 : decide ((0 : Int) ≤ (pre.length : Int) ∧ (pre.length : Int) < (L.length : Int)) = true := by rw [hp]; simp; omega
      have h3 : decide ((0 : Int) ≤ x ∧ x < (l.length : Int)) = true := by simpa using hx
      have hc : ∀ {γ : Type} (k : D → Option γ), cellK (ints L) (Int.toNat (pre.length : Int) * 1) k = k (.int .i64 x) := fun k => by rw [hp]; exact cell_ints pre x r k
      have hst : IntKind.wrap .i64 ((pre.length : Int) + 1) = ((pre ++ [x]).length : Int) := step_pre pre x r (by rw [← hp]; omega)
      rw [F75_64586_eq, h1, ifK_true, h2, chkK_true, hc, intK_int, h3, chkK_true, rows_get hx, slcK_slc, sc_in H hx hh, chkK_true, sc_get H hx hh, intK_int, hst, ih]
theorem rounds75 (H : PlOK l m) : ∀ (j h fuel : Nat) (L : List Int), h + j = m → j < fuel → L ≠ [] → L.length ≤ 1000 → (∀ x ∈ L, 0 ≤ x ∧ x < (l.length : Int)) →
    F75_252 call muDel LL C1 fuel f l.length (rows l) (owI L) (h : Int) = some (.tup [slI (rndGo l j h L).1, .int .i64 ((rndGo l j h L).2 : Int), .int .i64 0]) := by
  have hin : decide ((0 : Int) ≤ 0 ∧ (0 : Int) < (l.length : Int)) = true := by have := H.n2; simp; omega
  intro j
  induction j with
  | zero =>
    intro h fuel L hj hf h0 hl hL
    cases fuel with
    | zero => exact absurd hf (Nat.not_lt_zero _)
    | succ fuel =>
      rw [Nat.add_zero] at hj
      subst hj
      rw [own_ints h0, F75_252_eqo, hin, chkK_true, pl_first H, slcK_slc, show decide ((h : Int) < (h : Int)) = false by simp, ifK_false]
      cases L with
      | nil => exact absurd rfl h0
      | cons a t => rfl
  | succ j ih =>
    intro h fuel L hj hf h0 hl hL
    cases fuel with
    | zero => exact absurd hf (Nat.not_lt_zero _)
    | succ fuel =>
      have hh : h < m := by omega
      have hne := stp_ne (g := scV l h) (fun x hx => sc_99 H (hL x hx) hh) h0
      have hsl := stp_len (scV l h) L
      have hsi := stp_in (g := scV l h) hL
      have e1 : F75_252 call muDel LL C1 (fuel + 1) f l.length (rows l) (owI L) (h : Int) = ifK (decide (1 < L.length)) (F75_1009 call muDel LL C1 fuel f l.length (rows l) (h : Int) L.length (ints L)) (some (.tup [slI L, .int .i64 (h : Int), .int .i64 0])) := by
        rw [own_ints h0, F75_252_eqo, hin, chkK_true, pl_first H, slcK_slc, show decide ((h : Int) < (m : Int)) = true by simp; omega, ifK_true, show decide ((L.length : Int) > 1) = decide (1 < L.length) from decide_eq_decide.2 (by omega)]
        cases L with
        | nil => exact absurd rfl h0
        | cons a t => rfl
      rw [e1, show rndGo l (j + 1) h L = ifK (decide (1 < L.length)) (rndGo l j (h + 1) (stp (scV l h) L)) (L, h) from rfl]
      cases decide (1 < L.length) with
      | false => rfl
      | true =>
        rw [ifK_true, ifK_true, F75_1009_eq (hC := (fun _ => rfl : ∀ t, C1 t = 1))]
        have hih := ih (h + 1) fuel (stp (scV l h) L) (by omega) (by omega) hne (by omega) hsi
        cases L with
        | nil => exact absurd rfl h0
        | cons a t =>
          have ha := hL a (by simp)
          have hx3 : decide ((0 : Int) ≤ a ∧ a < (l.length : Int)) = true := by simpa using ha
          have hle := least75 (call := call) (f := f) (q := fuel) H hh hL hl (mn0 := scV l h a) (mnGo_hd (scV l h) (sc_99 H ha hh)).symm hne (a :: t) [] LL (scV l h a) rfl (by unfold LL; omega) rfl
          rw [show decide ((0 : Int) ≤ 0 ∧ (0 : Int) < ((a :: t).length : Int)) = true by simp, chkK_true, show (cellK (ints (a :: t)) 0 : (D → Option D) → Option D) = fun k => k (.int .i64 a) from rfl]
          show intK IntKind.i64 (.int .i64 a) _ = _
          rw [intK_int, hx3, chkK_true, rows_get ha, slcK_slc, sc_in H ha hh, chkK_true, sc_get H ha hh, intK_int]
          exact hle.trans hih
/-- Each row is looked at. -/
theorem rows75 (hl : l.length ≤ 1000) (h0 : 0 < l.length) (t122 : ∀ x ∈ l, call 122 [.slc false x.length (ints x), .fn (.func 123) [] []] = some (.bool (x.any badS))) (t83 : ∀ b e, call 83 [.bool b, .int .i64 e] = some (.int .i64 (ifK b e 0)))
    (t81 : ∀ a b c d : Int, call 81 [.slc true 4 [.int .i64 a, .int .i64 b, .int .i64 c, .int .i64 d]] = some (.int .i64 (fstE [a, b, c, d]))) : ∀ (r pre : List (List Int)) (fuel : Nat), l = pre ++ r → r.length < fuel →
    F75_122 call mu LL C1 fuel f l.length (rows l) (owI (upI pre.length 0)) (l.length : Int) (pre.length : Int) = ifK (poGo (l.headD []).length r != 0) (some (.tup [slI [], .int .i64 0, .int .i64 (poGo (l.headD []).length r)])) (F75_252 call mu LL C1 LL f l.length (rows l) (owI (upI l.length 0)) 0) := by
  have hin0 : decide ((0 : Int) ≤ 0 ∧ (0 : Int) < (l.length : Int)) = true := by simp; omega
  intro r
  induction r with
  | nil =>
    intro pre fuel hp hf
    cases fuel with
    | zero => exact absurd hf (Nat.not_lt_zero _)
    | succ fuel =>
      have hpl : pre.length = l.length := by rw [hp]; simp
      rw [hpl, own_ints (L := upI l.length 0) (by intro h; have := upI_len l.length 0; rw [h] at this; simp at this; omega), upI_len, F75_122_eqo, show decide ((l.length : Int) < (l.length : Int)) = false by simp, ifK_false]
      rfl
  | cons x r ih =>
    intro pre fuel hp hf
    cases fuel with
    | zero => exact absurd hf (Nat.not_lt_zero _)
    | succ fuel =>
      have ih := ih (pre ++ [x]) fuel (by rw [hp]; simp) (by simp at hf; omega)
      have hlen : l.length = pre.length + r.length + 1 := by rw [hp]; simp; omega
      have h1 : decide ((pre.length : Int) < (l.length : Int)) = true := by simp; omega
      have h2 : decide ((0 : Int) ≤ (pre.length : Int) ∧ (pre.length : Int) < (l.length : Int)) = true := by simp; omega
      have hst : IntKind.wrap .i64 ((pre.length : Int) + 1) = ((pre ++ [x]).length : Int) := step_pre pre x r (by rw [← hp]; omega)
      have hx : x ∈ l := by rw [hp]; simp
      have c1 : ∀ {γ : Type} (k : D → Option γ), cellK (rows l) (Int.toNat (pre.length : Int) * 1) k = k (.slc false x.length (ints x)) := fun k => by rw [hp]; exact cell_rows pre x r k
      have hrow : fstE [ifK ((x.length : Int) == 0) 12 0, ifK (decide ((x.length : Int) > 36)) 5 0, ifK (x.any badS) 3 0, ifK ((x.length : Int) != ((l.headD []).length : Int)) 2 0] = poRow (l.headD []).length x := by
        unfold poRow fstE
        cases ((x.length : Int) == 0) <;> cases decide ((x.length : Int) > 36) <;> cases x.any badS <;> cases ((x.length : Int) != ((l.headD []).length : Int)) <;> rfl
      rw [show (pre ++ [x]).length = pre.length + 1 by simp, upI_snoc, owI_snoc, upI_len, Nat.zero_add] at ih
      rw [show (pre ++ [x]).length = pre.length + 1 by simp] at hst
      rw [show poGo (l.headD []).length (x :: r) = ifK (poRow (l.headD []).length x != 0) (poRow (l.headD []).length x) (poGo (l.headD []).length r) from rfl]
      have key : ∀ a : Option D, a = ifK (poRow (l.headD []).length x != 0) (some (.tup [.slc true 0 [], .int .i64 0, .int .i64 (poRow (l.headD []).length x)])) (F75_122 call mu LL C1 fuel f l.length (rows l) (.own (pre.length + 1) (ints (upI pre.length 0) ++ [.int .i64 (pre.length : Int)])) (l.length : Int) ((pre.length + 1 : Nat) : Int)) →
          a = ifK (ifK (poRow (l.headD []).length x != 0) (poRow (l.headD []).length x) (poGo (l.headD []).length r) != 0) (some (.tup [slI [], .int .i64 0, .int .i64 (ifK (poRow (l.headD []).length x != 0) (poRow (l.headD []).length x) (poGo (l.headD []).length r))])) (F75_252 call mu LL C1 LL f l.length (rows l) (owI (upI l.length 0)) 0) := fun a ha => by
        rw [ha, ih]
        cases hr : poRow (l.headD []).length x != 0 with
        | true => rw [ifK_true, ifK_true, hr, ifK_true]; rfl
        | false => rw [ifK_false, ifK_false]
      refine key _ ?_
      have hl0 : 0 < l.length := h0
      cases hpn : pre.length with
      | zero =>
        rw [hpn] at h1 h2 c1 hst
        rw [show owI (upI 0 0) = .nil from rfl, F75_122_eqn, h1, ifK_true, h2, chkK_true, c1, slcK_slc, t122 x hx, optK_some, boolK_bool, t83, optK_some, intK_int, t83, optK_some, intK_int, t83, optK_some, intK_int, hin0, chkK_true, rows_0 hl0, slcK_slc, t83, optK_some, intK_int, t81, optK_some, intK_int, hrow, hst]
        rfl
      | succ i =>
        rw [hpn] at h1 h2 c1 hst
        rw [own_ints (L := upI (i + 1) 0) (by intro h; cases h), upI_len, F75_122_eqo, h1, ifK_true, h2, chkK_true, c1, slcK_slc, t122 x hx, optK_some, boolK_bool, t83, optK_some, intK_int, t83, optK_some, intK_int, t83, optK_some, intK_int, hin0, chkK_true, rows_0 hl0, slcK_slc, t83, optK_some, intK_int, t81, optK_some, intK_int, hrow, hst, roomK (by omega), chkK_true]
end
end Go.Pd
end

section
namespace Go.Pd
open Go Go.Proofs Go.RowKit
set_option maxRecDepth 100000
/-! ### A play-off -/
def poR (l : List (List Int)) : D := ifK (poErr l != 0) (.tup [slI [], .int .i64 0, .int .i64 (poErr l)]) (.tup [slI (poV l).1, .int .i64 ((poV l).2 : Int), .int .i64 0])
theorem poRow_zero {m : Nat} {x : List Int} (h : poRow m x = 0) : 0 < x.length ∧ x.length ≤ 36 ∧ (∀ y ∈ x, y ≤ 99) ∧ x.length = m := by
  unfold poRow at h
  cases h1 : ((x.length : Int) == 0) with
  | true => rw [h1, ifK_true] at h; cases h
  | false =>
    rw [h1, ifK_false] at h
    cases h2 : decide ((x.length : Int) > 36) with
    | true => rw [h2, ifK_true] at h; cases h
    | false =>
      rw [h2, ifK_false] at h
      cases h3 : x.any badS with
      | true => rw [h3, ifK_true] at h; cases h
      | false =>
        rw [h3, ifK_false] at h
        cases h4 : ((x.length : Int) != (m : Int)) with
        | true => rw [h4, ifK_true] at h; cases h
        | false =>
          have e1 : (x.length : Int) ≠ 0 := by simpa using h1
          have e4 : (x.length : Int) = (m : Int) := by simpa using h4
          simp only [decide_eq_false_iff_not] at h2
          refine ⟨by omega, by omega, fun y hy => ?_, by omega⟩
          have := List.any_eq_false.1 h3 y hy
          unfold badS at this
          simp only [Bool.or_eq_true, decide_eq_true_eq, not_or] at this
          omega
theorem poGo_zero {m : Nat} : ∀ {r : List (List Int)}, poGo m r = 0 → ∀ x ∈ r, poRow m x = 0
  | [], _, x, hx => by cases hx
  | y :: r, h, x, hx => by
    rw [show poGo m (y :: r) = ifK (poRow m y != 0) (poRow m y) (poGo m r) from rfl] at h
    cases h1 : poRow m y != 0 with
    | true =>
      rw [h1, ifK_true] at h
      rw [h] at h1
      cases h1
    | false =>
      rw [h1, ifK_false] at h
      rcases List.mem_cons.1 hx with rfl | hx
      · simpa using h1
      · exact poGo_zero h x hx
theorem po_zero {l : List (List Int)} (h : poErr l = 0) : PlOK l (l.headD []).length := by
  unfold poErr at h
  cases h1 : decide ((l.length : Int) < 2) with
  | true => rw [h1, ifK_true] at h; cases h
  | false =>
    rw [h1, ifK_false] at h
    cases h2 : decide ((l.length : Int) > 200) with
    | true => rw [h2, ifK_true] at h; cases h
    | false =>
      rw [h2, ifK_false] at h
      simp only [decide_eq_false_iff_not] at h1 h2
      have hr := fun x hx => poRow_zero (poGo_zero h x hx)
      have hd : l.headD [] ∈ l := by
        cases l with
        | nil => simp at h1
        | cons x r => simp
      exact ⟨by omega, by omega, (hr _ hd).1, (hr _ hd).2.1, fun x hx => (hr x hx).2.2.2, fun x hx => (hr x hx).2.2.1⟩
theorem h2len (l : List (List Int)) : decide ((l.length : Int) < 2) = false → 2 ≤ l.length := fun h => by
  simp only [decide_eq_false_iff_not] at h
  omega
/-- The program's Playoff. -/
theorem ok75 {f : Bool} {l : List (List Int)} (hl : l.length ≤ 1000) (hx : ∀ x ∈ l, x.length ≤ 1000) : OK5 75 [.slc f l.length (rows l)] (poR l) := by
  obtain ⟨B, hb, h122, h83, h81, _⟩ := exF [⟨122, {x : List Int // x ∈ l}, fun x => [.slc false x.1.length (ints x.1), .fn (.func 123) [] []], fun x => .bool (x.1.any badS)⟩, fam83, fam81L]
    ⟨⟨fun x => ok122o (f := false) x.1 (hx x.1 x.2), fun x y e => by
      simp only [List.cons.injEq, D.slc.injEq, true_and, and_true] at e
      show D.bool (x.1.any badS) = .bool (y.1.any badS)
      rw [ints_inj e.2], fun _ => rfl⟩, fam83_good, fam81L_good, trivial⟩ rfl
  have t83 : ∀ q e, callOf B 83 [.bool q, .int .i64 e] = some (.int .i64 (ifK q e 0)) := fun q e => h83 (q, e)
  have t81 : ∀ a b c d : Int, callOf B 81 [.slc true 4 [.int .i64 a, .int .i64 b, .int .i64 c, .int .i64 d]] = some (.int .i64 (fstE [a, b, c, d])) := fun a b c d => h81 ⟨[a, b, c, d], by simp⟩
  have t82 : ∀ a b : Int, callOf B 81 [.slc true 2 [.int .i64 a, .int .i64 b]] = some (.int .i64 (fstE [a, b])) := fun a b => h81 ⟨[a, b], by simp⟩
  refine fnU hb muDel_ok Tryz.func75 (ord := O75) (N := N75) (by kernel_rfl) ((F75_eq _ _ _ _ _ _ _).trans ?_)
  have e2 : ∀ a b : Bool, fstE [ifK a 2 0, ifK b 5 0] = ifK a 2 (ifK b 5 0) := fun a b => by cases a <;> cases b <;> rfl
  rw [t83, optK_some, intK_int, t83, optK_some, intK_int, t82, optK_some, intK_int, e2]
  have hz := @po_zero l
  unfold poR
  unfold poErr at hz ⊢
  have h0 := h2len l
  generalize decide ((l.length : Int) < 2) = b1 at *
  generalize decide ((l.length : Int) > 200) = b2 at *
  cases b1 with
  | true => simp only [ifK_true]; rfl
  | false =>
    cases b2 with
    | true => simp only [ifK_true, ifK_false]; rfl
    | false =>
      simp only [ifK_false] at hz ⊢
      rw [show ((0 : Int) != 0) = false from rfl, ifK_false]
      have h0 := h0 rfl
      have hr := rows75 (call := callOf B) (mu := muDel) (f := f) hl (by omega) (fun x hm => h122 ⟨x, hm⟩) t83 t81 l [] LL rfl (by unfold LL; omega)
      refine Eq.trans hr ?_
      cases h3 : poGo (l.headD []).length l != 0 with
      | true => rw [ifK_true, ifK_true]
      | false =>
        have H := hz (by simpa using h3)
        have hm36 := H.m36
        rw [ifK_false, ifK_false]
        refine rounds75 H (l.headD []).length 0 LL (upI l.length 0) (by omega) (by unfold LL; omega) (by intro h; have := upI_len l.length 0; rw [h] at this; simp at this; omega) (by rw [upI_len]; exact hl) fun x hx => ?_
        have := upI_mem _ _ x hx
        omega
/-! ### Players as those of the reference, however many -/
theorem room48b {i : Nat} (h : i + 1 ≤ 2932031007402) : decide ((i + 1) * 48 ≤ limit ∧ i + 1 ≤ 9223372036854775807) = true := by
  simp only [decide_eq_true_eq]
  rw [show limit = 140737488355328 from rfl]
  omega
theorem go37b {call : FuncId → List D → Option D} {f : Bool} {n : Nat} : ∀ (r pre : List PlV) (fuel : Nat), (pre ++ r).length = n → n ≤ 2932031007402 → r.length < fuel → F37_58 call LL C1 fuel f n ((pre ++ r).flatMap plC) (owR plC pre) n (pre.length : Int) = some (slR plC (pre ++ r)) := by
  intro r
  induction r with
  | nil =>
    intro pre fuel hn hB hf
    cases fuel with
    | zero => exact absurd hf (Nat.not_lt_zero _)
    | succ fuel =>
      subst hn
      cases pre with
      | nil =>
        show F37_58 call LL C1 (fuel + 1) f _ _ .nil _ _ = _
        rw [F37_58_eqn, end_pre, ifK_false]
        rfl
      | cons o os =>
        show F37_58 call LL C1 (fuel + 1) f _ _ (.own (os.length + 1) ((o :: os).flatMap plC)) _ _ = _
        rw [F37_58_eqo, end_pre, ifK_false, List.append_nil]
        rfl
  | cons x r ih =>
    intro pre fuel hn hB hf
    cases fuel with
    | zero => exact absurd hf (Nat.not_lt_zero _)
    | succ fuel =>
      have ih := ih (pre ++ [x]) fuel (by rw [app1]; exact hn) hB (by simp at hf; omega)
      rw [app1, owR_snoc] at ih
      subst hn
      cases pre with
      | nil =>
        show F37_58 call LL C1 (fuel + 1) f _ _ .nil _ _ = _
        rw [F37_58_eqn, lt_pre, ifK_true, in_pre, chkK_true, p0, strK_str, p1, slcK_slc, p2, intK_int, step_pre _ x r (Nat.le_trans hB (by decide))]
        exact ih
      | cons o os =>
        have hi : os.length + 1 + 1 ≤ 2932031007402 := by
          rw [List.length_append, List.length_cons, List.length_cons] at hB
          exact Nat.le_trans (Nat.add_le_add_left (Nat.le_add_left 1 r.length) (os.length + 1)) hB
        show F37_58 call LL C1 (fuel + 1) f _ _ (.own (os.length + 1) ((o :: os).flatMap plC)) _ _ = _
        rw [F37_58_eqo, lt_pre, ifK_true, in_pre, chkK_true, p0, strK_str, p1, slcK_slc, p2, intK_int, step_pre _ x r (Nat.le_trans hB (by decide)), room48b hi, chkK_true]
        exact ih
theorem ok37b {f : Bool} (l : List PlV) (hl : l.length ≤ 2932031007402) : OK5 37 [.slc f l.length (l.flatMap plC)] (slR plC l) := by
  have h1 : l.length < LL := by unfold LL; omega
  have h2 := go37b (call := callOf fun _ _ => none) (f := f) (n := l.length) l [] LL (by simp) hl h1
  refine fnT none_ok Tryz.func37 (ord := O0) (N := N37) (by kernel_rfl) ((F37_eq _ _ _ _ _ _).trans ?_)
  clear h1 hl
  rw [List.nil_append] at h2
  exact h2
/-! ### The law -/
def fam20 : Fam := ⟨20, Option {l : List Int // l.length < 4611686018427387904}, fun x => match x with
  | none => [.slc true 0 [], .nils]
  | some l => [slI l.1, slI l.1], fun _ => .bool true⟩
theorem fam20_good : fam20.Good := ⟨fun x => match x with
  | none => ok20n
  | some l => ok20i l.1 l.2, fun _ _ _ => rfl, fun x => match x with
  | none => rfl
  | some _ => rfl⟩
theorem shortV_len {l : List (List Int)} (h : shortV l = true) : l.length ≤ 203 := by
  unfold shortV at h
  cases h3 : decide ((l.length : Int) > 203) with
  | true =>
    rw [h3] at h
    revert h
    cases decide ((l.length : Int) > 8) <;> cases decide ((l.length : Int) ≤ 200) <;> simp
  | false =>
    simp only [decide_eq_false_iff_not] at h3
    omega
theorem rnd_len (l : List (List Int)) : ∀ (j h : Nat) (L : List Int), (rndGo l j h L).1.length ≤ L.length
  | 0, _, _ => Nat.le_refl _
  | j + 1, h, L => by
    have h1 := rnd_len l j (h + 1) (stp (scV l h) L)
    have h2 := stp_len (scV l h) L
    rw [show rndGo l (j + 1) h L = ifK (decide (1 < L.length)) (rndGo l j (h + 1) (stp (scV l h) L)) (L, h) from rfl]
    cases decide (1 < L.length) with
    | true => rw [ifK_true]; omega
    | false => rw [ifK_false]; exact Nat.le_refl _
section
variable {call : FuncId → List D → Option D} {f g g2 : Bool} {n : Nat} {c : List D} {P S : Nat → Int} {l : List PlV} {ll : List (List Int)}
theorem end14 (t16 : call 16 [] = some (.bool true)) (t20 : ∀ q : List Int, q.length ≤ 1000 → call 20 [slI q, slI q] = some (.bool true)) (t20n : call 20 [.slc true 0 [], .nils] = some (.bool true))
    (t75 : call 75 [.slc g2 ll.length (rows ll)] = some (poR ll)) (t76 : call 76 [.slc g2 ll.length (rows ll)] = some (.int .i64 (poErr ll))) (t77 : poErr ll = 0 → call 77 [.slc g2 ll.length (rows ll)] = some (.tup [slI (poV ll).1, .int .i64 ((poV ll).2 : Int)])) (hl : ll.length ≤ 1000) :
    F14_1023 call LL C1 g2 ll.length (rows ll) = some (.bool true) := by
  rw [F14_1023_eq (hC := (fun _ => rfl : ∀ t, C1 t = 1)), t75, optK_some]
  unfold poR
  cases hz : poErr ll != 0 with
  | true =>
    have h0 : (poErr ll == 0) = false := by simpa using hz
    have hs : (poErr ll == poErr ll) = true := by simp
    show optK (call 76 [.slc g2 ll.length (rows ll)]) _ = _
    rw [t76, optK_some, intK_int, h0, ifK_false, hs, ifK_true]
    show optK (call 20 [.slc true 0 [], .nils]) _ = _
    rw [t20n, optK_some, boolK_bool, ifK_true]
    show optK (call 16 []) _ = _
    rw [t16, optK_some, boolK_bool]
  | false =>
    have h0 : poErr ll = 0 := by simpa using hz
    have hlen : (poV ll).1.length ≤ 1000 := by
      have := rnd_len ll (ll.headD []).length 0 (upI ll.length 0)
      rw [upI_len] at this
      exact Nat.le_trans this hl
    have e20 := t20 _ hlen
    have e77 := t77 h0
    generalize poV ll = V at *
    obtain ⟨L, h⟩ := V
    show optK (call 76 [.slc g2 ll.length (rows ll)]) _ = _
    rw [t76, optK_some, intK_int, h0, show ((0 : Int) == 0) = true from rfl, ifK_true, e77, optK_some]
    show optK (call 20 [slI L, slI L]) _ = _
    rw [e20, optK_some, boolK_bool, ifK_true, show ((h : Int) == (h : Int)) = true by simp, ifK_true, t16, optK_some, boolK_bool]
theorem mid14 {e : Int} (he : e = fldErr n P S l) (t20 : ∀ q : List Int, q.length ≤ 1000 → call 20 [slI q, slI q] = some (.bool true)) (t20n : call 20 [.slc true 0 [], .nils] = some (.bool true))
    (t71 : call 71 [.agg [.slc f n c, .slc l.isEmpty l.length (l.flatMap plC)]] = some (.int .i64 e)) (t72 : call 72 [.agg [.slc f n c, .slc g l.length (l.flatMap plC)]] = some (ledR n P S l)) (t73 : call 73 [.agg [.slc f n c, .slc g l.length (l.flatMap plC)]] = some (.int .i64 e))
    (t74 : e = 0 → call 74 [.agg [.slc f n c, .slc l.isEmpty l.length (l.flatMap plC)]] = some (.tup [slI (ldOut n S l), slI (ldPl n S l)])) (hl : l.length ≤ 1000) (hend : F14_1023 call LL C1 g2 ll.length (rows ll) = some (.bool true)) :
    F14_15 call LL C1 g2 ll.length (rows ll) f n c g l.length (l.flatMap plC) l.isEmpty l.length (l.flatMap plC) = some (.bool true) := by
  have hee : (e != e) = false := by simp
  have hrl := who_len n S l 0
  have hol : (ldOut n S l).length ≤ 1000 := by unfold ldOut; rw [List.length_map, srt_len]; omega
  have hpl : (ldPl n S l).length ≤ 1000 := by unfold ldPl; rw [List.length_map, srt_len]; omega
  have e1 := t20 _ hol
  have e2 := t20 _ hpl
  rw [F14_15_eq (hC := (fun _ => rfl : ∀ t, C1 t = 1)), t71, optK_some, intK_int, t72, optK_some]
  unfold ledR
  rw [← he]
  cases hz : e != 0 with
  | true =>
    have h0 : (e == 0) = false := by simpa using hz
    show optK (call 73 [.agg [.slc f n c, .slc g l.length (l.flatMap plC)]]) _ = _
    rw [t73, optK_some, intK_int, hee, ifK_false, ifK_false]
    show F14_127 call LL C1 g2 ll.length (rows ll) f n c l.isEmpty l.length (l.flatMap plC) e true 0 [] true 0 [] = _
    rw [F14_127_eq (hC := (fun _ => rfl : ∀ t, C1 t = 1)), h0, ifK_false, F14_511_eqnn (hC := (fun _ => rfl : ∀ t, C1 t = 1)), t20n, optK_some, boolK_bool]
    show ifK false _ (optK (some (D.bool true)) _) = _
    rw [ifK_false, optK_some, boolK_bool]
    show ifK false _ _ = _
    rw [ifK_false, hend]
  | false =>
    have h0 : e = 0 := by simpa using hz
    have e74 := t74 h0
    subst h0
    show optK (call 73 [.agg [.slc f n c, .slc g l.length (l.flatMap plC)]]) _ = _
    rw [t73, optK_some, intK_int, show ((0 : Int) != 0) = false from rfl, ifK_false]
    clear t71 t72 t73 t74 hol hpl
    generalize ldOut n S l = O at *
    generalize ldPl n S l = Q at *
    show ifK ((0 : Int) != 0) _ (F14_127 call LL C1 g2 ll.length (rows ll) f n c l.isEmpty l.length (l.flatMap plC) 0 O.isEmpty O.length (ints O) Q.isEmpty Q.length (ints Q)) = _
    rw [show ((0 : Int) != 0) = false from rfl, ifK_false, F14_127_eq (hC := (fun _ => rfl : ∀ t, C1 t = 1)), show ((0 : Int) == 0) = true from rfl, ifK_true, e74, optK_some]
    show F14_511 call LL C1 g2 ll.length (rows ll) O.isEmpty O.length (ints O) Q.isEmpty Q.length (ints Q) (.slc O.isEmpty O.length (ints O)) (.slc Q.isEmpty Q.length (ints Q)) = _
    rw [F14_511_eqss (hC := (fun _ => rfl : ∀ t, C1 t = 1))]
    show optK (call 20 [slI O, slI O]) _ = _
    rw [e1, optK_some, boolK_bool]
    show optK (call 20 [slI Q, slI Q]) _ = _
    rw [e2, optK_some, boolK_bool]
    exact hend
/-- FormatLeads is true of all fields and play-offs. -/
theorem ok14 (hc : HolesC n c P S) (l : List PlV) (hl : l.length ≤ 2932031007402) (ll : List (List Int)) : OK5 14 [.agg [.slc f n c, .slc g l.length (l.flatMap plC)], .slc g2 ll.length (rows ll)] (.bool true) := by
  have h37 := ok37b (f := g) l hl
  have h70 := ok70 (g := l.isEmpty) l
  have h46 := ok46 (f := g2) ll
  have key : ∀ B, CallsT B → callOf B 37 [.slc g l.length (l.flatMap plC)] = some (.slc l.isEmpty l.length (l.flatMap plC)) → callOf B 16 [] = some (.bool true) → callOf B 70 [.slc l.isEmpty l.length (l.flatMap plC), .int .i64 8] = some (.bool (fewPs l)) → callOf B 46 [.slc g2 ll.length (rows ll)] = some (.bool (shortV ll)) →
      (decide ((n : Int) > 39) = false → fewPs l = true → shortV ll = true → F14_15 (callOf B) LL C1 g2 ll.length (rows ll) f n c g l.length (l.flatMap plC) l.isEmpty l.length (l.flatMap plC) = some (.bool true)) → OK5 14 [.agg [.slc f n c, .slc g l.length (l.flatMap plC)], .slc g2 ll.length (rows ll)] (.bool true) := by
    intro B hb t37 t16 t70 t46 h
    refine fnT hb Tryz.func14 (ord := O14) (N := N14) (by kernel_rfl) ((F14_eq _ _ _ _ _ _ _ _ _ _ _ _).trans ?_)
    rw [t37, optK_some, slcK_slc]
    cases h1 : decide ((n : Int) > 39) with
    | true => rw [ifK_true, t16, optK_some, boolK_bool]
    | false =>
      rw [ifK_false, t70, optK_some, boolK_bool]
      cases h2 : fewPs l with
      | false =>
        show optK (callOf B 16 []) _ = _
        rw [t16, optK_some, boolK_bool]
      | true =>
        show optK (callOf B 46 _) _ = _
        rw [t46, optK_some, boolK_bool]
        cases h3 : shortV ll with
        | false =>
          show optK (callOf B 16 []) _ = _
          rw [t16, optK_some, boolK_bool]
        | true => exact h h1 h2 h3
  by_cases hall : fewPs l = true ∧ shortV ll = true
  · obtain ⟨h2, h3⟩ := hall
    obtain ⟨b1, b2, b3⟩ := fewPs_true h2
    have s1 := shortV_len h3
    have s2 := shortV_true h3
    have s3 : ∀ x ∈ ll, x.length ≤ 1000 := fun x hx => by have := s2 x hx; omega
    obtain ⟨B, hb, t37, t16, t70, t46, t20, t71, t72, t73, t74, t75, t76, t77, _⟩ := exF [one 37 [.slc g l.length (l.flatMap plC)] (slR plC l), one 16 [] (.bool true), one 70 [.slc l.isEmpty l.length (l.flatMap plC), .int .i64 8] (.bool (fewPs l)), one 46 [.slc g2 ll.length (rows ll)] (.bool (shortV ll)), fam20,
        one 71 [.agg [.slc f n c, .slc l.isEmpty l.length (l.flatMap plC)]] (.int .i64 (fldErr n P S l)), one 72 [.agg [.slc f n c, .slc g l.length (l.flatMap plC)]] (ledR n P S l), one 73 [.agg [.slc f n c, .slc g l.length (l.flatMap plC)]] (.int .i64 (fldErr n P S l)),
        ⟨74, {_u : Unit // fldErr n P S l = 0}, fun _ => [.agg [.slc f n c, .slc l.isEmpty l.length (l.flatMap plC)]], fun _ => .tup [slI (ldOut n S l), slI (ldPl n S l)]⟩,
        one 75 [.slc g2 ll.length (rows ll)] (poR ll), one 76 [.slc g2 ll.length (rows ll)] (.int .i64 (poErr ll)), ⟨77, {_u : Unit // poErr ll = 0}, fun _ => [.slc g2 ll.length (rows ll)], fun _ => .tup [slI (poV ll).1, .int .i64 ((poV ll).2 : Int)]⟩]
      ⟨one_good h37 rfl, one_good awake_ok rfl, one_good h70 rfl, one_good h46 rfl, fam20_good, one_good (ok71 hc l (by omega) b3) rfl, one_good (ok72 hc l ⟨b1, b2⟩ b3) rfl, one_good (ok73 hc l (by omega) b3) rfl,
        ⟨fun u => by
          obtain ⟨v1, v2⟩ := fld_zero u.2
          exact ok74 hc l (by omega) v2, fun _ _ _ => rfl, fun _ => rfl⟩, one_good (ok75 (by omega) s3) rfl, one_good (ok76 s3) rfl, ⟨fun u => ok77 (po_zero u.2), fun _ _ _ => rfl, fun _ => rfl⟩, trivial⟩ rfl
    have e20 : ∀ q : List Int, q.length ≤ 1000 → callOf B 20 [slI q, slI q] = some (.bool true) := fun q hq => t20 (some ⟨q, by omega⟩)
    have e20n : callOf B 20 [.slc true 0 [], .nils] = some (.bool true) := t20 none
    exact key B hb (t37 ()) (t16 ()) (t70 ()) (t46 ()) fun _ _ _ =>
      mid14 (e := fldErr n P S l) rfl e20 e20n (t71 ()) (t72 ()) (t73 ()) (fun h => t74 ⟨(), h⟩) (by omega) (end14 (t16 ()) e20 e20n (t75 ()) (t76 ()) (fun h => t77 ⟨(), h⟩) (by omega))
  · obtain ⟨B, hb, t37, t16, t70, t46, _⟩ := exF [one 37 [.slc g l.length (l.flatMap plC)] (slR plC l), one 16 [] (.bool true), one 70 [.slc l.isEmpty l.length (l.flatMap plC), .int .i64 8] (.bool (fewPs l)), one 46 [.slc g2 ll.length (rows ll)] (.bool (shortV ll))]
      ⟨one_good h37 rfl, one_good awake_ok rfl, one_good h70 rfl, one_good h46 rfl, trivial⟩ rfl
    exact key B hb (t37 ()) (t16 ()) (t70 ()) (t46 ()) fun _ h2 h3 => absurd ⟨h2, h3⟩ hall
end
end Go.Pd
end

section
namespace Go.Pd
open Go.RowKit Go.ChangeShapes Go.WideShapes

/-- The second slice of a struct of two is no longer than the reach. -/
theorem len_bound {I : Nat → Prop} {w : World} {P : Program} {H : Type} {enc : TypeId × Value → H} {base : Nat} {spare : Nat → Bool} {held : Bool} {t e : TypeId} {fs : Array Field} {f1 f2 : Field} {v : Value} {dd : DataW H} {ps : List MemPlace}
    (hu : P.underlying t = some (.struct fs)) (hf : fs.toList = [f1, f2]) (hu2 : P.underlying f2.type = some (.slice e)) (ho : f2.offset = 1) (hc : P.cellsOf f2.type = 1)
    (h : DataW.Trod enc P w base spare held t v dd ps) (hw : ∀ k ∈ dd.weights P t, k ≤ reachBytes) {d1 : D} {g : Bool} {m : Nat} {c : List D} (hr : RelC I w (.agg [d1, .slc g m c]) v) : m * P.bytesOf e ≤ reachBytes := by
  obtain ⟨fuel, hm⟩ := h
  obtain ⟨xs, n', _, hx, _, hxl, hget⟩ := DataW.trod_struct hu hm
  have hf2 : fs[1]? = some f2 := by
    have : fs.toList[1]? = some f2 := by rw [hf]; rfl
    simpa using this
  have hfs : fs.size = 2 := by
    have := congrArg List.length hf
    simpa using this
  have h1 := hget 1 f2 hf2
  cases hr with
  | agg _ vs hl hrr =>
    simp only [List.length_cons, List.length_nil] at hl
    have hv1 : (((Value.agg vs).cells).toList.drop f2.offset).take (P.cellsOf f2.type) = [vs[1]] := by
      rw [ho, hc]
      obtain ⟨l⟩ := vs
      match l, hl with
      | [a, b], _ => rfl
    rw [hv1, List.getElem?_eq_getElem (by omega)] at h1
    have hrel : RelC I w (.slc g m c) vs[1] := hrr 1 _ _ rfl (by rw [Array.getElem?_eq_getElem (by omega)])
    rcases Deep.open_slice hu2 h1 with ⟨hcs, _⟩ | ⟨a, len, cap, m', n, Dd, Pl, hcs, _, _, _, _, hxx, _⟩
    · simp only [List.cons.injEq, and_true] at hcs
      rw [hcs] at hrel
      cases hrel
      rw [Nat.zero_mul]
      exact Nat.zero_le _
    · simp only [List.cons.injEq, and_true] at hcs
      rw [hcs] at hrel
      cases hrel
      have hdd : dd = .agg (xs.map (·.1)) := (Prod.mk.inj hx).1
      have hmem : ((((List.range m).map Dd).length + ((List.range (m' - m)).map fun j => Dd (m + j)).length) * P.bytesOf e) ∈ dd.weights P t := by
        rw [hdd]
        simp only [DataW.weights, hu]
        refine DataW.weights_mem_each (j := 1) (t := f2.type) (d := .slice ((List.range m).map Dd) ((List.range (m' - m)).map fun j => Dd (m + j))) (by rw [hf]; rfl) ?_ _ (by simp [DataW.weights, hu2])
        rw [List.getElem?_map, List.getElem?_eq_getElem (by omega)]
        show some (xs[1]).1 = _
        rw [hxx]
      have := hw _ hmem
      rw [List.length_map, List.length_map, List.length_range, List.length_range] at this
      exact Nat.le_trans (Nat.mul_le_mul_right _ (Nat.le_add_right _ _)) this
/-- ████ A law that is true of all typed arguments that read as these do is true. ████ -/
theorem law_callW {P : Program} {gl : Nat → Option D} (hgl : ∀ g, gl g = none) (hl : laidOutB P = true) {f : FuncId} {fn : Func} {tb : TypeId} (hbool : P.underlying tb = some .bool) (hres : fn.resultTypes = #[tb])
    (hc : ∀ t ∈ fn.params.toList, carryB P t = true) {H : Type} (enc : TypeId × Value → H) {s : ChangeSpec} (hvars : s.vars = []) (hfn : ∀ ds : List (DataW H), ds.length = fn.params.toList.length → s.fn H (ds ++ []) = { results := [.lit (.bool true)], args := ds })
    (W : World) (args : Array Value) (ds gs : List (DataW H)) (before : List MemPlace) (hval : ∀ (j : Nat) t v, fn.params[j]? = some t → args[j]? = some v → Value.okWide P W .any 0 t v)
    (hW : DataW.Whole enc P fn.params.toList s.vars false W args.toList ds gs before)
    (hplain : ∀ cs, AllTy P 12 fn.params.toList cs → (∃ p, DataW.TrodAll enc P W 0 (fun _ => true) true fn.params.toList args.toList ds p) → (∀ (j : Nat) (d : D) (v : Value), (argsOf P fn.params.toList cs)[j]? = some d → args.toList[j]? = some v → RelC (fun b => b < W.heap.size) W d v) →
      CallOK P gl f (argsOf P fn.params.toList cs) (.bool true)) :
    Calls P f args W fun e W' => ∃ v, e = .returned v ∧ s.post enc P fn false true false false W args v W' := by
  have hW0 := hW
  obtain ⟨p, q, hA, hV, rfl, hfz, hnd⟩ := hW
  rw [hvars] at hV
  have hq : gs = [] ∧ q = [] := by
    cases gs with
    | nil => exact ⟨rfl, hV⟩
    | cons => exact hV.elim
  obtain ⟨rfl, rfl⟩ := hq
  have hf12 : ∀ t ∈ fn.params.toList, flatB P 12 t = true := fun t ht => by
    have := hc t ht
    simp only [carryB, Bool.and_eq_true] at this
    exact this.2
  obtain ⟨cs, c1, c2, c3⟩ := args_ty (I := fun b => b < W.heap.size) (w := W) (fun b hb => hb) _ _ _ _ hf12 (fun j t v ht hv => hval j t v (by simpa using ht) (by simpa using hv)) hA
  have hlen : ds.length = fn.params.toList.length := by
    clear hW0 hplain c1 c2 c3 hval hfz hnd
    have key : ∀ (ts : List TypeId) (vs : List Value) (ds : List (DataW H)) (ps : List MemPlace), DataW.TrodAll enc P W 0 (fun _ => true) true ts vs ds ps → ds.length = ts.length := by
      intro ts
      induction ts with
      | nil => intro vs ds ps h; obtain ⟨_, rfl, _⟩ := trodAll_nil h; rfl
      | cons t ts ih =>
        intro vs ds ps h
        obtain ⟨v, vs1, d, ds1, a, b, rfl, rfl, rfl, h1, h2⟩ := trodAll_cons h
        simp [ih _ _ _ h2]
    exact key _ _ _ _ hA
  have hcall := hplain cs c1 ⟨p, hA⟩ c3
  have hF := hcall.2 (fun b => b < W.heap.size) W args (fun b hb => hb) (fun g d hg => by rw [hgl] at hg; cases hg) (by simpa using c2) (fun j d v hd hv => c3 j d v hd (by simpa using hv))
  refine hF.mono fun e W' ⟨v, he, hr, hb⟩ => ?_
  have hvt : v = .bool true := (RelV.clo (A := fun _ _ => none) (G := fun _ => 0) hr).bool_inv
  subst hvt
  have hold : ∀ x ∈ p ++ [], x.block < W.heap.size := fun x hx => by simpa using hW0.lt x hx
  have hs := hfn ds hlen
  refine ⟨_, he, ds, [], p ++ [], [], p, [], hW0, ?_, ?_, ?_, hb.frame _, fun h => by cases h⟩
  · rw [hs, hres]
    exact trodAll_cons_mk (shut_bool hbool _) trodAll_mk0
  · rw [hs]
    exact trodAll_carry hl hb _ _ _ _ hc hA fun x hx => hold x (by simpa using hx)
  · rw [hs, hvars]
    rfl
end Go.Pd
end
