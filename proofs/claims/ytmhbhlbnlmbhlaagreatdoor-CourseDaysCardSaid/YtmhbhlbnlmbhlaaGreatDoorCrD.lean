/-
  Chapter 2: places and their turns: what the program's and the reference's functions say of them.
  Chapter 2: checks of places; the sides of a polygon; the program's polygons.
  Chapter 2: simple polygons, by the program; its checks.
  Chapter 2: polygons, by the reference.
  Chapter 2: polygons: the program and the reference say the same.
-/
import Derived.Test.YtmhbhlbnlmbhlaaGreatDoorCrB
section
namespace Go.Pd
open Go Go.Proofs Go.RowKit
set_option maxRecDepth 100000

abbrev w64 (x : Int) : Int := IntKind.wrap .i64 x
def ptC (p : Pt) : List D := [.int .i64 p.1, .int .i64 p.2]
abbrev ptD (p : Pt) : D := .agg [.int .i64 p.1, .int .i64 p.2]
abbrev sdD (s : Pt × Pt) : D := .agg [.int .i64 s.1.1, .int .i64 s.1.2, .int .i64 s.2.1, .int .i64 s.2.2]
theorem ptD_inj {a b : Pt} (h : ptD a = ptD b) : a = b := by
  simp only [ptD, D.agg.injEq, List.cons.injEq, D.int.injEq, true_and, and_true] at h
  exact Prod.ext h.1 h.2
theorem sdD_inj {a b : Pt × Pt} (h : sdD a = sdD b) : a = b := by
  simp only [sdD, D.agg.injEq, List.cons.injEq, D.int.injEq, true_and, and_true] at h
  exact Prod.ext (Prod.ext h.1 h.2.1) (Prod.ext h.2.2.1 h.2.2.2)
def mnsW (a b : Pt) : Pt := (w64 (a.1 - b.1), w64 (a.2 - b.2))
def crsW (a b : Pt) : Int := w64 (w64 (a.1 * b.2) - w64 (a.2 * b.1))
def dtW (a b : Pt) : Int := w64 (w64 (a.1 * b.1) + w64 (a.2 * b.2))
def trnW (a b c : Pt) : Int := sg (crsW (mnsW b a) (mnsW c a))
def hasW (a b p : Pt) : Bool := ifK (trnW a b p == 0) (decide (dtW (mnsW a p) (mnsW b p) ≤ 0)) false
def onW (a b p : Pt) : Bool := ifK (trnW a b p == 0) (ifK (decide ((if b.1 < a.1 then b.1 else a.1) ≤ p.1)) (ifK (decide (p.1 ≤ if b.1 > a.1 then b.1 else a.1)) (ifK (decide ((if b.2 < a.2 then b.2 else a.2) ≤ p.2)) (decide (p.2 ≤ if b.2 > a.2 then b.2 else a.2)) false) false) false) false
def signs (a b c d : Pt) : Bool := ifK (decide (w64 (trnW a b c * trnW a b d) < 0)) (decide (w64 (trnW c d a * trnW c d b) < 0)) false
def meetW (a b c d : Pt) : Bool := ifK (hasW a b c) true (ifK (hasW a b d) true (ifK (hasW c d a) true (ifK (hasW c d b) true (signs a b c d))))
theorem ok140 (a b : Pt) : OK2 140 [ptD a, ptD b] (ptD (mnsW a b)) := fnT none_ok Tryz.func140 (ord := O0) (N := N0) (by kernel_rfl) (F140_eq _ _ _ a.1 a.2 b.1 b.2)
theorem ok110 (a b : Pt) : OK2 110 [ptD a, ptD b] (.int .i64 (crsW a b)) := fnT none_ok Tryz.func110 (ord := O0) (N := N0) (by kernel_rfl) (F110_eq _ _ _ a.1 a.2 b.1 b.2)
theorem ok139 (a b : Pt) : OK2 139 [ptD a, ptD b] (.int .i64 (dtW a b)) := fnT none_ok Tryz.func139 (ord := O0) (N := N0) (by kernel_rfl) (F139_eq _ _ _ a.1 a.2 b.1 b.2)
def famPP (k : FuncId) (r : Pt → Pt → D) : Fam := ⟨k, Pt × Pt, fun x => [ptD x.1, ptD x.2], fun x => r x.1 x.2⟩
theorem famPP_good {k : FuncId} {r : Pt → Pt → D} (h : ∀ a b, OK2 k [ptD a, ptD b] (r a b)) (hc : ∀ a b, cstG k [ptD a, ptD b] = none) : (famPP k r).Good :=
  ⟨fun x => h x.1 x.2, fun x y e => by
    simp only [famPP, List.cons.injEq, and_true] at e
    show r x.1 x.2 = r y.1 y.2
    rw [ptD_inj e.1, ptD_inj e.2], fun x => hc x.1 x.2⟩
def famI (k : FuncId) (r : Int → D) : Fam := ⟨k, Int, fun x => [.int .i64 x], fun x => r x⟩
theorem famI_good {k : FuncId} {r : Int → D} (h : ∀ x, OK2 k [.int .i64 x] (r x)) (hc : ∀ x, cstG k [.int .i64 x] = none) : (famI k r).Good :=
  ⟨h, fun (x y : Int) e => by
    have e : [D.int .i64 x] = [D.int .i64 y] := e
    cases e
    rfl, hc⟩
def famPPP (k : FuncId) (r : Pt → Pt → Pt → D) : Fam := ⟨k, Pt × Pt × Pt, fun x => [ptD x.1, ptD x.2.1, ptD x.2.2], fun x => r x.1 x.2.1 x.2.2⟩
theorem famPPP_good {k : FuncId} {r : Pt → Pt → Pt → D} (h : ∀ a b c, OK2 k [ptD a, ptD b, ptD c] (r a b c)) (hc : ∀ a b c, cstG k [ptD a, ptD b, ptD c] = none) : (famPPP k r).Good :=
  ⟨fun x => h x.1 x.2.1 x.2.2, fun x y e => by
    simp only [famPPP, List.cons.injEq, and_true] at e
    show r x.1 x.2.1 x.2.2 = r y.1 y.2.1 y.2.2
    rw [ptD_inj e.1, ptD_inj e.2.1, ptD_inj e.2.2], fun x => hc x.1 x.2.1 x.2.2⟩
def famSP (k : FuncId) (r : Pt × Pt → Pt → D) : Fam := ⟨k, (Pt × Pt) × Pt, fun x => [sdD x.1, ptD x.2], fun x => r x.1 x.2⟩
theorem famSP_good {k : FuncId} {r : Pt × Pt → Pt → D} (h : ∀ a b, OK2 k [sdD a, ptD b] (r a b)) (hc : ∀ a b, cstG k [sdD a, ptD b] = none) : (famSP k r).Good :=
  ⟨fun x => h x.1 x.2, fun x y e => by
    simp only [famSP, List.cons.injEq, and_true] at e
    show r x.1 x.2 = r y.1 y.2
    rw [sdD_inj e.1, ptD_inj e.2], fun x => hc x.1 x.2⟩
def famSS (k : FuncId) (r : Pt × Pt → Pt × Pt → D) : Fam := ⟨k, (Pt × Pt) × (Pt × Pt), fun x => [sdD x.1, sdD x.2], fun x => r x.1 x.2⟩
theorem famSS_good {k : FuncId} {r : Pt × Pt → Pt × Pt → D} (h : ∀ a b, OK2 k [sdD a, sdD b] (r a b)) (hc : ∀ a b, cstG k [sdD a, sdD b] = none) : (famSS k r).Good :=
  ⟨fun x => h x.1 x.2, fun x y e => by
    simp only [famSS, List.cons.injEq, and_true] at e
    show r x.1 x.2 = r y.1 y.2
    rw [sdD_inj e.1, sdD_inj e.2], fun x => hc x.1 x.2⟩
def famBE (k : FuncId) : Fam := ⟨k, Bool × Int, fun x => [.bool x.1, .int .i64 x.2], fun x => .int .i64 (ifK x.1 x.2 0)⟩
theorem famBE_good {k : FuncId} (h : ∀ b e, OK2 k [.bool b, .int .i64 e] (.int .i64 (ifK b e 0))) (hc : ∀ b e, cstG k [.bool b, .int .i64 e] = none) : (famBE k).Good :=
  ⟨fun x => h x.1 x.2, fun x y e => by
    simp only [famBE, List.cons.injEq, D.bool.injEq, D.int.injEq, true_and, and_true] at e
    show D.int .i64 (ifK x.1 x.2 0) = .int .i64 (ifK y.1 y.2 0)
    rw [e.1, e.2], fun x => hc x.1 x.2⟩
theorem ok175 (n : Int) : OK2 175 [.int .i64 n] (.int .i64 (sg n)) := by
  refine fnT none_ok Tryz.func175 (ord := O0) (N := N0) (by kernel_rfl) ?_
  have h : ∀ n : Int, ifK (decide (n < 0)) (some (D.int .i64 (-1))) (ifK (decide (n > 0)) (some (D.int .i64 1)) (some (D.int .i64 0))) = some (.int .i64 (sg n)) := fun n => by
    unfold sg
    by_cases h1 : n < 0
    · rw [decide_eq_true h1, if_pos h1]; rfl
    · rw [decide_eq_false h1, if_neg h1]
      by_cases h2 : n > 0
      · rw [decide_eq_true h2, if_pos h2]; rfl
      · rw [decide_eq_false h2, if_neg h2]; rfl
  exact (F175_eq _ _ _ n).trans (h n)
theorem ok108 (a b c : Pt) : OK2 108 [ptD a, ptD b, ptD c] (.int .i64 (trnW a b c)) := by
  obtain ⟨B, hb, h140, h110, h175, _⟩ := exF [famPP 140 fun a b => ptD (mnsW a b), famPP 110 fun a b => .int .i64 (crsW a b), famI 175 fun x => .int .i64 (sg x)]
    ⟨famPP_good ok140 (fun _ _ => rfl), famPP_good ok110 (fun _ _ => rfl), famI_good ok175 (fun _ => rfl), trivial⟩ rfl
  refine fnT hb Tryz.func108 (ord := O0) (N := N0) (by kernel_rfl) ((F108_eq _ _ _ a.1 a.2 b.1 b.2 c.1 c.2).trans ?_)
  have e1 : callOf B 140 [ptD b, ptD a] = _ := h140 (b, a)
  have e2 : callOf B 140 [ptD c, ptD a] = _ := h140 (c, a)
  have e3 : callOf B 110 [ptD (mnsW b a), ptD (mnsW c a)] = _ := h110 (mnsW b a, mnsW c a)
  have e4 : callOf B 175 [.int .i64 (crsW (mnsW b a) (mnsW c a))] = _ := h175 _
  rw [e1]
  show optK (callOf B 140 [ptD c, ptD a]) _ = _
  rw [e2]
  show optK (callOf B 110 [ptD (mnsW b a), ptD (mnsW c a)]) _ = _
  rw [e3]
  show optK (callOf B 175 [.int .i64 (crsW (mnsW b a) (mnsW c a))]) _ = _
  rw [e4]
  rfl
theorem ok138 (s : Pt × Pt) (p : Pt) : OK2 138 [sdD s, ptD p] (.bool (hasW s.1 s.2 p)) := by
  obtain ⟨B, hb, h108, h140, h139, _⟩ := exF [famPPP 108 fun a b c => .int .i64 (trnW a b c), famPP 140 fun a b => ptD (mnsW a b), famPP 139 fun a b => .int .i64 (dtW a b)]
    ⟨famPPP_good ok108 (fun _ _ _ => rfl), famPP_good ok140 (fun _ _ => rfl), famPP_good ok139 (fun _ _ => rfl), trivial⟩ rfl
  refine fnT hb Tryz.func138 (ord := O0) (N := N0) (by kernel_rfl) ((F138_eq _ _ _ s.1.1 s.1.2 s.2.1 s.2.2 p.1 p.2).trans ?_)
  have e1 : callOf B 108 [ptD s.1, ptD s.2, ptD p] = _ := h108 (s.1, s.2, p)
  have e2 : callOf B 140 [ptD s.1, ptD p] = _ := h140 (s.1, p)
  have e3 : callOf B 140 [ptD s.2, ptD p] = _ := h140 (s.2, p)
  have e4 : callOf B 139 [ptD (mnsW s.1 p), ptD (mnsW s.2 p)] = _ := h139 (mnsW s.1 p, mnsW s.2 p)
  rw [e1]
  show ifK (trnW s.1 s.2 p == 0) (optK (callOf B 140 [ptD s.1, ptD p]) _) _ = _
  rw [e2]
  show ifK (trnW s.1 s.2 p == 0) (optK (callOf B 140 [ptD s.2, ptD p]) _) _ = _
  rw [e3]
  show ifK (trnW s.1 s.2 p == 0) (optK (callOf B 139 [ptD (mnsW s.1 p), ptD (mnsW s.2 p)]) _) _ = _
  rw [e4]
  unfold hasW
  cases trnW s.1 s.2 p == 0 <;> rfl
theorem ok174 (s t : Pt × Pt) : OK2 174 [sdD s, sdD t] (.bool (meetW s.1 s.2 t.1 t.2)) := by
  obtain ⟨B, hb, h108, h138, _⟩ := exF [famPPP 108 fun a b c => .int .i64 (trnW a b c), famSP 138 fun s p => .bool (hasW s.1 s.2 p)]
    ⟨famPPP_good ok108 (fun _ _ _ => rfl), famSP_good ok138 (fun _ _ => rfl), trivial⟩ rfl
  refine fnT hb Tryz.func174 (ord := O0) (N := N174) (by kernel_rfl) ((F174_eq _ _ _ s.1.1 s.1.2 s.2.1 s.2.2 t.1.1 t.1.2 t.2.1 t.2.2).trans ?_)
  have e1 : callOf B 138 [sdD s, ptD t.1] = _ := h138 (s, t.1)
  have e2 : callOf B 138 [sdD s, ptD t.2] = _ := h138 (s, t.2)
  have e3 : callOf B 138 [sdD t, ptD s.1] = _ := h138 (t, s.1)
  have e4 : callOf B 138 [sdD t, ptD s.2] = _ := h138 (t, s.2)
  have f1 : callOf B 108 [ptD s.1, ptD s.2, ptD t.1] = _ := h108 (s.1, s.2, t.1)
  have f2 : callOf B 108 [ptD s.1, ptD s.2, ptD t.2] = _ := h108 (s.1, s.2, t.2)
  have f3 : callOf B 108 [ptD t.1, ptD t.2, ptD s.1] = _ := h108 (t.1, t.2, s.1)
  have f4 : callOf B 108 [ptD t.1, ptD t.2, ptD s.2] = _ := h108 (t.1, t.2, s.2)
  have tail : F174_7 (callOf B) LL C1 s.1.1 s.1.2 s.2.1 s.2.2 t.1.1 t.1.2 t.2.1 t.2.2 = some (.bool (signs s.1 s.2 t.1 t.2)) := by
    rw [F174_7_eq _ _ _ _ _ _ _ _ _ _ _ c1, f1]
    show optK (callOf B 108 [ptD s.1, ptD s.2, ptD t.2]) _ = _
    rw [f2]
    show ifK (decide (w64 (trnW s.1 s.2 t.1 * trnW s.1 s.2 t.2) < 0)) (optK (callOf B 108 [ptD t.1, ptD t.2, ptD s.1]) _) _ = _
    rw [f3]
    show ifK (decide (w64 (trnW s.1 s.2 t.1 * trnW s.1 s.2 t.2) < 0)) (optK (callOf B 108 [ptD t.1, ptD t.2, ptD s.2]) _) _ = _
    rw [f4]
    unfold signs
    cases decide (w64 (trnW s.1 s.2 t.1 * trnW s.1 s.2 t.2) < 0) <;> rfl
  rw [e1]
  show ifK (hasW s.1 s.2 t.1) (some (D.bool true)) (optK (callOf B 138 [sdD s, ptD t.2]) _) = _
  rw [e2]
  show ifK (hasW s.1 s.2 t.1) (some (D.bool true)) (ifK (hasW s.1 s.2 t.2) (some (D.bool true)) (optK (callOf B 138 [sdD t, ptD s.1]) _)) = _
  rw [e3]
  show ifK (hasW s.1 s.2 t.1) (some (D.bool true)) (ifK (hasW s.1 s.2 t.2) (some (D.bool true)) (ifK (hasW t.1 t.2 s.1) (some (D.bool true)) (optK (callOf B 138 [sdD t, ptD s.2]) _))) = _
  rw [e4]
  show ifK (hasW s.1 s.2 t.1) (some (D.bool true)) (ifK (hasW s.1 s.2 t.2) (some (D.bool true)) (ifK (hasW t.1 t.2 s.1) (some (D.bool true)) (ifK (hasW t.1 t.2 s.2) (some (D.bool true)) (F174_7 (callOf B) LL C1 s.1.1 s.1.2 s.2.1 s.2.2 t.1.1 t.1.2 t.2.1 t.2.2)))) = _
  rw [tail]
  unfold meetW
  cases hasW s.1 s.2 t.1 <;> cases hasW s.1 s.2 t.2 <;> cases hasW t.1 t.2 s.1 <;> cases hasW t.1 t.2 s.2 <;> rfl
end Go.Pd
end

section
namespace Go.Pd
open Go Go.Proofs Go.RowKit
set_option maxRecDepth 100000

theorem ok84 (b : Bool) (e : Int) : OK2 84 [.bool b, .int .i64 e] (.int .i64 (ifK b e 0)) := fnT none_ok Tryz.func84 (ord := O0) (N := N0) (by kernel_rfl) ((F84_eq _ _ _ b e).trans (by cases b <;> rfl))
def firstZ : List Int → Int
  | [] => 0
  | x :: r => ifK (x != 0) x (firstZ r)
theorem go76 {call : FuncId → List D → Option D} {f : Bool} {n : Nat} : ∀ (r pre : List Int) (fuel : Nat), (pre ++ r).length = n → n ≤ 1000 → r.length < fuel → F76_26 call LL C1 fuel f n (ints (pre ++ r)) n (pre.length : Int) = some (.int .i64 (firstZ r)) := by
  intro r
  induction r with
  | nil =>
    intro pre fuel hn hB hf
    cases fuel with
    | zero => exact absurd hf (Nat.not_lt_zero _)
    | succ fuel =>
      subst hn
      rw [F76_26_eq, end_pre, ifK_false]
      rfl
  | cons x r ih =>
    intro pre fuel hn hB hf
    cases fuel with
    | zero => exact absurd hf (Nat.not_lt_zero _)
    | succ fuel =>
      have ih := ih (pre ++ [x]) fuel (by rw [app1]; exact hn) hB (by simp at hf; omega)
      rw [app1] at ih
      subst hn
      rw [F76_26_eq, lt_pre, ifK_true, in_pre, chkK_true, cell_ints, intK_int, step_pre pre x r (by omega), ih]
      rw [show firstZ (x :: r) = ifK (x != 0) x (firstZ r) from rfl]
      cases x != 0 <;> rfl
theorem ok76 {f : Bool} (l : List Int) (hl : l.length ≤ 1000) : OK2 76 [.slc f l.length (ints l)] (.int .i64 (firstZ l)) :=
  fnT none_ok Tryz.func76 (ord := O0) (N := N76) (by kernel_rfl) ((F76_eq _ _ _ _ _ _).trans (go76 (f := f) l [] LL rfl hl (by unfold LL; omega)))
theorem ints_inj : ∀ {a b : List Int}, ints a = ints b → a = b
  | [], [], _ => rfl
  | [], y :: b, h => by cases h
  | x :: a, [], h => by cases h
  | x :: a, y :: b, h => by
    have h : D.int .i64 x :: ints a = D.int .i64 y :: ints b := h
    simp only [List.cons.injEq, D.int.injEq, true_and] at h
    rw [h.1, ints_inj h.2]
def famFi (k : FuncId) : Fam := ⟨k, {l : List Int // l.length ≤ 1000}, fun l => [.slc true l.1.length (ints l.1)], fun l => .int .i64 (firstZ l.1)⟩
theorem famFi_good {k : FuncId} (h : ∀ l : List Int, l.length ≤ 1000 → OK2 k [.slc true l.length (ints l)] (.int .i64 (firstZ l))) (hc : ∀ n c, cstG k [.slc true n c] = none) : (famFi k).Good :=
  ⟨fun l => h l.1 l.2, fun x y e => by
    have e : [D.slc true x.1.length (ints x.1)] = [D.slc true y.1.length (ints y.1)] := e
    simp only [List.cons.injEq, D.slc.injEq, true_and, and_true] at e
    show D.int .i64 (firstZ x.1) = .int .i64 (firstZ y.1)
    rw [ints_inj e.2], fun _ => hc _ _⟩

/-! ### Places out of range -/
def outN (n : Int) : Bool := ifK (decide (n < -1000000)) true (decide (n > 1000000))
def outP (p : Pt) : Bool := ifK (outN p.1) true (outN p.2)
def outLM (x : Int × Int × Int) : Bool := ifK (decide (x.1 < x.2.1)) true (decide (x.1 > x.2.2))
theorem ok100 (n a b : Int) : OK2 100 [.int .i64 n, .int .i64 a, .int .i64 b] (.bool (outLM (n, a, b))) :=
  fnT none_ok Tryz.func100 (ord := O0) (N := N0) (by kernel_rfl) ((F100_eq _ _ _ n a b).trans (by unfold outLM; cases decide (n < a) <;> rfl))
def fam100 : Fam := ⟨100, Int × Int × Int, fun x => [.int .i64 x.1, .int .i64 x.2.1, .int .i64 x.2.2], fun x => .bool (outLM x)⟩
theorem fam100_good : fam100.Good := ⟨fun x => ok100 x.1 x.2.1 x.2.2, fun x y e => by
  have e : [D.int .i64 x.1, .int .i64 x.2.1, .int .i64 x.2.2] = [D.int .i64 y.1, .int .i64 y.2.1, .int .i64 y.2.2] := e
  simp only [List.cons.injEq, D.int.injEq, true_and, and_true] at e
  show D.bool (outLM x) = .bool (outLM y)
  rw [show x = y from Prod.ext e.1 (Prod.ext e.2.1 e.2.2)], fun _ => rfl⟩
theorem ok137 (p : Pt) : OK2 137 [ptD p] (.bool (outP p)) := by
  obtain ⟨B, hb, h100, _⟩ := exF [fam100] ⟨fam100_good, trivial⟩ rfl
  refine fnT hb Tryz.func137 (ord := O0) (N := N0) (by kernel_rfl) ((F137_eq _ _ _ p.1 p.2).trans ?_)
  have e1 : callOf B 100 [.int .i64 p.1, .int .i64 (-1000000), .int .i64 1000000] = _ := h100 (p.1, -1000000, 1000000)
  have e2 : callOf B 100 [.int .i64 p.2, .int .i64 (-1000000), .int .i64 1000000] = _ := h100 (p.2, -1000000, 1000000)
  rw [e1, e2]
  show ifK (outN p.1) _ (some (D.bool (outN p.2))) = _
  unfold outP
  cases outN p.1 <;> rfl
def famP (k : FuncId) (r : Pt → D) : Fam := ⟨k, Pt, fun x => [ptD x], fun x => r x⟩
theorem famP_good {k : FuncId} {r : Pt → D} (h : ∀ a, OK2 k [ptD a] (r a)) (hc : ∀ a, cstG k [ptD a] = none) : (famP k r).Good :=
  ⟨fun x => h x, fun x y e => by
    have e : [ptD x] = [ptD y] := e
    simp only [List.cons.injEq, and_true] at e
    show r x = r y
    rw [ptD_inj e], fun x => hc x⟩
def idxP : List Pt → Nat → Int
  | [], _ => -1
  | p :: r, i => ifK (outP p) i (idxP r (i + 1))
def ptsC (l : List Pt) : List D := l.flatMap ptC
theorem ptsC_app (a b : List Pt) : ptsC (a ++ b) = ptsC a ++ ptsC b := by simp [ptsC]
section
variable {γ : Type} (pre : List Pt) (x : Pt) (r : List Pt) {k : D → Option γ}
theorem q0 : cellK (ptsC (pre ++ x :: r)) (Int.toNat (pre.length : Int) * 2 + 0) k = k (.int .i64 x.1) := cell_row pre x r ptC 2 (fun _ => rfl) 0 (by omega) k
theorem q1 : cellK (ptsC (pre ++ x :: r)) (Int.toNat (pre.length : Int) * 2 + 1) k = k (.int .i64 x.2) := cell_row pre x r ptC 2 (fun _ => rfl) 1 (by omega) k
end
theorem go191 {call : FuncId → List D → Option D} (h137 : ∀ p : Pt, call 137 [ptD p] = some (.bool (outP p))) {f : Bool} {n : Nat} : ∀ (r pre : List Pt) (fuel : Nat), (pre ++ r).length = n → n ≤ 1000 → r.length < fuel → F191_26 call LL C1 fuel f n (ptsC (pre ++ r)) n (pre.length : Int) = some (.int .i64 (idxP r pre.length)) := by
  intro r
  induction r with
  | nil =>
    intro pre fuel hn hB hf
    cases fuel with
    | zero => exact absurd hf (Nat.not_lt_zero _)
    | succ fuel =>
      subst hn
      rw [F191_26_eq, end_pre, ifK_false]
      rfl
  | cons x r ih =>
    intro pre fuel hn hB hf
    cases fuel with
    | zero => exact absurd hf (Nat.not_lt_zero _)
    | succ fuel =>
      have ih := ih (pre ++ [x]) fuel (by rw [app1]; exact hn) hB (by simp at hf; omega)
      rw [app1, List.length_append, List.length_singleton] at ih
      subst hn
      have e : call 137 [D.agg [.int .i64 x.1, .int .i64 x.2]] = _ := h137 x
      have hs := step_pre pre x r (by omega)
      rw [List.length_append, List.length_singleton] at hs
      rw [F191_26_eq, lt_pre, ifK_true, in_pre, chkK_true, q0, intK_int, q1, intK_int, e, optK_some, boolK_bool, hs, ih]
      rw [show idxP (x :: r) pre.length = ifK (outP x) (pre.length : Int) (idxP r (pre.length + 1)) from rfl]
      cases outP x <;> rfl
theorem idxP_ge : ∀ (l : List Pt) (i : Nat), decide (idxP l i ≥ 0) = l.any outP
  | [], _ => rfl
  | p :: r, i => by
    have := idxP_ge r (i + 1)
    rw [show idxP (p :: r) i = ifK (outP p) (i : Int) (idxP r (i + 1)) from rfl, List.any_cons]
    cases outP p
    · rw [ifK_false, Bool.false_or, this]
    · rw [ifK_true, Bool.true_or, decide_eq_true (by omega)]
theorem ok191 {f : Bool} (l : List Pt) (hl : l.length ≤ 1000) : OK2 191 [.slc f l.length (ptsC l), .fn (.func 137) [] []] (.int .i64 (idxP l 0)) := by
  obtain ⟨B, hb, h137, _⟩ := exF [famP 137 fun x => D.bool (outP x)] ⟨famP_good ok137 (fun _ => rfl), trivial⟩ rfl
  exact fnT hb Tryz.func191 (ord := O0) (N := N191) (by kernel_rfl) ((F191_eq _ _ _ _ _ _).trans (go191 (fun p => h137 p) (f := f) l [] LL rfl hl (by unfold LL; omega)))
theorem one_call {k : FuncId} {ds : List D} {r : D} (h : OK2 k ds r) (hc : cstG k ds = none) : ∃ B, CallsT B ∧ callOf B k ds = some r := by
  obtain ⟨B, hb, h1, _⟩ := exF [one k ds r] ⟨one_good h hc, trivial⟩ rfl
  exact ⟨B, hb, h1 ()⟩
theorem ok136 {f : Bool} (l : List Pt) (hl : l.length ≤ 1000) : OK2 136 [.slc f l.length (ptsC l), .fn (.func 137) [] []] (.bool (l.any outP)) := by
  obtain ⟨B, hb, e⟩ := one_call (ok191 (f := f) l hl) rfl
  refine fnT hb Tryz.func136 (ord := O0) (N := N0) (by kernel_rfl) ((F136_eq _ _ _ _ _ _).trans ?_)
  rw [e]
  show some (D.bool (decide (idxP l 0 ≥ 0))) = _
  rw [idxP_ge]
theorem ok77 {f : Bool} (l : List Pt) (hl : l.length ≤ 1000) : OK2 77 [.slc f l.length (ptsC l)] (.int .i64 (ifK (l.any outP) 3 0)) := by
  obtain ⟨B, hb, h136, h84, _⟩ := exF [one 136 [.slc f l.length (ptsC l), .fn (.func 137) [] []] (.bool (l.any outP)), famBE 84] ⟨one_good (ok136 l hl) rfl, famBE_good ok84 (fun _ _ => rfl), trivial⟩ rfl
  refine fnT hb Tryz.func77 (ord := O0) (N := N0) (by kernel_rfl) ((F77_eq _ _ _ _ _ _).trans ?_)
  have e1 : callOf B 136 [.slc f l.length (ptsC l), .fn (.func 137) [] []] = _ := h136 ()
  have e2 : callOf B 84 [.bool (l.any outP), .int .i64 3] = _ := h84 (l.any outP, 3)
  rw [e1]
  show optK (callOf B 84 [.bool (l.any outP), .int .i64 3]) _ = _
  rw [e2]
  rfl

/-! ### Sides -/
def ysS : Nat → List (Pt × Pt) → List (List D)
  | _, [] => []
  | i, s :: r => [.int .i64 i, sdD s] :: ysS (i + 1) r
theorem sdTo_len : ∀ (l : List Pt) (z : Pt), (sdTo l z).length = l.length
  | [], _ => rfl
  | [_], _ => rfl
  | x :: y :: r, z => by
    show (sdTo (y :: r) z).length + 1 = _
    rw [sdTo_len (y :: r) z]
    rfl
theorem sdL_len (l : List Pt) : (sdL l).length = l.length := by
  cases l with
  | nil => rfl
  | cons x r => exact sdTo_len (x :: r) x
theorem sdTo_get : ∀ (l : List Pt) (x z : Pt) (i : Nat), i ≤ l.length → (sdTo (x :: l) z)[i]? = some ((x :: l).getD i z, (x :: l).getD (i + 1) z)
  | [], x, z, i, h => by
    have : i = 0 := by simpa using h
    subst this
    rfl
  | y :: l, x, z, 0, _ => rfl
  | y :: l, x, z, i + 1, h => by
    show (sdTo (y :: l) z)[i]? = _
    rw [sdTo_get l y z i (by simpa using h)]
    rfl
theorem sdL_get (l : List Pt) (d : Pt) (i : Nat) (h : i < l.length) : (sdL l)[i]? = some (l.getD i d, l.getD ((i + 1) % l.length) d) := by
  cases l with
  | nil => simp at h
  | cons x r =>
    have hr : i ≤ r.length := by simpa using Nat.lt_succ_iff.1 h
    show (sdTo (x :: r) x)[i]? = _
    rw [sdTo_get r x x i hr]
    have h1 : (x :: r).getD i x = (x :: r).getD i d := by
      simp only [List.getD_eq_getElem?_getD]
      rw [List.getElem?_eq_getElem h]
      rfl
    have h2 : (x :: r).getD (i + 1) x = (x :: r).getD ((i + 1) % (x :: r).length) d := by
      by_cases hi : i + 1 < (x :: r).length
      · rw [Nat.mod_eq_of_lt hi]
        simp only [List.getD_eq_getElem?_getD]
        rw [List.getElem?_eq_getElem hi]
        rfl
      · have : i + 1 = (x :: r).length := by omega
        rw [this, Nat.mod_self]
        simp only [List.getD_eq_getElem?_getD]
        rw [List.getElem?_eq_none (Nat.le_refl _)]
        rfl
    rw [h1, h2]
theorem cells_at {γ : Type} (l : List Pt) (d : Pt) (i j : Nat) (hi : i < l.length) (hj : j < 2) {k : D → Option γ} : cellK (ptsC l) (i * 2 + j) k = k (.int .i64 (if j = 0 then (l.getD i d).1 else (l.getD i d).2)) := by
  have hsplit : l = l.take i ++ l.getD i d :: l.drop (i + 1) := by
    have h1 : l.getD i d = l[i] := by simp [List.getD_eq_getElem?_getD, List.getElem?_eq_getElem hi]
    rw [h1]
    simp
  have hlen : (l.take i).length = i := by simp; omega
  have h := cell_row (l.take i) (l.getD i d) (l.drop (i + 1)) ptC 2 (fun _ => rfl) j hj k
  rw [← hsplit, hlen, Int.toNat_natCast] at h
  refine h.trans ?_
  match j, hj with
  | 0, _ => rfl
  | 1, _ => rfl
theorem sidesGo_eq (l : List Pt) : ∀ (k i : Nat), i + k = l.length → sidesGo l.length (ptsC l) k i = some (ysS i ((sdL l).drop i))
  | 0, i, h => by
    rw [List.drop_eq_nil_of_le (by rw [sdL_len]; omega)]
    rfl
  | k + 1, i, h => by
    have hi : i < l.length := by omega
    have hm : (i + 1) % l.length < l.length := Nat.mod_lt _ (by omega)
    have hd : (sdL l).drop i = (l.getD i (0, 0), l.getD ((i + 1) % l.length) (0, 0)) :: (sdL l).drop (i + 1) := by
      have h1 := sdL_get l (0, 0) i hi
      obtain ⟨h2, h3⟩ := List.getElem?_eq_some_iff.1 h1
      rw [List.drop_eq_getElem_cons h2, h3]
    unfold sidesGo
    rw [cells_at l (0, 0) i 0 hi (by omega), intK_int, cells_at l (0, 0) i 1 hi (by omega), intK_int, cells_at l (0, 0) _ 0 hm (by omega), intK_int, cells_at l (0, 0) _ 1 hm (by omega), intK_int, sidesGo_eq l k (i + 1) (by omega), hd]
    rfl
theorem sq176 {f : Bool} (l : List Pt) (hl : l.length ≤ 1000) : sqT 176 [.snap [.slc f l.length (ptsC l)] 0] = some (ysS 0 (sdL l)) := by
  show chkK (decide (l.length < 4611686018427387904)) (sidesGo l.length (ptsC l) l.length 0) = _
  rw [decide_eq_true (by omega), chkK_true, sidesGo_eq l l.length 0 (by omega)]
  rfl

/-! ### What contains a place -/
def conGo (p : Pt) : List (Pt × Pt) → Int → Int
  | [], x => x
  | s :: r, x => ifK (hasW s.1 s.2 p) 0 (ifK (!decide (s.1.2 > p.2) == decide (s.2.2 > p.2)) (ifK (decide (trnW s.1 s.2 p > 0) == decide (s.2.2 > p.2)) (conGo p r (w64 (0 - x))) (conGo p r x)) (conGo p r x))
theorem go80 {call : FuncId → List D → Option D} {sq : FuncId → List D → Option (List (List D))} (h138 : ∀ s p, call 138 [sdD s, ptD p] = some (.bool (hasW s.1 s.2 p))) (h108 : ∀ a b c, call 108 [ptD a, ptD b, ptD c] = some (.int .i64 (trnW a b c))) (p : Pt) :
    ∀ (l : List (Pt × Pt)) (i : Nat) (x : Int), F80_58 call LL C1 sq (ysS i l) p.1 p.2 x = some (.int .i64 (conGo p l x))
  | [], i, x => by
    show F80_58 call LL C1 sq [] p.1 p.2 x = _
    rw [F80_58_nil]
    rfl
  | s :: l, i, x => by
    have e1 := h138 s p
    have e2 := h108 s.1 s.2 p
    show F80_58 call LL C1 sq ([.int .i64 i, sdD s] :: ysS (i + 1) l) p.1 p.2 x = _
    rw [F80_58_cons]
    show optK (call 138 [sdD s, ptD p]) _ = _
    rw [e1]
    show ifK (hasW s.1 s.2 p) _ (ifK _ (optK (call 108 [ptD s.1, ptD s.2, ptD p]) _) _) = _
    rw [e2]
    show ifK (hasW s.1 s.2 p) _ (ifK _ (ifK _ (F80_58 call LL C1 sq (ysS (i + 1) l) p.1 p.2 (w64 (0 - x))) (F80_58 call LL C1 sq (ysS (i + 1) l) p.1 p.2 x)) (F80_58 call LL C1 sq (ysS (i + 1) l) p.1 p.2 x)) = _
    rw [go80 h138 h108 p l (i + 1) (w64 (0 - x)), go80 h138 h108 p l (i + 1) x]
    rw [show conGo p (s :: l) x = ifK (hasW s.1 s.2 p) 0 (ifK (!decide (s.1.2 > p.2) == decide (s.2.2 > p.2)) (ifK (decide (trnW s.1 s.2 p > 0) == decide (s.2.2 > p.2)) (conGo p l (w64 (0 - x))) (conGo p l x)) (conGo p l x)) from rfl]
    cases hasW s.1 s.2 p
    · cases (!decide (s.1.2 > p.2) == decide (s.2.2 > p.2))
      · rfl
      · cases (decide (trnW s.1 s.2 p > 0) == decide (s.2.2 > p.2)) <;> rfl
    · rfl
theorem ok80 {f : Bool} (l : List Pt) (p : Pt) (hl : l.length ≤ 1000) : OK2 80 [.slc f l.length (ptsC l), ptD p] (.int .i64 (conGo p (sdL l) (-1))) := by
  obtain ⟨B, hb, h138, h108, _⟩ := exF [famSP 138 fun s p => D.bool (hasW s.1 s.2 p), famPPP 108 fun a b c => .int .i64 (trnW a b c)]
    ⟨famSP_good ok138 (fun _ _ => rfl), famPPP_good ok108 (fun _ _ _ => rfl), trivial⟩ rfl
  refine fnS hb sqT_ok Tryz.func80 (ord := O0) (N := N80) (by kernel_rfl) ((F80_eq _ _ _ _ _ _ _ p.1 p.2).trans ?_)
  rw [sq176 l hl]
  exact go80 (fun s p => h138 (s, p)) (fun a b c => h108 (a, b, c)) p (sdL l) 0 (-1)

/-! ### Simple polygons -/
def cornB (a b c : Pt) : Bool := ifK (trnW a b c == 0) (decide (dtW (mnsW a b) (mnsW c b) > 0)) false
def inOK (n i : Nat) (s : Pt × Pt) : Nat → List (Pt × Pt) → Bool
  | _, [] => true
  | k, t :: r => ifK (decide (k ≤ i)) (inOK n i s (k + 1) r) (ifK (decide (k = i + 1)) (ifK (cornB s.1 s.2 t.2) false (inOK n i s (k + 1) r))
      (ifK (decide (i = 0 ∧ k + 1 = n)) (!cornB t.1 t.2 s.2) (ifK (meetW s.1 s.2 t.1 t.2) false (inOK n i s (k + 1) r))))
def outOK (n : Nat) (all : List (Pt × Pt)) : Nat → List (Pt × Pt) → Bool
  | _, [] => true
  | i, s :: r => ifK (decide (s.1 = s.2)) false (ifK (inOK n i s 0 all) (outOK n all (i + 1) r) false)
end Go.Pd
end

section
namespace Go.Pd
open Go Go.Proofs Go.RowKit
set_option maxRecDepth 100000

theorem nat_le_int (a b : Nat) : decide ((a : Int) ≤ (b : Int)) = decide (a ≤ b) := by rw [Bool.eq_iff_iff]; simp
theorem nat_beq_int (a b : Nat) : ((a : Int) == (b : Int)) = decide (a = b) := by rw [Bool.eq_iff_iff]; simp; omega
structure SimpC (call : FuncId → List D → Option D) : Prop where
  h108 : ∀ a b c, call 108 [ptD a, ptD b, ptD c] = some (.int .i64 (trnW a b c))
  h140 : ∀ a b, call 140 [ptD a, ptD b] = some (ptD (mnsW a b))
  h139 : ∀ a b, call 139 [ptD a, ptD b] = some (.int .i64 (dtW a b))
  h174 : ∀ s t, call 174 [sdD s, sdD t] = some (.bool (meetW s.1 s.2 t.1 t.2))
theorem go107i {call : FuncId → List D → Option D} (hc : SimpC call) {sq : FuncId → List D → Option (List (List D))} {ys : List (List D)} {f : Bool} {m : Nat} {c : List D} {n i : Nat} (hn : n ≤ 1000) (hi : i < n) (s : Pt × Pt) :
    ∀ (l : List (Pt × Pt)) (k : Nat), F107_6998 call LL C1 sq ys (ysS k l) f m c (n : Int) (i : Int) s.1.1 s.1.2 s.2.1 s.2.2 = ifK (inOK n i s k l) (F107_218 call LL C1 sq ys f m c (n : Int)) (some (D.bool false))
  | [], k => by
    show F107_6998 call LL C1 sq ys [] f m c (n : Int) (i : Int) s.1.1 s.1.2 s.2.1 s.2.2 = _
    rw [F107_6998_nil]
    rfl
  | t :: l, k => by
    have ih := go107i hc (sq := sq) (ys := ys) (f := f) (m := m) (c := c) hn hi s l (k + 1)
    have w1 : w64 ((i : Int) + 1) = ((i + 1 : Nat) : Int) := (wrap_in (by omega)).trans (by omega)
    have w2 : w64 ((n : Int) - 1) = ((n - 1 : Nat) : Int) := (wrap_in (by omega)).trans (by omega)
    have b0 : ((i : Int) == 0) = decide (i = 0) := nat_beq_int i 0
    show F107_6998 call LL C1 sq ys ([.int .i64 k, sdD t] :: ysS (k + 1) l) f m c (n : Int) (i : Int) s.1.1 s.1.2 s.2.1 s.2.2 = _
    rw [F107_6998_cons]
    show ifK (decide ((k : Int) ≤ (i : Int))) (F107_6998 call LL C1 sq ys (ysS (k + 1) l) f m c (n : Int) (i : Int) s.1.1 s.1.2 s.2.1 s.2.2)
      (ifK ((k : Int) == w64 ((i : Int) + 1)) (optK (call 108 [ptD s.1, ptD s.2, ptD t.2]) _) (ifK ((i : Int) == 0) (ifK ((k : Int) == w64 ((n : Int) - 1)) (optK (call 108 [ptD t.1, ptD t.2, ptD s.2]) _) (optK (call 174 [sdD s, sdD t]) _)) (optK (call 174 [sdD s, sdD t]) _))) = _
    rw [hc.h108 s.1 s.2 t.2, hc.h108 t.1 t.2 s.2, hc.h174 s t, w1, w2, b0, nat_beq_int, nat_beq_int, nat_le_int]
    show ifK (decide (k ≤ i)) _ (ifK (decide (k = i + 1)) (ifK (trnW s.1 s.2 t.2 == 0) (optK (call 140 [ptD s.1, ptD s.2]) _) _)
      (ifK (decide (i = 0)) (ifK (decide (k = n - 1)) (ifK (trnW t.1 t.2 s.2 == 0) (optK (call 140 [ptD t.1, ptD t.2]) _) _) _) _)) = _
    rw [hc.h140 s.1 s.2, hc.h140 t.1 t.2, hc.h140 t.2 s.2, hc.h140 s.2 t.2]
    show ifK (decide (k ≤ i)) _ (ifK (decide (k = i + 1)) (ifK (trnW s.1 s.2 t.2 == 0) (optK (call 139 [ptD (mnsW s.1 s.2), ptD (mnsW t.2 s.2)]) _) _)
      (ifK (decide (i = 0)) (ifK (decide (k = n - 1)) (ifK (trnW t.1 t.2 s.2 == 0) (optK (call 139 [ptD (mnsW t.1 t.2), ptD (mnsW s.2 t.2)]) _) _) _) _)) = _
    rw [hc.h139 (mnsW s.1 s.2) (mnsW t.2 s.2), hc.h139 (mnsW t.1 t.2) (mnsW s.2 t.2)]
    show ifK (decide (k ≤ i)) (F107_6998 call LL C1 sq ys (ysS (k + 1) l) f m c (n : Int) (i : Int) s.1.1 s.1.2 s.2.1 s.2.2)
      (ifK (decide (k = i + 1)) (ifK (trnW s.1 s.2 t.2 == 0) (ifK (decide (dtW (mnsW s.1 s.2) (mnsW t.2 s.2) > 0)) (some (D.bool false)) (F107_6998 call LL C1 sq ys (ysS (k + 1) l) f m c (n : Int) (i : Int) s.1.1 s.1.2 s.2.1 s.2.2)) (F107_6998 call LL C1 sq ys (ysS (k + 1) l) f m c (n : Int) (i : Int) s.1.1 s.1.2 s.2.1 s.2.2))
        (ifK (decide (i = 0)) (ifK (decide (k = n - 1)) (ifK (trnW t.1 t.2 s.2 == 0) (ifK (decide (dtW (mnsW t.1 t.2) (mnsW s.2 t.2) > 0)) (some (D.bool false)) (F107_218 call LL C1 sq ys f m c (n : Int))) (F107_218 call LL C1 sq ys f m c (n : Int)))
          (ifK (meetW s.1 s.2 t.1 t.2) (some (D.bool false)) (F107_6998 call LL C1 sq ys (ysS (k + 1) l) f m c (n : Int) (i : Int) s.1.1 s.1.2 s.2.1 s.2.2)))
          (ifK (meetW s.1 s.2 t.1 t.2) (some (D.bool false)) (F107_6998 call LL C1 sq ys (ysS (k + 1) l) f m c (n : Int) (i : Int) s.1.1 s.1.2 s.2.1 s.2.2)))) = _
    rw [ih]
    rw [show inOK n i s k (t :: l) = ifK (decide (k ≤ i)) (inOK n i s (k + 1) l) (ifK (decide (k = i + 1)) (ifK (cornB s.1 s.2 t.2) false (inOK n i s (k + 1) l))
      (ifK (decide (i = 0 ∧ k + 1 = n)) (!cornB t.1 t.2 s.2) (ifK (meetW s.1 s.2 t.1 t.2) false (inOK n i s (k + 1) l)))) from rfl]
    have e3 : decide (i = 0 ∧ k + 1 = n) = (decide (i = 0) && decide (k = n - 1)) := by
      rw [Bool.eq_iff_iff]; simp; omega
    rw [e3]
    unfold cornB
    cases decide (k ≤ i)
    · cases decide (k = i + 1)
      · cases decide (i = 0)
        · cases meetW s.1 s.2 t.1 t.2 <;> rfl
        · cases decide (k = n - 1)
          · cases meetW s.1 s.2 t.1 t.2 <;> rfl
          · cases trnW t.1 t.2 s.2 == 0
            · rfl
            · cases decide (dtW (mnsW t.1 t.2) (mnsW s.2 t.2) > 0) <;> rfl
      · cases trnW s.1 s.2 t.2 == 0
        · rfl
        · cases decide (dtW (mnsW s.1 s.2) (mnsW t.2 s.2) > 0) <;> rfl
    · rfl
theorem pt_beq (a b : Pt) : (a.1 == b.1 && (a.2 == b.2 && true)) = decide (a = b) := by
  rw [Bool.eq_iff_iff]
  simp only [Bool.and_true, Bool.and_eq_true, beq_iff_eq, decide_eq_true_eq]
  exact ⟨fun h => Prod.ext h.1 h.2, fun h => by rw [h]; exact ⟨rfl, rfl⟩⟩
theorem go107 {call : FuncId → List D → Option D} (hc : SimpC call) {sq : FuncId → List D → Option (List (List D))} {f : Bool} {m : Nat} {c : List D} {n : Nat} (hn : n ≤ 1000) {all : List (Pt × Pt)} (hs : sq 176 [.snap [.slc f m c] 0] = some (ysS 0 all)) :
    ∀ (l : List (Pt × Pt)) (i : Nat), i + l.length ≤ n → F107_218 call LL C1 sq (ysS i l) f m c (n : Int) = some (.bool (outOK n all i l))
  | [], i, _ => by
    show F107_218 call LL C1 sq [] f m c (n : Int) = _
    rw [F107_218_nil]
    rfl
  | s :: l, i, hi => by
    have hi' : i + 1 + l.length ≤ n := by simp at hi; omega
    have ih := go107 hc hn hs l (i + 1) hi'
    show F107_218 call LL C1 sq ([.int .i64 i, sdD s] :: ysS (i + 1) l) f m c (n : Int) = _
    rw [F107_218_cons]
    show ifK (s.1.1 == s.2.1 && (s.1.2 == s.2.2 && true)) (some (D.bool false)) (optK (sq 176 [.snap [.slc f m c] 0]) fun ys2 => F107_6998 call LL C1 sq (ysS (i + 1) l) ys2 f m c (n : Int) (i : Int) s.1.1 s.1.2 s.2.1 s.2.2) = _
    rw [hs, optK_some, go107i hc hn (by omega) s all 0, ih, pt_beq]
    rw [show outOK n all i (s :: l) = ifK (decide (s.1 = s.2)) false (ifK (inOK n i s 0 all) (outOK n all (i + 1) l) false) from rfl]
    cases decide (s.1 = s.2)
    · cases inOK n i s 0 all <;> rfl
    · rfl
def simpB (l : List Pt) : Bool := outOK l.length (sdL l) 0 (sdL l)
theorem ok107 {f : Bool} (l : List Pt) (hl : l.length ≤ 1000) : OK2 107 [.slc f l.length (ptsC l)] (.bool (simpB l)) := by
  obtain ⟨B, hb, h108, h140, h139, h174, _⟩ := exF [famPPP 108 fun a b c => .int .i64 (trnW a b c), famPP 140 fun a b => ptD (mnsW a b), famPP 139 fun a b => .int .i64 (dtW a b), famSS 174 fun s t => D.bool (meetW s.1 s.2 t.1 t.2)]
    ⟨famPPP_good ok108 (fun _ _ _ => rfl), famPP_good ok140 (fun _ _ => rfl), famPP_good ok139 (fun _ _ => rfl), famSS_good ok174 (fun _ _ => rfl), trivial⟩ rfl
  refine fnS hb sqT_ok Tryz.func107 (ord := O0) (N := N107) (by kernel_rfl) ((F107_eq _ _ _ _ _ _ _).trans ?_)
  rw [sq176 l hl, optK_some]
  exact go107 ⟨fun a b c => h108 (a, b, c), fun a b => h140 (a, b), fun a b => h139 (a, b), fun s t => h174 (s, t)⟩ hl (sq176 l hl) (sdL l) 0 (by rw [sdL_len]; omega)
def polE (l : List Pt) : Int := firstZ [ifK (decide ((l.length : Int) < 3)) 2 0, ifK (decide ((l.length : Int) > 64)) 5 0, ifK (l.any outP) 3 0]
def polErr (l : List Pt) : Int := ifK (polE l != 0) (polE l) (ifK (!simpB l) 16 0)
theorem ok50 {f : Bool} (l : List Pt) (hl : l.length ≤ 1000) : OK2 50 [.slc f l.length (ptsC l)] (.int .i64 (polErr l)) := by
  obtain ⟨B, hb, h84, h77, h76, h107, _⟩ := exF [famBE 84, one 77 [.slc f l.length (ptsC l)] (.int .i64 (ifK (l.any outP) 3 0)), famFi 76, one 107 [.slc f l.length (ptsC l)] (.bool (simpB l))]
    ⟨famBE_good ok84 (fun _ _ => rfl), one_good (ok77 l hl) rfl, famFi_good (fun l hl => ok76 l hl) (fun _ _ => rfl), one_good (ok107 l hl) rfl, trivial⟩ rfl
  refine fnT hb Tryz.func50 (ord := O0) (N := N0) (by kernel_rfl) ((F50_eq _ _ _ _ _ _).trans ?_)
  have e1 : callOf B 84 [.bool (decide ((l.length : Int) < 3)), .int .i64 2] = _ := h84 (_, 2)
  have e2 : callOf B 84 [.bool (decide ((l.length : Int) > 64)), .int .i64 5] = _ := h84 (_, 5)
  have e3 : callOf B 77 [.slc f l.length (ptsC l)] = _ := h77 ()
  have e4 : callOf B 76 [.slc true 3 [.int .i64 (ifK (decide ((l.length : Int) < 3)) 2 0), .int .i64 (ifK (decide ((l.length : Int) > 64)) 5 0), .int .i64 (ifK (l.any outP) 3 0)]] = some (.int .i64 (polE l)) :=
    h76 ⟨[ifK (decide ((l.length : Int) < 3)) 2 0, ifK (decide ((l.length : Int) > 64)) 5 0, ifK (l.any outP) 3 0], by simp⟩
  have e5 : callOf B 107 [.slc f l.length (ptsC l)] = _ := h107 ()
  have e6 : callOf B 84 [.bool (!simpB l), .int .i64 16] = _ := h84 (_, 16)
  rw [e1]
  show optK (callOf B 84 [.bool (decide ((l.length : Int) > 64)), .int .i64 5]) _ = _
  rw [e2]
  show optK (callOf B 77 [.slc f l.length (ptsC l)]) _ = _
  rw [e3]
  show optK (callOf B 76 [.slc true 3 [.int .i64 (ifK (decide ((l.length : Int) < 3)) 2 0), .int .i64 (ifK (decide ((l.length : Int) > 64)) 5 0), .int .i64 (ifK (l.any outP) 3 0)]]) _ = _
  rw [e4]
  show ifK (polE l != 0) (some (D.int .i64 (polE l))) (optK (callOf B 107 [.slc f l.length (ptsC l)]) _) = _
  rw [e5]
  show ifK (polE l != 0) (some (D.int .i64 (polE l))) (optK (callOf B 84 [.bool (!simpB l), .int .i64 16]) _) = _
  rw [e6]
  unfold polErr
  cases polE l != 0 <;> rfl
def errOr (e x : Int) : D := .tup [.int .i64 (ifK (e != 0) 0 x), .int .i64 e]
theorem errOr_eq (e x : Int) : ifK (e != 0) (some (D.tup [D.int .i64 0, D.int .i64 e])) (some (D.tup [D.int .i64 x, D.int .i64 0])) = some (errOr e x) := by
  unfold errOr
  cases h : e != 0
  · have : e = 0 := by simpa using h
    subst this
    rfl
  · rfl
theorem one_pt {f : Bool} (p : Pt) : OK2 77 [.slc f 1 [.int .i64 p.1, .int .i64 p.2]] (.int .i64 (ifK (outP p) 3 0)) := by
  have := ok77 (f := f) [p] (by simp)
  rw [show [p].any outP = outP p by simp] at this
  exact this
def fam77a : Fam := ⟨77, Pt, fun p => [.slc true 1 [.int .i64 p.1, .int .i64 p.2]], fun p => .int .i64 (ifK (outP p) 3 0)⟩
theorem ok45 {f : Bool} (l : List Pt) (p : Pt) (hl : l.length ≤ 1000) : OK2 45 [.slc f l.length (ptsC l), ptD p] (errOr (firstZ [polErr l, ifK (outP p) 3 0]) (conGo p (sdL l) (-1))) := by
  obtain ⟨B, hb, h50, h77, h76, h80, _⟩ := exF [one 50 [.slc f l.length (ptsC l)] (.int .i64 (polErr l)), one 77 [.slc true 1 [.int .i64 p.1, .int .i64 p.2]] (.int .i64 (ifK (outP p) 3 0)), famFi 76, one 80 [.slc f l.length (ptsC l), ptD p] (.int .i64 (conGo p (sdL l) (-1)))]
    ⟨one_good (ok50 l hl) rfl, one_good (one_pt p) rfl, famFi_good (fun l hl => ok76 l hl) (fun _ _ => rfl), one_good (ok80 l p hl) rfl, trivial⟩ rfl
  refine fnT hb Tryz.func45 (ord := O0) (N := N0) (by kernel_rfl) ((F45_eq _ _ _ _ _ _ p.1 p.2).trans ?_)
  have e1 : callOf B 50 [.slc f l.length (ptsC l)] = _ := h50 ()
  have e2 : callOf B 77 [.slc true 1 [.int .i64 p.1, .int .i64 p.2]] = _ := h77 ()
  have e3 : callOf B 76 [.slc true 2 [.int .i64 (polErr l), .int .i64 (ifK (outP p) 3 0)]] = _ := h76 ⟨[polErr l, ifK (outP p) 3 0], by simp⟩
  have e4 : callOf B 80 [.slc f l.length (ptsC l), ptD p] = _ := h80 ()
  rw [e1]
  show optK (callOf B 77 [.slc true 1 [.int .i64 p.1, .int .i64 p.2]]) _ = _
  rw [e2]
  show optK (callOf B 76 [.slc true 2 [.int .i64 (polErr l), .int .i64 (ifK (outP p) 3 0)]]) _ = _
  rw [e3]
  show ifK (firstZ [polErr l, ifK (outP p) 3 0] != 0) _ (optK (callOf B 80 [.slc f l.length (ptsC l), ptD p]) _) = _
  rw [e4]
  exact errOr_eq _ _
def twiGo : List (Pt × Pt) → Int → Int
  | [], x => x
  | s :: r, x => twiGo r (w64 (x + crsW s.1 s.2))
def absW (x : Int) : Int := if w64 (0 - x) > x then w64 (0 - x) else x
theorem go52 {call : FuncId → List D → Option D} {sq : FuncId → List D → Option (List (List D))} (h110 : ∀ a b, call 110 [ptD a, ptD b] = some (.int .i64 (crsW a b))) : ∀ (l : List (Pt × Pt)) (i : Nat) (x : Int), F52_122 call LL C1 sq (ysS i l) x = some (.tup [.int .i64 (absW (twiGo l x)), .int .i64 0])
  | [], i, x => by
    show F52_122 call LL C1 sq [] x = _
    rw [F52_122_nil]
    rfl
  | s :: l, i, x => by
    have e := h110 s.1 s.2
    show F52_122 call LL C1 sq ([.int .i64 i, sdD s] :: ysS (i + 1) l) x = _
    rw [F52_122_cons]
    show optK (call 110 [ptD s.1, ptD s.2]) _ = _
    rw [e]
    exact go52 h110 l (i + 1) _
theorem ok52 {f : Bool} (l : List Pt) (hl : l.length ≤ 1000) : OK2 52 [.slc f l.length (ptsC l)] (errOr (polErr l) (absW (twiGo (sdL l) 0))) := by
  obtain ⟨B, hb, h50, h110, _⟩ := exF [one 50 [.slc f l.length (ptsC l)] (.int .i64 (polErr l)), famPP 110 fun a b => .int .i64 (crsW a b)]
    ⟨one_good (ok50 l hl) rfl, famPP_good ok110 (fun _ _ => rfl), trivial⟩ rfl
  refine fnS hb sqT_ok Tryz.func52 (ord := O0) (N := N52) (by kernel_rfl) ((F52_eq _ _ _ _ _ _ _).trans ?_)
  have e1 : callOf B 50 [.slc f l.length (ptsC l)] = _ := h50 ()
  rw [e1]
  show ifK (polErr l != 0) _ (optK (sqT 176 [.snap [.slc f l.length (ptsC l)] 0]) _) = _
  rw [sq176 l hl, optK_some, go52 (fun a b => h110 (a, b)) (sdL l) 0 0]
  exact errOr_eq _ _
end Go.Pd
end

section
namespace Go.Pd
open Go Go.Proofs Go.RowKit
set_option maxRecDepth 100000

def pt (l : List Pt) (i : Nat) : Pt := l.getD i (0, 0)
section
variable {γ : Type} {l : List Pt} {j : Nat} {k : D → Option γ}
end
theorem in_nat {j n : Nat} (h : j < n) : decide ((0 : Int) ≤ ((j : Nat) : Int) ∧ ((j : Nat) : Int) < (n : Int)) = true := decide_eq_true ⟨Int.natCast_nonneg _, Int.ofNat_lt.2 h⟩
theorem wrap_add (i k : Nat) (h : i + k ≤ 4611686018427387904) : IntKind.wrap .i64 ((i : Int) + (k : Int)) = ((i + k : Nat) : Int) := (wrap_in (by omega)).trans (by omega)
theorem lt_nat {i n : Nat} (h : i < n) : decide (((i : Nat) : Int) < ((n : Nat) : Int)) = true := decide_eq_true (Int.ofNat_lt.2 h)
theorem nlt_nat (n : Nat) : decide (((n : Nat) : Int) < ((n : Nat) : Int)) = false := decide_eq_false (Int.lt_irrefl _)
/-! ### What contains a place -/
def crR (p : Pt) (s : Pt × Pt) : Bool := ifK (decide (s.1.2 > p.2)) (ifK (decide (s.2.2 ≤ p.2)) (ifK (decide (trnW s.1 s.2 p > 0)) true (ifK (decide (s.2.2 > p.2)) (ifK (decide (s.1.2 ≤ p.2)) (decide (trnW s.2 s.1 p > 0)) false) false)) (ifK (decide (s.2.2 > p.2)) (ifK (decide (s.1.2 ≤ p.2)) (decide (trnW s.2 s.1 p > 0)) false) false))
  (ifK (decide (s.2.2 > p.2)) (ifK (decide (s.1.2 ≤ p.2)) (decide (trnW s.2 s.1 p > 0)) false) false)
def conR (p : Pt) : List (Pt × Pt) → Bool → Int
  | [], odd => ifK odd 1 (-1)
  | s :: r, odd => ifK (onW s.1 s.2 p) 0 (conR p r (ifK (crR p s) (!odd) odd))
end Go.Pd
end

section
namespace Go.Pd
open Go Go.Proofs Go.RowKit
set_option maxRecDepth 100000

def InP (p : Pt) : Prop := -1000000 ≤ p.1 ∧ p.1 ≤ 1000000 ∧ -1000000 ≤ p.2 ∧ p.2 ≤ 1000000
theorem outN_false {n : Int} (h : outN n = false) : -1000000 ≤ n ∧ n ≤ 1000000 := by
  unfold outN at h
  rw [ifK_eq] at h
  split at h
  · cases h
  · simp at h; rename_i h2; simp at h2; omega
theorem inP_of {p : Pt} (h : outP p = false) : InP p := by
  unfold outP at h
  rw [ifK_eq] at h
  split at h
  · cases h
  · rename_i h2
    have h1 := outN_false (by simpa using h2)
    have h3 := outN_false h
    exact ⟨h1.1, h1.2, h3.1, h3.2⟩
theorem mul_bd {a b : Int} {A B : Nat} (ha : a.natAbs ≤ A) (hb : b.natAbs ≤ B) : (a * b).natAbs ≤ A * B := by
  rw [Int.natAbs_mul]
  exact Nat.mul_le_mul ha hb
theorem mns_eq {a b : Pt} (ha : InP a) (hb : InP b) : mnsW a b = mns a b := by
  obtain ⟨a1, a2, a3, a4⟩ := ha
  obtain ⟨b1, b2, b3, b4⟩ := hb
  unfold mnsW mns w64
  rw [wrap_in (by omega), wrap_in (by omega)]
def InD (p : Pt) : Prop := p.1.natAbs ≤ 2000000 ∧ p.2.natAbs ≤ 2000000
theorem mns_in {a b : Pt} (ha : InP a) (hb : InP b) : InD (mns a b) := by
  obtain ⟨a1, a2, a3, a4⟩ := ha
  obtain ⟨b1, b2, b3, b4⟩ := hb
  unfold InD mns
  constructor <;> dsimp only <;> omega
theorem dt_eq {a b : Pt} (ha : InD a) (hb : InD b) : dtW a b = dt a b := by
  have h1 := mul_bd ha.1 hb.1
  have h2 := mul_bd ha.2 hb.2
  unfold dtW dt w64
  rw [wrap_in (show _ ≤ a.1 * b.1 ∧ _ by omega), wrap_in (show _ ≤ a.2 * b.2 ∧ _ by omega), wrap_in (by omega)]
structure SimpP (l : List Pt) : Prop where
  ne : ∀ i, i < l.length → pt l i ≠ pt l ((i + 1) % l.length)
  corn : ∀ i, i < l.length → cornB (pt l i) (pt l ((i + 1) % l.length)) (pt l ((i + 2) % l.length)) = false
  meet : ∀ i q, i < l.length → q < l.length → q ≠ i → (q + 1) % l.length ≠ i → (i + 1) % l.length ≠ q → meetP (pt l i) (pt l ((i + 1) % l.length)) (pt l q) (pt l ((q + 1) % l.length)) = false
end Go.Pd
end
