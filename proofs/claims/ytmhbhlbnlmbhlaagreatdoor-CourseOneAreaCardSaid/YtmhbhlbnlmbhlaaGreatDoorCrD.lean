/-
  Chapter 2: places and their turns: what the program's and the reference's functions say of them.
  Chapter 2: checks of places; the sides of a polygon; the program's polygons.
  Chapter 2: simple polygons, by the program; its checks.
  Chapter 2: polygons, by the reference.
  Chapter 2: polygons: the program and the reference say the same.
-/
import Derived.Test.YtmhbhlbnlmbhlaaGreatDoorCrB
section
namespace Go.Pd
open Go Go.Proofs Go.RowKit
set_option maxRecDepth 100000
abbrev w64 (x : Int) : Int := IntKind.wrap .i64 x
def ptC (p : Pt) : List D := [.int .i64 p.1, .int .i64 p.2]
abbrev ptD (p : Pt) : D := .agg [.int .i64 p.1, .int .i64 p.2]
abbrev sdD (s : Pt × Pt) : D := .agg [.int .i64 s.1.1, .int .i64 s.1.2, .int .i64 s.2.1, .int .i64 s.2.2]
theorem ptD_inj {a b : Pt} (h : ptD a = ptD b) : a = b := by
  simp only [ptD, D.agg.injEq, List.cons.injEq, D.int.injEq, true_and, and_true] at h
  exact Prod.ext h.1 h.2
theorem sdD_inj {a b : Pt × Pt} (h : sdD a = sdD b) : a = b := by
  simp only [sdD, D.agg.injEq, List.cons.injEq, D.int.injEq, true_and, and_true] at h
  exact Prod.ext (Prod.ext h.1 h.2.1) (Prod.ext h.2.2.1 h.2.2.2)
def mnsW (a b : Pt) : Pt := (w64 (a.1 - b.1), w64 (a.2 - b.2))
def crsW (a b : Pt) : Int := w64 (w64 (a.1 * b.2) - w64 (a.2 * b.1))
def dtW (a b : Pt) : Int := w64 (w64 (a.1 * b.1) + w64 (a.2 * b.2))
def trnW (a b c : Pt) : Int := sg (crsW (mnsW b a) (mnsW c a))
def hasW (a b p : Pt) : Bool := ifK (trnW a b p == 0) (decide (dtW (mnsW a p) (mnsW b p) ≤ 0)) false
def onW (a b p : Pt) : Bool := ifK (trnW a b p == 0) (ifK (decide ((if b.1 < a.1 then b.1 else a.1) ≤ p.1)) (ifK (decide (p.1 ≤ if b.1 > a.1 then b.1 else a.1)) (ifK (decide ((if b.2 < a.2 then b.2 else a.2) ≤ p.2)) (decide (p.2 ≤ if b.2 > a.2 then b.2 else a.2)) false) false) false) false
def signs (a b c d : Pt) : Bool := ifK (decide (w64 (trnW a b c * trnW a b d) < 0)) (decide (w64 (trnW c d a * trnW c d b) < 0)) false
def meetW (a b c d : Pt) : Bool := ifK (hasW a b c) true (ifK (hasW a b d) true (ifK (hasW c d a) true (ifK (hasW c d b) true (signs a b c d))))
def meetR (a b c d : Pt) : Bool := ifK (onW a b c) true (ifK (onW a b d) true (ifK (onW c d a) true (ifK (onW c d b) true (signs a b c d))))
theorem ok140 (a b : Pt) : OK2 140 [ptD a, ptD b] (ptD (mnsW a b)) := fnT none_ok Tryz.func140 (ord := O0) (N := N0) (by kernel_rfl) (F140_eq _ _ _ a.1 a.2 b.1 b.2)
theorem ok110 (a b : Pt) : OK2 110 [ptD a, ptD b] (.int .i64 (crsW a b)) := fnT none_ok Tryz.func110 (ord := O0) (N := N0) (by kernel_rfl) (F110_eq _ _ _ a.1 a.2 b.1 b.2)
theorem ok139 (a b : Pt) : OK2 139 [ptD a, ptD b] (.int .i64 (dtW a b)) := fnT none_ok Tryz.func139 (ord := O0) (N := N0) (by kernel_rfl) (F139_eq _ _ _ a.1 a.2 b.1 b.2)
def famPP (k : FuncId) (r : Pt → Pt → D) : Fam := ⟨k, Pt × Pt, fun x => [ptD x.1, ptD x.2], fun x => r x.1 x.2⟩
theorem famPP_good {k : FuncId} {r : Pt → Pt → D} (h : ∀ a b, OK2 k [ptD a, ptD b] (r a b)) (hc : ∀ a b, cstG k [ptD a, ptD b] = none) : (famPP k r).Good :=
  ⟨fun x => h x.1 x.2, fun x y e => by
    simp only [famPP, List.cons.injEq, and_true] at e
    show r x.1 x.2 = r y.1 y.2
    rw [ptD_inj e.1, ptD_inj e.2], fun x => hc x.1 x.2⟩
def famI (k : FuncId) (r : Int → D) : Fam := ⟨k, Int, fun x => [.int .i64 x], fun x => r x⟩
theorem famI_good {k : FuncId} {r : Int → D} (h : ∀ x, OK2 k [.int .i64 x] (r x)) (hc : ∀ x, cstG k [.int .i64 x] = none) : (famI k r).Good :=
  ⟨h, fun (x y : Int) e => by
    have e : [D.int .i64 x] = [D.int .i64 y] := e
    cases e
    rfl, hc⟩
def famPPP (k : FuncId) (r : Pt → Pt → Pt → D) : Fam := ⟨k, Pt × Pt × Pt, fun x => [ptD x.1, ptD x.2.1, ptD x.2.2], fun x => r x.1 x.2.1 x.2.2⟩
theorem famPPP_good {k : FuncId} {r : Pt → Pt → Pt → D} (h : ∀ a b c, OK2 k [ptD a, ptD b, ptD c] (r a b c)) (hc : ∀ a b c, cstG k [ptD a, ptD b, ptD c] = none) : (famPPP k r).Good :=
  ⟨fun x => h x.1 x.2.1 x.2.2, fun x y e => by
    simp only [famPPP, List.cons.injEq, and_true] at e
    show r x.1 x.2.1 x.2.2 = r y.1 y.2.1 y.2.2
    rw [ptD_inj e.1, ptD_inj e.2.1, ptD_inj e.2.2], fun x => hc x.1 x.2.1 x.2.2⟩
def famSP (k : FuncId) (r : Pt × Pt → Pt → D) : Fam := ⟨k, (Pt × Pt) × Pt, fun x => [sdD x.1, ptD x.2], fun x => r x.1 x.2⟩
theorem famSP_good {k : FuncId} {r : Pt × Pt → Pt → D} (h : ∀ a b, OK2 k [sdD a, ptD b] (r a b)) (hc : ∀ a b, cstG k [sdD a, ptD b] = none) : (famSP k r).Good :=
  ⟨fun x => h x.1 x.2, fun x y e => by
    simp only [famSP, List.cons.injEq, and_true] at e
    show r x.1 x.2 = r y.1 y.2
    rw [sdD_inj e.1, ptD_inj e.2], fun x => hc x.1 x.2⟩
def famSS (k : FuncId) (r : Pt × Pt → Pt × Pt → D) : Fam := ⟨k, (Pt × Pt) × (Pt × Pt), fun x => [sdD x.1, sdD x.2], fun x => r x.1 x.2⟩
theorem famSS_good {k : FuncId} {r : Pt × Pt → Pt × Pt → D} (h : ∀ a b, OK2 k [sdD a, sdD b] (r a b)) (hc : ∀ a b, cstG k [sdD a, sdD b] = none) : (famSS k r).Good :=
  ⟨fun x => h x.1 x.2, fun x y e => by
    simp only [famSS, List.cons.injEq, and_true] at e
    show r x.1 x.2 = r y.1 y.2
    rw [sdD_inj e.1, sdD_inj e.2], fun x => hc x.1 x.2⟩
def famBE (k : FuncId) : Fam := ⟨k, Bool × Int, fun x => [.bool x.1, .int .i64 x.2], fun x => .int .i64 (ifK x.1 x.2 0)⟩
theorem famBE_good {k : FuncId} (h : ∀ b e, OK2 k [.bool b, .int .i64 e] (.int .i64 (ifK b e 0))) (hc : ∀ b e, cstG k [.bool b, .int .i64 e] = none) : (famBE k).Good :=
  ⟨fun x => h x.1 x.2, fun x y e => by
    simp only [famBE, List.cons.injEq, D.bool.injEq, D.int.injEq, true_and, and_true] at e
    show D.int .i64 (ifK x.1 x.2 0) = .int .i64 (ifK y.1 y.2 0)
    rw [e.1, e.2], fun x => hc x.1 x.2⟩
theorem ok175 (n : Int) : OK2 175 [.int .i64 n] (.int .i64 (sg n)) := by
  refine fnT none_ok Tryz.func175 (ord := O0) (N := N0) (by kernel_rfl) ?_
  have h : ∀ n : Int, ifK (decide (n < 0)) (some (D.int .i64 (-1))) (ifK (decide (n > 0)) (some (D.int .i64 1)) (some (D.int .i64 0))) = some (.int .i64 (sg n)) := fun n => by
    unfold sg
    by_cases h1 : n < 0
    · rw [decide_eq_true h1, if_pos h1]; rfl
    · rw [decide_eq_false h1, if_neg h1]
      by_cases h2 : n > 0
      · rw [decide_eq_true h2, if_pos h2]; rfl
      · rw [decide_eq_false h2, if_neg h2]; rfl
  exact (F175_eq _ _ _ n).trans (h n)
theorem ok111 (n : Int) : OK2 111 [.int .i64 n] (.int .i64 (sg n)) := by
  refine fnT none_ok Tryz.func111 (ord := O0) (N := N0) (by kernel_rfl) ((F111_eq _ _ _ n).trans ?_)
  unfold sg
  by_cases h1 : n < 0
  · rw [decide_eq_true h1, if_pos h1, decide_eq_false (show ¬ n > 0 by omega)]; rfl
  · rw [decide_eq_false h1, if_neg h1]
    by_cases h2 : n > 0
    · rw [decide_eq_true h2, if_pos h2]; rfl
    · rw [decide_eq_false h2, if_neg h2]; rfl
theorem ok108 (a b c : Pt) : OK2 108 [ptD a, ptD b, ptD c] (.int .i64 (trnW a b c)) := by
  obtain ⟨B, hb, h140, h110, h175, _⟩ := exF [famPP 140 fun a b => ptD (mnsW a b), famPP 110 fun a b => .int .i64 (crsW a b), famI 175 fun x => .int .i64 (sg x)]
    ⟨famPP_good ok140 (fun _ _ => rfl), famPP_good ok110 (fun _ _ => rfl), famI_good ok175 (fun _ => rfl), trivial⟩ rfl
  refine fnT hb Tryz.func108 (ord := O0) (N := N0) (by kernel_rfl) ((F108_eq _ _ _ a.1 a.2 b.1 b.2 c.1 c.2).trans ?_)
  have e1 : callOf B 140 [ptD b, ptD a] = _ := h140 (b, a)
  have e2 : callOf B 140 [ptD c, ptD a] = _ := h140 (c, a)
  have e3 : callOf B 110 [ptD (mnsW b a), ptD (mnsW c a)] = _ := h110 (mnsW b a, mnsW c a)
  have e4 : callOf B 175 [.int .i64 (crsW (mnsW b a) (mnsW c a))] = _ := h175 _
  rw [e1]
  show optK (callOf B 140 [ptD c, ptD a]) _ = _
  rw [e2]
  show optK (callOf B 110 [ptD (mnsW b a), ptD (mnsW c a)]) _ = _
  rw [e3]
  show optK (callOf B 175 [.int .i64 (crsW (mnsW b a) (mnsW c a))]) _ = _
  rw [e4]
  rfl
theorem ok53 (a b c : Pt) : OK2 53 [ptD a, ptD b, ptD c] (.int .i64 (trnW a b c)) := by
  obtain ⟨B, hb, h111, _⟩ := exF [famI 111 fun x => .int .i64 (sg x)] ⟨famI_good ok111 (fun _ => rfl), trivial⟩ rfl
  refine fnT hb Tryz.func53 (ord := O0) (N := N0) (by kernel_rfl) ((F53_eq _ _ _ a.1 a.2 b.1 b.2 c.1 c.2).trans ?_)
  have e : callOf B 111 [.int .i64 (crsW (mnsW b a) (mnsW c a))] = _ := h111 _
  show optK (callOf B 111 [.int .i64 (crsW (mnsW b a) (mnsW c a))]) _ = _
  rw [e]
  rfl
theorem ok138 (s : Pt × Pt) (p : Pt) : OK2 138 [sdD s, ptD p] (.bool (hasW s.1 s.2 p)) := by
  obtain ⟨B, hb, h108, h140, h139, _⟩ := exF [famPPP 108 fun a b c => .int .i64 (trnW a b c), famPP 140 fun a b => ptD (mnsW a b), famPP 139 fun a b => .int .i64 (dtW a b)]
    ⟨famPPP_good ok108 (fun _ _ _ => rfl), famPP_good ok140 (fun _ _ => rfl), famPP_good ok139 (fun _ _ => rfl), trivial⟩ rfl
  refine fnT hb Tryz.func138 (ord := O0) (N := N0) (by kernel_rfl) ((F138_eq _ _ _ s.1.1 s.1.2 s.2.1 s.2.2 p.1 p.2).trans ?_)
  have e1 : callOf B 108 [ptD s.1, ptD s.2, ptD p] = _ := h108 (s.1, s.2, p)
  have e2 : callOf B 140 [ptD s.1, ptD p] = _ := h140 (s.1, p)
  have e3 : callOf B 140 [ptD s.2, ptD p] = _ := h140 (s.2, p)
  have e4 : callOf B 139 [ptD (mnsW s.1 p), ptD (mnsW s.2 p)] = _ := h139 (mnsW s.1 p, mnsW s.2 p)
  rw [e1]
  show ifK (trnW s.1 s.2 p == 0) (optK (callOf B 140 [ptD s.1, ptD p]) _) _ = _
  rw [e2]
  show ifK (trnW s.1 s.2 p == 0) (optK (callOf B 140 [ptD s.2, ptD p]) _) _ = _
  rw [e3]
  show ifK (trnW s.1 s.2 p == 0) (optK (callOf B 139 [ptD (mnsW s.1 p), ptD (mnsW s.2 p)]) _) _ = _
  rw [e4]
  unfold hasW
  cases trnW s.1 s.2 p == 0 <;> rfl
theorem ok174 (s t : Pt × Pt) : OK2 174 [sdD s, sdD t] (.bool (meetW s.1 s.2 t.1 t.2)) := by
  obtain ⟨B, hb, h108, h138, _⟩ := exF [famPPP 108 fun a b c => .int .i64 (trnW a b c), famSP 138 fun s p => .bool (hasW s.1 s.2 p)]
    ⟨famPPP_good ok108 (fun _ _ _ => rfl), famSP_good ok138 (fun _ _ => rfl), trivial⟩ rfl
  refine fnT hb Tryz.func174 (ord := O0) (N := N174) (by kernel_rfl) ((F174_eq _ _ _ s.1.1 s.1.2 s.2.1 s.2.2 t.1.1 t.1.2 t.2.1 t.2.2).trans ?_)
  have e1 : callOf B 138 [sdD s, ptD t.1] = _ := h138 (s, t.1)
  have e2 : callOf B 138 [sdD s, ptD t.2] = _ := h138 (s, t.2)
  have e3 : callOf B 138 [sdD t, ptD s.1] = _ := h138 (t, s.1)
  have e4 : callOf B 138 [sdD t, ptD s.2] = _ := h138 (t, s.2)
  have f1 : callOf B 108 [ptD s.1, ptD s.2, ptD t.1] = _ := h108 (s.1, s.2, t.1)
  have f2 : callOf B 108 [ptD s.1, ptD s.2, ptD t.2] = _ := h108 (s.1, s.2, t.2)
  have f3 : callOf B 108 [ptD t.1, ptD t.2, ptD s.1] = _ := h108 (t.1, t.2, s.1)
  have f4 : callOf B 108 [ptD t.1, ptD t.2, ptD s.2] = _ := h108 (t.1, t.2, s.2)
  have tail : F174_7 (callOf B) LL C1 s.1.1 s.1.2 s.2.1 s.2.2 t.1.1 t.1.2 t.2.1 t.2.2 = some (.bool (signs s.1 s.2 t.1 t.2)) := by
    rw [F174_7_eq _ _ _ _ _ _ _ _ _ _ _ c1, f1]
    show optK (callOf B 108 [ptD s.1, ptD s.2, ptD t.2]) _ = _
    rw [f2]
    show ifK (decide (w64 (trnW s.1 s.2 t.1 * trnW s.1 s.2 t.2) < 0)) (optK (callOf B 108 [ptD t.1, ptD t.2, ptD s.1]) _) _ = _
    rw [f3]
    show ifK (decide (w64 (trnW s.1 s.2 t.1 * trnW s.1 s.2 t.2) < 0)) (optK (callOf B 108 [ptD t.1, ptD t.2, ptD s.2]) _) _ = _
    rw [f4]
    unfold signs
    cases decide (w64 (trnW s.1 s.2 t.1 * trnW s.1 s.2 t.2) < 0) <;> rfl
  rw [e1]
  show ifK (hasW s.1 s.2 t.1) (some (D.bool true)) (optK (callOf B 138 [sdD s, ptD t.2]) _) = _
  rw [e2]
  show ifK (hasW s.1 s.2 t.1) (some (D.bool true)) (ifK (hasW s.1 s.2 t.2) (some (D.bool true)) (optK (callOf B 138 [sdD t, ptD s.1]) _)) = _
  rw [e3]
  show ifK (hasW s.1 s.2 t.1) (some (D.bool true)) (ifK (hasW s.1 s.2 t.2) (some (D.bool true)) (ifK (hasW t.1 t.2 s.1) (some (D.bool true)) (optK (callOf B 138 [sdD t, ptD s.2]) _))) = _
  rw [e4]
  show ifK (hasW s.1 s.2 t.1) (some (D.bool true)) (ifK (hasW s.1 s.2 t.2) (some (D.bool true)) (ifK (hasW t.1 t.2 s.1) (some (D.bool true)) (ifK (hasW t.1 t.2 s.2) (some (D.bool true)) (F174_7 (callOf B) LL C1 s.1.1 s.1.2 s.2.1 s.2.2 t.1.1 t.1.2 t.2.1 t.2.2)))) = _
  rw [tail]
  unfold meetW
  cases hasW s.1 s.2 t.1 <;> cases hasW s.1 s.2 t.2 <;> cases hasW t.1 t.2 s.1 <;> cases hasW t.1 t.2 s.2 <;> rfl
theorem ok112 (a b p : Pt) : OK2 112 [ptD a, ptD b, ptD p] (.bool (onW a b p)) := by
  obtain ⟨B, hb, h53, _⟩ := exF [famPPP 53 fun a b c => .int .i64 (trnW a b c)] ⟨famPPP_good ok53 (fun _ _ _ => rfl), trivial⟩ rfl
  refine fnT hb Tryz.func112 (ord := O0) (N := N0) (by kernel_rfl) ((F112_eq _ _ _ a.1 a.2 b.1 b.2 p.1 p.2).trans ?_)
  have e : callOf B 53 [ptD a, ptD b, ptD p] = _ := h53 (a, b, p)
  rw [e]
  unfold onW
  show ifK (trnW a b p == 0) _ _ = _
  generalize (trnW a b p == 0) = b1
  generalize decide ((if b.1 < a.1 then b.1 else a.1) ≤ p.1) = b2
  generalize decide (p.1 ≤ if b.1 > a.1 then b.1 else a.1) = b3
  generalize decide ((if b.2 < a.2 then b.2 else a.2) ≤ p.2) = b4
  cases b1 <;> cases b2 <;> cases b3 <;> cases b4 <;> rfl
theorem ok106 (a b c d : Pt) : OK2 106 [ptD a, ptD b, ptD c, ptD d] (.bool (meetR a b c d)) := by
  obtain ⟨B, hb, h53, h112, _⟩ := exF [famPPP 53 fun a b c => .int .i64 (trnW a b c), famPPP 112 fun a b c => D.bool (onW a b c)]
    ⟨famPPP_good ok53 (fun _ _ _ => rfl), famPPP_good ok112 (fun _ _ _ => rfl), trivial⟩ rfl
  refine fnT hb Tryz.func106 (ord := O0) (N := N106) (by kernel_rfl) ((F106_eq _ _ _ a.1 a.2 b.1 b.2 c.1 c.2 d.1 d.2).trans ?_)
  have e1 : callOf B 112 [ptD a, ptD b, ptD c] = _ := h112 (a, b, c)
  have e2 : callOf B 112 [ptD a, ptD b, ptD d] = _ := h112 (a, b, d)
  have e3 : callOf B 112 [ptD c, ptD d, ptD a] = _ := h112 (c, d, a)
  have e4 : callOf B 112 [ptD c, ptD d, ptD b] = _ := h112 (c, d, b)
  have f1 : callOf B 53 [ptD a, ptD b, ptD c] = _ := h53 (a, b, c)
  have f2 : callOf B 53 [ptD a, ptD b, ptD d] = _ := h53 (a, b, d)
  have f3 : callOf B 53 [ptD c, ptD d, ptD a] = _ := h53 (c, d, a)
  have f4 : callOf B 53 [ptD c, ptD d, ptD b] = _ := h53 (c, d, b)
  have tail : F106_7 (callOf B) LL C1 a.1 a.2 b.1 b.2 c.1 c.2 d.1 d.2 = some (.bool (signs a b c d)) := by
    rw [F106_7_eq _ _ _ _ _ _ _ _ _ _ _ c1, f1]
    show optK (callOf B 53 [ptD a, ptD b, ptD d]) _ = _
    rw [f2]
    show ifK (decide (w64 (trnW a b c * trnW a b d) < 0)) (optK (callOf B 53 [ptD c, ptD d, ptD a]) _) _ = _
    rw [f3]
    show ifK (decide (w64 (trnW a b c * trnW a b d) < 0)) (optK (callOf B 53 [ptD c, ptD d, ptD b]) _) _ = _
    rw [f4]
    unfold signs
    cases decide (w64 (trnW a b c * trnW a b d) < 0) <;> rfl
  rw [e1]
  show ifK (onW a b c) (some (D.bool true)) (optK (callOf B 112 [ptD a, ptD b, ptD d]) _) = _
  rw [e2]
  show ifK (onW a b c) (some (D.bool true)) (ifK (onW a b d) (some (D.bool true)) (optK (callOf B 112 [ptD c, ptD d, ptD a]) _)) = _
  rw [e3]
  show ifK (onW a b c) (some (D.bool true)) (ifK (onW a b d) (some (D.bool true)) (ifK (onW c d a) (some (D.bool true)) (optK (callOf B 112 [ptD c, ptD d, ptD b]) _))) = _
  rw [e4]
  show ifK (onW a b c) (some (D.bool true)) (ifK (onW a b d) (some (D.bool true)) (ifK (onW c d a) (some (D.bool true)) (ifK (onW c d b) (some (D.bool true)) (F106_7 (callOf B) LL C1 a.1 a.2 b.1 b.2 c.1 c.2 d.1 d.2)))) = _
  rw [tail]
  unfold meetR
  cases onW a b c <;> cases onW a b d <;> cases onW c d a <;> cases onW c d b <;> rfl
end Go.Pd
end
section
namespace Go.Pd
open Go Go.Proofs Go.RowKit
set_option maxRecDepth 100000
theorem ok84 (b : Bool) (e : Int) : OK2 84 [.bool b, .int .i64 e] (.int .i64 (ifK b e 0)) := fnT none_ok Tryz.func84 (ord := O0) (N := N0) (by kernel_rfl) ((F84_eq _ _ _ b e).trans (by cases b <;> rfl))
def firstZ : List Int → Int
  | [] => 0
  | x :: r => ifK (x != 0) x (firstZ r)
theorem go76 {call : CL} {f : Bool} {n : Nat} : ∀ (r pre : List Int) (fuel : Nat), (pre ++ r).length = n → n ≤ 1000 → r.length < fuel → F76_26 call LL C1 fuel f n (ints (pre ++ r)) n (pre.length : Int) = some (.int .i64 (firstZ r)) := by
  intro r
  induction r with
  | nil =>
    intro pre fuel hn hB hf
    cases fuel with
    | zero => exact absurd hf (Nat.not_lt_zero _)
    | succ fuel =>
      subst hn
      rw [F76_26_eq, end_pre, ifK_false]
      rfl
  | cons x r ih =>
    intro pre fuel hn hB hf
    cases fuel with
    | zero => exact absurd hf (Nat.not_lt_zero _)
    | succ fuel =>
      have ih := ih (pre ++ [x]) fuel (by rw [app1]; exact hn) hB (by simp at hf; omega)
      rw [app1] at ih
      subst hn
      rw [F76_26_eq, lt_pre, ifK_true, in_pre, chkK_true, cell_ints, intK_int, step_pre pre x r (by omega), ih]
      rw [show firstZ (x :: r) = ifK (x != 0) x (firstZ r) from rfl]
      cases x != 0 <;> rfl
theorem ok76 {f : Bool} (l : List Int) (hl : l.length ≤ 1000) : OK2 76 [.slc f l.length (ints l)] (.int .i64 (firstZ l)) :=
  fnT none_ok Tryz.func76 (ord := O0) (N := N76) (by kernel_rfl) ((F76_eq _ _ _ _ _ _).trans (go76 (f := f) l [] LL rfl hl (by unfold LL; omega)))
theorem ints_inj : ∀ {a b : List Int}, ints a = ints b → a = b
  | [], [], _ => rfl
  | [], y :: b, h => by cases h
  | x :: a, [], h => by cases h
  | x :: a, y :: b, h => by
    have h : D.int .i64 x :: ints a = D.int .i64 y :: ints b := h
    simp only [List.cons.injEq, D.int.injEq, true_and] at h
    rw [h.1, ints_inj h.2]
def famFi (k : FuncId) : Fam := ⟨k, {l : List Int // l.length ≤ 1000}, fun l => [.slc true l.1.length (ints l.1)], fun l => .int .i64 (firstZ l.1)⟩
theorem famFi_good {k : FuncId} (h : ∀ l : List Int, l.length ≤ 1000 → OK2 k [.slc true l.length (ints l)] (.int .i64 (firstZ l))) (hc : ∀ n c, cstG k [.slc true n c] = none) : (famFi k).Good :=
  ⟨fun l => h l.1 l.2, fun x y e => by
    have e : [D.slc true x.1.length (ints x.1)] = [D.slc true y.1.length (ints y.1)] := e
    simp only [List.cons.injEq, D.slc.injEq, true_and, and_true] at e
    show D.int .i64 (firstZ x.1) = .int .i64 (firstZ y.1)
    rw [ints_inj e.2], fun _ => hc _ _⟩
/-! ### Places out of range -/
def outN (n : Int) : Bool := ifK (decide (n < -1000000)) true (decide (n > 1000000))
def outP (p : Pt) : Bool := ifK (outN p.1) true (outN p.2)
def outLM (x : Int × Int × Int) : Bool := ifK (decide (x.1 < x.2.1)) true (decide (x.1 > x.2.2))
theorem ok100 (n a b : Int) : OK2 100 [.int .i64 n, .int .i64 a, .int .i64 b] (.bool (outLM (n, a, b))) :=
  fnT none_ok Tryz.func100 (ord := O0) (N := N0) (by kernel_rfl) ((F100_eq _ _ _ n a b).trans (by unfold outLM; cases decide (n < a) <;> rfl))
def fam100 : Fam := ⟨100, Int × Int × Int, fun x => [.int .i64 x.1, .int .i64 x.2.1, .int .i64 x.2.2], fun x => .bool (outLM x)⟩
theorem fam100_good : fam100.Good := ⟨fun x => ok100 x.1 x.2.1 x.2.2, fun x y e => by
  have e : [D.int .i64 x.1, .int .i64 x.2.1, .int .i64 x.2.2] = [D.int .i64 y.1, .int .i64 y.2.1, .int .i64 y.2.2] := e
  simp only [List.cons.injEq, D.int.injEq, true_and, and_true] at e
  show D.bool (outLM x) = .bool (outLM y)
  rw [show x = y from Prod.ext e.1 (Prod.ext e.2.1 e.2.2)], fun _ => rfl⟩
theorem ok90 (n : Int) : OK2 90 [.int .i64 n] (.bool (outN n)) :=
  fnT none_ok Tryz.func90 (ord := O0) (N := N0) (by kernel_rfl) ((F90_eq _ _ _ n).trans (by unfold outN; cases decide (n < -1000000) <;> rfl))
theorem ok24 (p : Pt) : OK2 24 [ptD p] (.int .i64 (ifK (outP p) 3 0)) := by
  obtain ⟨B, hb, h90, _⟩ := exF [famI 90 fun x => D.bool (outN x)] ⟨famI_good ok90 (fun _ => rfl), trivial⟩ rfl
  refine fnT hb Tryz.func24 (ord := O0) (N := N0) (by kernel_rfl) ((F24_eq _ _ _ p.1 p.2).trans ?_)
  have e1 : callOf B 90 [.int .i64 p.1] = _ := h90 p.1
  have e2 : callOf B 90 [.int .i64 p.2] = _ := h90 p.2
  rw [e1, e2]
  show ifK (outN p.1) _ (ifK (outN p.2) _ _) = _
  unfold outP
  cases outN p.1 <;> cases outN p.2 <;> rfl
theorem ok137 (p : Pt) : OK2 137 [ptD p] (.bool (outP p)) := by
  obtain ⟨B, hb, h100, _⟩ := exF [fam100] ⟨fam100_good, trivial⟩ rfl
  refine fnT hb Tryz.func137 (ord := O0) (N := N0) (by kernel_rfl) ((F137_eq _ _ _ p.1 p.2).trans ?_)
  have e1 : callOf B 100 [.int .i64 p.1, .int .i64 (-1000000), .int .i64 1000000] = _ := h100 (p.1, -1000000, 1000000)
  have e2 : callOf B 100 [.int .i64 p.2, .int .i64 (-1000000), .int .i64 1000000] = _ := h100 (p.2, -1000000, 1000000)
  rw [e1, e2]
  show ifK (outN p.1) _ (some (D.bool (outN p.2))) = _
  unfold outP
  cases outN p.1 <;> rfl
def famP (k : FuncId) (r : Pt → D) : Fam := ⟨k, Pt, fun x => [ptD x], fun x => r x⟩
theorem famP_good {k : FuncId} {r : Pt → D} (h : ∀ a, OK2 k [ptD a] (r a)) (hc : ∀ a, cstG k [ptD a] = none) : (famP k r).Good :=
  ⟨fun x => h x, fun x y e => by
    have e : [ptD x] = [ptD y] := e
    simp only [List.cons.injEq, and_true] at e
    show r x = r y
    rw [ptD_inj e], fun x => hc x⟩
def idxP : List Pt → Nat → Int
  | [], _ => -1
  | p :: r, i => ifK (outP p) i (idxP r (i + 1))
def ptsC (l : List Pt) : List D := l.flatMap ptC
theorem ptsC_app (a b : List Pt) : ptsC (a ++ b) = ptsC a ++ ptsC b := by simp [ptsC]
section
variable {γ : Type} (pre : List Pt) (x : Pt) (r : List Pt) {k : D → Option γ}
theorem q0 : cellK (ptsC (pre ++ x :: r)) (Int.toNat (pre.length : Int) * 2 + 0) k = k (.int .i64 x.1) := cell_row pre x r ptC 2 (fun _ => rfl) 0 (by omega) k
theorem q1 : cellK (ptsC (pre ++ x :: r)) (Int.toNat (pre.length : Int) * 2 + 1) k = k (.int .i64 x.2) := cell_row pre x r ptC 2 (fun _ => rfl) 1 (by omega) k
end
theorem go191 {call : CL} (h137 : ∀ p : Pt, call 137 [ptD p] = some (.bool (outP p))) {f : Bool} {n : Nat} : ∀ (r pre : List Pt) (fuel : Nat), (pre ++ r).length = n → n ≤ 1000 → r.length < fuel → F191_26 call LL C1 fuel f n (ptsC (pre ++ r)) n (pre.length : Int) = some (.int .i64 (idxP r pre.length)) := by
  intro r
  induction r with
  | nil =>
    intro pre fuel hn hB hf
    cases fuel with
    | zero => exact absurd hf (Nat.not_lt_zero _)
    | succ fuel =>
      subst hn
      rw [F191_26_eq, end_pre, ifK_false]
      rfl
  | cons x r ih =>
    intro pre fuel hn hB hf
    cases fuel with
    | zero => exact absurd hf (Nat.not_lt_zero _)
    | succ fuel =>
      have ih := ih (pre ++ [x]) fuel (by rw [app1]; exact hn) hB (by simp at hf; omega)
      rw [app1, List.length_append, List.length_singleton] at ih
      subst hn
      have e : call 137 [D.agg [.int .i64 x.1, .int .i64 x.2]] = _ := h137 x
      have hs := step_pre pre x r (by omega)
      rw [List.length_append, List.length_singleton] at hs
      rw [F191_26_eq, lt_pre, ifK_true, in_pre, chkK_true, q0, intK_int, q1, intK_int, e, optK_some, boolK_bool, hs, ih]
      rw [show idxP (x :: r) pre.length = ifK (outP x) (pre.length : Int) (idxP r (pre.length + 1)) from rfl]
      cases outP x <;> rfl
theorem idxP_ge : ∀ (l : List Pt) (i : Nat), decide (idxP l i ≥ 0) = l.any outP
  | [], _ => rfl
  | p :: r, i => by
    have := idxP_ge r (i + 1)
    rw [show idxP (p :: r) i = ifK (outP p) (i : Int) (idxP r (i + 1)) from rfl, List.any_cons]
    cases outP p
    · rw [ifK_false, Bool.false_or, this]
    · rw [ifK_true, Bool.true_or, decide_eq_true (by omega)]
theorem ok191 {f : Bool} (l : List Pt) (hl : l.length ≤ 1000) : OK2 191 [.slc f l.length (ptsC l), .fn (.func 137) [] []] (.int .i64 (idxP l 0)) := by
  obtain ⟨B, hb, h137, _⟩ := exF [famP 137 fun x => D.bool (outP x)] ⟨famP_good ok137 (fun _ => rfl), trivial⟩ rfl
  exact fnT hb Tryz.func191 (ord := O0) (N := N191) (by kernel_rfl) ((F191_eq _ _ _ _ _ _).trans (go191 (fun p => h137 p) (f := f) l [] LL rfl hl (by unfold LL; omega)))
theorem one_call {k : FuncId} {ds : List D} {r : D} (h : OK2 k ds r) (hc : cstG k ds = none) : ∃ B, CallsT B ∧ callOf B k ds = some r := by
  obtain ⟨B, hb, h1, _⟩ := exF [one k ds r] ⟨one_good h hc, trivial⟩ rfl
  exact ⟨B, hb, h1 ()⟩
theorem ok136 {f : Bool} (l : List Pt) (hl : l.length ≤ 1000) : OK2 136 [.slc f l.length (ptsC l), .fn (.func 137) [] []] (.bool (l.any outP)) := by
  obtain ⟨B, hb, e⟩ := one_call (ok191 (f := f) l hl) rfl
  refine fnT hb Tryz.func136 (ord := O0) (N := N0) (by kernel_rfl) ((F136_eq _ _ _ _ _ _).trans ?_)
  rw [e]
  show some (D.bool (decide (idxP l 0 ≥ 0))) = _
  rw [idxP_ge]
theorem ok77 {f : Bool} (l : List Pt) (hl : l.length ≤ 1000) : OK2 77 [.slc f l.length (ptsC l)] (.int .i64 (ifK (l.any outP) 3 0)) := by
  obtain ⟨B, hb, h136, h84, _⟩ := exF [one 136 [.slc f l.length (ptsC l), .fn (.func 137) [] []] (.bool (l.any outP)), famBE 84] ⟨one_good (ok136 l hl) rfl, famBE_good ok84 (fun _ _ => rfl), trivial⟩ rfl
  refine fnT hb Tryz.func77 (ord := O0) (N := N0) (by kernel_rfl) ((F77_eq _ _ _ _ _ _).trans ?_)
  have e1 : callOf B 136 [.slc f l.length (ptsC l), .fn (.func 137) [] []] = _ := h136 ()
  have e2 : callOf B 84 [.bool (l.any outP), .int .i64 3] = _ := h84 (l.any outP, 3)
  rw [e1]
  show optK (callOf B 84 [.bool (l.any outP), .int .i64 3]) _ = _
  rw [e2]
  rfl
/-! ### Sides -/
def ysS : Nat → List (Pt × Pt) → List (List D)
  | _, [] => []
  | i, s :: r => [.int .i64 i, sdD s] :: ysS (i + 1) r
theorem sdTo_len : ∀ (l : List Pt) (z : Pt), (sdTo l z).length = l.length
  | [], _ => rfl
  | [_], _ => rfl
  | x :: y :: r, z => by
    show (sdTo (y :: r) z).length + 1 = _
    rw [sdTo_len (y :: r) z]
    rfl
theorem sdL_len (l : List Pt) : (sdL l).length = l.length := by
  cases l with
  | nil => rfl
  | cons x r => exact sdTo_len (x :: r) x
theorem sdTo_get : ∀ (l : List Pt) (x z : Pt) (i : Nat), i ≤ l.length → (sdTo (x :: l) z)[i]? = some ((x :: l).getD i z, (x :: l).getD (i + 1) z)
  | [], x, z, i, h => by
    have : i = 0 := by simpa using h
    subst this
    rfl
  | y :: l, x, z, 0, _ => rfl
  | y :: l, x, z, i + 1, h => by
    show (sdTo (y :: l) z)[i]? = _
    rw [sdTo_get l y z i (by simpa using h)]
    rfl
theorem sdL_get (l : List Pt) (d : Pt) (i : Nat) (h : i < l.length) : (sdL l)[i]? = some (l.getD i d, l.getD ((i + 1) % l.length) d) := by
  cases l with
  | nil => simp at h
  | cons x r =>
    have hr : i ≤ r.length := by simpa using Nat.lt_succ_iff.1 h
    show (sdTo (x :: r) x)[i]? = _
    rw [sdTo_get r x x i hr]
    have h1 : (x :: r).getD i x = (x :: r).getD i d := by
      simp only [List.getD_eq_getElem?_getD]
      rw [List.getElem?_eq_getElem h]
      rfl
    have h2 : (x :: r).getD (i + 1) x = (x :: r).getD ((i + 1) % (x :: r).length) d := by
      by_cases hi : i + 1 < (x :: r).length
      · rw [Nat.mod_eq_of_lt hi]
        simp only [List.getD_eq_getElem?_getD]
        rw [List.getElem?_eq_getElem hi]
        rfl
      · have : i + 1 = (x :: r).length := by omega
        rw [this, Nat.mod_self]
        simp only [List.getD_eq_getElem?_getD]
        rw [List.getElem?_eq_none (Nat.le_refl _)]
        rfl
    rw [h1, h2]
theorem cells_at {γ : Type} (l : List Pt) (d : Pt) (i j : Nat) (hi : i < l.length) (hj : j < 2) {k : D → Option γ} : cellK (ptsC l) (i * 2 + j) k = k (.int .i64 (if j = 0 then (l.getD i d).1 else (l.getD i d).2)) := by
  have hsplit : l = l.take i ++ l.getD i d :: l.drop (i + 1) := by
    have h1 : l.getD i d = l[i] := by simp [List.getD_eq_getElem?_getD, List.getElem?_eq_getElem hi]
    rw [h1]
    simp
  have hlen : (l.take i).length = i := by simp; omega
  have h := cell_row (l.take i) (l.getD i d) (l.drop (i + 1)) ptC 2 (fun _ => rfl) j hj k
  rw [← hsplit, hlen, Int.toNat_natCast] at h
  refine h.trans ?_
  match j, hj with
  | 0, _ => rfl
  | 1, _ => rfl
theorem sidesGo_eq (l : List Pt) : ∀ (k i : Nat), i + k = l.length → sidesGo l.length (ptsC l) k i = some (ysS i ((sdL l).drop i))
  | 0, i, h => by
    rw [List.drop_eq_nil_of_le (by rw [sdL_len]; omega)]
    rfl
  | k + 1, i, h => by
    have hi : i < l.length := by omega
    have hm : (i + 1) % l.length < l.length := Nat.mod_lt _ (by omega)
    have hd : (sdL l).drop i = (l.getD i (0, 0), l.getD ((i + 1) % l.length) (0, 0)) :: (sdL l).drop (i + 1) := by
      have h1 := sdL_get l (0, 0) i hi
      obtain ⟨h2, h3⟩ := List.getElem?_eq_some_iff.1 h1
      rw [List.drop_eq_getElem_cons h2, h3]
    unfold sidesGo
    rw [cells_at l (0, 0) i 0 hi (by omega), intK_int, cells_at l (0, 0) i 1 hi (by omega), intK_int, cells_at l (0, 0) _ 0 hm (by omega), intK_int, cells_at l (0, 0) _ 1 hm (by omega), intK_int, sidesGo_eq l k (i + 1) (by omega), hd]
    rfl
theorem sq176 {f : Bool} (l : List Pt) (hl : l.length ≤ 1000) : sqT 176 [.snap [.slc f l.length (ptsC l)] 0] = some (ysS 0 (sdL l)) := by
  show chkK (decide (l.length < 4611686018427387904)) (sidesGo l.length (ptsC l) l.length 0) = _
  rw [decide_eq_true (by omega), chkK_true, sidesGo_eq l l.length 0 (by omega)]
  rfl
/-! ### What contains a place -/
def conGo (p : Pt) : List (Pt × Pt) → Int → Int
  | [], x => x
  | s :: r, x => ifK (hasW s.1 s.2 p) 0 (ifK (!decide (s.1.2 > p.2) == decide (s.2.2 > p.2)) (ifK (decide (trnW s.1 s.2 p > 0) == decide (s.2.2 > p.2)) (conGo p r (w64 (0 - x))) (conGo p r x)) (conGo p r x))
theorem go80 {call : CL} {sq : FuncId → List D → Option (List (List D))} (h138 : ∀ s p, call 138 [sdD s, ptD p] = some (.bool (hasW s.1 s.2 p))) (h108 : ∀ a b c, call 108 [ptD a, ptD b, ptD c] = some (.int .i64 (trnW a b c))) (p : Pt) :
    ∀ (l : List (Pt × Pt)) (i : Nat) (x : Int), F80_58 call LL C1 sq (ysS i l) p.1 p.2 x = some (.int .i64 (conGo p l x))
  | [], i, x => by
    show F80_58 call LL C1 sq [] p.1 p.2 x = _
    rw [F80_58_nil]
    rfl
  | s :: l, i, x => by
    have e1 := h138 s p
    have e2 := h108 s.1 s.2 p
    show F80_58 call LL C1 sq ([.int .i64 i, sdD s] :: ysS (i + 1) l) p.1 p.2 x = _
    rw [F80_58_cons]
    show optK (call 138 [sdD s, ptD p]) _ = _
    rw [e1]
    show ifK (hasW s.1 s.2 p) _ (ifK _ (optK (call 108 [ptD s.1, ptD s.2, ptD p]) _) _) = _
    rw [e2]
    show ifK (hasW s.1 s.2 p) _ (ifK _ (ifK _ (F80_58 call LL C1 sq (ysS (i + 1) l) p.1 p.2 (w64 (0 - x))) (F80_58 call LL C1 sq (ysS (i + 1) l) p.1 p.2 x)) (F80_58 call LL C1 sq (ysS (i + 1) l) p.1 p.2 x)) = _
    rw [go80 h138 h108 p l (i + 1) (w64 (0 - x)), go80 h138 h108 p l (i + 1) x]
    rw [show conGo p (s :: l) x = ifK (hasW s.1 s.2 p) 0 (ifK (!decide (s.1.2 > p.2) == decide (s.2.2 > p.2)) (ifK (decide (trnW s.1 s.2 p > 0) == decide (s.2.2 > p.2)) (conGo p l (w64 (0 - x))) (conGo p l x)) (conGo p l x)) from rfl]
    cases hasW s.1 s.2 p
    · cases (!decide (s.1.2 > p.2) == decide (s.2.2 > p.2))
      · rfl
      · cases (decide (trnW s.1 s.2 p > 0) == decide (s.2.2 > p.2)) <;> rfl
    · rfl
theorem ok80 {f : Bool} (l : List Pt) (p : Pt) (hl : l.length ≤ 1000) : OK2 80 [.slc f l.length (ptsC l), ptD p] (.int .i64 (conGo p (sdL l) (-1))) := by
  obtain ⟨B, hb, h138, h108, _⟩ := exF [famSP 138 fun s p => D.bool (hasW s.1 s.2 p), famPPP 108 fun a b c => .int .i64 (trnW a b c)]
    ⟨famSP_good ok138 (fun _ _ => rfl), famPPP_good ok108 (fun _ _ _ => rfl), trivial⟩ rfl
  refine fnS hb sqT_ok Tryz.func80 (ord := O0) (N := N80) (by kernel_rfl) ((F80_eq _ _ _ _ _ _ _ p.1 p.2).trans ?_)
  rw [sq176 l hl]
  exact go80 (fun s p => h138 (s, p)) (fun a b c => h108 (a, b, c)) p (sdL l) 0 (-1)
/-! ### Simple polygons -/
def cornB (a b c : Pt) : Bool := ifK (trnW a b c == 0) (decide (dtW (mnsW a b) (mnsW c b) > 0)) false
def inOK (n i : Nat) (s : Pt × Pt) : Nat → List (Pt × Pt) → Bool
  | _, [] => true
  | k, t :: r => ifK (decide (k ≤ i)) (inOK n i s (k + 1) r) (ifK (decide (k = i + 1)) (ifK (cornB s.1 s.2 t.2) false (inOK n i s (k + 1) r))
      (ifK (decide (i = 0 ∧ k + 1 = n)) (!cornB t.1 t.2 s.2) (ifK (meetW s.1 s.2 t.1 t.2) false (inOK n i s (k + 1) r))))
def outOK (n : Nat) (all : List (Pt × Pt)) : Nat → List (Pt × Pt) → Bool
  | _, [] => true
  | i, s :: r => ifK (decide (s.1 = s.2)) false (ifK (inOK n i s 0 all) (outOK n all (i + 1) r) false)
end Go.Pd
end
section
namespace Go.Pd
open Go Go.Proofs Go.RowKit
set_option maxRecDepth 100000
theorem nat_le_int (a b : Nat) : decide ((a : Int) ≤ (b : Int)) = decide (a ≤ b) := by rw [Bool.eq_iff_iff]; simp
theorem nat_beq_int (a b : Nat) : ((a : Int) == (b : Int)) = decide (a = b) := by rw [Bool.eq_iff_iff]; simp; omega
structure SimpC (call : CL) : Prop where
  h108 : ∀ a b c, call 108 [ptD a, ptD b, ptD c] = some (.int .i64 (trnW a b c))
  h140 : ∀ a b, call 140 [ptD a, ptD b] = some (ptD (mnsW a b))
  h139 : ∀ a b, call 139 [ptD a, ptD b] = some (.int .i64 (dtW a b))
  h174 : ∀ s t, call 174 [sdD s, sdD t] = some (.bool (meetW s.1 s.2 t.1 t.2))
theorem go107i {call : CL} (hc : SimpC call) {sq : FuncId → List D → Option (List (List D))} {ys : List (List D)} {f : Bool} {m : Nat} {c : List D} {n i : Nat} (hn : n ≤ 1000) (hi : i < n) (s : Pt × Pt) :
    ∀ (l : List (Pt × Pt)) (k : Nat), F107_6998 call LL C1 sq ys (ysS k l) f m c (n : Int) (i : Int) s.1.1 s.1.2 s.2.1 s.2.2 = ifK (inOK n i s k l) (F107_218 call LL C1 sq ys f m c (n : Int)) (some (D.bool false))
  | [], k => by
    show F107_6998 call LL C1 sq ys [] f m c (n : Int) (i : Int) s.1.1 s.1.2 s.2.1 s.2.2 = _
    rw [F107_6998_nil]
    rfl
  | t :: l, k => by
    have ih := go107i hc (sq := sq) (ys := ys) (f := f) (m := m) (c := c) hn hi s l (k + 1)
    have w1 : w64 ((i : Int) + 1) = ((i + 1 : Nat) : Int) := (wrap_in (by omega)).trans (by omega)
    have w2 : w64 ((n : Int) - 1) = ((n - 1 : Nat) : Int) := (wrap_in (by omega)).trans (by omega)
    have b0 : ((i : Int) == 0) = decide (i = 0) := nat_beq_int i 0
    show F107_6998 call LL C1 sq ys ([.int .i64 k, sdD t] :: ysS (k + 1) l) f m c (n : Int) (i : Int) s.1.1 s.1.2 s.2.1 s.2.2 = _
    rw [F107_6998_cons]
    show ifK (decide ((k : Int) ≤ (i : Int))) (F107_6998 call LL C1 sq ys (ysS (k + 1) l) f m c (n : Int) (i : Int) s.1.1 s.1.2 s.2.1 s.2.2)
      (ifK ((k : Int) == w64 ((i : Int) + 1)) (optK (call 108 [ptD s.1, ptD s.2, ptD t.2]) _) (ifK ((i : Int) == 0) (ifK ((k : Int) == w64 ((n : Int) - 1)) (optK (call 108 [ptD t.1, ptD t.2, ptD s.2]) _) (optK (call 174 [sdD s, sdD t]) _)) (optK (call 174 [sdD s, sdD t]) _))) = _
    rw [hc.h108 s.1 s.2 t.2, hc.h108 t.1 t.2 s.2, hc.h174 s t, w1, w2, b0, nat_beq_int, nat_beq_int, nat_le_int]
    show ifK (decide (k ≤ i)) _ (ifK (decide (k = i + 1)) (ifK (trnW s.1 s.2 t.2 == 0) (optK (call 140 [ptD s.1, ptD s.2]) _) _)
      (ifK (decide (i = 0)) (ifK (decide (k = n - 1)) (ifK (trnW t.1 t.2 s.2 == 0) (optK (call 140 [ptD t.1, ptD t.2]) _) _) _) _)) = _
    rw [hc.h140 s.1 s.2, hc.h140 t.1 t.2, hc.h140 t.2 s.2, hc.h140 s.2 t.2]
    show ifK (decide (k ≤ i)) _ (ifK (decide (k = i + 1)) (ifK (trnW s.1 s.2 t.2 == 0) (optK (call 139 [ptD (mnsW s.1 s.2), ptD (mnsW t.2 s.2)]) _) _)
      (ifK (decide (i = 0)) (ifK (decide (k = n - 1)) (ifK (trnW t.1 t.2 s.2 == 0) (optK (call 139 [ptD (mnsW t.1 t.2), ptD (mnsW s.2 t.2)]) _) _) _) _)) = _
    rw [hc.h139 (mnsW s.1 s.2) (mnsW t.2 s.2), hc.h139 (mnsW t.1 t.2) (mnsW s.2 t.2)]
    show ifK (decide (k ≤ i)) (F107_6998 call LL C1 sq ys (ysS (k + 1) l) f m c (n : Int) (i : Int) s.1.1 s.1.2 s.2.1 s.2.2)
      (ifK (decide (k = i + 1)) (ifK (trnW s.1 s.2 t.2 == 0) (ifK (decide (dtW (mnsW s.1 s.2) (mnsW t.2 s.2) > 0)) (some (D.bool false)) (F107_6998 call LL C1 sq ys (ysS (k + 1) l) f m c (n : Int) (i : Int) s.1.1 s.1.2 s.2.1 s.2.2)) (F107_6998 call LL C1 sq ys (ysS (k + 1) l) f m c (n : Int) (i : Int) s.1.1 s.1.2 s.2.1 s.2.2))
        (ifK (decide (i = 0)) (ifK (decide (k = n - 1)) (ifK (trnW t.1 t.2 s.2 == 0) (ifK (decide (dtW (mnsW t.1 t.2) (mnsW s.2 t.2) > 0)) (some (D.bool false)) (F107_218 call LL C1 sq ys f m c (n : Int))) (F107_218 call LL C1 sq ys f m c (n : Int)))
          (ifK (meetW s.1 s.2 t.1 t.2) (some (D.bool false)) (F107_6998 call LL C1 sq ys (ysS (k + 1) l) f m c (n : Int) (i : Int) s.1.1 s.1.2 s.2.1 s.2.2)))
          (ifK (meetW s.1 s.2 t.1 t.2) (some (D.bool false)) (F107_6998 call LL C1 sq ys (ysS (k + 1) l) f m c (n : Int) (i : Int) s.1.1 s.1.2 s.2.1 s.2.2)))) = _
    rw [ih]
    rw [show inOK n i s k (t :: l) = ifK (decide (k ≤ i)) (inOK n i s (k + 1) l) (ifK (decide (k = i + 1)) (ifK (cornB s.1 s.2 t.2) false (inOK n i s (k + 1) l))
      (ifK (decide (i = 0 ∧ k + 1 = n)) (!cornB t.1 t.2 s.2) (ifK (meetW s.1 s.2 t.1 t.2) false (inOK n i s (k + 1) l)))) from rfl]
    have e3 : decide (i = 0 ∧ k + 1 = n) = (decide (i = 0) && decide (k = n - 1)) := by
      rw [Bool.eq_iff_iff]; simp; omega
    rw [e3]
    unfold cornB
    cases decide (k ≤ i)
    · cases decide (k = i + 1)
      · cases decide (i = 0)
        · cases meetW s.1 s.2 t.1 t.2 <;> rfl
        · cases decide (k = n - 1)
          · cases meetW s.1 s.2 t.1 t.2 <;> rfl
          · cases trnW t.1 t.2 s.2 == 0
            · rfl
            · cases decide (dtW (mnsW t.1 t.2) (mnsW s.2 t.2) > 0) <;> rfl
      · cases trnW s.1 s.2 t.2 == 0
        · rfl
        · cases decide (dtW (mnsW s.1 s.2) (mnsW t.2 s.2) > 0) <;> rfl
    · rfl
theorem pt_beq (a b : Pt) : (a.1 == b.1 && (a.2 == b.2 && true)) = decide (a = b) := by
  rw [Bool.eq_iff_iff]
  simp only [Bool.and_true, Bool.and_eq_true, beq_iff_eq, decide_eq_true_eq]
  exact ⟨fun h => Prod.ext h.1 h.2, fun h => by rw [h]; exact ⟨rfl, rfl⟩⟩
theorem go107 {call : CL} (hc : SimpC call) {sq : FuncId → List D → Option (List (List D))} {f : Bool} {m : Nat} {c : List D} {n : Nat} (hn : n ≤ 1000) {all : List (Pt × Pt)} (hs : sq 176 [.snap [.slc f m c] 0] = some (ysS 0 all)) :
    ∀ (l : List (Pt × Pt)) (i : Nat), i + l.length ≤ n → F107_218 call LL C1 sq (ysS i l) f m c (n : Int) = some (.bool (outOK n all i l))
  | [], i, _ => by
    show F107_218 call LL C1 sq [] f m c (n : Int) = _
    rw [F107_218_nil]
    rfl
  | s :: l, i, hi => by
    have hi' : i + 1 + l.length ≤ n := by simp at hi; omega
    have ih := go107 hc hn hs l (i + 1) hi'
    show F107_218 call LL C1 sq ([.int .i64 i, sdD s] :: ysS (i + 1) l) f m c (n : Int) = _
    rw [F107_218_cons]
    show ifK (s.1.1 == s.2.1 && (s.1.2 == s.2.2 && true)) (some (D.bool false)) (optK (sq 176 [.snap [.slc f m c] 0]) fun ys2 => F107_6998 call LL C1 sq (ysS (i + 1) l) ys2 f m c (n : Int) (i : Int) s.1.1 s.1.2 s.2.1 s.2.2) = _
    rw [hs, optK_some, go107i hc hn (by omega) s all 0, ih, pt_beq]
    rw [show outOK n all i (s :: l) = ifK (decide (s.1 = s.2)) false (ifK (inOK n i s 0 all) (outOK n all (i + 1) l) false) from rfl]
    cases decide (s.1 = s.2)
    · cases inOK n i s 0 all <;> rfl
    · rfl
def simpB (l : List Pt) : Bool := outOK l.length (sdL l) 0 (sdL l)
theorem ok107 {f : Bool} (l : List Pt) (hl : l.length ≤ 1000) : OK2 107 [.slc f l.length (ptsC l)] (.bool (simpB l)) := by
  obtain ⟨B, hb, h108, h140, h139, h174, _⟩ := exF [famPPP 108 fun a b c => .int .i64 (trnW a b c), famPP 140 fun a b => ptD (mnsW a b), famPP 139 fun a b => .int .i64 (dtW a b), famSS 174 fun s t => D.bool (meetW s.1 s.2 t.1 t.2)]
    ⟨famPPP_good ok108 (fun _ _ _ => rfl), famPP_good ok140 (fun _ _ => rfl), famPP_good ok139 (fun _ _ => rfl), famSS_good ok174 (fun _ _ => rfl), trivial⟩ rfl
  refine fnS hb sqT_ok Tryz.func107 (ord := O0) (N := N107) (by kernel_rfl) ((F107_eq _ _ _ _ _ _ _).trans ?_)
  rw [sq176 l hl, optK_some]
  exact go107 ⟨fun a b c => h108 (a, b, c), fun a b => h140 (a, b), fun a b => h139 (a, b), fun s t => h174 (s, t)⟩ hl (sq176 l hl) (sdL l) 0 (by rw [sdL_len]; omega)
def polE (l : List Pt) : Int := firstZ [ifK (decide ((l.length : Int) < 3)) 2 0, ifK (decide ((l.length : Int) > 64)) 5 0, ifK (l.any outP) 3 0]
def polErr (l : List Pt) : Int := ifK (polE l != 0) (polE l) (ifK (!simpB l) 16 0)
theorem ok50 {f : Bool} (l : List Pt) (hl : l.length ≤ 1000) : OK2 50 [.slc f l.length (ptsC l)] (.int .i64 (polErr l)) := by
  obtain ⟨B, hb, h84, h77, h76, h107, _⟩ := exF [famBE 84, one 77 [.slc f l.length (ptsC l)] (.int .i64 (ifK (l.any outP) 3 0)), famFi 76, one 107 [.slc f l.length (ptsC l)] (.bool (simpB l))]
    ⟨famBE_good ok84 (fun _ _ => rfl), one_good (ok77 l hl) rfl, famFi_good (fun l hl => ok76 l hl) (fun _ _ => rfl), one_good (ok107 l hl) rfl, trivial⟩ rfl
  refine fnT hb Tryz.func50 (ord := O0) (N := N0) (by kernel_rfl) ((F50_eq _ _ _ _ _ _).trans ?_)
  have e1 : callOf B 84 [.bool (decide ((l.length : Int) < 3)), .int .i64 2] = _ := h84 (_, 2)
  have e2 : callOf B 84 [.bool (decide ((l.length : Int) > 64)), .int .i64 5] = _ := h84 (_, 5)
  have e3 : callOf B 77 [.slc f l.length (ptsC l)] = _ := h77 ()
  have e4 : callOf B 76 [.slc true 3 [.int .i64 (ifK (decide ((l.length : Int) < 3)) 2 0), .int .i64 (ifK (decide ((l.length : Int) > 64)) 5 0), .int .i64 (ifK (l.any outP) 3 0)]] = some (.int .i64 (polE l)) :=
    h76 ⟨[ifK (decide ((l.length : Int) < 3)) 2 0, ifK (decide ((l.length : Int) > 64)) 5 0, ifK (l.any outP) 3 0], by simp⟩
  have e5 : callOf B 107 [.slc f l.length (ptsC l)] = _ := h107 ()
  have e6 : callOf B 84 [.bool (!simpB l), .int .i64 16] = _ := h84 (_, 16)
  rw [e1]
  show optK (callOf B 84 [.bool (decide ((l.length : Int) > 64)), .int .i64 5]) _ = _
  rw [e2]
  show optK (callOf B 77 [.slc f l.length (ptsC l)]) _ = _
  rw [e3]
  show optK (callOf B 76 [.slc true 3 [.int .i64 (ifK (decide ((l.length : Int) < 3)) 2 0), .int .i64 (ifK (decide ((l.length : Int) > 64)) 5 0), .int .i64 (ifK (l.any outP) 3 0)]]) _ = _
  rw [e4]
  show ifK (polE l != 0) (some (D.int .i64 (polE l))) (optK (callOf B 107 [.slc f l.length (ptsC l)]) _) = _
  rw [e5]
  show ifK (polE l != 0) (some (D.int .i64 (polE l))) (optK (callOf B 84 [.bool (!simpB l), .int .i64 16]) _) = _
  rw [e6]
  unfold polErr
  cases polE l != 0 <;> rfl
def errOr (e x : Int) : D := .tup [.int .i64 (ifK (e != 0) 0 x), .int .i64 e]
theorem errOr_eq (e x : Int) : ifK (e != 0) (some (D.tup [D.int .i64 0, D.int .i64 e])) (some (D.tup [D.int .i64 x, D.int .i64 0])) = some (errOr e x) := by
  unfold errOr
  cases h : e != 0
  · have : e = 0 := by simpa using h
    subst this
    rfl
  · rfl
theorem one_pt {f : Bool} (p : Pt) : OK2 77 [.slc f 1 [.int .i64 p.1, .int .i64 p.2]] (.int .i64 (ifK (outP p) 3 0)) := by
  have := ok77 (f := f) [p] (by simp)
  rw [show [p].any outP = outP p by simp] at this
  exact this
def fam77a : Fam := ⟨77, Pt, fun p => [.slc true 1 [.int .i64 p.1, .int .i64 p.2]], fun p => .int .i64 (ifK (outP p) 3 0)⟩
theorem ok45 {f : Bool} (l : List Pt) (p : Pt) (hl : l.length ≤ 1000) : OK2 45 [.slc f l.length (ptsC l), ptD p] (errOr (firstZ [polErr l, ifK (outP p) 3 0]) (conGo p (sdL l) (-1))) := by
  obtain ⟨B, hb, h50, h77, h76, h80, _⟩ := exF [one 50 [.slc f l.length (ptsC l)] (.int .i64 (polErr l)), one 77 [.slc true 1 [.int .i64 p.1, .int .i64 p.2]] (.int .i64 (ifK (outP p) 3 0)), famFi 76, one 80 [.slc f l.length (ptsC l), ptD p] (.int .i64 (conGo p (sdL l) (-1)))]
    ⟨one_good (ok50 l hl) rfl, one_good (one_pt p) rfl, famFi_good (fun l hl => ok76 l hl) (fun _ _ => rfl), one_good (ok80 l p hl) rfl, trivial⟩ rfl
  refine fnT hb Tryz.func45 (ord := O0) (N := N0) (by kernel_rfl) ((F45_eq _ _ _ _ _ _ p.1 p.2).trans ?_)
  have e1 : callOf B 50 [.slc f l.length (ptsC l)] = _ := h50 ()
  have e2 : callOf B 77 [.slc true 1 [.int .i64 p.1, .int .i64 p.2]] = _ := h77 ()
  have e3 : callOf B 76 [.slc true 2 [.int .i64 (polErr l), .int .i64 (ifK (outP p) 3 0)]] = _ := h76 ⟨[polErr l, ifK (outP p) 3 0], by simp⟩
  have e4 : callOf B 80 [.slc f l.length (ptsC l), ptD p] = _ := h80 ()
  rw [e1]
  show optK (callOf B 77 [.slc true 1 [.int .i64 p.1, .int .i64 p.2]]) _ = _
  rw [e2]
  show optK (callOf B 76 [.slc true 2 [.int .i64 (polErr l), .int .i64 (ifK (outP p) 3 0)]]) _ = _
  rw [e3]
  show ifK (firstZ [polErr l, ifK (outP p) 3 0] != 0) _ (optK (callOf B 80 [.slc f l.length (ptsC l), ptD p]) _) = _
  rw [e4]
  exact errOr_eq _ _
def twiGo : List (Pt × Pt) → Int → Int
  | [], x => x
  | s :: r, x => twiGo r (w64 (x + crsW s.1 s.2))
def absW (x : Int) : Int := if w64 (0 - x) > x then w64 (0 - x) else x
theorem go52 {call : CL} {sq : FuncId → List D → Option (List (List D))} (h110 : ∀ a b, call 110 [ptD a, ptD b] = some (.int .i64 (crsW a b))) : ∀ (l : List (Pt × Pt)) (i : Nat) (x : Int), F52_122 call LL C1 sq (ysS i l) x = some (.tup [.int .i64 (absW (twiGo l x)), .int .i64 0])
  | [], i, x => by
    show F52_122 call LL C1 sq [] x = _
    rw [F52_122_nil]
    rfl
  | s :: l, i, x => by
    have e := h110 s.1 s.2
    show F52_122 call LL C1 sq ([.int .i64 i, sdD s] :: ysS (i + 1) l) x = _
    rw [F52_122_cons]
    show optK (call 110 [ptD s.1, ptD s.2]) _ = _
    rw [e]
    exact go52 h110 l (i + 1) _
theorem ok52 {f : Bool} (l : List Pt) (hl : l.length ≤ 1000) : OK2 52 [.slc f l.length (ptsC l)] (errOr (polErr l) (absW (twiGo (sdL l) 0))) := by
  obtain ⟨B, hb, h50, h110, _⟩ := exF [one 50 [.slc f l.length (ptsC l)] (.int .i64 (polErr l)), famPP 110 fun a b => .int .i64 (crsW a b)]
    ⟨one_good (ok50 l hl) rfl, famPP_good ok110 (fun _ _ => rfl), trivial⟩ rfl
  refine fnS hb sqT_ok Tryz.func52 (ord := O0) (N := N52) (by kernel_rfl) ((F52_eq _ _ _ _ _ _ _).trans ?_)
  have e1 : callOf B 50 [.slc f l.length (ptsC l)] = _ := h50 ()
  rw [e1]
  show ifK (polErr l != 0) _ (optK (sqT 176 [.snap [.slc f l.length (ptsC l)] 0]) _) = _
  rw [sq176 l hl, optK_some, go52 (fun a b => h110 (a, b)) (sdL l) 0 0]
  exact errOr_eq _ _
end Go.Pd
end
section
namespace Go.Pd
open Go Go.Proofs Go.RowKit
set_option maxRecDepth 100000
def pt (l : List Pt) (i : Nat) : Pt := l.getD i (0, 0)
section
variable {γ : Type} {l : List Pt} {j : Nat} {k : D → Option γ}
theorem cellA (hj : j < l.length) : cellK (ptsC l) (Int.toNat ((j : Nat) : Int) * 2 + 0) k = k (.int .i64 (pt l j).1) := by
  rw [Int.toNat_natCast, cells_at l (0, 0) j 0 hj (by omega)]
  rfl
theorem cellB (hj : j < l.length) : cellK (ptsC l) (Int.toNat ((j : Nat) : Int) * 2 + 1) k = k (.int .i64 (pt l j).2) := by
  rw [Int.toNat_natCast, cells_at l (0, 0) j 1 hj (by omega)]
  rfl
end
theorem in_nat {j n : Nat} (h : j < n) : decide ((0 : Int) ≤ ((j : Nat) : Int) ∧ ((j : Nat) : Int) < (n : Int)) = true := decide_eq_true ⟨Int.natCast_nonneg _, Int.ofNat_lt.2 h⟩
theorem wrap_add (i k : Nat) (h : i + k ≤ 4611686018427387904) : IntKind.wrap .i64 ((i : Int) + (k : Int)) = ((i + k : Nat) : Int) := (wrap_in (by omega)).trans (by omega)
theorem tmod_nat (j n : Nat) : Int.tmod ((j : Nat) : Int) ((n : Nat) : Int) = ((j % n : Nat) : Int) := rfl
theorem nz_nat {n : Nat} (h : 0 < n) : (!decide (((n : Nat) : Int) = 0)) = true := by simp; omega
theorem lt_nat {i n : Nat} (h : i < n) : decide (((i : Nat) : Int) < ((n : Nat) : Int)) = true := decide_eq_true (Int.ofNat_lt.2 h)
theorem nlt_nat (n : Nat) : decide (((n : Nat) : Int) < ((n : Nat) : Int)) = false := decide_eq_false (Int.lt_irrefl _)
theorem nat_bne_int (a b : Nat) : ((a : Int) != (b : Int)) = decide (a ≠ b) := by rw [Bool.eq_iff_iff]; simp; omega
theorem sdL_drop (l : List Pt) (i : Nat) (hi : i < l.length) : (sdL l).drop i = (pt l i, pt l ((i + 1) % l.length)) :: (sdL l).drop (i + 1) := by
  have h1 := sdL_get l (0, 0) i hi
  obtain ⟨h2, h3⟩ := List.getElem?_eq_some_iff.1 h1
  rw [List.drop_eq_getElem_cons h2, h3]
  rfl
theorem sdL_end (l : List Pt) : (sdL l).drop l.length = [] := List.drop_eq_nil_of_le (by rw [sdL_len]; omega)
/-! ### What contains a place -/
def crR (p : Pt) (s : Pt × Pt) : Bool := ifK (decide (s.1.2 > p.2)) (ifK (decide (s.2.2 ≤ p.2)) (ifK (decide (trnW s.1 s.2 p > 0)) true (ifK (decide (s.2.2 > p.2)) (ifK (decide (s.1.2 ≤ p.2)) (decide (trnW s.2 s.1 p > 0)) false) false)) (ifK (decide (s.2.2 > p.2)) (ifK (decide (s.1.2 ≤ p.2)) (decide (trnW s.2 s.1 p > 0)) false) false))
  (ifK (decide (s.2.2 > p.2)) (ifK (decide (s.1.2 ≤ p.2)) (decide (trnW s.2 s.1 p > 0)) false) false)
def conR (p : Pt) : List (Pt × Pt) → Bool → Int
  | [], odd => ifK odd 1 (-1)
  | s :: r, odd => ifK (onW s.1 s.2 p) 0 (conR p r (ifK (crR p s) (!odd) odd))
theorem go54 {call : CL} (h112 : ∀ a b c, call 112 [ptD a, ptD b, ptD c] = some (.bool (onW a b c))) (h53 : ∀ a b c, call 53 [ptD a, ptD b, ptD c] = some (.int .i64 (trnW a b c))) {f : Bool} (l : List Pt) (p : Pt) (hl : l.length ≤ 1000) :
    ∀ (k i fuel : Nat) (odd : Bool), i + k = l.length → k < fuel → F54_58 call LL C1 fuel f l.length (ptsC l) p.1 p.2 odd (i : Int) = some (.int .i64 (conR p ((sdL l).drop i) odd))
  | 0, i, fuel + 1, odd, h, _ => by
    have : i = l.length := by omega
    subst this
    rw [F54_58_eq, nlt_nat, ifK_false, sdL_end]
    cases odd <;> rfl
  | k + 1, i, fuel + 1, odd, h, hf => by
    have hi : i < l.length := by omega
    have hm : (i + 1) % l.length < l.length := Nat.mod_lt _ (by omega)
    have hw : IntKind.wrap .i64 ((i : Int) + 1) = ((i + 1 : Nat) : Int) := wrap_add i 1 (by omega)
    obtain ⟨a, ha⟩ : ∃ a, a = pt l i := ⟨_, rfl⟩
    obtain ⟨b, hb⟩ : ∃ b, b = pt l ((i + 1) % l.length) := ⟨_, rfl⟩
    have e7 : ∀ t : Bool, F54_7463 call LL C1 fuel f l.length (ptsC l) odd (i : Int) p.1 p.2 t = some (.int .i64 (conR p ((sdL l).drop (i + 1)) (ifK t (!odd) odd))) := fun t => by
      rw [F54_7463_eq _ _ _ _ _ _ _ _ _ _ _ _ c1, F54_467_eq _ _ _ _ _ _ _ _ _ _ _ c1, F54_467_eq _ _ _ _ _ _ _ _ _ _ _ c1, hw]
      cases t
      · exact go54 h112 h53 l p hl k (i + 1) fuel odd (by omega) (by omega)
      · exact go54 h112 h53 l p hl k (i + 1) fuel (!odd) (by omega) (by omega)
    rw [F54_58_eq, lt_nat hi, ifK_true, in_nat hi, chkK_true, cellA hi, intK_int, cellB hi, intK_int, nz_nat (by omega), chkK_true, hw, tmod_nat, in_nat hm, chkK_true, cellA hm, intK_int, cellB hm, intK_int, sdL_drop l i hi, ← ha, ← hb]
    show optK (call 112 [ptD a, ptD b, ptD p]) _ = _
    rw [h112, optK_some, boolK_bool]
    rw [show conR p ((a, b) :: (sdL l).drop (i + 1)) odd = ifK (onW a b p) 0 (conR p ((sdL l).drop (i + 1)) (ifK (crR p (a, b)) (!odd) odd)) from rfl]
    cases onW a b p
    · rw [ifK_false, ifK_false]
      show ifK (decide (a.2 > p.2)) (ifK (decide (b.2 ≤ p.2)) (optK (call 53 [ptD a, ptD b, ptD p]) _) (ifK (decide (b.2 > p.2)) (ifK (decide (a.2 ≤ p.2)) (optK (call 53 [ptD b, ptD a, ptD p]) _) _) _)) (ifK (decide (b.2 > p.2)) (ifK (decide (a.2 ≤ p.2)) (optK (call 53 [ptD b, ptD a, ptD p]) _) _) _) = _
      rw [h53 a b p, h53 b a p]
      simp only [optK_some, intK_int, e7]
      unfold crR
      cases decide (a.2 > p.2) <;> cases decide (b.2 ≤ p.2) <;> cases decide (b.2 > p.2) <;> cases decide (a.2 ≤ p.2) <;> cases decide (trnW a b p > 0) <;> rfl
    · rfl
theorem ok54 {f : Bool} (l : List Pt) (p : Pt) (hl : l.length ≤ 1000) : OK2 54 [.slc f l.length (ptsC l), ptD p] (.int .i64 (conR p (sdL l) false)) := by
  obtain ⟨B, hb, h112, h53, _⟩ := exF [famPPP 112 fun a b c => D.bool (onW a b c), famPPP 53 fun a b c => .int .i64 (trnW a b c)] ⟨famPPP_good ok112 (fun _ _ _ => rfl), famPPP_good ok53 (fun _ _ _ => rfl), trivial⟩ rfl
  exact fnT hb Tryz.func54 (ord := O54) (N := N54) (by kernel_rfl) ((F54_eq _ _ _ _ _ _ p.1 p.2).trans (go54 (fun a b c => h112 (a, b, c)) (fun a b c => h53 (a, b, c)) (f := f) l p hl l.length 0 LL false (by omega) (by unfold LL; omega)))
/-! ### Checks -/
def refIn (n i : Nat) (s : Pt × Pt) : Nat → List (Pt × Pt) → Bool
  | _, [] => true
  | k, t :: r => ifK (decide (k ≠ i)) (ifK (decide ((k + 1) % n ≠ i)) (ifK (decide ((i + 1) % n ≠ k)) (ifK (meetR s.1 s.2 t.1 t.2) false (refIn n i s (k + 1) r)) (refIn n i s (k + 1) r)) (refIn n i s (k + 1) r)) (refIn n i s (k + 1) r)
def refOut (l : List Pt) : Nat → List (Pt × Pt) → Bool
  | _, [] => true
  | i, s :: r => ifK (decide (s.1 = s.2)) false (ifK (cornB s.1 s.2 (pt l ((i + 2) % l.length))) false (ifK (refIn l.length i s 0 (sdL l)) (refOut l (i + 1) r) false))
theorem go49i {call : CL} (h106 : ∀ a b c d, call 106 [ptD a, ptD b, ptD c, ptD d] = some (.bool (meetR a b c d))) {f : Bool} (l : List Pt) (hl : l.length ≤ 1000) {i : Nat} (hi : i < l.length) (fu : Nat) :
    ∀ (m k fuel : Nat), k + m = l.length → m < fuel → F49_129614 call LL C1 fu fuel f l.length (ptsC l) (l.length : Int) (i : Int) (k : Int) =
      ifK (refIn l.length i (pt l i, pt l ((i + 1) % l.length)) k ((sdL l).drop k)) (F49_506 call LL C1 fu f l.length (ptsC l) (l.length : Int) ((i + 1 : Nat) : Int)) (some (.int .i64 16))
  | 0, k, fuel + 1, h, _ => by
    have : k = l.length := by omega
    subst this
    rw [F49_129614_eq, nlt_nat, ifK_false, sdL_end, show IntKind.wrap .i64 ((i : Int) + 1) = ((i + 1 : Nat) : Int) from wrap_add i 1 (by omega)]
    rfl
  | m + 1, k, fuel + 1, h, hf => by
    have hk : k < l.length := by omega
    have hmi : (i + 1) % l.length < l.length := Nat.mod_lt _ (by omega)
    have hmk : (k + 1) % l.length < l.length := Nat.mod_lt _ (by omega)
    have hwi : IntKind.wrap .i64 ((i : Int) + 1) = ((i + 1 : Nat) : Int) := wrap_add i 1 (by omega)
    have hwk : IntKind.wrap .i64 ((k : Int) + 1) = ((k + 1 : Nat) : Int) := wrap_add k 1 (by omega)
    have ih := go49i h106 (f := f) l hl hi fu m (k + 1) fuel (by omega) (by omega)
    rw [F49_129614_eq, lt_nat hk, ifK_true, nz_nat (by omega)]
    simp only [chkK_true, hwi, hwk, tmod_nat, in_nat hi, in_nat hk, in_nat hmi, in_nat hmk, cellA hi, cellB hi, cellA hk, cellB hk, cellA hmi, cellB hmi, cellA hmk, cellB hmk, intK_int, nat_bne_int]
    rw [sdL_drop l k hk]
    show ifK (decide (k ≠ i)) (ifK (decide ((k + 1) % l.length ≠ i)) (ifK (decide ((i + 1) % l.length ≠ k)) (optK (call 106 [ptD (pt l i), ptD (pt l ((i + 1) % l.length)), ptD (pt l k), ptD (pt l ((k + 1) % l.length))]) _) _) _) _ = _
    rw [h106]
    simp only [optK_some, boolK_bool, ih]
    rw [show refIn l.length i (pt l i, pt l ((i + 1) % l.length)) k ((pt l k, pt l ((k + 1) % l.length)) :: (sdL l).drop (k + 1)) = ifK (decide (k ≠ i)) (ifK (decide ((k + 1) % l.length ≠ i)) (ifK (decide ((i + 1) % l.length ≠ k)) (ifK (meetR (pt l i) (pt l ((i + 1) % l.length)) (pt l k) (pt l ((k + 1) % l.length))) false (refIn l.length i (pt l i, pt l ((i + 1) % l.length)) (k + 1) ((sdL l).drop (k + 1)))) (refIn l.length i (pt l i, pt l ((i + 1) % l.length)) (k + 1) ((sdL l).drop (k + 1)))) (refIn l.length i (pt l i, pt l ((i + 1) % l.length)) (k + 1) ((sdL l).drop (k + 1)))) (refIn l.length i (pt l i, pt l ((i + 1) % l.length)) (k + 1) ((sdL l).drop (k + 1))) from rfl]
    cases decide (k ≠ i)
    · rfl
    · cases decide ((k + 1) % l.length ≠ i)
      · rfl
      · cases decide ((i + 1) % l.length ≠ k)
        · rfl
        · cases meetR (pt l i) (pt l ((i + 1) % l.length)) (pt l k) (pt l ((k + 1) % l.length)) <;> rfl
theorem go49 {call : CL} (h106 : ∀ a b c d, call 106 [ptD a, ptD b, ptD c, ptD d] = some (.bool (meetR a b c d))) (h53 : ∀ a b c, call 53 [ptD a, ptD b, ptD c] = some (.int .i64 (trnW a b c))) {f : Bool} (l : List Pt) (hl : l.length ≤ 1000) :
    ∀ (m i fuel : Nat), i + m = l.length → m < fuel → F49_506 call LL C1 fuel f l.length (ptsC l) (l.length : Int) (i : Int) = some (.int .i64 (ifK (refOut l i ((sdL l).drop i)) 0 16))
  | 0, i, fuel + 1, h, _ => by
    have : i = l.length := by omega
    subst this
    rw [F49_506_eq, nlt_nat, ifK_false, sdL_end]
    rfl
  | m + 1, i, fuel + 1, h, hf => by
    have hi : i < l.length := by omega
    have hm1 : (i + 1) % l.length < l.length := Nat.mod_lt _ (by omega)
    have hm2 : (i + 2) % l.length < l.length := Nat.mod_lt _ (by omega)
    have hw1 : IntKind.wrap .i64 ((i : Int) + 1) = ((i + 1 : Nat) : Int) := wrap_add i 1 (by omega)
    have hw2 : IntKind.wrap .i64 ((i : Int) + 2) = ((i + 2 : Nat) : Int) := wrap_add i 2 (by omega)
    have ih := go49 h106 h53 (f := f) l hl m (i + 1) fuel (by omega) (by omega)
    have hin : F49_32403 call LL C1 fuel f l.length (ptsC l) (l.length : Int) (i : Int) = ifK (refIn l.length i (pt l i, pt l ((i + 1) % l.length)) 0 (sdL l)) (some (.int .i64 (ifK (refOut l (i + 1) ((sdL l).drop (i + 1))) 0 16))) (some (.int .i64 16)) := by
      rw [F49_32403_eq _ _ _ _ _ _ _ _ _ c1]
      refine (go49i h106 l hl hi fuel l.length 0 LL (by omega) (by unfold LL; omega)).trans ?_
      rw [ih, List.drop_zero]
    rw [F49_506_eq, lt_nat hi, ifK_true, nz_nat (by omega)]
    simp only [chkK_true, hw1, hw2, tmod_nat, in_nat hi, in_nat hm1, in_nat hm2, cellA hi, cellB hi, cellA hm1, cellB hm1, cellA hm2, cellB hm2, intK_int]
    rw [sdL_drop l i hi, hin]
    show ifK ((pt l i).1 == (pt l ((i + 1) % l.length)).1 && ((pt l i).2 == (pt l ((i + 1) % l.length)).2 && true)) _ (optK (call 53 [ptD (pt l i), ptD (pt l ((i + 1) % l.length)), ptD (pt l ((i + 2) % l.length))]) _) = _
    rw [h53, pt_beq]
    rw [show refOut l i ((pt l i, pt l ((i + 1) % l.length)) :: (sdL l).drop (i + 1)) = ifK (decide (pt l i = pt l ((i + 1) % l.length))) false (ifK (cornB (pt l i) (pt l ((i + 1) % l.length)) (pt l ((i + 2) % l.length))) false (ifK (refIn l.length i (pt l i, pt l ((i + 1) % l.length)) 0 (sdL l)) (refOut l (i + 1) ((sdL l).drop (i + 1))) false)) from rfl]
    show ifK _ (some (.int .i64 16)) (ifK (trnW (pt l i) (pt l ((i + 1) % l.length)) (pt l ((i + 2) % l.length)) == 0) (ifK (decide (dtW (mnsW (pt l i) (pt l ((i + 1) % l.length))) (mnsW (pt l ((i + 2) % l.length)) (pt l ((i + 1) % l.length))) > 0)) (some (D.int .i64 16)) _) _) = _
    unfold cornB
    cases decide (pt l i = pt l ((i + 1) % l.length))
    · cases trnW (pt l i) (pt l ((i + 1) % l.length)) (pt l ((i + 2) % l.length)) == 0
      · cases refIn l.length i (pt l i, pt l ((i + 1) % l.length)) 0 (sdL l) <;> rfl
      · cases decide (dtW (mnsW (pt l i) (pt l ((i + 1) % l.length))) (mnsW (pt l ((i + 2) % l.length)) (pt l ((i + 1) % l.length))) > 0)
        · cases refIn l.length i (pt l i, pt l ((i + 1) % l.length)) 0 (sdL l) <;> rfl
        · rfl
    · rfl
def refErr (l : List Pt) : Int := ifK (decide ((l.length : Int) < 3)) 2 (ifK (decide ((l.length : Int) > 64)) 5 (ifK (l.any outP) 3 (ifK (refOut l 0 (sdL l)) 0 16)))
theorem go49p {call : CL} (h24 : ∀ p, call 24 [ptD p] = some (.int .i64 (ifK (outP p) 3 0))) {f : Bool} {n : Nat} : ∀ (r pre : List Pt) (fuel : Nat), (pre ++ r).length = n → n ≤ 1000 → r.length < fuel →
    F49_122 call LL C1 fuel f n (ptsC (pre ++ r)) (pre.length : Int) = ifK (r.any outP) (some (.int .i64 3)) (F49_506 call LL C1 LL f n (ptsC (pre ++ r)) (n : Int) 0) := by
  intro r
  induction r with
  | nil =>
    intro pre fuel hn hB hf
    cases fuel with
    | zero => exact absurd hf (Nat.not_lt_zero _)
    | succ fuel =>
      subst hn
      rw [F49_122_eq, end_pre, ifK_false]
      rfl
  | cons x r ih =>
    intro pre fuel hn hB hf
    cases fuel with
    | zero => exact absurd hf (Nat.not_lt_zero _)
    | succ fuel =>
      have ih := ih (pre ++ [x]) fuel (by rw [app1]; exact hn) hB (by simp at hf; omega)
      rw [app1] at ih
      subst hn
      have e : call 24 [D.agg [.int .i64 x.1, .int .i64 x.2]] = _ := h24 x
      rw [F49_122_eq, lt_pre, ifK_true, in_pre, chkK_true, q0, intK_int, q1, intK_int, e, optK_some, intK_int, step_pre pre x r (by omega), ih, List.any_cons]
      cases outP x <;> rfl
theorem ok49 {f : Bool} (l : List Pt) (hl : l.length ≤ 1000) : OK2 49 [.slc f l.length (ptsC l)] (.int .i64 (refErr l)) := by
  obtain ⟨B, hb, h24, h53, h106, _⟩ := exF [famP 24 fun p => .int .i64 (ifK (outP p) 3 0), famPPP 53 fun a b c => .int .i64 (trnW a b c), ⟨106, Pt × Pt × Pt × Pt, fun x => [ptD x.1, ptD x.2.1, ptD x.2.2.1, ptD x.2.2.2], fun x => .bool (meetR x.1 x.2.1 x.2.2.1 x.2.2.2)⟩]
    ⟨famP_good ok24 (fun _ => rfl), famPPP_good ok53 (fun _ _ _ => rfl), ⟨fun x => ok106 x.1 x.2.1 x.2.2.1 x.2.2.2, fun x y e => by
      have e : [ptD x.1, ptD x.2.1, ptD x.2.2.1, ptD x.2.2.2] = [ptD y.1, ptD y.2.1, ptD y.2.2.1, ptD y.2.2.2] := e
      simp only [List.cons.injEq, and_true] at e
      show D.bool (meetR x.1 x.2.1 x.2.2.1 x.2.2.2) = .bool (meetR y.1 y.2.1 y.2.2.1 y.2.2.2)
      rw [ptD_inj e.1, ptD_inj e.2.1, ptD_inj e.2.2.1, ptD_inj e.2.2.2], fun _ => rfl⟩, trivial⟩ rfl
  refine fnT hb Tryz.func49 (ord := O49) (N := N49) (by kernel_rfl) ((F49_eq _ _ _ _ _ _).trans ?_)
  have e1 := go49p (call := callOf B) (fun p => h24 p) (f := f) l [] LL rfl hl (by unfold LL; omega)
  have e2 := go49 (call := callOf B) (fun a b c d => h106 (a, b, c, d)) (fun a b c => h53 (a, b, c)) (f := f) l hl l.length 0 LL (by omega) (by unfold LL; omega)
  rw [show (([] : List Pt).length : Int) = 0 from rfl, List.nil_append] at e1
  rw [e1]
  rw [show ((0 : Nat) : Int) = 0 from rfl, List.drop_zero] at e2
  rw [e2]
  unfold refErr
  cases decide ((l.length : Int) < 3)
  · cases decide ((l.length : Int) > 64)
    · cases l.any outP <;> rfl
    · rfl
  · rfl
end Go.Pd
end
section
namespace Go.Pd
open Go Go.Proofs Go.RowKit
set_option maxRecDepth 100000
def InP (p : Pt) : Prop := -1000000 ≤ p.1 ∧ p.1 ≤ 1000000 ∧ -1000000 ≤ p.2 ∧ p.2 ≤ 1000000
theorem outN_false {n : Int} (h : outN n = false) : -1000000 ≤ n ∧ n ≤ 1000000 := by
  unfold outN at h
  rw [ifK_eq] at h
  split at h
  · cases h
  · simp at h; rename_i h2; simp at h2; omega
theorem inP_of {p : Pt} (h : outP p = false) : InP p := by
  unfold outP at h
  rw [ifK_eq] at h
  split at h
  · cases h
  · rename_i h2
    have h1 := outN_false (by simpa using h2)
    have h3 := outN_false h
    exact ⟨h1.1, h1.2, h3.1, h3.2⟩
theorem mul_bd {a b : Int} {A B : Nat} (ha : a.natAbs ≤ A) (hb : b.natAbs ≤ B) : (a * b).natAbs ≤ A * B := by
  rw [Int.natAbs_mul]
  exact Nat.mul_le_mul ha hb
theorem mns_eq {a b : Pt} (ha : InP a) (hb : InP b) : mnsW a b = mns a b := by
  obtain ⟨a1, a2, a3, a4⟩ := ha
  obtain ⟨b1, b2, b3, b4⟩ := hb
  unfold mnsW mns w64
  rw [wrap_in (by omega), wrap_in (by omega)]
def InD (p : Pt) : Prop := p.1.natAbs ≤ 2000000 ∧ p.2.natAbs ≤ 2000000
theorem mns_in {a b : Pt} (ha : InP a) (hb : InP b) : InD (mns a b) := by
  obtain ⟨a1, a2, a3, a4⟩ := ha
  obtain ⟨b1, b2, b3, b4⟩ := hb
  unfold InD mns
  constructor <;> dsimp only <;> omega
theorem crs_eq {a b : Pt} (ha : InD a) (hb : InD b) : crsW a b = crs a b := by
  have h1 := mul_bd ha.1 hb.2
  have h2 := mul_bd ha.2 hb.1
  unfold crsW crs w64
  rw [wrap_in (show _ ≤ a.1 * b.2 ∧ _ by omega), wrap_in (show _ ≤ a.2 * b.1 ∧ _ by omega), wrap_in (by omega)]
theorem dt_eq {a b : Pt} (ha : InD a) (hb : InD b) : dtW a b = dt a b := by
  have h1 := mul_bd ha.1 hb.1
  have h2 := mul_bd ha.2 hb.2
  unfold dtW dt w64
  rw [wrap_in (show _ ≤ a.1 * b.1 ∧ _ by omega), wrap_in (show _ ≤ a.2 * b.2 ∧ _ by omega), wrap_in (by omega)]
theorem trn_eq {a b c : Pt} (ha : InP a) (hb : InP b) (hc : InP c) : trnW a b c = trn a b c := by
  unfold trnW trn
  rw [mns_eq hb ha, mns_eq hc ha, crs_eq (mns_in hb ha) (mns_in hc ha)]
theorem sg_bd (n : Int) : -1 ≤ sg n ∧ sg n ≤ 1 := by unfold sg; split <;> (try split) <;> omega
theorem beq_dec (x : Int) : (x == 0) = decide (x = 0) := by rw [Bool.eq_iff_iff]; simp
theorem has_eq {a b p : Pt} (ha : InP a) (hb : InP b) (hp : InP p) : hasW a b p = hasP a b p := by
  unfold hasW hasP
  rw [trn_eq ha hb hp, mns_eq ha hp, mns_eq hb hp, dt_eq (mns_in ha hp) (mns_in hb hp), beq_dec]
  cases decide (trn a b p = 0) <;> rfl
theorem on_eq {a b p : Pt} (ha : InP a) (hb : InP b) (hp : InP p) : onW a b p = hasP a b p := by
  rw [has_on]
  unfold onW onP
  rw [trn_eq ha hb hp, beq_dec]
  have m1 : (if b.1 < a.1 then b.1 else a.1) = min a.1 b.1 := by split <;> omega
  have m2 : (if b.1 > a.1 then b.1 else a.1) = max a.1 b.1 := by split <;> omega
  have m3 : (if b.2 < a.2 then b.2 else a.2) = min a.2 b.2 := by split <;> omega
  have m4 : (if b.2 > a.2 then b.2 else a.2) = max a.2 b.2 := by split <;> omega
  rw [m1, m2, m3, m4]
  cases decide (trn a b p = 0) <;> cases decide (min a.1 b.1 ≤ p.1) <;> cases decide (p.1 ≤ max a.1 b.1) <;> cases decide (min a.2 b.2 ≤ p.2) <;> rfl
theorem signs_eq {a b c d : Pt} (ha : InP a) (hb : InP b) (hc : InP c) (hd : InP d) : signs a b c d = (decide (trn a b c * trn a b d < 0) && decide (trn c d a * trn c d b < 0)) := by
  unfold signs w64
  rw [trn_eq ha hb hc, trn_eq ha hb hd, trn_eq hc hd ha, trn_eq hc hd hb]
  have bd : ∀ x y : Int, (-1 ≤ x ∧ x ≤ 1) → (-1 ≤ y ∧ y ≤ 1) → IntKind.wrap .i64 (x * y) = x * y := fun x y hx hy => by
    have := @mul_bd x y 1 1 (by omega) (by omega)
    exact wrap_in (by omega)
  have tb : ∀ a b c : Pt, -1 ≤ trn a b c ∧ trn a b c ≤ 1 := fun a b c => sg_bd _
  rw [bd _ _ (tb a b c) (tb a b d), bd _ _ (tb c d a) (tb c d b)]
  cases decide (trn a b c * trn a b d < 0) <;> rfl
theorem meetW_eq {a b c d : Pt} (ha : InP a) (hb : InP b) (hc : InP c) (hd : InP d) : meetW a b c d = meetP a b c d := by
  unfold meetW meetP
  rw [has_eq ha hb hc, has_eq ha hb hd, has_eq hc hd ha, has_eq hc hd hb, signs_eq ha hb hc hd]
  cases hasP a b c <;> cases hasP a b d <;> cases hasP c d a <;> cases hasP c d b <;> rfl
theorem meetR_eq {a b c d : Pt} (ha : InP a) (hb : InP b) (hc : InP c) (hd : InP d) : meetR a b c d = meetP a b c d := by
  unfold meetR meetP
  rw [on_eq ha hb hc, on_eq ha hb hd, on_eq hc hd ha, on_eq hc hd hb, signs_eq ha hb hc hd]
  cases hasP a b c <;> cases hasP a b d <;> cases hasP c d a <;> cases hasP c d b <;> rfl
/-! ### What contains a place -/
theorem sdTo_mem : ∀ (l : List Pt) (z : Pt) (s : Pt × Pt), s ∈ sdTo l z → s.1 ∈ l ∧ (s.2 ∈ l ∨ s.2 = z)
  | [], _, _, h => by cases h
  | [x], z, s, h => by
    have : s = (x, z) := by simpa [sdTo] using h
    subst this
    exact ⟨List.mem_cons_self .., .inr rfl⟩
  | x :: y :: r, z, s, h => by
    rcases List.mem_cons.1 (show s ∈ (x, y) :: sdTo (y :: r) z from h) with rfl | h
    · exact ⟨List.mem_cons_self .., .inl (List.mem_cons_of_mem _ (List.mem_cons_self ..))⟩
    · obtain ⟨h1, h2⟩ := sdTo_mem (y :: r) z s h
      exact ⟨List.mem_cons_of_mem _ h1, h2.imp (fun h => List.mem_cons_of_mem _ h) id⟩
theorem sdL_mem {l : List Pt} {s : Pt × Pt} (h : s ∈ sdL l) : s.1 ∈ l ∧ s.2 ∈ l := by
  cases l with
  | nil => cases h
  | cons x r =>
    obtain ⟨h1, h2⟩ := sdTo_mem (x :: r) x s h
    exact ⟨h1, h2.elim id fun e => by rw [e]; exact List.mem_cons_self ..⟩
theorem any_out {l : List Pt} (h : l.any outP = false) : ∀ p ∈ l, InP p := fun p hp => inP_of (by
  rw [List.any_eq_false] at h
  simpa using h p hp)
theorem conGo_eq {p : Pt} (hp : InP p) : ∀ (L : List (Pt × Pt)), (∀ s ∈ L, InP s.1 ∧ InP s.2) → ∀ b : Bool, conGo p L (ifK b 1 (-1)) = ifK (L.any fun s => hasP s.1 s.2 p) 0 (ifK (b ^^ xorL (cr1 p) L) 1 (-1))
  | [], _, b => by cases b <;> rfl
  | s :: L, h, b => by
    obtain ⟨h1, h2⟩ := h s (List.mem_cons_self ..)
    have ih := conGo_eq hp L fun t ht => h t (List.mem_cons_of_mem _ ht)
    rw [show conGo p (s :: L) (ifK b 1 (-1)) = ifK (hasW s.1 s.2 p) 0 (ifK (!decide (s.1.2 > p.2) == decide (s.2.2 > p.2)) (ifK (decide (trnW s.1 s.2 p > 0) == decide (s.2.2 > p.2)) (conGo p L (w64 (0 - ifK b 1 (-1)))) (conGo p L (ifK b 1 (-1)))) (conGo p L (ifK b 1 (-1)))) from rfl]
    rw [has_eq h1 h2 hp, trn_eq h1 h2 hp, show w64 (0 - ifK b 1 (-1)) = ifK (!b) 1 (-1) by cases b <;> exact wrap_in (by decide), ih (!b), ih b, List.any_cons]
    rw [show xorL (cr1 p) (s :: L) = (((decide (s.1.2 > p.2) != decide (s.2.2 > p.2)) && (decide (trn s.1 s.2 p > 0) == decide (s.2.2 > p.2))) ^^ xorL (cr1 p) L) from rfl]
    cases hasP s.1 s.2 p
    · rw [ifK_false, Bool.false_or]
      cases (L.any fun s => hasP s.1 s.2 p)
      · cases decide (s.1.2 > p.2) <;> cases decide (s.2.2 > p.2) <;> cases decide (trn s.1 s.2 p > 0) <;> cases b <;> cases xorL (cr1 p) L <;> rfl
      · cases decide (s.1.2 > p.2) <;> cases decide (s.2.2 > p.2) <;> cases decide (trn s.1 s.2 p > 0) <;> rfl
    · rfl
theorem crR_eq {p : Pt} (hp : InP p) {s : Pt × Pt} (h1 : InP s.1) (h2 : InP s.2) : crR p s = cr2 p s := by
  unfold crR cr2
  rw [trn_eq h1 h2 hp, trn_eq h2 h1 hp]
  cases decide (s.1.2 > p.2) <;> cases decide (s.2.2 ≤ p.2) <;> cases decide (s.2.2 > p.2) <;> cases decide (s.1.2 ≤ p.2) <;> cases decide (trn s.1 s.2 p > 0) <;> cases decide (trn s.2 s.1 p > 0) <;> rfl
theorem conR_eq {p : Pt} (hp : InP p) : ∀ (L : List (Pt × Pt)), (∀ s ∈ L, InP s.1 ∧ InP s.2) → ∀ b : Bool, conR p L b = ifK (L.any fun s => hasP s.1 s.2 p) 0 (ifK (b ^^ xorL (cr2 p) L) 1 (-1))
  | [], _, b => by cases b <;> rfl
  | s :: L, h, b => by
    obtain ⟨h1, h2⟩ := h s (List.mem_cons_self ..)
    have ih := conR_eq hp L fun t ht => h t (List.mem_cons_of_mem _ ht)
    rw [show conR p (s :: L) b = ifK (onW s.1 s.2 p) 0 (conR p L (ifK (crR p s) (!b) b)) from rfl, on_eq h1 h2 hp, crR_eq hp h1 h2, ih, List.any_cons, show xorL (cr2 p) (s :: L) = (cr2 p s ^^ xorL (cr2 p) L) from rfl]
    cases hasP s.1 s.2 p
    · rw [ifK_false, Bool.false_or]
      cases (L.any fun s => hasP s.1 s.2 p) <;> cases cr2 p s <;> cases b <;> cases xorL (cr2 p) L <;> rfl
    · rfl
theorem con_same {l : List Pt} {p : Pt} (hl : l.any outP = false) (hp : outP p = false) : conGo p (sdL l) (-1) = conR p (sdL l) false := by
  have hP := inP_of hp
  have hL : ∀ s ∈ sdL l, InP s.1 ∧ InP s.2 := fun s hs => ⟨any_out hl _ (sdL_mem hs).1, any_out hl _ (sdL_mem hs).2⟩
  have e1 := conGo_eq hP (sdL l) hL false
  rw [ifK_false] at e1
  rw [e1, conR_eq hP (sdL l) hL false]
  cases h : (sdL l).any fun s => hasP s.1 s.2 p
  · rw [cross_same fun s hs => by
      rw [List.any_eq_false] at h
      simpa using h s hs]
  · rfl
/-! ### Simple polygons -/
theorem outOK_iff {n : Nat} {all : List (Pt × Pt)} : ∀ (L : List (Pt × Pt)) (i : Nat), outOK n all i L = true ↔ ∀ (j : Nat) (s : Pt × Pt), L[j]? = some s → s.1 ≠ s.2 ∧ inOK n (i + j) s 0 all = true
  | [], i => ⟨fun _ j s h => by simp at h, fun _ => rfl⟩
  | s :: L, i => by
    rw [show outOK n all i (s :: L) = ifK (decide (s.1 = s.2)) false (ifK (inOK n i s 0 all) (outOK n all (i + 1) L) false) from rfl]
    have ih := outOK_iff (n := n) (all := all) L (i + 1)
    constructor
    · intro h
      by_cases e : s.1 = s.2
      · rw [decide_eq_true e] at h; cases h
      · rw [decide_eq_false e, ifK_false] at h
        cases hi : inOK n i s 0 all
        · rw [hi] at h; cases h
        · rw [hi, ifK_true] at h
          intro j t ht
          cases j with
          | zero => simp at ht; subst ht; exact ⟨e, hi⟩
          | succ j =>
            have := ih.1 h j t (by simpa using ht)
            rw [show i + (j + 1) = i + 1 + j by omega]
            exact this
    · intro h
      obtain ⟨h1, h2⟩ := h 0 s rfl
      rw [decide_eq_false h1, ifK_false]
      rw [Nat.add_zero] at h2
      rw [h2, ifK_true]
      refine ih.2 fun j t ht => ?_
      have := h (j + 1) t (by simpa using ht)
      rw [show i + 1 + j = i + (j + 1) by omega]
      exact this
def PairOK (n i : Nat) (s : Pt × Pt) (q : Nat) (t : Pt × Pt) : Prop :=
  (q = i + 1 → cornB s.1 s.2 t.2 = false) ∧ (i + 1 < q → (i = 0 ∧ q + 1 = n) → cornB t.1 t.2 s.2 = false) ∧ (i + 1 < q → ¬ (i = 0 ∧ q + 1 = n) → meetW s.1 s.2 t.1 t.2 = false)
theorem inOK_iff {n i : Nat} {s : Pt × Pt} : ∀ (L : List (Pt × Pt)) (k : Nat), k + L.length = n → (inOK n i s k L = true ↔ ∀ (j : Nat) (t : Pt × Pt), L[j]? = some t → PairOK n i s (k + j) t)
  | [], k, _ => ⟨fun _ j s h => by simp at h, fun _ => rfl⟩
  | t :: L, k, hn => by
    rw [show inOK n i s k (t :: L) = ifK (decide (k ≤ i)) (inOK n i s (k + 1) L) (ifK (decide (k = i + 1)) (ifK (cornB s.1 s.2 t.2) false (inOK n i s (k + 1) L))
      (ifK (decide (i = 0 ∧ k + 1 = n)) (!cornB t.1 t.2 s.2) (ifK (meetW s.1 s.2 t.1 t.2) false (inOK n i s (k + 1) L)))) from rfl]
    have hn' : k + 1 + L.length = n := by simp at hn; omega
    have ih := inOK_iff (n := n) (i := i) (s := s) L (k + 1) hn'
    have split : (∀ (j : Nat) (t' : Pt × Pt), (t :: L)[j]? = some t' → PairOK n i s (k + j) t') ↔ PairOK n i s k t ∧ inOK n i s (k + 1) L = true := by
      rw [ih]
      constructor
      · intro h
        refine ⟨h 0 t rfl, fun j t' ht => ?_⟩
        have := h (j + 1) t' (by simpa using ht)
        rw [show k + 1 + j = k + (j + 1) by omega]
        exact this
      · rintro ⟨h1, h2⟩ j t' ht
        cases j with
        | zero => simp at ht; subst ht; exact h1
        | succ j =>
          have := h2 j t' (by simpa using ht)
          rw [show k + (j + 1) = k + 1 + j by omega]
          exact this
    rw [split]
    by_cases c1 : k ≤ i
    · rw [decide_eq_true c1, ifK_true]
      exact ⟨fun h => ⟨⟨fun e => by omega, fun e => by omega, fun e => by omega⟩, h⟩, fun h => h.2⟩
    · rw [decide_eq_false c1, ifK_false]
      by_cases c2 : k = i + 1
      · rw [decide_eq_true c2, ifK_true]
        cases hc : cornB s.1 s.2 t.2
        · rw [ifK_false]
          exact ⟨fun h => ⟨⟨fun _ => hc, fun e => by omega, fun e => by omega⟩, h⟩, fun h => h.2⟩
        · rw [ifK_true]
          exact ⟨fun h => (by cases h), fun h => by rw [h.1.1 c2] at hc; cases hc⟩
      · rw [decide_eq_false c2, ifK_false]
        by_cases c3 : i = 0 ∧ k + 1 = n
        · rw [decide_eq_true c3, ifK_true]
          have hL : L = [] := List.length_eq_zero_iff.1 (by omega)
          subst hL
          constructor
          · intro h
            exact ⟨⟨fun e => absurd e c2, fun _ _ => by simpa using h, fun _ e => absurd c3 e⟩, rfl⟩
          · intro h
            rw [h.1.2.1 (by omega) c3]
            rfl
        · rw [decide_eq_false c3, ifK_false]
          cases hm : meetW s.1 s.2 t.1 t.2
          · rw [ifK_false]
            exact ⟨fun h => ⟨⟨fun e => absurd e c2, fun _ e => absurd e c3, fun _ _ => hm⟩, h⟩, fun h => h.2⟩
          · rw [ifK_true]
            exact ⟨fun h => (by cases h), fun h => by rw [h.1.2.2 (by omega) c3] at hm; cases hm⟩
theorem refIn_iff {n i : Nat} {s : Pt × Pt} : ∀ (L : List (Pt × Pt)) (k : Nat), (refIn n i s k L = true ↔ ∀ (j : Nat) (t : Pt × Pt), L[j]? = some t → k + j ≠ i → (k + j + 1) % n ≠ i → (i + 1) % n ≠ k + j → meetR s.1 s.2 t.1 t.2 = false)
  | [], k => ⟨fun _ j s h => by simp at h, fun _ => rfl⟩
  | t :: L, k => by
    rw [show refIn n i s k (t :: L) = ifK (decide (k ≠ i)) (ifK (decide ((k + 1) % n ≠ i)) (ifK (decide ((i + 1) % n ≠ k)) (ifK (meetR s.1 s.2 t.1 t.2) false (refIn n i s (k + 1) L)) (refIn n i s (k + 1) L)) (refIn n i s (k + 1) L)) (refIn n i s (k + 1) L) from rfl]
    have ih := refIn_iff (n := n) (i := i) (s := s) L (k + 1)
    have split : (∀ (j : Nat) (t' : Pt × Pt), (t :: L)[j]? = some t' → k + j ≠ i → (k + j + 1) % n ≠ i → (i + 1) % n ≠ k + j → meetR s.1 s.2 t'.1 t'.2 = false) ↔ (k ≠ i → (k + 1) % n ≠ i → (i + 1) % n ≠ k → meetR s.1 s.2 t.1 t.2 = false) ∧ refIn n i s (k + 1) L = true := by
      rw [ih]
      constructor
      · intro h
        refine ⟨h 0 t rfl, fun j t' ht => ?_⟩
        have := h (j + 1) t' (by simpa using ht)
        rw [show k + 1 + j = k + (j + 1) by omega]
        exact this
      · rintro ⟨h1, h2⟩ j t' ht
        cases j with
        | zero => simp at ht; subst ht; exact h1
        | succ j =>
          have := h2 j t' (by simpa using ht)
          rw [show k + (j + 1) = k + 1 + j by omega]
          exact this
    rw [split]
    by_cases c1 : k ≠ i
    · rw [decide_eq_true c1, ifK_true]
      by_cases c2 : (k + 1) % n ≠ i
      · rw [decide_eq_true c2, ifK_true]
        by_cases c3 : (i + 1) % n ≠ k
        · rw [decide_eq_true c3, ifK_true]
          cases hm : meetR s.1 s.2 t.1 t.2
          · rw [ifK_false]
            exact ⟨fun h => ⟨fun _ _ _ => rfl, h⟩, fun h => h.2⟩
          · rw [ifK_true]
            exact ⟨fun h => (by cases h), fun h => by have := h.1 c1 c2 c3; cases this⟩
        · rw [decide_eq_false c3, ifK_false]
          exact ⟨fun h => ⟨fun _ _ e => absurd e c3, h⟩, fun h => h.2⟩
      · rw [decide_eq_false c2, ifK_false]
        exact ⟨fun h => ⟨fun _ e _ => absurd e c2, h⟩, fun h => h.2⟩
    · rw [decide_eq_false c1, ifK_false]
      exact ⟨fun h => ⟨fun e _ _ => absurd e c1, h⟩, fun h => h.2⟩
theorem refOut_iff {l : List Pt} : ∀ (L : List (Pt × Pt)) (i : Nat), refOut l i L = true ↔ ∀ (j : Nat) (s : Pt × Pt), L[j]? = some s → s.1 ≠ s.2 ∧ cornB s.1 s.2 (pt l ((i + j + 2) % l.length)) = false ∧ refIn l.length (i + j) s 0 (sdL l) = true
  | [], i => ⟨fun _ j s h => by simp at h, fun _ => rfl⟩
  | s :: L, i => by
    rw [show refOut l i (s :: L) = ifK (decide (s.1 = s.2)) false (ifK (cornB s.1 s.2 (pt l ((i + 2) % l.length))) false (ifK (refIn l.length i s 0 (sdL l)) (refOut l (i + 1) L) false)) from rfl]
    have ih := refOut_iff (l := l) L (i + 1)
    constructor
    · intro h
      by_cases e : s.1 = s.2
      · rw [decide_eq_true e] at h; cases h
      · rw [decide_eq_false e, ifK_false] at h
        cases hc : cornB s.1 s.2 (pt l ((i + 2) % l.length))
        · rw [hc, ifK_false] at h
          cases hi : refIn l.length i s 0 (sdL l)
          · rw [hi] at h; cases h
          · rw [hi, ifK_true] at h
            intro j t ht
            cases j with
            | zero => simp at ht; subst ht; exact ⟨e, hc, hi⟩
            | succ j =>
              have := ih.1 h j t (by simpa using ht)
              rw [show i + (j + 1) = i + 1 + j by omega]
              exact this
        · rw [hc] at h; cases h
    · intro h
      obtain ⟨h1, h2, h3⟩ := h 0 s rfl
      rw [Nat.add_zero] at h2 h3
      rw [decide_eq_false h1, ifK_false, h2, ifK_false, h3, ifK_true]
      refine ih.2 fun j t ht => ?_
      have := h (j + 1) t (by simpa using ht)
      rw [show i + 1 + j = i + (j + 1) by omega]
      exact this
theorem sdL_at {l : List Pt} {i : Nat} (h : i < l.length) : (sdL l)[i]? = some (pt l i, pt l ((i + 1) % l.length)) := sdL_get l (0, 0) i h
theorem sdL_lt {l : List Pt} {i : Nat} {s : Pt × Pt} (h : (sdL l)[i]? = some s) : i < l.length := by
  have := (List.getElem?_eq_some_iff.1 h).1
  rw [sdL_len] at this
  exact this
structure SimpP (l : List Pt) : Prop where
  ne : ∀ i, i < l.length → pt l i ≠ pt l ((i + 1) % l.length)
  corn : ∀ i, i < l.length → cornB (pt l i) (pt l ((i + 1) % l.length)) (pt l ((i + 2) % l.length)) = false
  meet : ∀ i q, i < l.length → q < l.length → q ≠ i → (q + 1) % l.length ≠ i → (i + 1) % l.length ≠ q → meetP (pt l i) (pt l ((i + 1) % l.length)) (pt l q) (pt l ((q + 1) % l.length)) = false
theorem pt_in {l : List Pt} (hl : ∀ p ∈ l, InP p) {i : Nat} (h : i < l.length) : InP (pt l i) := hl _ (by
  unfold pt
  rw [List.getD_eq_getElem?_getD, List.getElem?_eq_getElem h]
  exact List.getElem_mem h)
theorem simp_iff {l : List Pt} (h3 : 3 ≤ l.length) (hl : ∀ p ∈ l, InP p) : simpB l = true ↔ SimpP l := by
  have hmod : ∀ j, j % l.length < l.length := fun j => Nat.mod_lt _ (by omega)
  have hin : ∀ j, InP (pt l (j % l.length)) := fun j => pt_in hl (hmod j)
  unfold simpB
  rw [outOK_iff]
  have key : ∀ i, i < l.length → (inOK l.length i (pt l i, pt l ((i + 1) % l.length)) 0 (sdL l) = true ↔ ∀ q, q < l.length → PairOK l.length i (pt l i, pt l ((i + 1) % l.length)) q (pt l q, pt l ((q + 1) % l.length))) := fun i hi => by
    rw [inOK_iff (sdL l) 0 (by rw [sdL_len]; omega)]
    constructor
    · intro h q hq
      have := h q _ (sdL_at hq)
      rwa [Nat.zero_add] at this
    · intro h j t ht
      have hj := sdL_lt ht
      rw [sdL_at hj] at ht
      cases ht
      rw [Nat.zero_add]
      exact h j hj
  constructor
  · intro h
    have hh : ∀ i, i < l.length → pt l i ≠ pt l ((i + 1) % l.length) ∧ ∀ q, q < l.length → PairOK l.length i (pt l i, pt l ((i + 1) % l.length)) q (pt l q, pt l ((q + 1) % l.length)) := fun i hi => by
      obtain ⟨h1, h2⟩ := h i _ (sdL_at hi)
      rw [Nat.zero_add] at h2
      exact ⟨h1, (key i hi).1 h2⟩
    have half : ∀ i q, i < q → q < l.length → (q + 1) % l.length ≠ i → (i + 1) % l.length ≠ q → meetP (pt l i) (pt l ((i + 1) % l.length)) (pt l q) (pt l ((q + 1) % l.length)) = false := fun i q hiq hq h4 h5 => by
      have hi : i < l.length := by omega
      have h6 : (i + 1) % l.length = i + 1 := Nat.mod_eq_of_lt (by omega)
      have h7 := ((hh i hi).2 q hq).2.2 (by omega) (fun e => by
        rw [e.2, Nat.mod_self] at h4
        exact h4 e.1.symm)
      rw [← meetW_eq (pt_in hl hi) (hin _) (pt_in hl hq) (hin _)]
      exact h7
    refine ⟨fun i hi => (hh i hi).1, fun i hi => ?_, fun i q hi hq h4 h5 h6 => ?_⟩
    · by_cases e : i + 1 < l.length
      · have := ((hh i hi).2 (i + 1) e).1 rfl
        rw [show i + 1 + 1 = i + 2 by omega] at this
        exact this
      · have e1 : i + 1 = l.length := by omega
        have h7 := ((hh 0 (by omega)).2 i hi).2.1 (by omega) ⟨rfl, e1⟩
        rw [show (i + 2) % l.length = (0 + 1) % l.length by rw [show i + 2 = l.length + 1 by omega, Nat.add_mod_left]]
        exact h7
    · rcases Nat.lt_or_gt_of_ne h4 with hlt | hlt
      · rw [← meet_comm]
        exact half q i hlt hi h6 h5
      · exact half i q hlt hq h5 h6
  · intro h j s hs
    have hj := sdL_lt hs
    rw [sdL_at hj] at hs
    cases hs
    rw [Nat.zero_add]
    refine ⟨h.ne j hj, (key j hj).2 fun q hq => ⟨fun e => ?_, fun h1 e => ?_, fun h1 e => ?_⟩⟩
    · subst e
      have := h.corn j hj
      show cornB (pt l j) (pt l ((j + 1) % l.length)) (pt l ((j + 1 + 1) % l.length)) = false
      exact this
    · have := h.corn q hq
      obtain ⟨rfl, e2⟩ := e
      rw [show (q + 2) % l.length = (0 + 1) % l.length by rw [show q + 2 = l.length + 1 by omega, Nat.add_mod_left]] at this
      exact this
    · show meetW _ _ _ _ = false
      rw [meetW_eq (pt_in hl hj) (hin _) (pt_in hl hq) (hin _)]
      have h6 : (j + 1) % l.length = j + 1 := Nat.mod_eq_of_lt (by omega)
      refine h.meet j q hj hq (by omega) (fun e2 => ?_) (by omega)
      by_cases e3 : q + 1 < l.length
      · rw [Nat.mod_eq_of_lt e3] at e2; omega
      · have e4 : q + 1 = l.length := by omega
        rw [e4, Nat.mod_self] at e2
        exact e ⟨e2.symm, e4⟩
theorem ref_iff {l : List Pt} (h3 : 3 ≤ l.length) (hl : ∀ p ∈ l, InP p) : refOut l 0 (sdL l) = true ↔ SimpP l := by
  have hmod : ∀ j, j % l.length < l.length := fun j => Nat.mod_lt _ (by omega)
  have hin : ∀ j, InP (pt l (j % l.length)) := fun j => pt_in hl (hmod j)
  rw [refOut_iff]
  constructor
  · intro h
    have hh : ∀ i, i < l.length → _ := fun i hi => h i _ (sdL_at hi)
    refine ⟨fun i hi => (hh i hi).1, fun i hi => ?_, fun i q hi hq h4 h5 h6 => ?_⟩
    · have := (hh i hi).2.1
      rw [Nat.zero_add] at this
      exact this
    · have h7 := (hh i hi).2.2
      rw [Nat.zero_add, refIn_iff] at h7
      have := h7 q _ (sdL_at hq) (by omega) (by rw [Nat.zero_add]; exact h5) (by rw [Nat.zero_add]; exact h6)
      rw [← meetR_eq (pt_in hl hi) (hin _) (pt_in hl hq) (hin _)]
      exact this
  · intro h j s hs
    have hj := sdL_lt hs
    rw [sdL_at hj] at hs
    cases hs
    rw [Nat.zero_add]
    refine ⟨h.ne j hj, h.corn j hj, (refIn_iff _ _).2 fun q t ht h4 h5 h6 => ?_⟩
    have hq := sdL_lt ht
    rw [sdL_at hq] at ht
    cases ht
    rw [Nat.zero_add] at h4 h5 h6
    show meetR _ _ _ _ = false
    rw [meetR_eq (pt_in hl hj) (hin _) (pt_in hl hq) (hin _)]
    exact h.meet j q hj hq h4 h5 h6
theorem simp_same {l : List Pt} (h3 : 3 ≤ l.length) (hl : ∀ p ∈ l, InP p) : simpB l = refOut l 0 (sdL l) := by
  rw [Bool.eq_iff_iff, simp_iff h3 hl, ref_iff h3 hl]
theorem poly_same (l : List Pt) : polErr l = refErr l := by
  unfold polErr polE refErr
  by_cases h1 : (l.length : Int) < 3
  · rw [decide_eq_true h1]; rfl
  · rw [decide_eq_false h1]
    by_cases h2 : (l.length : Int) > 64
    · rw [decide_eq_true h2]; rfl
    · rw [decide_eq_false h2]
      cases h3 : l.any outP
      · rw [simp_same (by omega) (any_out h3)]
        cases refOut l 0 (sdL l) <;> rfl
      · rfl
theorem polErr_zero {l : List Pt} (h : polErr l = 0) : 3 ≤ l.length ∧ l.length ≤ 64 ∧ l.any outP = false ∧ SimpP l := by
  rw [poly_same] at h
  unfold refErr at h
  by_cases h1 : (l.length : Int) < 3
  · rw [decide_eq_true h1] at h; cases h
  · rw [decide_eq_false h1, ifK_false] at h
    by_cases h2 : (l.length : Int) > 64
    · rw [decide_eq_true h2] at h; cases h
    · rw [decide_eq_false h2, ifK_false] at h
      cases h3 : l.any outP
      · rw [h3, ifK_false] at h
        refine ⟨by omega, by omega, rfl, (ref_iff (by omega) (any_out h3)).1 ?_⟩
        cases h4 : refOut l 0 (sdL l)
        · rw [h4] at h; cases h
        · rfl
      · rw [h3] at h; cases h
end Go.Pd
end
