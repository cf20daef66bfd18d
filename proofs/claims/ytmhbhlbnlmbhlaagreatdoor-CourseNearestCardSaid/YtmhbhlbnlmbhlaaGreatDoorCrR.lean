/-
  Chapter 2: the place of relief is the nearest one.
  Chapter 2: the law of nearness, as equations.
  CourseNearest: the place of relief is the nearest one that fits.
-/
import Derived.Test.YtmhbhlbnlmbhlaaGreatDoorCrL
import Derived.Test.YtmhbhlbnlmbhlaaGreatDoorCrA
import Derived.KernelRfl
import Derived.Test.YtmhbhlbnlmbhlaaGreatDoorCrN
import Derived.Test.YtmhbhlbnlmbhlaaGreatDoorCrI
section
namespace Go.Pd
open Go Go.Proofs Go.RowKit
set_option maxRecDepth 100000
def lexLt (a b : Pt) : Prop := a.1 < b.1 ∨ (a.1 = b.1 ∧ a.2 < b.2)
def candY (x : Int) : Nat → Int → List Pt
  | 0, _ => []
  | n + 1, y => (x, y) :: candY x n (y + 1)
def candX (p : Pt) (reach : Int) : Nat → Int → List Pt
  | 0, _ => []
  | n + 1, x => candY x (2 * reach + 1).toNat (p.2 - reach) ++ candX p reach n (x + 1)
def cand (p : Pt) (reach : Int) : List Pt := candX p reach (2 * reach + 1).toNat (p.1 - reach)
theorem candY_in {x : Int} : ∀ (n : Nat) (y : Int) (q : Pt), q ∈ candY x n y → q.1 = x ∧ y ≤ q.2
  | n + 1, y, q, h => by
    rcases List.mem_cons.1 h with rfl | h
    · exact ⟨rfl, Int.le_refl _⟩
    · have := candY_in n (y + 1) q h
      omega
theorem candX_in {p : Pt} {reach : Int} : ∀ (n : Nat) (x : Int) (q : Pt), q ∈ candX p reach n x → x ≤ q.1
  | n + 1, x, q, h => by
    rcases List.mem_append.1 h with h | h
    · have := candY_in _ _ q h
      omega
    · have := candX_in n (x + 1) q h
      omega
theorem candY_mem {x : Int} : ∀ (n : Nat) (y y' : Int), y ≤ y' → y' < y + n → (x, y') ∈ candY x n y
  | 0, y, y', h1, h2 => by omega
  | n + 1, y, y', h1, h2 => by
    by_cases e : y' = y
    · subst e; exact List.mem_cons_self ..
    · exact List.mem_cons_of_mem _ (candY_mem n (y + 1) y' (by omega) (by omega))
theorem candX_mem {p : Pt} {reach : Int} {q : Pt} (h2 : p.2 - reach ≤ q.2 ∧ q.2 ≤ p.2 + reach) : ∀ (n : Nat) (x : Int), x ≤ q.1 → q.1 < x + n → q ∈ candX p reach n x
  | 0, x, h3, h4 => by omega
  | n + 1, x, h3, h4 => by
    by_cases e : q.1 = x
    · subst e
      exact List.mem_append.2 (.inl (candY_mem (2 * reach + 1).toNat (p.2 - reach) q.2 h2.1 (by omega)))
    · exact List.mem_append.2 (.inr (candX_mem h2 n (x + 1) (by omega) (by omega)))
theorem cand_mem {p q : Pt} {reach : Int} (h1 : p.1 - reach ≤ q.1 ∧ q.1 ≤ p.1 + reach) (h2 : p.2 - reach ≤ q.2 ∧ q.2 ≤ p.2 + reach) : q ∈ cand p reach :=
  candX_mem h2 _ _ h1.1 (by omega)
theorem candY_sorted {x : Int} : ∀ (n : Nat) (y : Int), (candY x n y).Pairwise lexLt
  | 0, _ => List.Pairwise.nil
  | n + 1, y => List.Pairwise.cons (fun q hq => by
      have := candY_in n (y + 1) q hq
      exact .inr ⟨this.1.symm, by show y < q.2; omega⟩) (candY_sorted n (y + 1))
theorem candX_sorted {p : Pt} {reach : Int} : ∀ (n : Nat) (x : Int), (candX p reach n x).Pairwise lexLt
  | 0, _ => List.Pairwise.nil
  | n + 1, x => List.pairwise_append.2 ⟨candY_sorted _ _, candX_sorted n (x + 1), fun a ha b hb => by
      have h1 := candY_in _ _ a ha
      have h2 := candX_in n (x + 1) b hb
      exact .inl (by omega)⟩
section
variable {h : Hl} {p : Pt} {kind : ByteArray} {reach : Int}
def fitR (h : Hl) (p : Pt) (kind : ByteArray) (reach : Int) (q : Pt) : Bool := ifK (decide (sqW q p > w64 (reach * reach))) false (ifK (outP q) false (ifK (decide (sqW q h.cup < sqW p h.cup)) false (ifK (!seqB (locP h q).1 kind) (!seqB (locP h q).1 outS) false)))
theorem relP_fit (q : Pt) (S : Bool × Pt) : relP h p kind reach q S = ifK (fitR h p kind reach q) (ifK (S.1 && decide (sqW q p ≥ sqW S.2 p)) S (true, q)) S := by
  unfold relP fitR
  cases decide (sqW q p > w64 (reach * reach)) <;> cases outP q <;> cases decide (sqW q h.cup < sqW p h.cup) <;> cases (S.1 && decide (sqW q p ≥ sqW S.2 p)) <;> cases !seqB (locP h q).1 kind <;> cases !seqB (locP h q).1 outS <;> rfl
def foldP (h : Hl) (p : Pt) (kind : ByteArray) (reach : Int) (l : List Pt) (S : Bool × Pt) : Bool × Pt := l.foldl (fun S q => relP h p kind reach q S) S
theorem relY_fold (x : Int) : ∀ (n : Nat) (y : Int) (S : Bool × Pt), relY h p kind reach x n y S = foldP h p kind reach (candY x n y) S
  | 0, _, _ => rfl
  | n + 1, y, S => relY_fold x n (y + 1) (relP h p kind reach (x, y) S)
theorem relX_fold : ∀ (n : Nat) (x : Int) (S : Bool × Pt), relX h p kind reach n x S = foldP h p kind reach (candX p reach n x) S
  | 0, _, _ => rfl
  | n + 1, x, S => by
    show relX h p kind reach n (x + 1) (relY h p kind reach x (2 * reach + 1).toNat (p.2 - reach) S) = _
    rw [relY_fold, relX_fold n]
    unfold foldP
    rw [show candX p reach (n + 1) x = candY x (2 * reach + 1).toNat (p.2 - reach) ++ candX p reach n (x + 1) from rfl, List.foldl_append]
theorem relS_fold : relS h p kind reach = foldP h p kind reach (cand p reach) (false, (0, 0)) := relX_fold _ _ _
def Bet (p b q : Pt) : Prop := sqW b p < sqW q p ∨ (sqW b p = sqW q p ∧ (b = q ∨ lexLt b q))
structure Best (h : Hl) (p : Pt) (kind : ByteArray) (reach : Int) (seen : List Pt) (S : Bool × Pt) : Prop where
  n : S.1 = false → ∀ q ∈ seen, fitR h p kind reach q = false
  s : S.1 = true → S.2 ∈ seen ∧ fitR h p kind reach S.2 = true ∧ ∀ q ∈ seen, fitR h p kind reach q = true → Bet p S.2 q
theorem best_step {seen : List Pt} {S : Bool × Pt} {q : Pt} (hB : Best h p kind reach seen S) (hl : ∀ a ∈ seen, lexLt a q) : Best h p kind reach (seen ++ [q]) (relP h p kind reach q S) := by
  rw [relP_fit]
  cases hf : fitR h p kind reach q
  · rw [ifK_false]
    refine ⟨fun h1 a ha => ?_, fun h1 => ?_⟩
    · rcases List.mem_append.1 ha with ha | ha
      · exact hB.n h1 a ha
      · rw [List.mem_singleton.1 ha]; exact hf
    · obtain ⟨i1, i2, i3⟩ := hB.s h1
      refine ⟨List.mem_append.2 (.inl i1), i2, fun a ha hfa => ?_⟩
      rcases List.mem_append.1 ha with ha | ha
      · exact i3 a ha hfa
      · rw [List.mem_singleton.1 ha, hf] at hfa; cases hfa
  · rw [ifK_true]
    obtain ⟨b, c⟩ := S
    cases b
    · rw [show (((false, c) : Bool × Pt).1 && decide (sqW q p ≥ sqW ((false, c) : Bool × Pt).2 p)) = false from rfl, ifK_false]
      refine ⟨fun h1 => (by cases h1), fun _ => ⟨by simp, hf, fun a ha hfa => ?_⟩⟩
      rcases List.mem_append.1 ha with ha | ha
      · have := hB.n rfl a ha
        rw [this] at hfa; cases hfa
      · rw [List.mem_singleton.1 ha]; exact .inr ⟨rfl, .inl rfl⟩
    · obtain ⟨i1, i2, i3⟩ := hB.s rfl
      have i1 : c ∈ seen := i1
      have i2 : fitR h p kind reach c = true := i2
      have i3 : ∀ q ∈ seen, fitR h p kind reach q = true → Bet p c q := i3
      by_cases hge : sqW q p ≥ sqW c p
      · rw [show (((true, c) : Bool × Pt).1 && decide (sqW q p ≥ sqW ((true, c) : Bool × Pt).2 p)) = true from decide_eq_true hge, ifK_true]
        refine ⟨fun h1 => (by cases h1), fun _ => ⟨List.mem_append.2 (.inl i1), i2, fun a ha hfa => ?_⟩⟩
        rcases List.mem_append.1 ha with ha | ha
        · exact i3 a ha hfa
        · rw [List.mem_singleton.1 ha]
          by_cases he : sqW c p = sqW q p
          · exact .inr ⟨he, .inr (hl c i1)⟩
          · exact .inl (by show sqW c p < sqW q p; omega)
      · rw [show (((true, c) : Bool × Pt).1 && decide (sqW q p ≥ sqW ((true, c) : Bool × Pt).2 p)) = false from decide_eq_false hge, ifK_false]
        refine ⟨fun h1 => (by cases h1), fun _ => ⟨by simp, hf, fun a ha hfa => ?_⟩⟩
        rcases List.mem_append.1 ha with ha | ha
        · have := i3 a ha hfa
          refine .inl ?_
          show sqW q p < sqW a p
          rcases this with h1 | ⟨h1, _⟩ <;> omega
        · rw [List.mem_singleton.1 ha]; exact .inr ⟨rfl, .inl rfl⟩
theorem best_fold : ∀ (r seen : List Pt) (S : Bool × Pt), (seen ++ r).Pairwise lexLt → Best h p kind reach seen S → Best h p kind reach (seen ++ r) (foldP h p kind reach r S)
  | [], seen, S, _, hB => by rw [List.append_nil]; exact hB
  | q :: r, seen, S, hp, hB => by
    have h1 : ∀ a ∈ seen, lexLt a q := fun a ha => (List.pairwise_append.1 hp).2.2 a ha q (List.mem_cons_self ..)
    have := best_fold r (seen ++ [q]) (relP h p kind reach q S) (by rw [List.append_assoc]; exact hp) (best_step hB h1)
    rw [List.append_assoc] at this
    exact this
theorem best_relS : Best h p kind reach (cand p reach) (relS h p kind reach) := by
  rw [relS_fold]
  exact best_fold (cand p reach) [] (false, (0, 0)) (candX_sorted _ _) ⟨fun _ q hq => (by cases hq), fun h1 => (by cases h1)⟩
end
/-! ### Nearness -/
theorem sqN_bd {a b : Pt} (ha : InP a) (hb : InP b) {r : Int} (hr : 0 ≤ r) (h : sqW a b ≤ r * r) : (b.1 - r ≤ a.1 ∧ a.1 ≤ b.1 + r) ∧ (b.2 - r ≤ a.2 ∧ a.2 ≤ b.2 + r) := by
  have hd := mns_in ha hb
  have e : sqW a b = (a.1 - b.1) * (a.1 - b.1) + (a.2 - b.2) * (a.2 - b.2) := by
    unfold sqW
    rw [mns_eq ha hb, dt_eq hd hd]
    rfl
  rw [e] at h
  have key : ∀ d o : Int, d * d + o * o ≤ r * r → -r ≤ d ∧ d ≤ r := fun d o hdo => by
    have h0 : 0 ≤ o * o := sq_nonneg' o
    constructor
    · apply Classical.byContradiction
      intro hc
      have h1 : r + 1 ≤ -d := by omega
      have h2 : (r + 1) * (r + 1) ≤ (-d) * (-d) := Int.mul_le_mul h1 h1 (by omega) (by omega)
      rw [Int.neg_mul_neg] at h2
      have h3 : (r + 1) * (r + 1) = r * r + 2 * r + 1 := by rw [Int.add_mul, Int.mul_add]; omega
      omega
    · apply Classical.byContradiction
      intro hc
      have h1 : r + 1 ≤ d := by omega
      have h2 : (r + 1) * (r + 1) ≤ d * d := Int.mul_le_mul h1 h1 (by omega) (by omega)
      have h3 : (r + 1) * (r + 1) = r * r + 2 * r + 1 := by rw [Int.add_mul, Int.mul_add]; omega
      omega
  have k1 := key (a.1 - b.1) (a.2 - b.2) h
  have k2 := key (a.2 - b.2) (a.1 - b.1) (by omega)
  omega
section
variable {h : Hl} {p : Pt} {kind : ByteArray} {reach : Int}
theorem w_sq {r : Int} (h0 : 0 ≤ r) (h1 : r ≤ 20) : w64 (r * r) = r * r := by
  have h2 : r * r ≤ 20 * 20 := Int.mul_le_mul h1 h1 h0 (by omega)
  have h3 := sq_nonneg' r
  exact wrap_in (by omega)
theorem fit_parts {q : Pt} (hf : fitR h p kind reach q = true) : sqW q p ≤ w64 (reach * reach) ∧ outP q = false ∧ sqW q h.cup ≥ sqW p h.cup ∧ seqB (locP h q).1 kind = false ∧ seqB (locP h q).1 outS = false := by
  unfold fitR at hf
  cases h1 : decide (sqW q p > w64 (reach * reach)) <;> cases h2 : outP q <;> cases h3 : decide (sqW q h.cup < sqW p h.cup) <;> cases h4 : seqB (locP h q).1 kind <;> cases h5 : seqB (locP h q).1 outS <;> rw [h1, h2, h3, h4, h5] at hf <;> first
    | (cases hf; done)
    | (simp only [decide_eq_false_iff_not] at h1 h3
       exact ⟨by omega, rfl, by omega, rfl, rfl⟩)
theorem fit_mk {q : Pt} (h1 : sqW q p ≤ w64 (reach * reach)) (h2 : outP q = false) (h3 : sqW q h.cup ≥ sqW p h.cup) (h4 : seqB (locP h q).1 kind = false) (h5 : seqB (locP h q).1 outS = false) : fitR h p kind reach q = true := by
  unfold fitR
  rw [decide_eq_false (by omega), h2, decide_eq_false (by omega), h4, h5]
  rfl
theorem fit_cand (hp : InP p) (h0 : 0 ≤ reach) (h1 : reach ≤ 20) {q : Pt} (hf : fitR h p kind reach q = true) : q ∈ cand p reach := by
  obtain ⟨i1, i2, _⟩ := fit_parts hf
  rw [w_sq h0 h1] at i1
  obtain ⟨j1, j2⟩ := sqN_bd (inP_of i2) hp h0 i1
  exact cand_mem j1 j2
theorem near_none (hp : InP p) (h0 : 0 ≤ reach) (h1 : reach ≤ 20) (hn : (relS h p kind reach).1 = false) (q : Pt) : fitR h p kind reach q = false := by
  cases hf : fitR h p kind reach q
  · rfl
  · have := best_relS.n hn q (fit_cand hp h0 h1 hf)
    rw [this] at hf; cases hf
theorem near_some (hp : InP p) (h0 : 0 ≤ reach) (h1 : reach ≤ 20) (hs : (relS h p kind reach).1 = true) : fitR h p kind reach (relS h p kind reach).2 = true ∧ ∀ q, fitR h p kind reach q = true → Bet p (relS h p kind reach).2 q := by
  obtain ⟨_, i2, i3⟩ := best_relS.s hs
  exact ⟨i2, fun q hq => i3 q (fit_cand hp h0 h1 hq) hq⟩
theorem bet_anti {a b : Pt} (h1 : Bet p a b) (h2 : Bet p b a) : a = b := by
  rcases h1 with h1 | ⟨h1, h3⟩
  · rcases h2 with h2 | ⟨h2, _⟩ <;> omega
  · rcases h2 with h2 | ⟨_, h4⟩
    · omega
    · rcases h3 with h3 | h3
      · exact h3
      · rcases h4 with h4 | h4
        · exact h4.symm
        · unfold lexLt at h3 h4
          omega
theorem near_more (hp : InP p) (h0 : 0 ≤ reach) {r2 : Int} (h1 : reach ≤ r2) (h2 : r2 ≤ 20) (hs : (relS h p kind reach).1 = true) : (relS h p kind r2).1 = true ∧ (relS h p kind r2).2 = (relS h p kind reach).2 := by
  obtain ⟨i1, i2⟩ := near_some hp h0 (by omega) hs
  have hmul : reach * reach ≤ r2 * r2 := Int.mul_le_mul h1 h1 h0 (by omega)
  obtain ⟨j1, j2, j3, j4, j5⟩ := fit_parts i1
  have w1 := w_sq h0 (show reach ≤ 20 by omega)
  have w2 := w_sq (show 0 ≤ r2 by omega) h2
  have k1 : fitR h p kind r2 (relS h p kind reach).2 = true := fit_mk (by omega) j2 j3 j4 j5
  have k2 : (relS h p kind r2).1 = true := by
    cases hn : (relS h p kind r2).1
    · have := near_none hp (by omega) h2 hn (relS h p kind reach).2
      rw [this] at k1; cases k1
    · rfl
  obtain ⟨l1, l2⟩ := near_some hp (show 0 ≤ r2 by omega) h2 k2
  have b1 := l2 _ k1
  obtain ⟨m1, m2, m3, m4, m5⟩ := fit_parts l1
  have hle : sqW (relS h p kind r2).2 p ≤ sqW (relS h p kind reach).2 p := by
    rcases b1 with h3 | ⟨h3, _⟩ <;> omega
  have k3 : fitR h p kind reach (relS h p kind r2).2 = true := fit_mk (by omega) m2 m3 m4 m5
  exact ⟨k2, bet_anti b1 (i2 _ k3)⟩
end
end Go.Pd
end
section
namespace Go.Pd
open Go Go.Proofs
set_option maxRecDepth 100000
theorem F43_eq (call : CL) (L : Nat) (C : Nat → Nat) (h : ByteArray) (z J K M : Int) (S : Bool) (U : Nat) (O : List D) (W : Bool) (X : Nat) (V : List D) (Y Z : Int) : evFnT (TEf call L C) O0 N0 FinM.canon Tryz.f43 [D.agg [D.str h, D.int .i64 z, D.int .i64 J, D.int .i64 K, D.int .i64 M, D.slc S U O, D.slc W X V], D.int .i64 Y, D.int .i64 Z] =
 (optK (call 16 [D.agg [D.str h, D.int .i64 z, D.int .i64 J, D.int .i64 K, D.int .i64 M, D.slc S U O, D.slc W X V], D.int .i64 Y, D.int .i64 Z]) fun r =>
 (boolK r fun b =>
 (ifK b
 (optK (call 18 [D.agg [D.str h, D.int .i64 z, D.int .i64 J, D.int .i64 K, D.int .i64 M, D.slc S U O, D.slc W X V]]) fun a0 =>
 (intK .i64 a0 fun x =>
 (some (D.bool (x == 0)))))
 (some (D.bool false))))) := by kernel_rfl
theorem F46_eq (call : CL) (L : Nat) (C : Nat → Nat) (S U : Int) (O : ByteArray) (h z Y Z : Int) (V : ByteArray) (J : Int) (a0 : ByteArray) (a1 a2 K M : Int) (a4 : Bool) (a5 : Nat) (a3 : List D) (a7 : Bool) (a8 : Nat) (a6 : List D) : evFnT (TEf call L C) O0 N0 FinM.canon Tryz.f46 [D.agg [D.int .i64 S, D.int .i64 U], D.str O, D.snap [D.int .i64 h, D.int .i64 z, D.int .i64 Y, D.int .i64 Z, D.str V] 0, D.snap [D.int .i64 J] 0, D.snap [D.str a0, D.int .i64 a1, D.int .i64 a2, D.int .i64 K, D.int .i64 M, D.slc a4 a5 a3, D.slc a7 a8 a6] 0] =
 (optK (call 47 [D.agg [D.int .i64 S, D.int .i64 U], D.agg [D.int .i64 h, D.int .i64 z]]) fun r =>
 (intK .i64 r fun x =>
 (ifK (decide (x ≤ IntKind.wrap .i64 (J * J)))
 (ifK (!ByteArray.toList O == ByteArray.toList V)
 (ifK (!ByteArray.toList O == ByteArray.toList (ByteArray.mk #[111, 117, 116]))
 (optK (call 47 [D.agg [D.int .i64 S, D.int .i64 U], D.agg [D.int .i64 K, D.int .i64 M]]) fun W =>
 (intK .i64 W fun a9 =>
 (optK (call 47 [D.agg [D.int .i64 h, D.int .i64 z], D.agg [D.int .i64 K, D.int .i64 M]]) fun X =>
 (intK .i64 X fun aa =>
 (some (D.bool (decide (a9 ≥ aa))))))))
 (some (D.bool false)))
 (some (D.bool false)))
 (some (D.bool false))))) := by kernel_rfl
def N8 : NTab := fun p => match p with
  | 15 => some { keep := [3, 4, 5], kl := [7, 8, 10], ren := [(3, 3), (4, 4), (5, 5), (7, 7), (8, 8), (10, 10)], cn := true }
  | 255 => some { keep := [3, 4, 5, 8, 9, 10, 11, 12], kl := [7], ren := [(3, 3), (4, 4), (5, 5), (7, 7), (8, 8), (10, 10)], cn := true }
  | 8191 => some { keep := [4, 8, 12, 15], kl := [7, 10], ren := [(3, 3), (4, 4), (5, 5), (7, 7), (8, 8), (10, 10)], cn := true }
  | _ => none
noncomputable def F8_8191 (call : CL) (L : Nat) (C : Nat → Nat) (vk h : ByteArray) (z K M O : Int) (U : Bool) (V : Nat) (S : List D) (X : Bool) (Y : Nat) (W : List D) (a4 a5 a6 a7 : Int) (a8 : ByteArray) (a3 vp a2 : Int) : Option D :=
 cutAt (TEf call L C) O0 N8 FinM.canon Tryz.f8 [true, true, true, true, true, true, true, true, true, true, true, true] []  (C 8191) (St.mk (J :: J :: J :: J :: D.loc 4 0 0 :: J :: J :: J :: D.loc 8 0 0 :: J :: J :: J :: D.str vk :: J :: J :: D.fn (Fn.func 46) [] [D.loc 4 0 0, D.loc 5 0 0, D.loc 3 0 0] :: jn 181 []) (Z :: Z :: Z :: (1, some (Ob.box [D.str h, D.int .i64 z, D.int .i64 K, D.int .i64 M, D.int .i64 O, D.slc U V S, D.slc X Y W] false)) :: (1, some (Ob.box [D.int .i64 a4, D.int .i64 a5, D.int .i64 a6, D.int .i64 a7, D.str a8] false)) :: (1, some (Ob.box [D.int .i64 a3] false)) :: Z :: Z :: (1, some (Ob.box [D.int .i64 vp, D.int .i64 a2] false)) :: zn 188 []))
noncomputable def F8_255 (call : CL) (L : Nat) (C : Nat → Nat) (K : ByteArray) (M O S U : Int) (W : Bool) (X : Nat) (V : List D) (a0 : Bool) (a1 : Nat) (Y : List D) (a8 a9 aa ab : Int) (ac : ByteArray) (a7 h z : Int) (vk : ByteArray) (vp a4 vq a6 : Int) : Option D :=
 cutAt (TEf call L C) O0 N8 FinM.canon Tryz.f8 [true, true, true, true, true, true, true] []  (C 255) (St.mk (J :: J :: J :: D.loc 3 0 0 :: D.loc 4 0 0 :: D.loc 5 0 0 :: J :: J :: D.loc 8 0 0 :: D.int .i64 h :: D.loc 10 0 0 :: D.int .i64 z :: D.str vk :: jn 184 []) (Z :: Z :: Z :: (1, some (Ob.box [D.str K, D.int .i64 M, D.int .i64 O, D.int .i64 S, D.int .i64 U, D.slc W X V, D.slc a0 a1 Y] false)) :: (1, some (Ob.box [D.int .i64 a8, D.int .i64 a9, D.int .i64 aa, D.int .i64 ab, D.str ac] false)) :: (1, some (Ob.box [D.int .i64 a7] false)) :: Z :: Z :: (1, some (Ob.box [D.int .i64 vp, D.int .i64 a4] false)) :: Z :: (1, some (Ob.box [D.int .i64 vq, D.int .i64 a6] false)) :: zn 186 []))
noncomputable def F8_15 (call : CL) (L : Nat) (C : Nat → Nat) (h : ByteArray) (z K M O : Int) (U : Bool) (V : Nat) (S : List D) (X : Bool) (Y : Nat) (W : List D) (a1 a2 a3 a4 : Int) (a5 : ByteArray) (a0 : Int) : Option D :=
 cutAt (TEf call L C) O0 N8 FinM.canon Tryz.f8 [true, true, true] []  (C 15) (St.mk (J :: J :: J :: D.loc 3 0 0 :: D.loc 4 0 0 :: D.loc 5 0 0 :: jn 191 []) (Z :: Z :: Z :: (1, some (Ob.box [D.str h, D.int .i64 z, D.int .i64 K, D.int .i64 M, D.int .i64 O, D.slc U V S, D.slc X Y W] false)) :: (1, some (Ob.box [D.int .i64 a1, D.int .i64 a2, D.int .i64 a3, D.int .i64 a4, D.str a5] false)) :: (1, some (Ob.box [D.int .i64 a0] false)) :: zn 191 []))
theorem F8_8191_eq (call : CL) (L : Nat) (C : Nat → Nat) (vk S : ByteArray) (U V W X : Int) (Z : Bool) (a0 : Nat) (Y : List D) (a2 : Bool) (a3 : Nat) (a1 : List D) (K M h z : Int) (a6 : ByteArray) (a5 J O : Int) (hC : ∀ t, C t = 1) : F8_8191 call L C  vk S U V W X Z a0 Y a2 a3 a1 K M h z a6 a5 J O  =
 (optK (call 47 [D.agg [D.int .i64 J, D.int .i64 O], D.agg [D.int .i64 K, D.int .i64 M]]) fun ae =>
 (intK .i64 ae fun a7 =>
 (optK (call 47 [D.agg [D.int .i64 h, D.int .i64 z], D.agg [D.int .i64 K, D.int .i64 M]]) fun af =>
 (intK .i64 af fun a8 =>
 (optK (call 46 [D.agg [D.int .i64 h, D.int .i64 z], D.str vk, D.snap [D.int .i64 K, D.int .i64 M, D.int .i64 h, D.int .i64 z, D.str a6] 0, D.snap [D.int .i64 a5] 0, D.snap [D.str S, D.int .i64 U, D.int .i64 V, D.int .i64 W, D.int .i64 X, D.slc Z a0 Y, D.slc a2 a3 a1] 0]) fun ag =>
 (boolK ag fun a9 =>
 (ifK (!a9)
 (optK (call 17 []) fun ah =>
 (boolK ah fun aa =>
 (some (D.bool aa))))
 (ifK (decide (a7 < a8))
 (optK (call 17 []) fun ai =>
 (boolK ai fun ab =>
 (some (D.bool ab))))
 (ifK (a7 == a8)
 (ifK (decide (J < h))
 (optK (call 17 []) fun aj =>
 (boolK aj fun ac =>
 (some (D.bool ac))))
 (ifK (J == h)
 (ifK (decide (O ≤ z))
 (optK (call 17 []) fun ak =>
 (boolK ak fun ad =>
 (some (D.bool ad))))
 (some (D.bool false)))
 (some (D.bool false))))
 (some (D.bool false))))))))))) := by
  unfold F8_8191
  rw [hC]
  kernel_rfl
theorem F8_255_eq (call : CL) (L : Nat) (C : Nat → Nat) (J : ByteArray) (K M O S : Int) (V : Bool) (W : Nat) (U : List D) (Y : Bool) (Z : Nat) (X : List D) (a3 a4 a0 a1 : Int) (a5 : ByteArray) (a2 a8 a9 : Int) (vk : ByteArray) (h z vq ab : Int) (hC : ∀ t, C t = 1) : F8_255 call L C  J K M O S V W U Y Z X a3 a4 a0 a1 a5 a2 a8 a9 vk h z vq ab =
 (ifK (a8 == 7)
 (optK (call 46 [D.agg [D.int .i64 a0, D.int .i64 a1], D.str vk, D.snap [D.int .i64 a3, D.int .i64 a4, D.int .i64 a0, D.int .i64 a1, D.str a5] 0, D.snap [D.int .i64 a2] 0, D.snap [D.str J, D.int .i64 K, D.int .i64 M, D.int .i64 O, D.int .i64 S, D.slc V W U, D.slc Y Z X] 0]) fun ai =>
 (boolK ai fun ad =>
 (ifK (!ad)
 (optK (call 17 []) fun aj =>
 (boolK aj fun ae =>
 (some (D.bool ae))))
 (some (D.bool false)))))
 (optK (call 24 [D.agg [D.int .i64 h, D.int .i64 z]]) fun ak =>
 (intK .i64 ak fun ao =>
 (ifK (ao != 0)
 (some (D.bool false))
 (optK (call 19 [D.agg [D.str J, D.int .i64 K, D.int .i64 M, D.int .i64 O, D.int .i64 S, D.slc V W U, D.slc Y Z X], D.agg [D.int .i64 h, D.int .i64 z]]) fun al =>
 (tupK al 3 fun a6 =>
 (cellK a6 0 fun af =>
 (strK af fun an =>
 (cellK a6 1 fun ag =>
 (intK .i64 ag fun _x_15 =>
 (cellK a6 2 fun ah =>
 (intK .i64 ah fun ap =>
 (ifK (ap != 0)
 (some (D.bool false))
 (optK (call 46 [D.agg [D.int .i64 h, D.int .i64 z], D.str an, D.snap [D.int .i64 a3, D.int .i64 a4, D.int .i64 a0, D.int .i64 a1, D.str a5] 0, D.snap [D.int .i64 a2] 0, D.snap [D.str J, D.int .i64 K, D.int .i64 M, D.int .i64 O, D.int .i64 S, D.slc V W U, D.slc Y Z X] 0]) fun am =>
 (boolK am fun ac =>
 (ifK (!ac)
 (some (D.bool false))
 (ifK (a9 != 0)
 (some (D.bool false))
 (ifK (!(vq == h && (ab == z && true)))
 (some (D.bool false))
 (F8_8191 call L C vk J K M O S V W U Y Z X a3 a4 a0 a1 a5 a2 h z))))))))))))))))))) := by
  unfold F8_255
  rw [hC]
  kernel_rfl
theorem F8_15_eq (call : CL) (L : Nat) (C : Nat → Nat) (h : ByteArray) (z J K M : Int) (S : Bool) (U : Nat) (O : List D) (W : Bool) (X : Nat) (V : List D) (a0 a1 a3 a4 : Int) (a2 : ByteArray) (Z : Int) (hC : ∀ t, C t = 1) : F8_15 call L C  h z J K M S U O W X V a0 a1 a3 a4 a2 Z  =
 (optK (call 34 [D.agg [D.str h, D.int .i64 z, D.int .i64 J, D.int .i64 K, D.int .i64 M, D.slc S U O, D.slc W X V], D.agg [D.int .i64 a0, D.int .i64 a1], D.str a2, D.int .i64 Z]) fun au =>
 (tupK au 2 fun ad =>
 (cellK ad 0 fun ap =>
 (aggK ap 2 fun ae =>
 (cellK ae 0 fun aq =>
 (intK .i64 aq fun a9 =>
 (cellK ae 1 fun ar =>
 (intK .i64 ar fun aa =>
 (cellK ad 1 fun ah =>
 (intK .i64 ah fun a5 =>
 (optK (call 34 [D.agg [D.str h, D.int .i64 z, D.int .i64 J, D.int .i64 K, D.int .i64 M, D.slc S U O, D.slc W X V], D.agg [D.int .i64 a0, D.int .i64 a1], D.str a2, D.int .i64 (IntKind.wrap .i64 (Z + 2))]) fun av =>
 (tupK av 2 fun af =>
 (cellK af 0 fun ai =>
 (aggK ai 2 fun ag =>
 (cellK ag 0 fun aj =>
 (intK .i64 aj fun ab =>
 (cellK ag 1 fun ak =>
 (intK .i64 ak fun a7 =>
 (cellK af 1 fun al =>
 (intK .i64 al fun Y =>
 (optK (call 19 [D.agg [D.str h, D.int .i64 z, D.int .i64 J, D.int .i64 K, D.int .i64 M, D.slc S U O, D.slc W X V], D.agg [D.int .i64 a3, D.int .i64 a4]]) fun aw =>
 (tupK aw 3 fun ac =>
 (cellK ac 0 fun am =>
 (strK am fun a6 =>
 (cellK ac 1 fun an =>
 (intK .i64 an fun _x_12 =>
 (cellK ac 2 fun ao =>
 (intK .i64 ao fun a8 =>
 (ifK (a5 != 0)
 (ifK (a5 != 7)
 (some (D.bool false))
 (ifK (Y != 0)
 (ifK (Y != 7)
 (some (D.bool false))
 (ifK (a8 != 0)
 (some (D.bool false))
 (F8_255 call L C h z J K M S U O W X V a0 a1 a3 a4 a2 Z a5 Y a6 a9 aa ab a7)))
 (ifK (a8 != 0)
 (some (D.bool false))
 (F8_255 call L C h z J K M S U O W X V a0 a1 a3 a4 a2 Z a5 Y a6 a9 aa ab a7))))
 (ifK (Y != 0)
 (ifK (Y != 7)
 (some (D.bool false))
 (ifK (a8 != 0)
 (some (D.bool false))
 (F8_255 call L C h z J K M S U O W X V a0 a1 a3 a4 a2 Z a5 Y a6 a9 aa ab a7)))
 (ifK (a8 != 0)
 (some (D.bool false))
 (F8_255 call L C h z J K M S U O W X V a0 a1 a3 a4 a2 Z a5 Y a6 a9 aa ab a7)))))))))))))))))))))))))))))))) := by
  unfold F8_15
  rw [hC]
  kernel_rfl
theorem F8_eq (call : CL) (L : Nat) (C : Nat → Nat) (J : ByteArray) (K M O S : Int) (V : Bool) (W : Nat) (U : List D) (Y : Bool) (Z : Nat) (X : List D) (a0 a1 a2 a3 : Int) (z : ByteArray) (h : Int) : evFnT (TEf call L C) O0 N8 FinM.canon Tryz.f8 [D.agg [D.str J, D.int .i64 K, D.int .i64 M, D.int .i64 O, D.int .i64 S, D.slc V W U, D.slc Y Z X], D.agg [D.int .i64 a0, D.int .i64 a1, D.int .i64 a2, D.int .i64 a3, D.str z], D.int .i64 h] =
 (optK (call 15 [D.agg [D.str J, D.int .i64 K, D.int .i64 M, D.int .i64 O, D.int .i64 S, D.slc V W U, D.slc Y Z X]]) fun r =>
 (aggK r 7 fun c =>
 (cellK c 0 fun d =>
 (strK d fun s =>
 (cellK c 1 fun af =>
 (intK .i64 af fun x =>
 (cellK c 2 fun ag =>
 (intK .i64 ag fun aB =>
 (cellK c 3 fun ah =>
 (intK .i64 ah fun aC =>
 (cellK c 4 fun ai =>
 (intK .i64 ai fun aD =>
 (cellK c 5 fun aj =>
 (slcK aj fun f n ad =>
 (cellK c 6 fun ak =>
 (slcK ak fun al am ae =>
 (optK (call 43 [D.agg [D.str s, D.int .i64 x, D.int .i64 aB, D.int .i64 aC, D.int .i64 aD, D.slc f n ad, D.slc al am ae], D.int .i64 5, D.int .i64 6]) fun an =>
 (boolK an fun b =>
 (ifK (!b)
 (optK (call 17 []) fun ap =>
 (boolK ap fun a4 =>
 (some (D.bool a4))))
 (optK (call 24 [D.agg [D.int .i64 a0, D.int .i64 a1]]) fun au =>
 (intK .i64 au fun aE =>
 (ifK (aE != 0)
 (optK (call 17 []) fun av =>
 (boolK av fun a7 =>
 (some (D.bool a7))))
 (optK (call 24 [D.agg [D.int .i64 a2, D.int .i64 a3]]) fun aw =>
 (intK .i64 aw fun aF =>
 (ifK (aF != 0)
 (optK (call 17 []) fun ax =>
 (boolK ax fun a8 =>
 (some (D.bool a8))))
 (optK (call 29 [D.str z]) fun ay =>
 (boolK ay fun a9 =>
 (ifK (!a9)
 (ifK (!ByteArray.toList z == ByteArray.toList (ByteArray.mk #[111, 117, 116]))
 (optK (call 17 []) fun az =>
 (boolK az fun aa =>
 (some (D.bool aa))))
 (ifK (decide (h < 0))
 (optK (call 17 []) fun aA =>
 (boolK aA fun ab =>
 (some (D.bool ab))))
 (ifK (decide (h > 6))
 (optK (call 17 []) fun ao =>
 (boolK ao fun ac =>
 (some (D.bool ac))))
 (F8_15 call L C J K M O S V W U Y Z X a0 a1 a2 a3 z h))))
 (ifK (decide (h < 0))
 (optK (call 17 []) fun aq =>
 (boolK aq fun a5 =>
 (some (D.bool a5))))
 (ifK (decide (h > 6))
 (optK (call 17 []) fun ar =>
 (boolK ar fun a6 =>
 (some (D.bool a6))))
 (F8_15 call L C J K M O S V W U Y Z X a0 a1 a2 a3 z h))))))))))))))))))))))))))))))) := by kernel_rfl
end Go.Pd
end
section
namespace Go.Pd
open Go Go.Proofs Go.RowKit
set_option maxRecDepth 100000
theorem okf43 : okFn Tryz.prog O0 Tryz.f43 = true := by kernel_rfl
theorem okf46 : okFn Tryz.prog O0 Tryz.f46 = true := by kernel_rfl
theorem ok43n (h : Hl) (a c : Int) (hs : shH h a c = false) : OK2 43 [holeD h, .int .i64 a, .int .i64 c] (.bool false) := by
  obtain ⟨B, hb, e⟩ := one_call (ok16 h a c) rfl
  refine fnT hb Tryz.func43 (ord := O0) (N := N0) okf43 ((F43_eq _ _ _ h.name h.tee.1 h.tee.2 h.cup.1 h.cup.2 h.lf h.line.length (ptsC h.line) h.af h.areas.length (arsC h.areas) a c).trans (opt_step e ?_))
  rw [boolK_bool, hs]
  rfl
theorem ok43 (h : Hl) (hk : h.Ok) (a c : Int) (hs : shH h a c = true) : OK2 43 [holeD h, .int .i64 a, .int .i64 c] (.bool (refHole h == 0)) := by
  obtain ⟨B, hb, e16, e18, _⟩ := exF [one 16 [holeD h, .int .i64 a, .int .i64 c] (.bool (shH h a c)), one 18 [holeD h] (.int .i64 (refHole h))] ⟨one_good (ok16 h a c) rfl, one_good (ok18 h hk) rfl, trivial⟩ rfl
  refine fnT hb Tryz.func43 (ord := O0) (N := N0) okf43 ((F43_eq _ _ _ h.name h.tee.1 h.tee.2 h.cup.1 h.cup.2 h.lf h.line.length (ptsC h.line) h.af h.areas.length (arsC h.areas) a c).trans (opt_step (x := D.bool (shH h a c)) (e16 ()) ?_))
  rw [boolK_bool, hs, ifK_true]
  exact opt_step (x := D.int .i64 (refHole h)) (e18 ()) (int_step rfl)
def fitL (h : Hl) (p : Pt) (kind : ByteArray) (reach : Int) (r : Pt) (k : ByteArray) : Bool := ifK (decide (sqW r p ≤ w64 (reach * reach))) (ifK (!seqB k kind) (ifK (!seqB k outS) (decide (sqW r h.cup ≥ sqW p h.cup)) false) false) false
theorem ok46 (h : Hl) (p q : Pt) (kind : ByteArray) (reach : Int) (r : Pt) (k : ByteArray) : OK2 46 [ptD r, .str k, .snap [.int .i64 p.1, .int .i64 p.2, .int .i64 q.1, .int .i64 q.2, .str kind] 0, .snap [.int .i64 reach] 0, holeS h] (.bool (fitL h p kind reach r k)) := by
  obtain ⟨B, hb, e47, _⟩ := exF [famPP 47 fun a b => .int .i64 (sqW a b)] ⟨famPP_good ok47 (fun _ _ => rfl), trivial⟩ rfl
  have f47 : ∀ a b : Pt, callOf B 47 [ptD a, ptD b] = some (.int .i64 (sqW a b)) := fun a b => e47 (a, b)
  refine fnT hb Tryz.func46 (ord := O0) (N := N0) okf46 ((F46_eq _ _ _ r.1 r.2 k p.1 p.2 q.1 q.2 kind reach h.name h.tee.1 h.tee.2 h.cup.1 h.cup.2 h.lf h.line.length (ptsC h.line) h.af h.areas.length (arsC h.areas)).trans ?_)
  refine opt_step (f47 r p) (int_step ?_)
  unfold fitL
  rw [show (!ByteArray.toList k == ByteArray.toList kind) = !seqB k kind from rfl, show (!ByteArray.toList k == ByteArray.toList (ByteArray.mk #[111, 117, 116])) = !seqB k outS from rfl]
  cases decide (sqW r p ≤ w64 (reach * reach))
  · rfl
  · cases !seqB k kind
    · rfl
    · cases !seqB k outS
      · rfl
      · exact opt_step (f47 r h.cup) (int_step (opt_step (f47 p h.cup) (int_step rfl)))
theorem fitL_eq {h : Hl} {p : Pt} {kind : ByteArray} {reach : Int} {r : Pt} (ho : outP r = false) : fitL h p kind reach r (locP h r).1 = fitR h p kind reach r := by
  unfold fitL fitR
  rw [ho, ifK_false]
  by_cases h1 : sqW r p ≤ w64 (reach * reach)
  · rw [decide_eq_true h1, decide_eq_false (show ¬ sqW r p > w64 (reach * reach) by omega), ifK_true, ifK_false]
    by_cases h2 : sqW r h.cup ≥ sqW p h.cup
    · rw [decide_eq_true h2, decide_eq_false (show ¬ sqW r h.cup < sqW p h.cup by omega), ifK_false]
      cases seqB (locP h r).1 kind <;> cases seqB (locP h r).1 outS <;> rfl
    · rw [decide_eq_false h2, decide_eq_true (show sqW r h.cup < sqW p h.cup by omega), ifK_true]
      cases seqB (locP h r).1 kind <;> cases seqB (locP h r).1 outS <;> rfl
  · rw [decide_eq_false h1, decide_eq_true (show sqW r p > w64 (reach * reach) by omega), ifK_false, ifK_true]
theorem relE_mk {h : Hl} {p : Pt} {kind : ByteArray} {reach : Int} (hz : holeE h = 0) (hp : outP p = false) (hk : kindB kind = true ∨ seqB kind outS = true) (h0 : 0 ≤ reach) (h1 : reach ≤ 20) : relE h p kind reach = 0 := by
  have e1 : kindE kind = 0 := by
    unfold kindE
    rcases hk with hk | hk
    · rw [hk]; cases seqB kind outS <;> rfl
    · rw [hk]; rfl
  have e2 : outLM (reach, 0, 20) = false := by
    show ifK (decide (reach < 0)) true (decide (reach > 20)) = false
    rw [decide_eq_false (by omega), decide_eq_false (by omega)]
    rfl
  unfold relE
  rw [hz, hp, e1, e2]
  rfl
theorem relD_at {h : Hl} {p : Pt} {kind : ByteArray} {reach : Int} (hz : relE h p kind reach = 0) : relD h p kind reach = .tup [ptD (relS h p kind reach).2, .int .i64 (ifK (!(relS h p kind reach).1) 7 0)] := by
  unfold relD
  rw [hz]
  rfl
theorem rd_loc3 {γ : Type} (x : ByteArray × Int) (k : ByteArray → Int → Int → Option γ) : (tupK (.tup [.str x.1, .int .i64 x.2, .int .i64 0]) 3 fun c => cellK c 0 fun d => strK d fun s => cellK c 1 fun d' => intK .i64 d' fun y => cellK c 2 fun d'' => intK .i64 d'' fun z => k s y z) = k x.1 x.2 0 := rfl
section
variable {call : CL} {h : Hl} {p q : Pt} {kind : ByteArray} {reach : Int}
structure NearC (call : CL) (h : Hl) (p q : Pt) (kind : ByteArray) (reach : Int) : Prop where
  c17 : call 17 [] = some (.bool true)
  c24 : ∀ p : Pt, call 24 [ptD p] = some (.int .i64 (ifK (outP p) 3 0))
  c19 : ∀ r : Pt, outP r = false → call 19 [holeD h, ptD r] = some (.tup [.str (locP h r).1, .int .i64 (locP h r).2, .int .i64 0])
  c34 : ∀ n : Int, 0 ≤ n → n ≤ 20 → call 34 [holeD h, ptD p, .str kind, .int .i64 n] = some (.tup [ptD (relS h p kind n).2, .int .i64 (ifK (!(relS h p kind n).1) 7 0)])
  c46 : ∀ (r : Pt) (k : ByteArray), call 46 [ptD r, .str k, .snap [.int .i64 p.1, .int .i64 p.2, .int .i64 q.1, .int .i64 q.2, .str kind] 0, .snap [.int .i64 reach] 0, holeS h] = some (.bool (fitL h p kind reach r k))
  c47 : ∀ a b : Pt, call 47 [ptD a, ptD b] = some (.int .i64 (sqW a b))
theorem near_last (hC : NearC call h p q kind reach) (hq : outP q = false) {b : Pt} (hb : fitR h p kind reach q = true → Bet p b q) :
    F8_8191 call LL C1 (locP h q).1 h.name h.tee.1 h.tee.2 h.cup.1 h.cup.2 h.lf h.line.length (ptsC h.line) h.af h.areas.length (arsC h.areas) p.1 p.2 q.1 q.2 kind reach b.1 b.2 = some (.bool true) := by
  rw [F8_8191_eq (C := C1) (hC := fun _ => rfl)]
  refine opt_step (hC.c47 b p) (int_step (opt_step (hC.c47 q p) (int_step (opt_step (hC.c46 q (locP h q).1) ?_))))
  rw [boolK_bool, fitL_eq hq, hC.c17, optK_some, boolK_bool]
  cases hf : fitR h p kind reach q
  · rfl
  · rw [Bool.not_true, ifK_false]
    rcases hb hf with h1 | ⟨h1, h2⟩
    · rw [decide_eq_true h1, ifK_true]
    · rw [h1, decide_eq_false (show ¬ sqW q p < sqW q p by omega), ifK_false, show (sqW q p == sqW q p) = true by simp, ifK_true]
      rcases h2 with rfl | h2 | ⟨h2, h3⟩
      · rw [decide_eq_false (by omega), ifK_false, show (b.1 == b.1) = true by simp, ifK_true, decide_eq_true (by omega), ifK_true]
      · rw [decide_eq_true h2, ifK_true]
      · rw [h2, decide_eq_false (by omega), ifK_false, show (q.1 == q.1) = true by simp, ifK_true, decide_eq_true (by omega), ifK_true]
theorem near_mid (hC : NearC call h p q kind reach) (hp : outP p = false) (hq : outP q = false) (h0 : 0 ≤ reach) (h6 : reach ≤ 6) :
    F8_15 call LL C1 h.name h.tee.1 h.tee.2 h.cup.1 h.cup.2 h.lf h.line.length (ptsC h.line) h.af h.areas.length (arsC h.areas) p.1 p.2 q.1 q.2 kind reach = some (.bool true) := by
  rw [F8_15_eq (C := C1) (hC := fun _ => rfl), show IntKind.wrap .i64 (reach + 2) = reach + 2 from wrap_in (by omega)]
  refine opt_step (hC.c34 reach h0 (by omega)) ?_
  rw [rd_rel]
  refine opt_step (hC.c34 (reach + 2) (by omega) (by omega)) ?_
  rw [rd_rel]
  refine opt_step (hC.c19 q hq) ?_
  rw [rd_loc3]
  have hP := inP_of hp
  have key : F8_255 call LL C1 h.name h.tee.1 h.tee.2 h.cup.1 h.cup.2 h.lf h.line.length (ptsC h.line) h.af h.areas.length (arsC h.areas) p.1 p.2 q.1 q.2 kind reach (ifK (!(relS h p kind reach).1) 7 0) (ifK (!(relS h p kind (reach + 2)).1) 7 0) (locP h q).1 (relS h p kind reach).2.1 (relS h p kind reach).2.2 (relS h p kind (reach + 2)).2.1 (relS h p kind (reach + 2)).2.2 = some (.bool true) := by
    rw [F8_255_eq (C := C1) (hC := fun _ => rfl)]
    cases hs : (relS h p kind reach).1
    · rw [Bool.not_false, ifK_true, show ((7 : Int) == 7) = true from rfl, ifK_true]
      refine opt_step (hC.c46 q (locP h q).1) ?_
      rw [boolK_bool, fitL_eq hq, near_none hP h0 (by omega) hs q, Bool.not_false, ifK_true]
      exact opt_step hC.c17 rfl
    · obtain ⟨i1, i2⟩ := near_some hP h0 (by omega) hs
      obtain ⟨j1, j2⟩ := near_more hP h0 (show reach ≤ reach + 2 by omega) (by omega) hs
      have io := (fit_parts i1).2.1
      rw [Bool.not_true, ifK_false, show ((0 : Int) == 7) = false from rfl, ifK_false, j1, j2]
      refine opt_step (hC.c24 (relS h p kind reach).2) (int_step ?_)
      rw [io, ifK_false, show ((0 : Int) != 0) = false from rfl, ifK_false]
      refine opt_step (hC.c19 (relS h p kind reach).2 io) ?_
      rw [rd_loc3, show ((0 : Int) != 0) = false from rfl, ifK_false]
      refine opt_step (hC.c46 (relS h p kind reach).2 (locP h (relS h p kind reach).2).1) ?_
      rw [boolK_bool, fitL_eq io, i1, Bool.not_true, ifK_false, ifK_false, show ((0 : Int) != 0) = false from rfl, ifK_false]
      rw [show (!((relS h p kind reach).2.1 == (relS h p kind reach).2.1 && ((relS h p kind reach).2.2 == (relS h p kind reach).2.2 && true))) = false by simp, ifK_false]
      exact near_last hC hq fun hf => i2 q hf
  rw [show ((0 : Int) != 0) = false from rfl, ifK_false, key]
  cases (relS h p kind reach).1 <;> cases (relS h p kind (reach + 2)).1 <;> rfl
end
theorem okf8 : okFn Tryz.prog O0 Tryz.f8 = true := by kernel_rfl
theorem ok8 (h : Hl) (hb : h.areas.length * 40 ≤ 140737488355328) (p q : Pt) (kind : ByteArray) (reach : Int) : OK2 8 [holeD h, .agg [.int .i64 p.1, .int .i64 p.2, .int .i64 q.1, .int .i64 q.2, .str kind], .int .i64 reach] (.bool true) := by
  cases hs : shH (ownH h) 5 6
  · obtain ⟨B, hB, e15, e43, e17, _⟩ := exF [one 15 [holeD h] (holeD (ownH h)), one 43 [holeD (ownH h), .int .i64 5, .int .i64 6] (.bool false), one 17 [] (.bool true)]
      ⟨one_good (ok15 h hb) rfl, one_good (ok43n _ 5 6 hs) rfl, one_good ok17 rfl, trivial⟩ rfl
    refine fnT hB Tryz.func8 (ord := O0) (N := N8) okf8 ((F8_eq _ _ _ h.name h.tee.1 h.tee.2 h.cup.1 h.cup.2 h.lf h.line.length (ptsC h.line) h.af h.areas.length (arsC h.areas) p.1 p.2 q.1 q.2 kind reach).trans ?_)
    refine opt_step (x := holeD (ownH h)) (e15 ()) ?_
    rw [rd_hole]
    refine opt_step (x := D.bool false) (e43 ()) ?_
    rw [boolK_bool, Bool.not_false, ifK_true]
    exact opt_step (x := D.bool true) (e17 ()) rfl
  · have hk : h.Ok := by
      have := shH_ok hs
      exact ⟨this.n, this.l, this.a, this.c⟩
    have hk' := ownH_ok hk
    have hrs : refHole (ownH h) = holeE h := (hole_same h).symm
    have h43 := ok43 (ownH h) hk' 5 6 hs
    rw [hrs] at h43
    obtain ⟨B, hB, e15, e43, e17, e24, e29, e19, e34, e46, e47, _⟩ := exF [one 15 [holeD h] (holeD (ownH h)), one 43 [holeD (ownH h), .int .i64 5, .int .i64 6] (.bool (holeE h == 0)), one 17 [] (.bool true), famP 24 fun p => .int .i64 (ifK (outP p) 3 0), one 29 [.str kind] (.bool (kindB kind)),
        ⟨19, Pt, fun r => [holeD h, ptD r], fun r => errLoc (firstZ [holeE h, ifK (outP r) 3 0]) (locP h r)⟩, ⟨34, Int, fun n => [holeD h, ptD p, .str kind, .int .i64 n], fun n => relD h p kind n⟩,
        ⟨46, Pt × ByteArray, fun x => [ptD x.1, .str x.2, .snap [.int .i64 p.1, .int .i64 p.2, .int .i64 q.1, .int .i64 q.2, .str kind] 0, .snap [.int .i64 reach] 0, holeS h], fun x => .bool (fitL h p kind reach x.1 x.2)⟩, famPP 47 fun a b => .int .i64 (sqW a b)]
      ⟨one_good (ok15 h hb) rfl, one_good h43 rfl, one_good ok17 rfl, famP_good ok24 (fun _ => rfl), one_good (ok29 kind) rfl,
        ⟨fun r => ok19 h hk r, fun (x y : Pt) e => by
          obtain ⟨x1, x2⟩ := x
          obtain ⟨y1, y2⟩ := y
          have e : ([holeD h, ptD (x1, x2)] : List D) = [holeD h, ptD (y1, y2)] := e
          simp only [List.cons.injEq, D.agg.injEq, D.int.injEq, true_and, and_true] at e
          rw [e.1, e.2], fun _ => rfl⟩,
        ⟨fun n => ok34 h hk p kind n, fun (x y : Int) e => by
          have e : ([holeD h, ptD p, .str kind, .int .i64 x] : List D) = [holeD h, ptD p, .str kind, .int .i64 y] := e
          simp only [List.cons.injEq, D.int.injEq, true_and, and_true] at e
          rw [e], fun _ => rfl⟩,
        ⟨fun x => ok46 h p q kind reach x.1 x.2, fun (x y : Pt × ByteArray) e => by
          obtain ⟨⟨x1, x2⟩, x3⟩ := x
          obtain ⟨⟨y1, y2⟩, y3⟩ := y
          have e : ([ptD (x1, x2), .str x3, .snap [.int .i64 p.1, .int .i64 p.2, .int .i64 q.1, .int .i64 q.2, .str kind] 0, .snap [.int .i64 reach] 0, holeS h] : List D) = [ptD (y1, y2), .str y3, .snap [.int .i64 p.1, .int .i64 p.2, .int .i64 q.1, .int .i64 q.2, .str kind] 0, .snap [.int .i64 reach] 0, holeS h] := e
          simp only [List.cons.injEq, D.agg.injEq, D.int.injEq, D.str.injEq, true_and, and_true] at e
          rw [e.1.1, e.1.2, e.2], fun _ => rfl⟩, famPP_good ok47 (fun _ _ => rfl), trivial⟩ rfl
    refine fnT hB Tryz.func8 (ord := O0) (N := N8) okf8 ((F8_eq _ _ _ h.name h.tee.1 h.tee.2 h.cup.1 h.cup.2 h.lf h.line.length (ptsC h.line) h.af h.areas.length (arsC h.areas) p.1 p.2 q.1 q.2 kind reach).trans ?_)
    have f17 : callOf B 17 [] = some (.bool true) := e17 ()
    have f24 : ∀ p : Pt, callOf B 24 [ptD p] = some (.int .i64 (ifK (outP p) 3 0)) := fun p => e24 p
    refine opt_step (x := holeD (ownH h)) (e15 ()) ?_
    rw [rd_hole]
    refine opt_step (x := D.bool (holeE h == 0)) (e43 ()) ?_
    rw [boolK_bool]
    by_cases hz : holeE h = 0
    · rw [show (holeE h == 0) = true by simpa using hz, Bool.not_true, ifK_false]
      refine opt_step (f24 p) (int_step ?_)
      cases hop : outP p
      · rw [ifK_false, show ((0 : Int) != 0) = false from rfl, ifK_false]
        refine opt_step (f24 q) (int_step ?_)
        cases hoq : outP q
        · rw [ifK_false, show ((0 : Int) != 0) = false from rfl, ifK_false]
          refine opt_step (x := D.bool (kindB kind)) (e29 ()) ?_
          rw [boolK_bool, f17, optK_some, boolK_bool, show (!ByteArray.toList kind == ByteArray.toList (ByteArray.mk #[111, 117, 116])) = !seqB kind outS from rfl]
          have mid : 0 ≤ reach → reach ≤ 6 → (kindB kind = true ∨ seqB kind outS = true) → F8_15 (callOf B) LL C1 h.name h.tee.1 h.tee.2 h.cup.1 h.cup.2 h.lf h.line.length (ptsC h.line) h.af h.areas.length (arsC h.areas) p.1 p.2 q.1 q.2 kind reach = some (.bool true) := fun g0 g6 gk => by
            refine near_mid ⟨f17, f24, fun r hr => ?_, fun n n0 n1 => ?_, fun r k => e46 (r, k), fun a b => e47 (a, b)⟩ hop hoq g0 g6
            · have h19 : callOf B 19 [holeD h, ptD r] = some (errLoc (firstZ [holeE h, ifK (outP r) 3 0]) (locP h r)) := e19 r
              rw [hz, hr] at h19
              exact h19
            · have h34 : callOf B 34 [holeD h, ptD p, .str kind, .int .i64 n] = some (relD h p kind n) := e34 n
              rw [relD_at (relE_mk hz hop gk n0 n1)] at h34
              exact h34
          have fin : (kindB kind = true ∨ seqB kind outS = true) → ifK (decide (reach < 0)) (some (D.bool true)) (ifK (decide (reach > 6)) (some (D.bool true)) (F8_15 (callOf B) LL C1 h.name h.tee.1 h.tee.2 h.cup.1 h.cup.2 h.lf h.line.length (ptsC h.line) h.af h.areas.length (arsC h.areas) p.1 p.2 q.1 q.2 kind reach)) = some (.bool true) := fun gk => by
            by_cases g0 : reach < 0
            · rw [decide_eq_true g0, ifK_true]
            · rw [decide_eq_false g0, ifK_false]
              by_cases g6 : reach > 6
              · rw [decide_eq_true g6, ifK_true]
              · rw [decide_eq_false g6, ifK_false]
                exact mid (by omega) (by omega) gk
          cases hkb : kindB kind
          · rw [Bool.not_false, ifK_true]
            cases hko : seqB kind outS
            · rfl
            · rw [Bool.not_true, ifK_false]
              exact fin (.inr hko)
          · rw [Bool.not_true, ifK_false]
            exact fin (.inl hkb)
        · rw [ifK_true, show ((3 : Int) != 0) = true from rfl, ifK_true, f17]
          rfl
      · rw [ifK_true, show ((3 : Int) != 0) = true from rfl, ifK_true, f17]
        rfl
    · rw [show (holeE h == 0) = false by simpa using hz, Bool.not_false, ifK_true, f17]
      rfl
end Go.Pd
end
