/-
  Lists as cells: what a loop over a list meets at a place.
  Typed arguments, laid open.
  Chapter 2: places, sides and turns, in plain numbers.
  Chapter 2: days of jobs under conditions, in plain numbers: the rounds, and the cycle that is a contradiction.
  Chapter 2: what the equations of its functions are stated about.
  Chapter 2: calls that hand over a slice of their own.
  Chapter 2: calls that write into their third argument.
-/
import Derived.Test.YtmhbhlbnlmbhlaaGreatDoorPdFf
import Derived.IntWalk
import Derived.Test.YtmhbhlbnlmbhlaaGreatDoorProg
section
namespace Go.Pd
open Go Go.RowKit
def ints (l : List Int) : List D := l.map (D.int .i64)
def rows (l : List (List Int)) : List D := l.map fun x => D.slc false x.length (ints x)
section
variable {α β : Type} (pre : List α) (x : α) (r : List α)
theorem ints_len (l : List Int) : (ints l).length = l.length := by simp [ints]
theorem lt_pre : decide ((pre.length : Int) < ((pre ++ x :: r).length : Int)) = true := by simp; omega
theorem in_pre : decide ((0 : Int) ≤ (pre.length : Int) ∧ (pre.length : Int) < ((pre ++ x :: r).length : Int)) = true := by simp; omega
theorem end_pre : decide ((pre.length : Int) < ((pre ++ ([] : List α)).length : Int)) = false := by simp
theorem wrap_in {y : Int} (h : -9223372036854775808 ≤ y ∧ y ≤ 9223372036854775807) : IntKind.wrap .i64 y = y := IntWalk.i64_in y h
theorem step_pre (h : (pre ++ x :: r).length ≤ 4611686018427387904) : IntKind.wrap .i64 ((pre.length : Int) + 1) = ((pre ++ [x]).length : Int) := by
  simp at h
  rw [wrap_in (by omega)]
  simp
theorem app1 : (pre ++ [x]) ++ r = pre ++ x :: r := by simp
theorem cell_map {γ : Type} (g : α → D) (c : D → Option γ) : cellK ((pre ++ x :: r).map g) (Int.toNat (pre.length : Int) * 1) c = c (g x) := by
  refine cellK_some ?_ c
  simp
theorem cell_ints {γ : Type} (pre : List Int) (x : Int) (r : List Int) (c : D → Option γ) : cellK (ints (pre ++ x :: r)) (Int.toNat (pre.length : Int) * 1) c = c (.int .i64 x) := cell_map pre x r _ c
theorem flat_get (g : α → List D) (w : Nat) (hw : ∀ x, (g x).length = w) : ∀ (pre : List α) (j : Nat), j < w → ((pre ++ x :: r).flatMap g)[pre.length * w + j]? = (g x)[j]?
  | [], j, hj => by
    rw [List.nil_append, List.flatMap_cons, List.length_nil, Nat.zero_mul, Nat.zero_add, List.getElem?_append_left (by rw [hw]; exact hj)]
  | y :: pre, j, hj => by
    rw [List.cons_append, List.flatMap_cons, List.length_cons, Nat.add_mul, Nat.one_mul, List.getElem?_append_right (by rw [hw]; omega), hw]
    rw [show pre.length * w + w + j - w = pre.length * w + j by omega]
    exact flat_get g w hw pre j hj
theorem cell_row {γ : Type} (g : α → List D) (w : Nat) (hw : ∀ x, (g x).length = w) (j : Nat) (hj : j < w) (c : D → Option γ) : cellK ((pre ++ x :: r).flatMap g) (Int.toNat (pre.length : Int) * w + j) c = cellK (g x) j c := by
  unfold cellK
  rw [Int.toNat_natCast, flat_get x r g w hw pre j hj]
end
end Go.Pd
end
section
namespace Go.Pd
open Go Go.RowKit
section
variable {P : Program} {n : Nat} {t : TypeId} {ds : List D}
theorem ty_int {k : IntKind} (hu : P.underlying t = some (.int k)) (h : Ty P (n + 1) t ds) : ∃ x, ds = [.int k x] ∧ (Lit.int k x).wf = true := by
  unfold Ty at h; rw [hu] at h; exact h
theorem ty_str (hu : P.underlying t = some .string) (h : Ty P (n + 1) t ds) : ∃ s, ds = [.str s] ∧ s.size ≤ maxLen := by
  unfold Ty at h; rw [hu] at h; exact h
theorem ty_slice {e : TypeId} (hu : P.underlying t = some (.slice e)) (h : Ty P (n + 1) t ds) : ∃ gs : List (List D), ds = [.slc false gs.length gs.flatten] ∧ gs.length ≤ maxLen ∧ ∀ g ∈ gs, Ty P n e g := by
  unfold Ty at h; rw [hu] at h; exact h
theorem ty_struct2 {fs : Array Field} {f1 f2 : Field} (hu : P.underlying t = some (.struct fs)) (hfs : fs.toList = [f1, f2]) (h : Ty P (n + 1) t ds) : ∃ g1 g2, ds = g1 ++ g2 ∧ Ty P n f1.type g1 ∧ Ty P n f2.type g2 := by
  unfold Ty at h; rw [hu] at h
  obtain ⟨gs, h1, h2, h3⟩ := h
  have hl : gs.length = 2 := by rw [h2, ← Array.length_toList, hfs]; rfl
  match gs, hl with
  | [g1, g2], _ => exact ⟨g1, g2, by rw [h1]; simp, h3 0 f1 g1 (by rw [hfs]; rfl) rfl, h3 1 f2 g2 (by rw [hfs]; rfl) rfl⟩
theorem rows_of {α : Type} (g : α → List D) {p : List D → Prop} (hp : ∀ d, p d → ∃ x, d = g x) : ∀ gs : List (List D), (∀ d ∈ gs, p d) → ∃ l : List α, l.length = gs.length ∧ gs.flatten = l.flatMap g
  | [], _ => ⟨[], rfl, rfl⟩
  | d :: gs, h => by
    obtain ⟨x, hx⟩ := hp d (h d (by simp))
    obtain ⟨l, h1, h2⟩ := rows_of g hp gs fun d hd => h d (List.mem_cons_of_mem _ hd)
    exact ⟨x :: l, by simp [h1], by rw [List.flatten_cons, List.flatMap_cons, h2, hx]⟩
end
theorem all_ty3 {P : Program} {n : Nat} {t1 t2 t3 : TypeId} {cs : List (List D)} (h : AllTy P n [t1, t2, t3] cs) : ∃ c1 c2 c3, cs = [c1, c2, c3] ∧ Ty P n t1 c1 ∧ Ty P n t2 c2 ∧ Ty P n t3 c3 := by
  match cs, h with
  | [c1, c2, c3], h => exact ⟨c1, c2, c3, rfl, h.1, h.2.1, h.2.2.1⟩
end Go.Pd
end
section
namespace Go.Pd
abbrev Pt := Int × Int
def crs (a b : Pt) : Int := a.1 * b.2 - a.2 * b.1
def dt (a b : Pt) : Int := a.1 * b.1 + a.2 * b.2
def mns (a b : Pt) : Pt := (a.1 - b.1, a.2 - b.2)
def sg (n : Int) : Int := if n < 0 then -1 else if n > 0 then 1 else 0
def trn (a b c : Pt) : Int := sg (crs (mns b a) (mns c a))
theorem sq_nonneg' (x : Int) : 0 ≤ x * x := by
  rcases Int.le_total 0 x with h | h
  · exact Int.mul_nonneg h h
  · exact Int.mul_nonneg_of_nonpos_of_nonpos h h
def hasP (a b p : Pt) : Bool := decide (trn a b p = 0) && decide (dt (mns a p) (mns b p) ≤ 0)
def onP (a b p : Pt) : Bool := decide (trn a b p = 0) && (decide (min a.1 b.1 ≤ p.1) && (decide (p.1 ≤ max a.1 b.1) && (decide (min a.2 b.2 ≤ p.2) && decide (p.2 ≤ max a.2 b.2))))
theorem sg_neg (n : Int) : sg (-n) = - sg n := by unfold sg; split <;> split <;> (try split) <;> (try split) <;> omega
theorem sg_zero {n : Int} : sg n = 0 ↔ n = 0 := by unfold sg; split <;> (try split) <;> omega
theorem sg_lt {n : Int} : sg n < 0 ↔ n < 0 := by unfold sg; split <;> (try split) <;> omega
theorem trn_swap (a b c : Pt) : trn b a c = - trn a b c := by
  unfold trn
  rw [← sg_neg]
  congr 1
  unfold crs mns
  grind
theorem trn_cyc (a b c : Pt) : trn b c a = trn a b c := by
  unfold trn
  congr 1
  unfold crs mns
  grind
theorem trn_rev (a b c : Pt) : trn c b a = - trn a b c := by rw [trn_swap b c a, trn_cyc]
theorem both_le {p q : Int} (h : 0 ≤ p * q) : p + q ≤ 0 ↔ p ≤ 0 ∧ q ≤ 0 := by
  refine ⟨fun hs => ?_, fun hs => by omega⟩
  apply Classical.byContradiction
  intro hn
  by_cases hp : 0 < p
  · have hq : q < 0 := by omega
    have := Int.mul_neg_of_pos_of_neg hp hq
    omega
  · by_cases hq : 0 < q
    · have hp : p < 0 := by omega
      have := Int.mul_neg_of_neg_of_pos hp hq
      omega
    · omega
theorem mul_le_zero {x y : Int} : x * y ≤ 0 ↔ (x ≤ 0 ∧ 0 ≤ y) ∨ (0 ≤ x ∧ y ≤ 0) := by
  rcases Int.lt_trichotomy x 0 with hx | hx | hx <;> rcases Int.lt_trichotomy y 0 with hy | hy | hy
  · have := Int.mul_pos_of_neg_of_neg hx hy; omega
  · subst hy; simp; omega
  · have := Int.mul_neg_of_neg_of_pos hx hy; omega
  · subst hx; simp; omega
  · subst hx; subst hy; simp
  · subst hx; simp; omega
  · have := Int.mul_neg_of_pos_of_neg hx hy; omega
  · subst hy; simp; omega
  · have := Int.mul_pos hx hy; omega
theorem has_on (a b p : Pt) : hasP a b p = onP a b p := by
  unfold hasP onP
  by_cases ht : trn a b p = 0
  · rw [decide_eq_true ht, Bool.true_and, Bool.true_and]
    have hc : crs (mns b a) (mns p a) = 0 := sg_zero.1 ht
    have h0 : 0 ≤ ((a.1 - p.1) * (b.1 - p.1)) * ((a.2 - p.2) * (b.2 - p.2)) := by
      have e : (a.1 - p.1) * (b.2 - p.2) = (a.2 - p.2) * (b.1 - p.1) := by
        unfold crs mns at hc
        simp only at hc
        grind
      have : ((a.1 - p.1) * (b.1 - p.1)) * ((a.2 - p.2) * (b.2 - p.2)) = ((a.1 - p.1) * (b.2 - p.2)) * ((a.1 - p.1) * (b.2 - p.2)) := by
        have e2 : ((a.1 - p.1) * (b.1 - p.1)) * ((a.2 - p.2) * (b.2 - p.2)) = ((a.1 - p.1) * (b.2 - p.2)) * ((a.2 - p.2) * (b.1 - p.1)) := by grind
        rw [e2, ← e]
      rw [this]
      exact sq_nonneg' _
    have h1 := both_le h0
    have h2 := @mul_le_zero (a.1 - p.1) (b.1 - p.1)
    have h3 := @mul_le_zero (a.2 - p.2) (b.2 - p.2)
    rw [show decide (dt (mns a p) (mns b p) ≤ 0) = decide ((a.1 - p.1) * (b.1 - p.1) + (a.2 - p.2) * (b.2 - p.2) ≤ 0) from rfl, Bool.eq_iff_iff]
    simp only [Bool.and_eq_true, decide_eq_true_eq]
    rw [h1, h2, h3]
    omega
  · rw [decide_eq_false ht, Bool.false_and, Bool.false_and]
theorem has_swap (a b p : Pt) : hasP b a p = hasP a b p := by
  unfold hasP
  rw [trn_swap a b p]
  congr 1
  · rw [Bool.eq_iff_iff]; simp only [decide_eq_true_eq]; omega
  · rw [Bool.eq_iff_iff]; simp only [decide_eq_true_eq]
    have : dt (mns b p) (mns a p) = dt (mns a p) (mns b p) := by unfold dt; grind
    rw [this]
def meetP (a b c d : Pt) : Bool := hasP a b c || (hasP a b d || (hasP c d a || (hasP c d b || (decide (trn a b c * trn a b d < 0) && decide (trn c d a * trn c d b < 0)))))
theorem meet_comm (a b c d : Pt) : meetP c d a b = meetP a b c d := by
  unfold meetP
  cases hasP a b c <;> cases hasP a b d <;> cases hasP c d a <;> cases hasP c d b <;> simp only [Bool.true_or, Bool.or_true, Bool.false_or, Bool.and_comm]
theorem neg_mul_neg_lt (x y : Int) : decide (-x * -y < 0) = decide (x * y < 0) := by rw [Int.neg_mul_neg]
theorem meet_swap1 (a b c d : Pt) : meetP b a c d = meetP a b c d := by
  unfold meetP
  rw [has_swap a b c, has_swap a b d, trn_swap a b c, trn_swap a b d, neg_mul_neg_lt, Int.mul_comm (trn c d b)]
  cases hasP a b c <;> cases hasP a b d <;> cases hasP c d a <;> cases hasP c d b <;> rfl
theorem meet_swap2 (a b c d : Pt) : meetP a b d c = meetP a b c d := by rw [← meet_comm a b d c, ← meet_comm a b c d, meet_swap1]
/-! ### Sides -/
def sdTo : List Pt → Pt → List (Pt × Pt)
  | [], _ => []
  | [x], z => [(x, z)]
  | x :: y :: r, z => (x, y) :: sdTo (y :: r) z
def sdL : List Pt → List (Pt × Pt)
  | [] => []
  | x :: r => sdTo (x :: r) x
def xorL (f : Pt × Pt → Bool) : List (Pt × Pt) → Bool
  | [] => false
  | s :: r => f s ^^ xorL f r
theorem xor_tele (f : Pt → Bool) : ∀ (l : List Pt) (x z : Pt), xorL (fun s => f s.1 ^^ f s.2) (sdTo (x :: l) z) = (f x ^^ f z)
  | [], x, z => by simp [sdTo, xorL]
  | y :: l, x, z => by
    rw [show sdTo (x :: y :: l) z = (x, y) :: sdTo (y :: l) z from rfl]
    unfold xorL
    rw [xor_tele f l y z]
    cases f x <;> cases f y <;> cases f z <;> rfl
theorem xor_round (f : Pt → Bool) : ∀ l : List Pt, xorL (fun s => f s.1 ^^ f s.2) (sdL l) = false
  | [] => rfl
  | x :: l => by
    rw [show sdL (x :: l) = sdTo (x :: l) x from rfl, xor_tele]
    simp
theorem xor_add (f g : Pt × Pt → Bool) : ∀ l, xorL (fun s => f s ^^ g s) l = (xorL f l ^^ xorL g l)
  | [] => rfl
  | s :: l => by
    unfold xorL
    rw [xor_add f g l]
    cases f s <;> cases g s <;> cases xorL f l <;> cases xorL g l <;> rfl
theorem xor_congr {f g : Pt × Pt → Bool} : ∀ l, (∀ s ∈ l, f s = g s) → xorL f l = xorL g l
  | [], _ => rfl
  | s :: l, h => by
    unfold xorL
    rw [h s (List.mem_cons_self ..), xor_congr l fun t ht => h t (List.mem_cons_of_mem _ ht)]
def cr1 (p : Pt) (s : Pt × Pt) : Bool := (decide (s.1.2 > p.2) != decide (s.2.2 > p.2)) && (decide (trn s.1 s.2 p > 0) == decide (s.2.2 > p.2))
def cr2 (p : Pt) (s : Pt × Pt) : Bool := (decide (s.1.2 > p.2) && (decide (s.2.2 ≤ p.2) && decide (trn s.1 s.2 p > 0))) || (decide (s.2.2 > p.2) && (decide (s.1.2 ≤ p.2) && decide (trn s.2 s.1 p > 0)))
theorem between_on {a b p : Pt} (h1 : a.2 > p.2) (h2 : b.2 ≤ p.2) (ht : trn a b p = 0) : hasP a b p = true := by
  have hc : crs (mns b a) (mns p a) = 0 := sg_zero.1 ht
  unfold hasP
  rw [decide_eq_true ht, Bool.true_and]
  have e : (a.1 - p.1) * (b.2 - p.2) = (a.2 - p.2) * (b.1 - p.1) := by
    unfold crs mns at hc
    simp only at hc
    grind
  have h0 : 0 ≤ ((a.1 - p.1) * (b.1 - p.1)) * ((a.2 - p.2) * (b.2 - p.2)) := by
    have e2 : ((a.1 - p.1) * (b.1 - p.1)) * ((a.2 - p.2) * (b.2 - p.2)) = ((a.1 - p.1) * (b.2 - p.2)) * ((a.2 - p.2) * (b.1 - p.1)) := by grind
    rw [e2, ← e]
    exact sq_nonneg' _
  have hy : (a.2 - p.2) * (b.2 - p.2) ≤ 0 := mul_le_zero.2 (.inr ⟨by omega, by omega⟩)
  refine decide_eq_true ?_
  show (a.1 - p.1) * (b.1 - p.1) + (a.2 - p.2) * (b.2 - p.2) ≤ 0
  refine (both_le h0).2 ⟨?_, hy⟩
  by_cases hb : b.2 - p.2 = 0
  · rw [hb, Int.mul_zero] at e
    have h3 : b.1 - p.1 = 0 := by
      rcases Int.mul_eq_zero.1 e.symm with h | h
      · omega
      · exact h
    rw [h3, Int.mul_zero]
    exact Int.le_refl 0
  · have hlt : (a.2 - p.2) * (b.2 - p.2) < 0 := Int.mul_neg_of_pos_of_neg (by omega) (by omega)
    apply Classical.byContradiction
    intro hn
    have := Int.mul_neg_of_pos_of_neg (show 0 < (a.1 - p.1) * (b.1 - p.1) by omega) hlt
    omega
theorem cr_both {a b p : Pt} (h : hasP a b p = false) : (cr1 p (a, b) ^^ cr2 p (a, b)) = (decide (a.2 > p.2) ^^ decide (b.2 > p.2)) := by
  unfold cr1 cr2
  simp only
  rw [trn_swap a b p]
  by_cases h1 : a.2 > p.2 <;> by_cases h2 : b.2 > p.2
  · rw [decide_eq_true h1, decide_eq_true h2, decide_eq_false (show ¬ b.2 ≤ p.2 by omega), decide_eq_false (show ¬ a.2 ≤ p.2 by omega)]
    simp
  · have hb : b.2 ≤ p.2 := by omega
    have ht : trn a b p ≠ 0 := fun e => by rw [between_on h1 hb e] at h; cases h
    rw [decide_eq_true h1, decide_eq_false h2, decide_eq_true hb]
    by_cases hp : trn a b p > 0
    · rw [decide_eq_true hp]; simp
    · rw [decide_eq_false hp]; simp
  · have ha : a.2 ≤ p.2 := by omega
    have ht : trn a b p ≠ 0 := fun e => by
      have := between_on h2 ha (show trn b a p = 0 by rw [trn_swap a b p]; omega)
      rw [has_swap] at this
      rw [this] at h; cases h
    rw [decide_eq_false h1, decide_eq_true h2, decide_eq_true ha]
    by_cases hp : trn a b p > 0
    · rw [decide_eq_true hp, decide_eq_false (show ¬ -trn a b p > 0 by omega)]; simp
    · rw [decide_eq_false hp, decide_eq_true (show -trn a b p > 0 by omega)]; simp
  · rw [decide_eq_false h1, decide_eq_false h2]
    simp
theorem cross_same {l : List Pt} {p : Pt} (h : ∀ s ∈ sdL l, hasP s.1 s.2 p = false) : xorL (cr1 p) (sdL l) = xorL (cr2 p) (sdL l) := by
  have h1 : xorL (fun s => cr1 p s ^^ cr2 p s) (sdL l) = false := by
    rw [xor_congr (g := fun s => decide (s.1.2 > p.2) ^^ decide (s.2.2 > p.2)) _ fun s hs => cr_both (h s hs)]
    exact xor_round (fun a => decide (a.2 > p.2)) l
  rw [xor_add] at h1
  revert h1
  cases xorL (cr1 p) (sdL l) <;> cases xorL (cr2 p) (sdL l) <;> simp
end Go.Pd
end
section
namespace Go.Pd
abbrev Rl := Nat × Nat × Int
structure BF where
  d : Nat → Int
  b : Nat → Option Nat
  t : Nat → Nat
  last : Option Nat
structure BInv (R : List Rl) (now : Nat) (S : BF) : Prop where
  par : ∀ v i, S.b v = some i → ∃ u w, R[i]? = some (u, v, w) ∧ S.d v ≤ S.d u + w ∧ (S.t v ≤ S.t u → S.d v < S.d u + w) ∧ S.t v ≤ S.t u + R.length
  root : ∀ v, S.b v = none → S.d v = 0 ∧ S.t v = 0
  pos : ∀ v, 0 ≤ S.d v
  tn : ∀ v, S.t v ≤ now
  edge : ∀ i u v w ρ, R[i]? = some (u, v, w) → ρ * R.length + i + 1 ≤ now → now < ρ * R.length + i + 1 + R.length → S.t u < ρ * R.length + i + 1 → S.d u + w ≤ S.d v
section
variable {R : List Rl} {now : Nat} {S : BF}
end
section
variable {R : List Rl} {now : Nat} {S : BF} {J : Nat}
end
end Go.Pd
end
section
namespace Go.Pd
open Go Go.Proofs
def cstG : Cst := fun k ds => match k, ds with
  | 109, [.slc f n c] => some (.fn (.func 176) [] [.snap [.slc f n c] 0])
  | 94, [.slc f n c] => some (.fn (.func 160) [] [.snap [.slc f n c] 0])
  | _, _ => none
def S (l : List UInt8) : D := .str ⟨l.toArray⟩
def kindL : List D := [S [103, 114, 101, 101, 110], S [116, 101, 101], S [98, 117, 110, 107, 101, 114], S [119, 97, 116, 101, 114], S [102, 97, 105, 114, 119, 97, 121], S [114, 111, 117, 103, 104]]
def glO : Nat → Option D := fun g => match g with
  | 0 => some (.snap kindL 0)
  | _ => none
def sidesGo (n : Nat) (a : List D) : Nat → Nat → Option (List (List D))
  | 0, _ => some []
  | k + 1, i => cellK a (i * 2 + 0) fun d => intK .i64 d fun x => cellK a (i * 2 + 1) fun d1 => intK .i64 d1 fun y =>
      cellK a ((i + 1) % n * 2 + 0) fun d2 => intK .i64 d2 fun u => cellK a ((i + 1) % n * 2 + 1) fun d3 => intK .i64 d3 fun v =>
        emitK [.int .i64 i, .agg [.int .i64 x, .int .i64 y, .int .i64 u, .int .i64 v]] (sidesGo n a k (i + 1)) (some [])
def LL : Nat := 4611686018427387904
def sqT : FuncId → List D → Option (List (List D)) := fun g cs => match g, cs with
  | 176, [.snap [.slc _ n c] 0] => chkK (decide (n < 4611686018427387904)) (sidesGo n c n 0)
  | _, _ => none
def wrM (mu : FuncId → List D → Option D) : FuncId → Option Mu := fun k => match k with
  | 146 => some (.tab false (mu 146))
  | 148 => some (.tab true (mu 148))
  | 177 => some (.tab false (mu 177))
  | 196 => some (.tab false (mu 196))
  | 238 => some (.tab false (mu 238))
  | _ => none
noncomputable def TEx (call mu : FuncId → List D → Option D) (L : Nat) (C : Nat → Nat) (sq : FuncId → List D → Option (List (List D))) : TE := { E := { P := Tryz.prog, gl := glO, call := call, L := L, wr := wrM mu }, cst := cstG, C := C, sq := sq }
def noMu : FuncId → List D → Option D := fun _ _ => none
noncomputable def TEs (call : CL) (L : Nat) (C : Nat → Nat) (sq : FuncId → List D → Option (List (List D))) : TE := TEx call noMu L C sq
noncomputable def TEm (call mu : FuncId → List D → Option D) (L : Nat) (C : Nat → Nat) : TE := TEx call mu L C sqT
noncomputable def TEM (call mu : FuncId → List D → Option D) (L : Nat) (C : Nat → Nat) (_ : TypeId) (_ : Nat) : TE := TEm call mu L C
noncomputable def TEf (call : CL) (L : Nat) (C : Nat → Nat) : TE := TEs call L C sqT
noncomputable def TEi (call : CL) (L : Nat) (C : Nat → Nat) (l : Nat) : TE := { TEf call L C with it := some l }
noncomputable def TE0 (call : CL) (L : Nat) (C : Nat → Nat) : TE := { E := { P := Tryz.prog, gl := glO, call := call, L := L, wr := wrM noMu }, cst := fun _ _ => none, C := C }
def O0 : Ord := fun _ => none
def N0 : NTab := fun _ => none
end Go.Pd
end
section
namespace Go.Pd
open Go Go.Proofs
def wrO : FuncId → Option Mu := fun k => match k with
  | 81 => some (.own 23 2)
  | 173 => some (.own 3 1)
  | _ => none
noncomputable def TEk (call : CL) (L : Nat) (C : Nat → Nat) : TE := { E := { P := Tryz.prog, gl := glO, call := call, L := L, wr := wrO }, cst := cstG, C := C, sq := sqT }
end Go.Pd
end
section
namespace Go.Pd
open Go Go.Proofs
def wrP (mu : FuncId → List D → Option D) : FuncId → Option Mu := fun k => match k with
  | 173 => some (.own 3 1)
  | 104 => some (.plc 2 (mu 104))
  | _ => none
noncomputable def TEP (call mu : FuncId → List D → Option D) (L : Nat) (C : Nat → Nat) (_ : TypeId) (_ : Nat) : TE := { E := { P := Tryz.prog, gl := glO, call := call, L := L, wr := wrP mu }, cst := cstG, C := C, sq := sqT }
noncomputable def TEq (call mu : FuncId → List D → Option D) (L : Nat) (C : Nat → Nat) : TE := { E := { P := Tryz.prog, gl := glO, call := call, L := L, wr := wrP mu }, cst := cstG, C := C, sq := sqT }
end Go.Pd
end
