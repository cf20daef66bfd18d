/-
  Lists as cells: what a loop over a list meets at a place.
  Typed arguments, laid open.
  Chapter 2: places, sides and turns, in plain numbers.
  Chapter 2: days of jobs under conditions, in plain numbers: the rounds, and the cycle that is a contradiction.
  Chapter 2: what the equations of its functions are stated about.
  Chapter 2: calls that hand over a slice of their own.
  Chapter 2: calls that write into their third argument.
-/
import Derived.Test.YtmhbhlbnlmbhlaaGreatDoorPdFf
import Derived.IntWalk
import Derived.Test.YtmhbhlbnlmbhlaaGreatDoorProg
section
namespace Go.Pd
open Go Go.RowKit

def ints (l : List Int) : List D := l.map (D.int .i64)
def rows (l : List (List Int)) : List D := l.map fun x => D.slc false x.length (ints x)
section
variable {α β : Type} (pre : List α) (x : α) (r : List α)
theorem ints_len (l : List Int) : (ints l).length = l.length := by simp [ints]
theorem lt_pre : decide ((pre.length : Int) < ((pre ++ x :: r).length : Int)) = true := by simp; omega
theorem in_pre : decide ((0 : Int) ≤ (pre.length : Int) ∧ (pre.length : Int) < ((pre ++ x :: r).length : Int)) = true := by simp; omega
theorem end_pre : decide ((pre.length : Int) < ((pre ++ ([] : List α)).length : Int)) = false := by simp
theorem wrap_in {y : Int} (h : -9223372036854775808 ≤ y ∧ y ≤ 9223372036854775807) : IntKind.wrap .i64 y = y := IntWalk.i64_in y h
theorem step_pre (h : (pre ++ x :: r).length ≤ 4611686018427387904) : IntKind.wrap .i64 ((pre.length : Int) + 1) = ((pre ++ [x]).length : Int) := by
  simp at h
  rw [wrap_in (by omega)]
  simp
theorem app1 : (pre ++ [x]) ++ r = pre ++ x :: r := by simp
theorem cell_map {γ : Type} (g : α → D) (c : D → Option γ) : cellK ((pre ++ x :: r).map g) (Int.toNat (pre.length : Int) * 1) c = c (g x) := by
  refine cellK_some ?_ c
  simp
theorem cell_ints {γ : Type} (pre : List Int) (x : Int) (r : List Int) (c : D → Option γ) : cellK (ints (pre ++ x :: r)) (Int.toNat (pre.length : Int) * 1) c = c (.int .i64 x) := cell_map pre x r _ c
theorem flat_get (g : α → List D) (w : Nat) (hw : ∀ x, (g x).length = w) : ∀ (pre : List α) (j : Nat), j < w → ((pre ++ x :: r).flatMap g)[pre.length * w + j]? = (g x)[j]?
  | [], j, hj => by
    rw [List.nil_append, List.flatMap_cons, List.length_nil, Nat.zero_mul, Nat.zero_add, List.getElem?_append_left (by rw [hw]; exact hj)]
  | y :: pre, j, hj => by
    rw [List.cons_append, List.flatMap_cons, List.length_cons, Nat.add_mul, Nat.one_mul, List.getElem?_append_right (by rw [hw]; omega), hw]
    rw [show pre.length * w + w + j - w = pre.length * w + j by omega]
    exact flat_get g w hw pre j hj
theorem cell_row {γ : Type} (g : α → List D) (w : Nat) (hw : ∀ x, (g x).length = w) (j : Nat) (hj : j < w) (c : D → Option γ) : cellK ((pre ++ x :: r).flatMap g) (Int.toNat (pre.length : Int) * w + j) c = cellK (g x) j c := by
  unfold cellK
  rw [Int.toNat_natCast, flat_get x r g w hw pre j hj]
end
end Go.Pd
end

section
namespace Go.Pd
open Go Go.RowKit
section
variable {P : Program} {n : Nat} {t : TypeId} {ds : List D}
theorem ty_int {k : IntKind} (hu : P.underlying t = some (.int k)) (h : Ty P (n + 1) t ds) : ∃ x, ds = [.int k x] ∧ (Lit.int k x).wf = true := by
  unfold Ty at h; rw [hu] at h; exact h
theorem ty_slice {e : TypeId} (hu : P.underlying t = some (.slice e)) (h : Ty P (n + 1) t ds) : ∃ gs : List (List D), ds = [.slc false gs.length gs.flatten] ∧ gs.length ≤ maxLen ∧ ∀ g ∈ gs, Ty P n e g := by
  unfold Ty at h; rw [hu] at h; exact h
theorem ty_struct3 {fs : Array Field} {f1 f2 f3 : Field} (hu : P.underlying t = some (.struct fs)) (hfs : fs.toList = [f1, f2, f3]) (h : Ty P (n + 1) t ds) : ∃ g1 g2 g3, ds = g1 ++ g2 ++ g3 ∧ Ty P n f1.type g1 ∧ Ty P n f2.type g2 ∧ Ty P n f3.type g3 := by
  unfold Ty at h; rw [hu] at h
  obtain ⟨gs, h1, h2, h3⟩ := h
  have hl : gs.length = 3 := by rw [h2, ← Array.length_toList, hfs]; rfl
  match gs, hl with
  | [g1, g2, g3], _ => exact ⟨g1, g2, g3, by rw [h1]; simp, h3 0 f1 g1 (by rw [hfs]; rfl) rfl, h3 1 f2 g2 (by rw [hfs]; rfl) rfl, h3 2 f3 g3 (by rw [hfs]; rfl) rfl⟩
end
theorem all_ty3 {P : Program} {n : Nat} {t1 t2 t3 : TypeId} {cs : List (List D)} (h : AllTy P n [t1, t2, t3] cs) : ∃ c1 c2 c3, cs = [c1, c2, c3] ∧ Ty P n t1 c1 ∧ Ty P n t2 c2 ∧ Ty P n t3 c3 := by
  match cs, h with
  | [c1, c2, c3], h => exact ⟨c1, c2, c3, rfl, h.1, h.2.1, h.2.2.1⟩
end Go.Pd
end

section
namespace Go.Pd
abbrev Pt := Int × Int
def crs (a b : Pt) : Int := a.1 * b.2 - a.2 * b.1
def dt (a b : Pt) : Int := a.1 * b.1 + a.2 * b.2
def mns (a b : Pt) : Pt := (a.1 - b.1, a.2 - b.2)
def sg (n : Int) : Int := if n < 0 then -1 else if n > 0 then 1 else 0
def trn (a b c : Pt) : Int := sg (crs (mns b a) (mns c a))
theorem sq_nonneg' (x : Int) : 0 ≤ x * x := by
  rcases Int.le_total 0 x with h | h
  · exact Int.mul_nonneg h h
  · exact Int.mul_nonneg_of_nonpos_of_nonpos h h
def hasP (a b p : Pt) : Bool := decide (trn a b p = 0) && decide (dt (mns a p) (mns b p) ≤ 0)
theorem sg_zero {n : Int} : sg n = 0 ↔ n = 0 := by unfold sg; split <;> (try split) <;> omega
theorem sg_lt {n : Int} : sg n < 0 ↔ n < 0 := by unfold sg; split <;> (try split) <;> omega
def meetP (a b c d : Pt) : Bool := hasP a b c || (hasP a b d || (hasP c d a || (hasP c d b || (decide (trn a b c * trn a b d < 0) && decide (trn c d a * trn c d b < 0)))))
/-! ### Sides -/
def sdTo : List Pt → Pt → List (Pt × Pt)
  | [], _ => []
  | [x], z => [(x, z)]
  | x :: y :: r, z => (x, y) :: sdTo (y :: r) z
def sdL : List Pt → List (Pt × Pt)
  | [] => []
  | x :: r => sdTo (x :: r) x
end Go.Pd
end

section
namespace Go.Pd
abbrev Rl := Nat × Nat × Int
structure BF where
  d : Nat → Int
  b : Nat → Option Nat
  t : Nat → Nat
  last : Option Nat
def updF {α : Type} (f : Nat → α) (v : Nat) (x : α) : Nat → α := fun k => if k = v then x else f k
theorem updF_same {α : Type} (f : Nat → α) (v : Nat) (x : α) : updF f v x v = x := by simp [updF]
theorem updF_ne {α : Type} (f : Nat → α) {v k : Nat} (x : α) (h : k ≠ v) : updF f v x k = f k := by simp [updF, h]
def bfStep (i now : Nat) (r : Rl) (S : BF) : BF :=
  if S.d r.2.1 < S.d r.1 + r.2.2 then ⟨updF S.d r.2.1 (S.d r.1 + r.2.2), updF S.b r.2.1 (some i), updF S.t r.2.1 (now + 1), some r.2.1⟩ else S
def bfGo : List Rl → Nat → Nat → BF → BF
  | [], _, _, S => S
  | r :: l, i, now, S => bfGo l (i + 1) (now + 1) (bfStep i now r S)

structure BInv (R : List Rl) (now : Nat) (S : BF) : Prop where
  par : ∀ v i, S.b v = some i → ∃ u w, R[i]? = some (u, v, w) ∧ S.d v ≤ S.d u + w ∧ (S.t v ≤ S.t u → S.d v < S.d u + w) ∧ S.t v ≤ S.t u + R.length
  root : ∀ v, S.b v = none → S.d v = 0 ∧ S.t v = 0
  pos : ∀ v, 0 ≤ S.d v
  tn : ∀ v, S.t v ≤ now
  edge : ∀ i u v w ρ, R[i]? = some (u, v, w) → ρ * R.length + i + 1 ≤ now → now < ρ * R.length + i + 1 + R.length → S.t u < ρ * R.length + i + 1 → S.d u + w ≤ S.d v
theorem binv_start (R : List Rl) : BInv R 0 ⟨fun _ => 0, fun _ => none, fun _ => 0, none⟩ :=
  ⟨(fun _ _ h => (nomatch h)), fun _ _ => ⟨rfl, rfl⟩, fun _ => Int.le_refl 0, fun _ => Nat.le_refl 0, fun i u v w ρ _ h => (by omega)⟩
theorem mod_eq {m a b i j : Nat} (hi : i < m) (hj : j < m) (h : a * m + i = b * m + j) : a = b ∧ i = j := by
  have h1 : (a * m + i) % m = i := by rw [Nat.mul_comm, Nat.mul_add_mod]; exact Nat.mod_eq_of_lt hi
  have h2 : (b * m + j) % m = j := by rw [Nat.mul_comm, Nat.mul_add_mod]; exact Nat.mod_eq_of_lt hj
  have hij : i = j := by rw [← h1, ← h2, h]
  subst hij
  have h3 : a * m = b * m := by omega
  exact ⟨Nat.eq_of_mul_eq_mul_right (by omega) h3, rfl⟩
theorem binv_step {R : List Rl} {ρ i : Nat} {r : Rl} {S : BF} (h : BInv R (ρ * R.length + i) S) (hr : R[i]? = some r) : BInv R (ρ * R.length + i + 1) (bfStep i (ρ * R.length + i) r S) := by
  obtain ⟨u, v, w⟩ := r
  have him : i < R.length := (List.getElem?_eq_some_iff.1 hr).1
  unfold bfStep
  dsimp only
  by_cases hc : S.d v < S.d u + w
  · rw [if_pos hc]
    have hmono : ∀ k, S.d k ≤ updF S.d v (S.d u + w) k := fun k => by
      unfold updF; split
      · rename_i e; subst e; omega
      · exact Int.le_refl _
    refine ⟨fun x j hb => ?_, fun x hb => ?_, fun x => Int.le_trans (h.pos x) (hmono x), fun x => ?_, fun j u' v' w' ρ' hj h1 h2 h3 => ?_⟩
    · by_cases hx : x = v
      · subst hx
        simp only [updF_same, Option.some.injEq] at hb
        subst hb
        refine ⟨u, w, hr, ?_, ?_, ?_⟩
        · show updF S.d x (S.d u + w) x ≤ updF S.d x (S.d u + w) u + w
          rw [updF_same]
          have := hmono u
          omega
        · intro ht
          show updF S.d x (S.d u + w) x < updF S.d x (S.d u + w) u + w
          by_cases hu : u = x
          · subst hu
            rw [updF_same]
            omega
          · simp only [updF_same, updF_ne S.t _ hu] at ht
            have := h.tn u
            omega
        · show updF S.t x _ x ≤ updF S.t x _ u + R.length
          rw [updF_same]
          by_cases hu : u = x
          · subst hu; rw [updF_same]; omega
          · rw [updF_ne S.t _ hu]
            cases ρ with
            | zero => simp; omega
            | succ ρ =>
              have hm : (ρ + 1) * R.length = ρ * R.length + R.length := Nat.succ_mul _ _
              have := h.edge i u x w ρ hr (by omega) (by omega)
              apply Classical.byContradiction
              intro hn
              have := this (by omega)
              omega
      · simp only [updF_ne S.b _ hx] at hb
        obtain ⟨u', w', h1, h2, h3, h4⟩ := h.par x j hb
        refine ⟨u', w', h1, ?_, ?_, ?_⟩
        · show updF S.d v _ x ≤ _
          rw [updF_ne S.d _ hx]
          have := hmono u'
          show S.d x ≤ updF S.d v (S.d u + w) u' + w'
          omega
        · intro ht
          show updF S.d v _ x < updF S.d v _ u' + w'
          rw [updF_ne S.d _ hx]
          by_cases hu : u' = v
          · subst hu
            rw [updF_same]
            omega
          · rw [updF_ne S.d _ hu]
            simp only [updF_ne S.t _ hx, updF_ne S.t _ hu] at ht
            exact h3 ht
        · show updF S.t v _ x ≤ updF S.t v _ u' + R.length
          rw [updF_ne S.t _ hx]
          by_cases hu : u' = v
          · subst hu
            rw [updF_same]
            have := h.tn x
            omega
          · rw [updF_ne S.t _ hu]; exact h4
    · by_cases hx : x = v
      · subst hx; simp only [updF_same] at hb; cases hb
      · simp only [updF_ne S.b _ hx] at hb
        show updF S.d v _ x = 0 ∧ updF S.t v _ x = 0
        rw [updF_ne S.d _ hx, updF_ne S.t _ hx]
        exact h.root x hb
    · show updF S.t v _ x ≤ _
      unfold updF; split
      · exact Nat.le_refl _
      · have := h.tn x; omega
    · have hjm : j < R.length := (List.getElem?_eq_some_iff.1 hj).1
      show updF S.d v _ u' + w' ≤ updF S.d v _ v'
      replace h3 : updF S.t v (ρ * R.length + i + 1) u' < _ := h3
      by_cases hu : u' = v
      · subst hu
        rw [updF_same] at h3
        omega
      · rw [updF_ne S.t _ hu] at h3
        rw [updF_ne S.d _ hu]
        by_cases hp : ρ' * R.length + j + 1 = ρ * R.length + i + 1
        · obtain ⟨_, rfl⟩ := mod_eq hjm him (Nat.succ.inj hp)
          rw [hr] at hj
          cases hj
          rw [updF_same]
          exact Int.le_refl _
        · have := h.edge j u' v' w' ρ' hj (by omega) (by omega) h3
          have := hmono v'
          omega
  · rw [if_neg hc]
    refine ⟨h.par, h.root, h.pos, fun x => Nat.le_succ_of_le (h.tn x), fun j u' v' w' ρ' hj h1 h2 h3 => ?_⟩
    have hjm : j < R.length := (List.getElem?_eq_some_iff.1 hj).1
    by_cases hp : ρ' * R.length + j + 1 = ρ * R.length + i + 1
    · obtain ⟨_, rfl⟩ := mod_eq hjm him (Nat.succ.inj hp)
      rw [hr] at hj
      cases hj
      omega
    · exact h.edge j u' v' w' ρ' hj (by omega) (by omega) h3
theorem binv_go {R : List Rl} {ρ : Nat} : ∀ (r pre : List Rl) {S : BF}, pre ++ r = R → BInv R (ρ * R.length + pre.length) S → BInv R ((ρ + 1) * R.length) (bfGo r pre.length (ρ * R.length + pre.length) S)
  | [], pre, S, hR, h => by
    have : pre.length = R.length := by rw [← hR]; simp
    unfold bfGo
    rw [Nat.succ_mul, ← this]
    rw [← this] at h
    exact h
  | x :: r, pre, S, hR, h => by
    unfold bfGo
    have h1 := binv_step h (r := x) (by rw [← hR]; simp)
    have := binv_go (R := R) (ρ := ρ) r (pre ++ [x]) (S := bfStep pre.length (ρ * R.length + pre.length) x S) (by rw [← hR]; simp) (by rw [List.length_append, List.length_singleton, ← Nat.add_assoc]; exact h1)
    rw [List.length_append, List.length_singleton, ← Nat.add_assoc] at this
    exact this
def bfRound (R : List Rl) (ρ : Nat) (S : BF) : BF := bfGo R 0 (ρ * R.length) { S with last := none }
theorem binv_last {R : List Rl} {now : Nat} {S : BF} {o : Option Nat} (h : BInv R now S) : BInv R now { S with last := o } := ⟨h.par, h.root, h.pos, h.tn, h.edge⟩
theorem binv_round {R : List Rl} {ρ : Nat} {S : BF} (h : BInv R (ρ * R.length) S) : BInv R ((ρ + 1) * R.length) (bfRound R ρ S) := binv_go R [] rfl (binv_last h)
theorem last_go {R : List Rl} {now0 : Nat} : ∀ (r : List Rl) (i now : Nat) (S : BF), (∀ x ∈ r, x ∈ R) → (∀ v, S.last = some v → now0 < S.t v ∧ ∃ x ∈ R, x.2.1 = v) → now0 ≤ now → ∀ v, (bfGo r i now S).last = some v → now0 < (bfGo r i now S).t v ∧ ∃ x ∈ R, x.2.1 = v
  | [], _, _, _, _, h, _, v, hv => h v hv
  | x :: r, i, now, S, hR, h, hn, v, hv => by
    refine last_go r (i + 1) (now + 1) (bfStep i now x S) (fun y hy => hR y (List.mem_cons_of_mem _ hy)) (fun v hv => ?_) (by omega) v hv
    unfold bfStep at hv ⊢
    by_cases hc : S.d x.2.1 < S.d x.1 + x.2.2
    · rw [if_pos hc] at hv ⊢
      simp only [Option.some.injEq] at hv
      subst hv
      refine ⟨?_, x, hR x (List.mem_cons_self ..), rfl⟩
      show now0 < updF S.t _ (now + 1) _
      rw [updF_same]
      omega
    · rw [if_neg hc] at hv ⊢
      exact h v hv
theorem last_round {R : List Rl} {ρ : Nat} {S : BF} {v : Nat} (h : (bfRound R ρ S).last = some v) : ρ * R.length < (bfRound R ρ S).t v ∧ ∃ x ∈ R, x.2.1 = v :=
  last_go (now0 := ρ * R.length) R 0 (ρ * R.length) { S with last := none } (fun _ hx => hx) (fun v hv => by cases hv) (Nat.le_refl _) v h
/-! ### Back along the conditions -/
def parOf (R : List Rl) (S : BF) (v : Nat) : Nat := match S.b v with
  | some i => match R[i]? with
    | some r => r.1
    | none => v
  | none => v
def wOf (R : List Rl) (S : BF) (v : Nat) : Int := match S.b v with
  | some i => match R[i]? with
    | some r => r.2.2
    | none => 0
  | none => 0
def walk (R : List Rl) (S : BF) : Nat → Nat → Nat
  | 0, v => v
  | n + 1, v => walk R S n (parOf R S v)
def wSum (R : List Rl) (S : BF) : Nat → Nat → Int
  | 0, _ => 0
  | n + 1, v => wOf R S v + wSum R S n (parOf R S v)
theorem walk_add (R : List Rl) (S : BF) : ∀ (n m v : Nat), walk R S (n + m) v = walk R S m (walk R S n v)
  | 0, m, v => by rw [Nat.zero_add]; rfl
  | n + 1, m, v => by rw [Nat.succ_add]; exact walk_add R S n m _
section
variable {R : List Rl} {now : Nat} {S : BF}
theorem par_of (h : BInv R now S) {v : Nat} (hv : S.b v ≠ none) : S.d v ≤ S.d (parOf R S v) + wOf R S v ∧ (S.t v ≤ S.t (parOf R S v) → S.d v < S.d (parOf R S v) + wOf R S v) ∧ S.t v ≤ S.t (parOf R S v) + R.length := by
  cases hb : S.b v with
  | none => exact absurd hb hv
  | some i =>
    obtain ⟨u, w, h1, h2, h3, h4⟩ := h.par v i hb
    have e1 : parOf R S v = u := by unfold parOf; rw [hb]; simp only [h1]
    have e2 : wOf R S v = w := by unfold wOf; rw [hb]; simp only [h1]
    rw [e1, e2]
    exact ⟨h2, h3, h4⟩
theorem walk_sum (h : BInv R now S) : ∀ (n v : Nat), (∀ k, k ≤ n → S.b (walk R S k v) ≠ none) → S.d v < S.d (walk R S (n + 1) v) + wSum R S (n + 1) v ∨ (S.d v ≤ S.d (walk R S (n + 1) v) + wSum R S (n + 1) v ∧ S.t (walk R S (n + 1) v) < S.t v)
  | 0, v, hb => by
    obtain ⟨h1, h2, _⟩ := par_of h (hb 0 (Nat.le_refl _))
    show S.d v < S.d (parOf R S v) + (wOf R S v + 0) ∨ (S.d v ≤ S.d (parOf R S v) + (wOf R S v + 0) ∧ S.t (parOf R S v) < S.t v)
    change S.d v ≤ S.d (parOf R S v) + wOf R S v at h1
    change S.t v ≤ S.t (parOf R S v) → S.d v < S.d (parOf R S v) + wOf R S v at h2
    by_cases ht : S.t v ≤ S.t (parOf R S v)
    · have := h2 ht; left; omega
    · right; constructor <;> omega
  | n + 1, v, hb => by
    obtain ⟨h1, h2, _⟩ := par_of h (v := v) (hb 0 (Nat.zero_le _))
    have ih := walk_sum h n (parOf R S v) (fun k hk => hb (k + 1) (by omega))
    show S.d v < S.d (walk R S (n + 1) (parOf R S v)) + (wOf R S v + wSum R S (n + 1) (parOf R S v)) ∨ (S.d v ≤ S.d (walk R S (n + 1) (parOf R S v)) + (wOf R S v + wSum R S (n + 1) (parOf R S v)) ∧ S.t (walk R S (n + 1) (parOf R S v)) < S.t v)
    by_cases ht : S.t v ≤ S.t (parOf R S v)
    · have := h2 ht
      left
      rcases ih with h3 | h3 <;> omega
    · rcases ih with h3 | h3
      · left; omega
      · right; constructor <;> omega
theorem walk_alive (h : BInv R now S) : ∀ (n v J : Nat), J * R.length < S.t v → n ≤ J → (J - n) * R.length < S.t (walk R S n v) ∧ ∀ k, k ≤ n → S.b (walk R S k v) ≠ none
  | 0, v, J, ht, _ => ⟨by rw [Nat.sub_zero]; exact ht, fun k hk => by
    have : k = 0 := by omega
    subst this
    intro hb
    have := (h.root _ hb).2
    change S.t v = 0 at this
    omega⟩
  | n + 1, v, J, ht, hn => by
    have h0 : S.b v ≠ none := fun hb => by have := (h.root _ hb).2; omega
    obtain ⟨_, _, h3⟩ := par_of h h0
    obtain ⟨J', rfl⟩ : ∃ J', J = J' + 1 := ⟨J - 1, by omega⟩
    have hm : (J' + 1) * R.length = J' * R.length + R.length := Nat.succ_mul _ _
    obtain ⟨h4, h5⟩ := walk_alive h n (parOf R S v) J' (by omega) (by omega)
    refine ⟨by rw [show J' + 1 - (n + 1) = J' - n by omega]; exact h4, fun k hk => ?_⟩
    cases k with
    | zero => exact h0
    | succ k => exact h5 k (by omega)
end
theorem pigeon : ∀ (n : Nat) (f : Nat → Nat), (∀ k, k ≤ n → f k < n) → ∃ a b, a < b ∧ b ≤ n ∧ f a = f b
  | 0, f, h => absurd (h 0 (Nat.le_refl _)) (Nat.not_lt_zero _)
  | n + 1, f, h => by
    apply Classical.byContradiction
    intro hn
    have hne : ∀ a b, a < b → b ≤ n + 1 → f a ≠ f b := fun a b h1 h2 e => hn ⟨a, b, h1, h2, e⟩
    obtain ⟨a, b, h1, h2, h3⟩ := pigeon n (fun k => if f k = n then f (n + 1) else f k) (fun k hk => by
      show (if f k = n then f (n + 1) else f k) < n
      have hk1 := h k (by omega)
      have hk2 := h (n + 1) (Nat.le_refl _)
      have hk3 := hne k (n + 1) (by omega) (Nat.le_refl _)
      split <;> omega)
    have hab := hne a b h1 (by omega)
    have han := hne a (n + 1) (by omega) (Nat.le_refl _)
    have hbn := hne b (n + 1) (by omega) (Nat.le_refl _)
    split at h3 <;> split at h3 <;> omega
theorem least_pos {p : Nat → Prop} : ∀ (n : Nat), p n → ∃ q, q ≤ n ∧ p q ∧ ∀ k, k < q → ¬ p k
  | 0, h => ⟨0, Nat.le_refl _, h, fun k hk => absurd hk (Nat.not_lt_zero _)⟩
  | n + 1, h => by
    by_cases hx : ∃ k, k ≤ n ∧ p k
    · obtain ⟨k, hk, hp⟩ := hx
      obtain ⟨q, h1, h2, h3⟩ := least_pos (p := fun j => p j) k hp
      exact ⟨q, by omega, h2, h3⟩
    · exact ⟨n + 1, Nat.le_refl _, h, fun k hk hp => hx ⟨k, by omega, hp⟩⟩
  termination_by n => n
section
variable {R : List Rl} {now : Nat} {S : BF} {J : Nat}
theorem par_lt (hR : ∀ x ∈ R, x.1 < J) {v : Nat} (hv : v < J) : parOf R S v < J := by
  unfold parOf
  split
  · split
    · rename_i r hr; exact hR r (List.mem_of_getElem? hr)
    · exact hv
  · exact hv
theorem walk_lt (hR : ∀ x ∈ R, x.1 < J) : ∀ (n v : Nat), v < J → walk R S n v < J
  | 0, _, hv => hv
  | n + 1, v, hv => walk_lt hR n _ (par_lt hR hv)
theorem cycle_at (h : BInv R now S) (hR : ∀ x ∈ R, x.1 < J) {v : Nat} (hv : v < J) (ht : J * R.length < S.t v) :
    ∃ q, 1 ≤ q ∧ q ≤ J ∧ walk R S q (walk R S J v) = walk R S J v ∧ (∀ k, 1 ≤ k → k < q → walk R S k (walk R S J v) ≠ walk R S J v) ∧ (∀ k, S.b (walk R S k v) ≠ none) ∧ 0 < wSum R S q (walk R S J v) := by
  obtain ⟨a, b, hab, hbJ, he⟩ := pigeon J (fun k => walk R S k v) (fun k _ => walk_lt hR k v hv)
  have hal := (walk_alive h J v J ht (Nat.le_refl _)).2
  have hper : ∀ j, b ≤ j → walk R S j v = walk R S (j - (b - a)) v := fun j hj => by
    rw [show j = b + (j - b) by omega, walk_add, ← he, ← walk_add]
    congr 1
    omega
  have hall : ∀ n k, k ≤ n → S.b (walk R S k v) ≠ none := fun n => by
    induction n with
    | zero => exact fun k hk => hal k (by omega)
    | succ n ih =>
      intro k hk
      by_cases hkJ : k ≤ J
      · exact hal k hkJ
      · rw [hper k (by omega)]
        exact ih _ (by omega)
  have hp : walk R S (b - a) (walk R S J v) = walk R S J v := by
    rw [← walk_add, hper (J + (b - a)) (by omega)]
    congr 1
    omega
  obtain ⟨q, hq1, hq2, hq3⟩ := least_pos (p := fun k => 1 ≤ k ∧ walk R S k (walk R S J v) = walk R S J v) (b - a) ⟨by omega, hp⟩
  refine ⟨q, hq2.1, by omega, hq2.2, fun k h1 h2 e => hq3 k h2 ⟨h1, e⟩, fun k => hall k k (Nat.le_refl _), ?_⟩
  obtain ⟨n, rfl⟩ : ∃ n, q = n + 1 := ⟨q - 1, by have := hq2.1; omega⟩
  have := walk_sum h n (walk R S J v) (fun k _ => by rw [← walk_add]; exact hall _ _ (Nat.le_refl _))
  rw [hq2.2] at this
  rcases this with h1 | h1 <;> omega
end
end Go.Pd
end

section
namespace Go.Pd
open Go Go.Proofs

def cstG : Cst := fun k ds => match k, ds with
  | 109, [.slc f n c] => some (.fn (.func 176) [] [.snap [.slc f n c] 0])
  | 94, [.slc f n c] => some (.fn (.func 160) [] [.snap [.slc f n c] 0])
  | _, _ => none
def S (l : List UInt8) : D := .str ⟨l.toArray⟩
def kindL : List D := [S [103, 114, 101, 101, 110], S [116, 101, 101], S [98, 117, 110, 107, 101, 114], S [119, 97, 116, 101, 114], S [102, 97, 105, 114, 119, 97, 121], S [114, 111, 117, 103, 104]]
def glO : Nat → Option D := fun g => match g with
  | 0 => some (.snap kindL 0)
  | _ => none
def sidesGo (n : Nat) (a : List D) : Nat → Nat → Option (List (List D))
  | 0, _ => some []
  | k + 1, i => cellK a (i * 2 + 0) fun d => intK .i64 d fun x => cellK a (i * 2 + 1) fun d1 => intK .i64 d1 fun y =>
      cellK a ((i + 1) % n * 2 + 0) fun d2 => intK .i64 d2 fun u => cellK a ((i + 1) % n * 2 + 1) fun d3 => intK .i64 d3 fun v =>
        emitK [.int .i64 i, .agg [.int .i64 x, .int .i64 y, .int .i64 u, .int .i64 v]] (sidesGo n a k (i + 1)) (some [])
def LL : Nat := 4611686018427387904
def sqT : FuncId → List D → Option (List (List D)) := fun g cs => match g, cs with
  | 176, [.snap [.slc _ n c] 0] => chkK (decide (n < 4611686018427387904)) (sidesGo n c n 0)
  | _, _ => none
def wrM (mu : FuncId → List D → Option D) : FuncId → Option Mu := fun k => match k with
  | 146 => some (.tab false (mu 146))
  | 148 => some (.tab true (mu 148))
  | 177 => some (.tab false (mu 177))
  | 196 => some (.tab false (mu 196))
  | 238 => some (.tab false (mu 238))
  | _ => none
noncomputable def TEx (call mu : FuncId → List D → Option D) (L : Nat) (C : Nat → Nat) (sq : FuncId → List D → Option (List (List D))) : TE := { E := { P := Tryz.prog, gl := glO, call := call, L := L, wr := wrM mu }, cst := cstG, C := C, sq := sq }
def noMu : FuncId → List D → Option D := fun _ _ => none
noncomputable def TEs (call : FuncId → List D → Option D) (L : Nat) (C : Nat → Nat) (sq : FuncId → List D → Option (List (List D))) : TE := TEx call noMu L C sq
noncomputable def TEm (call mu : FuncId → List D → Option D) (L : Nat) (C : Nat → Nat) : TE := TEx call mu L C sqT
noncomputable def TEM (call mu : FuncId → List D → Option D) (L : Nat) (C : Nat → Nat) (_ : TypeId) (_ : Nat) : TE := TEm call mu L C
noncomputable def TEf (call : FuncId → List D → Option D) (L : Nat) (C : Nat → Nat) : TE := TEs call L C sqT
noncomputable def TEi (call : FuncId → List D → Option D) (L : Nat) (C : Nat → Nat) (l : Nat) : TE := { TEf call L C with it := some l }
noncomputable def TE0 (call : FuncId → List D → Option D) (L : Nat) (C : Nat → Nat) : TE := { E := { P := Tryz.prog, gl := glO, call := call, L := L, wr := wrM noMu }, cst := fun _ _ => none, C := C }
def O0 : Ord := fun _ => none
def N0 : NTab := fun _ => none
end Go.Pd
end

section
namespace Go.Pd
open Go Go.Proofs

def wrO : FuncId → Option Mu := fun k => match k with
  | 81 => some (.own 23 2)
  | 173 => some (.own 3 1)
  | _ => none
noncomputable def TEk (call : FuncId → List D → Option D) (L : Nat) (C : Nat → Nat) : TE := { E := { P := Tryz.prog, gl := glO, call := call, L := L, wr := wrO }, cst := cstG, C := C, sq := sqT }
end Go.Pd
end

section
namespace Go.Pd
open Go Go.Proofs

def wrP (mu : FuncId → List D → Option D) : FuncId → Option Mu := fun k => match k with
  | 173 => some (.own 3 1)
  | 104 => some (.plc 2 (mu 104))
  | _ => none
noncomputable def TEP (call mu : FuncId → List D → Option D) (L : Nat) (C : Nat → Nat) (_ : TypeId) (_ : Nat) : TE := { E := { P := Tryz.prog, gl := glO, call := call, L := L, wr := wrP mu }, cst := cstG, C := C, sq := sqT }
noncomputable def TEq (call mu : FuncId → List D → Option D) (L : Nat) (C : Nat → Nat) : TE := { E := { P := Tryz.prog, gl := glO, call := call, L := L, wr := wrP mu }, cst := cstG, C := C, sq := sqT }
end Go.Pd
end
