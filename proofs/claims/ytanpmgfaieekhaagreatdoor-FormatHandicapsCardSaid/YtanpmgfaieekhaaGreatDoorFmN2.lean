/-
  Chapter 5: the reference: digits to the base 10^9: trim, signed, digit.
  Chapter 5: the reference: sums of integers of any size.
  Chapter 5: the reference: integers of any size are compared.
  Chapter 5: the reference: an integer of any size is divided by one digit.
  Chapter 5: the reference: the text of an integer of any size.
  Chapter 5: the reference: the integer of a text.
-/
import Derived.Test.YtanpmgfaieekhaaGreatDoorFmN1
section
namespace Go.Pd
open Go Go.Proofs Go.RowKit
set_option maxRecDepth 100000
def trimR : List Int → List Int
  | [] => []
  | x :: r => if x = 0 then trimR r else x :: r
def flR (f : Bool) : List Int → Bool
  | [] => f
  | x :: _ => if x = 0 then false else f
theorem ints_last (r : List Int) (x : Int) {γ : Type} (k : D → Option γ) : cellK (ints (x :: r).reverse) (Int.toNat ((((x :: r).length : Nat) : Int) - 1) * 1) k = k (.int .i64 x) := by
  refine cellK_some ?_ k
  rw [show Int.toNat ((((x :: r).length : Nat) : Int) - 1) * 1 = r.length by simp]
  unfold ints
  rw [List.getElem?_map, List.reverse_cons, List.getElem?_append_right (by simp)]
  simp
theorem ints_take (r : List Int) (x : Int) : List.take (Int.toNat ((((x :: r).length : Nat) : Int) - 1 - (0 : Int)) * 1) (ints (x :: r).reverse) = ints r.reverse := by
  rw [show Int.toNat ((((x :: r).length : Nat) : Int) - 1 - (0 : Int)) * 1 = r.reverse.length by simp]
  unfold ints
  rw [← List.map_take, List.reverse_cons, List.take_left]
theorem flR_false : ∀ r : List Int, flR false r = false
  | [] => rfl
  | x :: r => by
    show (if x = 0 then false else false) = false
    split <;> rfl
theorem go210 {call : CL} : ∀ (r : List Int) (fuel : Nat) (f : Bool), r.length ≤ 1000000 → r.length < fuel → F210_12 call LL C1 fuel f r.length (ints r.reverse) = some (.slc (flR f r) (trimR r).length (ints (trimR r).reverse)) := by
  intro r
  induction r with
  | nil =>
    intro fuel f hl hf
    obtain ⟨fuel, rfl⟩ : ∃ n, fuel = n + 1 := ⟨fuel - 1, by omega⟩
    rw [F210_12_eq, decide_eq_false (show ¬ ((([] : List Int).length : Int) > 0) by simp), ifK_false]
    rfl
  | cons x r ih =>
    intro fuel f hl hf
    obtain ⟨fuel, rfl⟩ : ∃ n, fuel = n + 1 := ⟨fuel - 1, by omega⟩
    have hlen : (x :: r).length = r.length + 1 := rfl
    rw [F210_12_eq, decide_eq_true (show (((x :: r).length : Nat) : Int) > 0 by omega), ifK_true, wrap_in (by omega)]
    refine chk_step (decide_eq_true ⟨by omega, by omega⟩) ?_
    rw [ints_last, intK_int]
    rw [show trimR (x :: r) = if x = 0 then trimR r else x :: r from rfl, show flR f (x :: r) = if x = 0 then false else f from rfl]
    by_cases h : x = 0
    · rw [if_pos h, if_pos h, show (x == 0) = true by simpa using h, ifK_true]
      refine chk_step (decide_eq_true ⟨by omega, by omega, by omega⟩) ?_
      rw [ints_take, decide_eq_false (show ¬ ((((x :: r).length : Nat) : Int) - 1 = (((x :: r).length : Nat) : Int)) by omega), Bool.and_false, show Int.toNat ((((x :: r).length : Nat) : Int) - 1 - (0 : Int)) = r.length by omega, ih fuel false (by omega) (by omega), flR_false]
    · rw [if_neg h, if_neg h, show (x == 0) = false by simpa using h, ifK_false]
def trimL (l : List Int) : List Int := (trimR l.reverse).reverse
def flL (f : Bool) (l : List Int) : Bool := flR f l.reverse
theorem ok210 {f : Bool} (l : List Int) (hl : l.length ≤ 1000000) : OK2 210 [.slc f l.length (ints l)] (.slc (flL f l) (trimL l).length (ints (trimL l))) := by
  refine fnT none_ok Tryz.func210 (ord := O0) (N := N210) (by kernel_rfl) ((F210_eq _ _ _ _ _ _).trans ?_)
  have := go210 (call := callOf fun _ _ => none) l.reverse LL f (by simpa using hl) (by unfold LL; simp; omega)
  rw [List.reverse_reverse, List.length_reverse] at this
  unfold trimL flL
  rw [List.length_reverse]
  exact this
def sgnD (neg : Bool) (f : Bool) (l : List Int) : D := .agg [.bool (neg && decide (0 < l.length)), .slc f l.length (ints l)]
theorem ok191 {f : Bool} (neg : Bool) (l : List Int) (hl : l.length ≤ 1000000) : OK2 191 [.bool neg, .slc f l.length (ints l)] (sgnD neg (flL f l) (trimL l)) := by
  obtain ⟨B, hB, e9, _⟩ := exF [one 210 [.slc f l.length (ints l)] (.slc (flL f l) (trimL l).length (ints (trimL l)))] ⟨one_good (ok210 l hl) rfl, trivial⟩ rfl
  refine fnT hB Tryz.func191 (ord := O0) (N := N0) (by kernel_rfl) ((F191_eq _ _ _ _ _ _ _).trans ?_)
  refine opt_step (x := D.slc (flL f l) (trimL l).length (ints (trimL l))) (e9 ()) (slc_step ?_)
  unfold sgnD
  cases neg
  · rfl
  · rw [ifK_true, Bool.true_and, show decide ((((trimL l).length : Nat) : Int) > 0) = decide (0 < (trimL l).length) from decide_eq_decide.2 (by omega)]
theorem ok213 {f : Bool} (l : List Int) (i : Nat) (hi : i ≤ 1000000) : OK2 213 [.slc f l.length (ints l), .int .i64 (i : Int)] (.int .i64 (l.getD i 0)) := by
  refine fnT none_ok Tryz.func213 (ord := O0) (N := N0) (by kernel_rfl) ((F213_eq _ _ _ _ _ _ _).trans ?_)
  by_cases h : i < l.length
  · rw [decide_eq_true (show (i : Int) < (l.length : Int) by omega), ifK_true]
    refine chk_step (decide_eq_true ⟨by omega, by omega⟩) ?_
    refine (cell_at (List.getElem?_eq_getElem h) _).trans ?_
    rw [intK_int, List.getD_eq_getElem?_getD, List.getElem?_eq_getElem h]
    rfl
  · rw [decide_eq_false (show ¬ ((i : Int) < (l.length : Int)) by omega), ifK_false, List.getD_eq_getElem?_getD, List.getElem?_eq_none (by omega)]
    rfl
end Go.Pd
end
section
namespace Go.Pd
open Go Go.Proofs Go.RowKit
set_option maxRecDepth 100000
/-! ### Digits to the base 10^9 -/
def big (n : Nat) : List Int := if n = 0 then [] else ((n % 1000000000 : Nat) : Int) :: big (n / 1000000000)
termination_by n
decreasing_by omega
theorem big_zero : big 0 = [] := by rw [big]; rfl
theorem big_pos {n : Nat} (h : n ≠ 0) : big n = ((n % 1000000000 : Nat) : Int) :: big (n / 1000000000) := by rw [big, if_neg h]
theorem big_nil {n : Nat} : big n = [] ↔ n = 0 := by
  constructor
  · intro h
    by_cases h0 : n = 0
    · exact h0
    · rw [big_pos h0] at h
      cases h
  · intro h
    rw [h, big_zero]
structure At (l : List Int) (i A : Nat) : Prop where
  d : l.drop i = big A
theorem At.step {l : List Int} {i A : Nat} (h : At l i A) : At l (i + 1) (A / 1000000000) := by
  refine ⟨?_⟩
  rw [show i + 1 = i + 1 from rfl, ← List.drop_drop, h.d]
  by_cases h0 : A = 0
  · subst h0
    rw [show 0 / 1000000000 = 0 from rfl, big_zero]
    rfl
  · rw [big_pos h0]
    rfl
theorem At.get {l : List Int} {i A : Nat} (h : At l i A) : l.getD i 0 = ((A % 1000000000 : Nat) : Int) := by
  rw [List.getD_eq_getElem?_getD, ← List.head?_drop, h.d]
  by_cases h0 : A = 0
  · subst h0
    rw [big_zero]
    rfl
  · rw [big_pos h0]
    rfl
theorem At.lt {l : List Int} {i A : Nat} (h : At l i A) : decide ((i : Int) < (l.length : Int)) = decide (A ≠ 0) := by
  have hl : (l.drop i).length = l.length - i := List.length_drop
  rw [h.d] at hl
  refine decide_eq_decide.2 ⟨fun hi h0 => ?_, fun h0 => ?_⟩
  · rw [h0, big_zero] at hl
    simp at hl
    omega
  · rw [big_pos h0] at hl
    simp at hl
    omega
def ownI (l : List Int) : Ow := match l with
  | [] => .nil
  | _ => .own l.length (ints l)
def sliD (l : List Int) : D := .slc l.isEmpty l.length (ints l)
theorem ownI_put (l : List Int) (x : Int) : ownI (l ++ [x]) = .own (l.length + 1) (ints l ++ [.int .i64 x]) := by
  rw [ints_app1]
  cases l with
  | nil => rfl
  | cons y r => show Ow.own (y :: r ++ [x]).length _ = _; rw [List.length_append]; rfl
/-! ### Sums -/
section
variable {call : CL} {la lb : List Int} {fa fb : Bool}
noncomputable abbrev G221 (call : CL) (la lb : List Int) (fa fb : Bool) (n : Nat) (o : Ow) (c i : Int) : Option D := F193_122 call LL C1 n fa la.length (ints la) fb lb.length (ints lb) o c i
theorem step193 (ha : ∀ i : Nat, i ≤ 1000000 → call 213 [.slc fa la.length (ints la), .int .i64 (i : Int)] = some (.int .i64 (la.getD i 0))) (hb : ∀ i : Nat, i ≤ 1000000 → call 213 [.slc fb lb.length (ints lb), .int .i64 (i : Int)] = some (.int .i64 (lb.getD i 0)))
    {fuel i A B c : Nat} {out : List Int} (h1 : At la i A) (h2 : At lb i B) (hc : c ≤ 1) (hi : i ≤ 2000) (ho : out.length ≤ 2000) :
    F193_489 call LL C1 fuel fa la.length (ints la) fb lb.length (ints lb) (c : Int) (i : Int) (ownI out) = G221 call la lb fa fb fuel (ownI (out ++ [((((A % 1000000000 + B % 1000000000 + c) % 1000000000 : Nat)) : Int)])) (((A % 1000000000 + B % 1000000000 + c) / 1000000000 : Nat) : Int) ((i + 1 : Nat) : Int) := by
  have w1 : IntKind.wrap IntKind.i64 (IntKind.wrap IntKind.i64 (((A % 1000000000 : Nat) : Int) + ((B % 1000000000 : Nat) : Int)) + (c : Int)) = ((A % 1000000000 + B % 1000000000 + c : Nat) : Int) := by
    rw [wrap_in (y := ((A % 1000000000 : Nat) : Int) + ((B % 1000000000 : Nat) : Int)) (by omega), wrap_in (by omega)]
    omega
  have w2 : IntKind.wrap IntKind.i64 ((i : Int) + 1) = ((i + 1 : Nat) : Int) := (wrap_in (by omega)).trans (by omega)
  have w3 : ∀ s : Nat, Int.tmod (s : Int) 1000000000 = ((s % 1000000000 : Nat) : Int) := fun _ => rfl
  have w4 : ∀ s : Nat, s ≤ 4000000000 → IntKind.wrap IntKind.i64 (Int.tdiv (s : Int) 1000000000) = ((s / 1000000000 : Nat) : Int) := fun s hs => by
    rw [show Int.tdiv (s : Int) 1000000000 = ((s / 1000000000 : Nat) : Int) from rfl]
    exact wrap_in (by omega)
  rw [ownI_put]
  cases out with
  | nil =>
    refine (F193_489_eqn (C := C1) (hC := fun _ => rfl) ..).trans ?_
    refine opt_step (ha i (by omega)) (int_step ?_)
    refine opt_step (hb i (by omega)) (int_step ?_)
    rw [h1.get, h2.get, w1, w2, w3, w4 _ (by omega)]
    rfl
  | cons y r =>
    refine (F193_489_eqo (C := C1) (hC := fun _ => rfl) ..).trans ?_
    refine opt_step (ha i (by omega)) (int_step ?_)
    refine opt_step (hb i (by omega)) (int_step ?_)
    refine chk_step (decide_eq_true ⟨by unfold Go.Pd.limit; omega, by omega⟩) ?_
    rw [h1.get, h2.get, w1, w2, w3, w4 _ (by omega)]
theorem end193 {fuel i A B c : Nat} {out : List Int} (h1 : At la i A) (h2 : At lb i B) :
    G221 call la lb fa fb (fuel + 1) (ownI out) (c : Int) (i : Int) = ifK (decide (A ≠ 0) || (decide (B ≠ 0) || decide (c ≠ 0))) (F193_489 call LL C1 fuel fa la.length (ints la) fb lb.length (ints lb) (c : Int) (i : Int) (ownI out)) (some (sliD out)) := by
  have hc : decide ((c : Int) > 0) = decide (c ≠ 0) := decide_eq_decide.2 (by omega)
  cases out with
  | nil =>
    refine (F193_122_eqn ..).trans ?_
    rw [h1.lt, h2.lt, hc]
    cases decide (A ≠ 0) <;> cases decide (B ≠ 0) <;> cases decide (c ≠ 0) <;> rfl
  | cons y r =>
    refine (F193_122_eqo ..).trans ?_
    rw [h1.lt, h2.lt, hc]
    cases decide (A ≠ 0) <;> cases decide (B ≠ 0) <;> cases decide (c ≠ 0) <;> rfl
theorem go193 (ha : ∀ i : Nat, i ≤ 1000000 → call 213 [.slc fa la.length (ints la), .int .i64 (i : Int)] = some (.int .i64 (la.getD i 0))) (hb : ∀ i : Nat, i ≤ 1000000 → call 213 [.slc fb lb.length (ints lb), .int .i64 (i : Int)] = some (.int .i64 (lb.getD i 0))) :
    ∀ (k A B c i fuel : Nat) (out : List Int), At la i A → At lb i B → (big A).length ≤ k → (big B).length ≤ k → c ≤ 1 → i + k ≤ 1000 → out.length = i → k + 3 ≤ fuel →
      G221 call la lb fa fb fuel (ownI out) (c : Int) (i : Int) = some (sliD (out ++ big (A + B + c))) := by
  intro k
  induction k with
  | zero =>
    intro A B c i fuel out h1 h2 hA hB hc hi ho hf
    obtain ⟨fuel, rfl⟩ : ∃ n, fuel = n + 1 + 1 := ⟨fuel - 2, by omega⟩
    have a0 : A = 0 := big_nil.1 (List.eq_nil_of_length_eq_zero (by omega))
    have b0 : B = 0 := big_nil.1 (List.eq_nil_of_length_eq_zero (by omega))
    subst a0 b0
    rw [end193 h1 h2]
    by_cases c0 : c = 0
    · subst c0
      rw [show (decide ((0 : Nat) ≠ 0) || (decide ((0 : Nat) ≠ 0) || decide ((0 : Nat) ≠ 0))) = false from rfl, ifK_false, show 0 + 0 + 0 = 0 from rfl, big_zero, List.append_nil]
    · have : c = 1 := by omega
      subst this
      rw [show (decide ((0 : Nat) ≠ 0) || (decide ((0 : Nat) ≠ 0) || decide ((1 : Nat) ≠ 0))) = true from rfl, ifK_true, step193 ha hb h1 h2 (by omega) (by omega) (by omega)]
      have e := end193 (call := call) (fa := fa) (fb := fb) (fuel := fuel) (c := 0) (out := out ++ [((((0 % 1000000000 + 0 % 1000000000 + 1) % 1000000000 : Nat)) : Int)]) h1.step h2.step
      refine Eq.trans e ?_
      rw [show (decide (0 / 1000000000 ≠ 0) || (decide (0 / 1000000000 ≠ 0) || decide ((0 : Nat) ≠ 0))) = false from rfl, ifK_false, big_pos (n := 0 + 0 + 1) (by omega), show (0 + 0 + 1) / 1000000000 = 0 from rfl, big_zero]
  | succ k ih =>
    intro A B c i fuel out h1 h2 hA hB hc hi ho hf
    obtain ⟨fuel, rfl⟩ : ∃ n, fuel = n + 1 := ⟨fuel - 1, by omega⟩
    rw [end193 h1 h2]
    by_cases hz : A + B + c = 0
    · have a0 : A = 0 := by omega
      have b0 : B = 0 := by omega
      have c0 : c = 0 := by omega
      subst a0 b0 c0
      rw [show (decide ((0 : Nat) ≠ 0) || (decide ((0 : Nat) ≠ 0) || decide ((0 : Nat) ≠ 0))) = false from rfl, ifK_false, show 0 + 0 + 0 = 0 from rfl, big_zero, List.append_nil]
    · have ht : (decide (A ≠ 0) || (decide (B ≠ 0) || decide (c ≠ 0))) = true := by
        simp only [Bool.or_eq_true, decide_eq_true_eq]
        omega
      have sh : ∀ {A : Nat}, (big A).length ≤ k + 1 → (big (A / 1000000000)).length ≤ k := fun {A} h => by
        by_cases a0 : A = 0
        · subst a0
          rw [show 0 / 1000000000 = 0 from rfl, big_zero]
          simp
        · rw [big_pos a0] at h
          simp at h
          exact h
      rw [ht, ifK_true, step193 ha hb h1 h2 hc (by omega) (by omega)]
      refine (ih (A / 1000000000) (B / 1000000000) _ (i + 1) fuel _ h1.step h2.step (sh hA) (sh hB) (by omega) (by omega) (by simp; omega) (by omega)).trans ?_
      rw [big_pos hz, List.append_assoc, List.singleton_append]
      congr 5
      · omega
      · congr 1
        omega
end
theorem ok193 {fa fb : Bool} (a b : Nat) (ha : (big a).length ≤ 900) (hb : (big b).length ≤ 900) : OK2 193 [.slc fa (big a).length (ints (big a)), .slc fb (big b).length (ints (big b))] (sliD (big (a + b))) := by
  obtain ⟨B, hB, e7, _⟩ := exF [⟨213, Bool × {x : List Int × Nat // x.2 ≤ 1000000}, fun x => [.slc x.1 x.2.1.1.length (ints x.2.1.1), .int .i64 (x.2.1.2 : Int)], fun x => .int .i64 (x.2.1.1.getD x.2.1.2 0)⟩]
    ⟨⟨fun x => ok213 x.2.1.1 x.2.1.2 x.2.2, fun (x y : Bool × {x : List Int × Nat // x.2 ≤ 1000000}) e => by
      have e : [D.slc x.1 x.2.1.1.length (ints x.2.1.1), .int .i64 (x.2.1.2 : Int)] = [D.slc y.1 y.2.1.1.length (ints y.2.1.1), .int .i64 (y.2.1.2 : Int)] := e
      simp only [List.cons.injEq, D.slc.injEq, D.int.injEq, and_true, true_and] at e
      show D.int .i64 (x.2.1.1.getD x.2.1.2 0) = .int .i64 (y.2.1.1.getD y.2.1.2 0)
      rw [ints_inj e.1.2.2, show x.2.1.2 = y.2.1.2 by omega], fun _ => rfl⟩, trivial⟩ rfl
  refine fnT hB Tryz.func193 (ord := O0) (N := N193) (by kernel_rfl) ((F193_eq _ _ _ _ _ _ _ _ _).trans ?_)
  have := go193 (call := callOf B) (la := big a) (lb := big b) (fa := fa) (fb := fb) (fun i hi => e7 (fa, ⟨(big a, i), hi⟩)) (fun i hi => e7 (fb, ⟨(big b, i), hi⟩)) 900 a b 0 0 LL [] ⟨rfl⟩ ⟨rfl⟩ ha hb (by omega) (by omega) rfl (by unfold LL; omega)
  exact this
end Go.Pd
end
section
namespace Go.Pd
open Go Go.Proofs Go.RowKit
set_option maxRecDepth 100000
def atN (a i : Nat) : Nat := a / 1000000000 ^ i
theorem atN_zero (a : Nat) : atN a 0 = a := by unfold atN; rw [Nat.pow_zero, Nat.div_one]
theorem atN_succ (a i : Nat) : atN a (i + 1) = atN a i / 1000000000 := by unfold atN; rw [Nat.pow_succ, Nat.div_div_eq_div_mul]
theorem atN_at (a : Nat) : ∀ i, At (big a) i (atN a i)
  | 0 => ⟨by rw [atN_zero]; rfl⟩
  | i + 1 => by
    rw [atN_succ]
    exact (atN_at a i).step
theorem atN_lt {a b i : Nat} (h : atN a i < atN b i) : a < b := by
  unfold atN at h
  exact Nat.lt_of_not_le fun hle => absurd h (Nat.not_lt.2 (Nat.div_le_div_right hle))
theorem big_len_lt : ∀ {a b : Nat}, (big a).length < (big b).length → a < b := fun {a b} h => by
  have h1 := (atN_at b (big a).length).lt
  have h2 := (atN_at a (big a).length).lt
  rw [decide_eq_true (show (((big a).length : Nat) : Int) < ((big b).length : Int) by omega)] at h1
  rw [decide_eq_false (show ¬ ((((big a).length : Nat) : Int) < ((big a).length : Int)) by omega)] at h2
  have h3 : atN b (big a).length ≠ 0 := of_decide_eq_true h1.symm
  have h4 : ¬ atN a (big a).length ≠ 0 := of_decide_eq_false h2.symm
  exact atN_lt (i := (big a).length) (by omega)
def cmpN (a b : Nat) : Int := if a < b then -1 else if b < a then 1 else 0
theorem big_cell {a i : Nat} (h : i < (big a).length) (k : D → Option D) : cellK (ints (big a)) (Int.toNat (i : Int) * 1) k = k (.int .i64 ((atN a i % 1000000000 : Nat) : Int)) := by
  refine cell_at ?_ k
  have := (atN_at a i).get
  rw [List.getD_eq_getElem?_getD, List.getElem?_eq_getElem h] at this
  rw [List.getElem?_eq_getElem h]
  exact congrArg some this
theorem go196 {call : CL} {a b : Nat} {fa fb : Bool} (he : (big a).length = (big b).length) (hl : (big a).length ≤ 100000) : ∀ (j fuel : Nat), j ≤ (big a).length → atN a j = atN b j → j < fuel →
    F196_58 call LL C1 fuel fa (big a).length (ints (big a)) fb (big b).length (ints (big b)) ((j : Int) - 1) = some (.int .i64 (cmpN a b)) := by
  intro j
  induction j with
  | zero =>
    intro fuel hj h hf
    obtain ⟨fuel, rfl⟩ : ∃ n, fuel = n + 1 := ⟨fuel - 1, by omega⟩
    rw [atN_zero, atN_zero] at h
    rw [F196_58_eq, decide_eq_false (show ¬ (((0 : Nat) : Int) - 1 ≥ 0) by omega), ifK_false]
    unfold cmpN
    rw [if_neg (by omega), if_neg (by omega)]
  | succ j ih =>
    intro fuel hj h hf
    obtain ⟨fuel, rfl⟩ : ∃ n, fuel = n + 1 := ⟨fuel - 1, by omega⟩
    rw [atN_succ, atN_succ] at h
    have e1 : ((j + 1 : Nat) : Int) - 1 = (j : Int) := by omega
    have c1 : decide ((0 : Int) ≤ (j : Int) ∧ (j : Int) < (((big a).length : Nat) : Int)) = true := decide_eq_true ⟨by omega, by omega⟩
    have c2 : decide ((0 : Int) ≤ (j : Int) ∧ (j : Int) < (((big b).length : Nat) : Int)) = true := decide_eq_true ⟨by omega, by omega⟩
    rw [F196_58_eq, e1, decide_eq_true (show (j : Int) ≥ 0 by omega), ifK_true]
    refine chk_step c1 ?_
    rw [big_cell (by omega), intK_int]
    refine chk_step c2 ?_
    rw [big_cell (by omega), intK_int]
    by_cases h1 : atN a j % 1000000000 < atN b j % 1000000000
    · rw [decide_eq_true (by omega), ifK_true]
      have := atN_lt (a := a) (b := b) (i := j) (by omega)
      unfold cmpN
      rw [if_pos this]
    · rw [decide_eq_false (by omega), ifK_false]
      refine chk_step c1 ?_
      rw [big_cell (by omega), intK_int]
      refine chk_step c2 ?_
      rw [big_cell (by omega), intK_int]
      by_cases h2 : atN b j % 1000000000 < atN a j % 1000000000
      · rw [decide_eq_true (by omega), ifK_true]
        have := atN_lt (a := b) (b := a) (i := j) (by omega)
        unfold cmpN
        rw [if_neg (by omega), if_pos this]
      · rw [decide_eq_false (by omega), ifK_false, wrap_in (by omega)]
        exact ih fuel (by omega) (by omega) (by omega)
theorem ok196 {fa fb : Bool} (a b : Nat) (ha : (big a).length ≤ 100000) (_ : (big b).length ≤ 100000) : OK2 196 [.slc fa (big a).length (ints (big a)), .slc fb (big b).length (ints (big b))] (.int .i64 (cmpN a b)) := by
  refine fnT none_ok Tryz.func196 (ord := O0) (N := N196) (by kernel_rfl) ((F196_eq _ _ _ _ _ _ _ _ _).trans ?_)
  by_cases he : (big a).length = (big b).length
  · rw [show ((((big a).length : Nat) : Int) != (((big b).length : Nat) : Int)) = false by rw [he]; simp, ifK_false, wrap_in (by omega)]
    refine go196 he ha (big a).length LL (Nat.le_refl _) ?_ (by unfold LL; omega)
    have h1 := (atN_at a (big a).length).d
    have h2 := (atN_at b (big a).length).d
    rw [List.drop_length] at h1
    rw [he, List.drop_length] at h2
    rw [big_nil.1 h1.symm, he, big_nil.1 h2.symm]
  · rw [show ((((big a).length : Nat) : Int) != (((big b).length : Nat) : Int)) = true by simp; omega, ifK_true]
    unfold cmpN
    by_cases hlt : (big a).length < (big b).length
    · rw [decide_eq_true (by omega), ifK_true, if_pos (big_len_lt hlt)]
    · have := big_len_lt (a := b) (b := a) (by omega)
      rw [decide_eq_false (by omega), ifK_false, if_neg (by omega), if_pos this]
end Go.Pd
end
section
namespace Go.Pd
open Go Go.Proofs Go.RowKit
set_option maxRecDepth 100000
def dgF (q k : Nat) : Int := ((atN q k % 1000000000 : Nat) : Int)
theorem rowF_succ (n : Nat) (f : Nat → Int) : rowF (n + 1) f = rowF n f ++ [f n] := by
  unfold rowF
  rw [List.range_succ, List.map_append]
  rfl
theorem len_lt {q n : Nat} : n < (big q).length ↔ atN q n ≠ 0 := by
  have := (atN_at q n).lt
  rw [decide_eq_decide] at this
  exact ⟨fun h => this.1 (by omega), fun h => by have := this.2 h; omega⟩
theorem row_big {q n : Nat} (h : (big q).length = n) : rowF n (dgF q) = big q := by
  apply List.ext_getElem?
  intro k
  by_cases hk : k < n
  · rw [rowF_get _ hk]
    have := (atN_at q k).get
    rw [List.getD_eq_getElem?_getD, List.getElem?_eq_getElem (by omega)] at this
    rw [List.getElem?_eq_getElem (by omega)]
    exact congrArg some this.symm
  · rw [List.getElem?_eq_none (by rw [rowF_len]; omega), List.getElem?_eq_none (by omega)]
theorem trim_row (q : Nat) : ∀ n, atN q n = 0 → trimL (rowF n (dgF q)) = big q
  | 0, h => by
    rw [atN_zero] at h
    rw [h, big_zero]
    rfl
  | n + 1, h => by
    unfold trimL
    rw [rowF_succ, List.reverse_append, List.reverse_singleton, List.singleton_append, show trimR (dgF q n :: (rowF n (dgF q)).reverse) = if dgF q n = 0 then trimR (rowF n (dgF q)).reverse else dgF q n :: (rowF n (dgF q)).reverse from rfl]
    have hs := atN_succ q n
    by_cases h0 : atN q n = 0
    · have : dgF q n = 0 := by unfold dgF; rw [h0]; rfl
      rw [if_pos this]
      exact trim_row q n h0
    · have : dgF q n ≠ 0 := by unfold dgF; omega
      rw [if_neg this, List.reverse_cons, List.reverse_reverse, ← rowF_succ]
      refine row_big ?_
      have h1 := len_lt.2 h0
      have h2 : ¬ n + 1 < (big q).length := fun hh => len_lt.1 hh h
      omega
theorem atN_div (a d i : Nat) : atN (a / d) i = atN a i / d := by unfold atN; rw [Nat.div_div_eq_div_mul, Nat.mul_comm, ← Nat.div_div_eq_div_mul]
theorem div_step {A d : Nat} (hd : 0 < d) : (A / 1000000000 % d * 1000000000 + A % 1000000000) / d = A / d % 1000000000 ∧ (A / 1000000000 % d * 1000000000 + A % 1000000000) % d = A % d := by
  have e0 : A = A / 1000000000 * 1000000000 + A % 1000000000 := by omega
  have e1 : A / 1000000000 = d * (A / 1000000000 / d) + A / 1000000000 % d := (Nat.div_add_mod _ _).symm
  have hr : A / 1000000000 % d < d := Nat.mod_lt _ hd
  have hm : A % 1000000000 < 1000000000 := Nat.mod_lt _ (by omega)
  generalize A / 1000000000 / d = q at *
  generalize A / 1000000000 % d = r at *
  generalize A % 1000000000 = m at *
  have e2 : A = d * (q * 1000000000) + (r * 1000000000 + m) := by
    rw [e0, e1, Nat.add_mul, Nat.mul_assoc]
    omega
  have hs : (r * 1000000000 + m) / d < 1000000000 := by
    rw [Nat.div_lt_iff_lt_mul hd]
    have : (r + 1) * 1000000000 ≤ d * 1000000000 := Nat.mul_le_mul_right _ hr
    omega
  constructor
  · rw [e2, Nat.mul_add_div hd]
    generalize (r * 1000000000 + m) / d = y at *
    omega
  · rw [e2, Nat.mul_add_mod]
section
variable {B : FuncId → List D → Option D} {a d : Nat} {f : Bool}
theorem go211 (h9 : ∀ l : List Int, l.length ≤ 1000000 → callOf B 210 [.slc false l.length (ints l)] = some (.slc (flL false l) (trimL l).length (ints (trimL l)))) (hd : 0 < d) (hd9 : d ≤ 1000000000) (hl : (big a).length ≤ 100000) :
    ∀ (j fuel : Nat), j ≤ (big a).length → j < fuel →
      F211_122 (callOf B) LL C1 fuel f (big a).length (ints (big a)) (d : Int) (big a).length ((atN a j % d : Nat) : Int) ((j : Int) - 1) (ints (rowF (big a).length fun k => if j ≤ k then dgF (a / d) k else 0)) = some (.tup [.slc false (big (a / d)).length (ints (big (a / d))), .int .i64 ((a % d : Nat) : Int)]) := by
  intro j
  induction j with
  | zero =>
    intro fuel hj hf
    obtain ⟨fuel, rfl⟩ : ∃ n, fuel = n + 1 := ⟨fuel - 1, by omega⟩
    have e : (rowF (big a).length fun k => if 0 ≤ k then dgF (a / d) k else 0) = rowF (big a).length (dgF (a / d)) := rowF_ext fun k _ => by rw [if_pos (Nat.zero_le k)]
    have h := h9 (rowF (big a).length (dgF (a / d))) (by rw [rowF_len]; omega)
    have hz : atN (a / d) (big a).length = 0 := by
      rw [atN_div]
      have : ¬ atN a (big a).length ≠ 0 := fun hh => absurd (len_lt.2 hh) (by omega)
      rw [show atN a (big a).length = 0 by omega, Nat.zero_div]
    have hfl : flL false (rowF (big a).length (dgF (a / d))) = false := by unfold flL; exact flR_false _
    rw [trim_row _ _ hz, hfl, rowF_len] at h
    rw [F211_122_eq, decide_eq_false (show ¬ (((0 : Nat) : Int) - 1 ≥ 0) by omega), ifK_false, e]
    refine opt_step h (slc_step ?_)
    rw [atN_zero]
  | succ j ih =>
    intro fuel hj hf
    obtain ⟨fuel, rfl⟩ : ∃ n, fuel = n + 1 := ⟨fuel - 1, by omega⟩
    have e1 : ((j + 1 : Nat) : Int) - 1 = (j : Int) := by omega
    have c1 : decide ((0 : Int) ≤ (j : Int) ∧ (j : Int) < (((big a).length : Nat) : Int)) = true := decide_eq_true ⟨by omega, by omega⟩
    have hr : atN a (j + 1) % d < d := Nat.mod_lt _ hd
    have hm : atN a j % 1000000000 < 1000000000 := Nat.mod_lt _ (by omega)
    have w1 : IntKind.wrap IntKind.i64 (IntKind.wrap IntKind.i64 (((atN a (j + 1) % d : Nat) : Int) * 1000000000) + ((atN a j % 1000000000 : Nat) : Int)) = ((atN a (j + 1) % d * 1000000000 + atN a j % 1000000000 : Nat) : Int) := by
      rw [wrap_in (y := ((atN a (j + 1) % d : Nat) : Int) * 1000000000) (by omega), wrap_in (by omega)]
      omega
    obtain ⟨s1, s2⟩ := div_step (A := atN a j) hd
    rw [← atN_succ] at s1 s2
    have hq : (atN a (j + 1) % d * 1000000000 + atN a j % 1000000000) / d < 1000000000 := by rw [s1]; exact Nat.mod_lt _ (by omega)
    have w2 : IntKind.wrap IntKind.i64 (Int.tdiv ((atN a (j + 1) % d * 1000000000 + atN a j % 1000000000 : Nat) : Int) (d : Int)) = dgF (a / d) j := by
      rw [show Int.tdiv ((atN a (j + 1) % d * 1000000000 + atN a j % 1000000000 : Nat) : Int) (d : Int) = (((atN a (j + 1) % d * 1000000000 + atN a j % 1000000000) / d : Nat) : Int) from rfl, wrap_in (by omega), s1]
      unfold dgF
      rw [atN_div]
    have w3 : Int.tmod ((atN a (j + 1) % d * 1000000000 + atN a j % 1000000000 : Nat) : Int) (d : Int) = ((atN a j % d : Nat) : Int) := by
      rw [show Int.tmod ((atN a (j + 1) % d * 1000000000 + atN a j % 1000000000 : Nat) : Int) (d : Int) = (((atN a (j + 1) % d * 1000000000 + atN a j % 1000000000) % d : Nat) : Int) from rfl, s2]
    rw [F211_122_eq, e1, decide_eq_true (show (j : Int) ≥ 0 by omega), ifK_true]
    refine chk_step c1 ?_
    rw [big_cell (by omega), intK_int, decide_eq_false (show ¬ ((d : Int) = 0) by omega)]
    refine chk_step rfl ?_
    refine chk_step c1 ?_
    refine chk_step (decide_eq_true (by rw [ints_len, rowF_len, Int.toNat_natCast]; omega)) ?_
    refine chk_step rfl ?_
    rw [w1, w2, w3, Int.toNat_natCast, ints_set, rowF_set, wrap_in (by omega)]
    have e : rowF (big a).length (updF (fun k => if j + 1 ≤ k then dgF (a / d) k else 0) j (dgF (a / d) j)) = rowF (big a).length fun k => if j ≤ k then dgF (a / d) k else 0 := rowF_ext fun k _ => by
      by_cases hk : k = j
      · subst hk
        rw [updF_same, if_pos (Nat.le_refl _)]
      · rw [updF_ne _ _ hk]
        by_cases h2 : j + 1 ≤ k
        · rw [if_pos h2, if_pos (by omega)]
        · rw [if_neg h2, if_neg (by omega)]
    rw [e]
    exact ih fuel (by omega) (by omega)
end
def fam210f : Fam := ⟨210, {l : List Int // l.length ≤ 1000000}, fun x => [.slc false x.1.length (ints x.1)], fun x => .slc (flL false x.1) (trimL x.1).length (ints (trimL x.1))⟩
theorem fam210f_good : fam210f.Good := ⟨fun x => ok210 x.1 x.2, fun (x y : {l : List Int // l.length ≤ 1000000}) e => by
  have e : [D.slc false x.1.length (ints x.1)] = [D.slc false y.1.length (ints y.1)] := e
  simp only [List.cons.injEq, D.slc.injEq, and_true, true_and] at e
  show D.slc (flL false x.1) (trimL x.1).length (ints (trimL x.1)) = .slc (flL false y.1) (trimL y.1).length (ints (trimL y.1))
  rw [ints_inj e.2], fun _ => rfl⟩
theorem ok211 {f : Bool} (a d : Nat) (hd : 0 < d) (hd9 : d ≤ 1000000000) (hl : (big a).length ≤ 100000) : OK2 211 [.slc f (big a).length (ints (big a)), .int .i64 (d : Int)] (.tup [.slc false (big (a / d)).length (ints (big (a / d))), .int .i64 ((a % d : Nat) : Int)]) := by
  obtain ⟨B, hB, e9, _⟩ := exF [fam210f] ⟨fam210f_good, trivial⟩ rfl
  refine fnT hB Tryz.func211 (ord := O0) (N := N211) (by kernel_rfl) ((F211_eq _ _ _ _ _ _ _).trans ?_)
  have key := go211 (B := B) (a := a) (d := d) (f := f) (fun l hl => e9 ⟨l, hl⟩) hd hd9 hl (big a).length LL (Nat.le_refl _) (by unfold LL; omega)
  have hz : atN a (big a).length = 0 := by
    have : ¬ atN a (big a).length ≠ 0 := fun hh => absurd (len_lt.2 hh) (by omega)
    omega
  rw [hz, Nat.zero_mod] at key
  refine chk_step (decide_eq_true ⟨by omega, by omega, by omega, by omega⟩) ?_
  rw [Int.toNat_natCast, rep_rowI, wrap_in (by omega)]
  have e : (rowF (big a).length fun k => if (big a).length ≤ k then dgF (a / d) k else 0) = rowF (big a).length fun _ => 0 := rowF_ext fun k hk => by rw [if_neg (by omega)]
  rw [e] at key
  exact key
end Go.Pd
end
section
namespace Go.Pd
open Go Go.Proofs Go.RowKit
set_option maxRecDepth 100000
theorem padL_snoc (k : Nat) (l : List UInt8) (x : UInt8) : padL (k + 1) (l ++ [x]) = padL k l ++ [x] := by
  unfold padL
  rw [List.length_append, List.length_singleton, show k + 1 - (l.length + 1) = k - l.length by omega, List.append_assoc]
theorem padL_dgs (k r : Nat) : padL (k + 1) (dgs r) = padL k (dgs (r / 10)) ++ [dgt (r % 10)] := by
  by_cases h : r = 0
  · subst h
    rw [show 0 / 10 = 0 from rfl, show 0 % 10 = 0 from rfl, dgs_zero]
    unfold padL
    rw [List.length_nil, Nat.sub_zero, Nat.sub_zero, List.append_nil, List.append_nil, List.replicate_succ']
    rfl
  · rw [dgs_pos h, padL_snoc]
theorem dgs_cat : ∀ (k q r : Nat), q ≠ 0 → r < 10 ^ k → dgs (q * 10 ^ k + r) = dgs q ++ padL k (dgs r)
  | 0, q, r, _, hr => by
    have : r = 0 := by simpa using hr
    subst this
    rw [Nat.pow_zero, Nat.mul_one, Nat.add_zero, dgs_zero]
    unfold padL
    simp
  | k + 1, q, r, hq, hr => by
    have hp : q * 10 ^ (k + 1) = q * 10 ^ k * 10 := by rw [Nat.pow_succ, Nat.mul_assoc]
    have hpos : 0 < q * 10 ^ k := Nat.mul_pos (by omega) (Nat.pow_pos (by omega))
    rw [Nat.pow_succ] at hr
    rw [hp, dgs_pos (by omega), show (q * 10 ^ k * 10 + r) / 10 = q * 10 ^ k + r / 10 by omega, show (q * 10 ^ k * 10 + r) % 10 = r % 10 by omega, dgs_cat k q (r / 10) hq (by omega), padL_dgs, List.append_assoc]
theorem dgs_at {n i : Nat} (h : atN n (i + 1) ≠ 0) : dgs (atN n i) = dgs (atN n (i + 1)) ++ padL 9 (dgs (atN n i % 1000000000)) := by
  have := dgs_cat 9 (atN n (i + 1)) (atN n i % 1000000000) h (by omega)
  rw [← this, atN_succ]
  congr 1
  omega
def fam171p : Fam := ⟨171, {x : Nat × Nat // x.1 < 1000000000 ∧ x.2 ≤ 9}, fun x => [.int .i64 (x.1.1 : Int), .int .i64 (x.1.2 : Int)], fun x => .str (bs (padL x.1.2 (dgs x.1.1)))⟩
theorem fam171p_good : fam171p.Good := ⟨fun x => ok171 x.1.1 x.1.2 (by have := x.2.1; omega) (by have := x.2.2; omega), fun (x y : {x : Nat × Nat // x.1 < 1000000000 ∧ x.2 ≤ 9}) e => by
  have e : [D.int .i64 (x.1.1 : Int), .int .i64 (x.1.2 : Int)] = [D.int .i64 (y.1.1 : Int), .int .i64 (y.1.2 : Int)] := e
  simp only [List.cons.injEq, D.int.injEq, and_true, true_and] at e
  show D.str (bs (padL x.1.2 (dgs x.1.1))) = .str (bs (padL y.1.2 (dgs y.1.1)))
  rw [show x.1.1 = y.1.1 by omega, show x.1.2 = y.1.2 by omega], fun _ => rfl⟩
theorem padL_len {k r : Nat} (h : r < 10 ^ k) : (padL k (dgs r)).length = k := by
  have := dgs_len k r h
  unfold padL
  rw [List.length_append, List.length_replicate]
  omega
theorem big_lt {n i : Nat} (h : i + 1 < (big n).length) : atN n (i + 1) ≠ 0 := len_lt.1 h
abbrev intZ (f : Bool) (z : Int) : D := .agg [.bool (decide (z < 0)), .slc f (big z.natAbs).length (ints (big z.natAbs))]
section
variable {B : FuncId → List D → Option D} {n : Nat} {f : Bool}
theorem dgs_len_at (n : Nat) : ∀ k, k ≤ (big n).length → (dgs (atN n ((big n).length - k))).length ≤ 9 * k
  | 0, _ => by
    have : ¬ atN n ((big n).length - 0) ≠ 0 := fun hh => absurd (len_lt.2 hh) (by omega)
    rw [show atN n ((big n).length - 0) = 0 by omega, dgs_zero]
    simp
  | k + 1, hk => by
    have ih := dgs_len_at n k (by omega)
    by_cases h0 : atN n ((big n).length - (k + 1) + 1) = 0
    · have hs := atN_succ n ((big n).length - (k + 1))
      have := dgs_len 9 (atN n ((big n).length - (k + 1))) (by omega)
      omega
    · rw [dgs_at h0, List.length_append, padL_len (Nat.mod_lt _ (by omega)), show (big n).length - (k + 1) + 1 = (big n).length - k by omega]
      omega
theorem go163 (h0 : ∀ x k : Nat, x < 1000000000 → k ≤ 9 → callOf B 171 [.int .i64 (x : Int), .int .i64 (k : Int)] = some (.str (bs (padL k (dgs x))))) (hl : (big n).length ≤ 100000) (neg : Bool) : ∀ (j fuel : Nat), j < (big n).length → j < fuel →
    F163_122 (callOf B) LL C1 fuel neg f (big n).length (ints (big n)) (bs (dgs (atN n j))) ((j : Int) - 1) = some (.str (bs ((if neg then [45] else []) ++ dgs n))) := by
  intro j
  induction j with
  | zero =>
    intro fuel hj hf
    obtain ⟨fuel, rfl⟩ : ∃ n, fuel = n + 1 := ⟨fuel - 1, by omega⟩
    have hlen := dgs_len_at n (big n).length (Nat.le_refl _)
    rw [Nat.sub_self, atN_zero] at hlen
    rw [F163_122_eq, decide_eq_false (show ¬ (((0 : Nat) : Int) - 1 ≥ 0) by omega), ifK_false, atN_zero]
    cases neg
    · rfl
    · rw [ifK_true, bs_size]
      refine chk_step ?_ ?_
      · rw [decide_eq_false]
        · rfl
        · omega
      · rw [show ByteArray.mk #[45] = bs [45] from rfl, bs_app]
        rfl
  | succ j ih =>
    intro fuel hj hf
    obtain ⟨fuel, rfl⟩ : ∃ n, fuel = n + 1 := ⟨fuel - 1, by omega⟩
    have e1 : ((j + 1 : Nat) : Int) - 1 = (j : Int) := by omega
    have hlen := dgs_len_at n ((big n).length - (j + 1)) (by omega)
    rw [show (big n).length - ((big n).length - (j + 1)) = j + 1 by omega] at hlen
    rw [F163_122_eq, e1, decide_eq_true (show (j : Int) ≥ 0 by omega), ifK_true]
    refine chk_step (decide_eq_true ⟨by omega, by omega⟩) ?_
    rw [big_cell (by omega), intK_int]
    refine opt_step (h0 _ 9 (Nat.mod_lt _ (by omega)) (by omega)) ?_
    rw [strK_str, bs_size, bs_size, bs_app, padL_len (Nat.mod_lt _ (by omega)), ← dgs_at (big_lt hj), wrap_in (by omega)]
    refine chk_step ?_ ?_
    · rw [decide_eq_false]
      · rfl
      · omega
    · exact ih fuel (by omega) (by omega)
end
theorem ok163 {f : Bool} (z : Int) (hl : (big z.natAbs).length ≤ 100000) : OK2 163 [intZ f z] (.str (bs (ratL z 1))) := by
  obtain ⟨B, hB, e0, _⟩ := exF [fam171p] ⟨fam171p_good, trivial⟩ rfl
  have h0 : ∀ x k : Nat, x < 1000000000 → k ≤ 9 → callOf B 171 [.int .i64 (x : Int), .int .i64 (k : Int)] = some (.str (bs (padL k (dgs x)))) := fun x k h1 h2 => e0 ⟨(x, k), h1, h2⟩
  refine fnT hB Tryz.func163 (ord := O0) (N := N163) (by kernel_rfl) ((F163_eq _ _ _ _ _ _ _).trans ?_)
  have hr : ratL z 1 = sgnL z ++ num1 z.natAbs := by unfold ratL; rw [tail_one (by omega), List.append_nil]
  rw [hr]
  by_cases hz : z = 0
  · subst hz
    rw [show (0 : Int).natAbs = 0 from rfl, big_zero, num1_zero]
    rfl
  · have hn : z.natAbs ≠ 0 := by omega
    have hlen : 0 < (big z.natAbs).length := by rw [big_pos hn]; simp
    rw [show ((((big z.natAbs).length : Nat) : Int) == 0) = false from beq_eq_false_iff_ne.2 (by omega), ifK_false, wrap_in (y := (((big z.natAbs).length : Nat) : Int) - 1) (by omega)]
    refine chk_step (decide_eq_true ⟨by omega, by omega⟩) ?_
    have e1 : (((big z.natAbs).length : Nat) : Int) - 1 = (((big z.natAbs).length - 1 : Nat) : Int) := by omega
    have e2 : IntKind.wrap IntKind.i64 ((((big z.natAbs).length : Nat) : Int) - 2) = (((big z.natAbs).length - 1 : Nat) : Int) - 1 := (wrap_in (by omega)).trans (by omega)
    have ht : atN z.natAbs ((big z.natAbs).length - 1) ≠ 0 := len_lt.1 (by omega)
    have hs : atN z.natAbs ((big z.natAbs).length - 1 + 1) = 0 := by
      have : ¬ atN z.natAbs ((big z.natAbs).length - 1 + 1) ≠ 0 := fun hh => absurd (len_lt.2 hh) (by omega)
      omega
    rw [atN_succ] at hs
    rw [e1, big_cell (by omega), intK_int, e2, show atN z.natAbs ((big z.natAbs).length - 1) % 1000000000 = atN z.natAbs ((big z.natAbs).length - 1) by omega]
    refine opt_step (h0 _ 1 (by omega) (by omega)) ?_
    have e3 : padL 1 (dgs (atN z.natAbs ((big z.natAbs).length - 1))) = dgs (atN z.natAbs ((big z.natAbs).length - 1)) := num1_pos ht
    rw [strK_str, e3, go163 h0 hl (decide (z < 0)) _ LL (by omega) (by unfold LL; omega), num1_pos hn]
    unfold sgnL
    by_cases h : z < 0
    · rw [decide_eq_true h, if_pos rfl, if_pos h]
    · rw [decide_eq_false h, if_neg (by decide), if_neg h]
end Go.Pd
end
section
namespace Go.Pd
open Go Go.Proofs Go.RowKit
set_option maxRecDepth 100000
theorem vN_pad : ∀ (k : Nat) (l : List UInt8), vN 0 (List.replicate k 48 ++ l) = vN 0 l
  | 0, _ => rfl
  | k + 1, l => by
    rw [List.replicate_succ, List.cons_append]
    exact vN_pad k l
theorem padL_val (k r : Nat) : vN 0 (padL k (dgs r)) = r := by
  unfold padL
  rw [vN_pad, vN_dgs]
theorem padL_dg (k r : Nat) : ∀ c ∈ padL k (dgs r), IsDg c := by
  unfold padL
  intro c hc
  rcases List.mem_append.1 hc with hc | hc
  · rw [(List.mem_replicate.1 hc).2]
    exact ⟨by decide, by decide⟩
  · exact dgs_dg r c hc
theorem num1_cat {M : Nat} (h : 1000000000 ≤ M) : num1 M = num1 (M / 1000000000) ++ padL 9 (dgs (M % 1000000000)) := by
  rw [num1_pos (by omega), num1_pos (n := M / 1000000000) (by omega)]
  have := dgs_cat 9 (M / 1000000000) (M % 1000000000) (by omega) (by omega)
  rw [← this]
  congr 1
  omega
theorem num1_small_of {M : Nat} (h : (num1 M).length ≤ 9) : M < 1000000000 := by
  have := vN_lt (num1 M) 0 0 (num1_dg M) (by omega)
  rw [num1_val, Nat.zero_add] at this
  exact Nat.lt_of_lt_of_le this (Nat.pow_le_pow_right (n := 10) (by omega) h)
theorem num1_big_of {M : Nat} (h : 9 < (num1 M).length) : 1000000000 ≤ M := by
  by_cases hM : M < 1000000000
  · have := (num1_len (n := M) (k := 9) (by omega) (by omega)).2
    omega
  · omega
def fam191 : Fam := ⟨191, {x : Bool × List Int // x.2.length ≤ 1000000}, fun x => [.bool x.1.1, .slc false x.1.2.length (ints x.1.2)], fun x => sgnD x.1.1 (flL false x.1.2) (trimL x.1.2)⟩
theorem fam191_good : fam191.Good := ⟨fun x => ok191 x.1.1 x.1.2 x.2, fun (x y : {x : Bool × List Int // x.2.length ≤ 1000000}) e => by
  have e : [D.bool x.1.1, D.slc false x.1.2.length (ints x.1.2)] = [D.bool y.1.1, D.slc false y.1.2.length (ints y.1.2)] := e
  simp only [List.cons.injEq, D.slc.injEq, D.bool.injEq, and_true, true_and] at e
  show sgnD x.1.1 (flL false x.1.2) (trimL x.1.2) = sgnD y.1.1 (flL false y.1.2) (trimL y.1.2)
  rw [e.1, ints_inj e.2.2], fun _ => rfl⟩
theorem rd_int {γ : Type} (b f : Bool) (n : Nat) (cs : List D) (k : Bool → Bool → Nat → List D → Option γ) : (aggK (.agg [.bool b, .slc f n cs]) 2 fun c => cellK c 0 fun d => boolK d fun b => cellK c 1 fun d => slcK d fun f n cs => k b f n cs) = k b f n cs := rfl
section
variable {B : FuncId → List D → Option D} {N : Nat} {neg : Bool}
theorem end161 (h5 : ∀ l : List UInt8, (∀ c ∈ l, IsDg c) → l.length ≤ 18 → callOf B 190 [.str (bs l)] = some (.int .i64 ((vN 0 l : Nat) : Int))) (h2 : ∀ (b : Bool) (l : List Int), l.length ≤ 1000000 → callOf B 191 [.bool b, .slc false l.length (ints l)] = some (sgnD b (flL false l) (trimL l)))
    {i fuel : Nat} (hi : i ≤ 10000) (hs : (num1 (atN N i)).length ≤ 9) : F161_124 (callOf B) LL C1 (fuel + 1) neg (bs (num1 (atN N i))) (ownI (rowF i (dgF N))) = some (sgnD neg false (big N)) := by
  have hM := num1_small_of hs
  have hz : atN N (i + 1) = 0 := by rw [atN_succ]; omega
  have hr : rowF (i + 1) (dgF N) = rowF i (dgF N) ++ [((atN N i : Nat) : Int)] := by
    rw [rowF_succ]
    unfold dgF
    rw [Nat.mod_eq_of_lt hM]
  have hcall := h2 neg (rowF (i + 1) (dgF N)) (by rw [rowF_len]; omega)
  have hfl : flL false (rowF (i + 1) (dgF N)) = false := by unfold flL; exact flR_false _
  rw [trim_row _ _ hz, hfl] at hcall
  have h5' := h5 (num1 (atN N i)) (num1_dg _) (by omega)
  rw [num1_val] at h5'
  have hlen := rowF_len i (dgF N)
  rw [hr] at hcall
  cases hq : rowF i (dgF N) with
  | nil =>
    rw [hq] at hcall
    refine (F161_124_eqn ..).trans ?_
    rw [bs_size, decide_eq_false (show ¬ (((num1 (atN N i)).length : Int) > 9) by omega), ifK_false]
    refine opt_step h5' (int_step ?_)
    exact opt_step hcall rfl
  | cons y r =>
    rw [hq] at hcall hlen
    refine (F161_124_eqo ..).trans ?_
    rw [bs_size, decide_eq_false (show ¬ (((num1 (atN N i)).length : Int) > 9) by omega), ifK_false]
    refine opt_step h5' (int_step ?_)
    refine chk_step (decide_eq_true ⟨by unfold Go.Pd.limit; omega, by omega⟩) ?_
    rw [ints_app1, show (y :: r).length + 1 = (y :: r ++ [((atN N i : Nat) : Int)]).length by simp]
    exact opt_step hcall rfl
theorem go161 (h5 : ∀ l : List UInt8, (∀ c ∈ l, IsDg c) → l.length ≤ 18 → callOf B 190 [.str (bs l)] = some (.int .i64 ((vN 0 l : Nat) : Int))) (h2 : ∀ (b : Bool) (l : List Int), l.length ≤ 1000000 → callOf B 191 [.bool b, .slc false l.length (ints l)] = some (sgnD b (flL false l) (trimL l))) :
    ∀ (k i fuel : Nat), (num1 (atN N i)).length ≤ 9 * (k + 1) → i + k ≤ 10000 → k < fuel → F161_124 (callOf B) LL C1 fuel neg (bs (num1 (atN N i))) (ownI (rowF i (dgF N))) = some (sgnD neg false (big N)) := by
  intro k
  induction k with
  | zero =>
    intro i fuel hs hi hf
    obtain ⟨fuel, rfl⟩ : ∃ n, fuel = n + 1 := ⟨fuel - 1, by omega⟩
    exact end161 h5 h2 (by omega) (by omega)
  | succ k ih =>
    intro i fuel hs hi hf
    obtain ⟨fuel, rfl⟩ : ∃ n, fuel = n + 1 := ⟨fuel - 1, by omega⟩
    by_cases h9 : (num1 (atN N i)).length ≤ 9
    · exact end161 h5 h2 (by omega) h9
    · have hb := num1_big_of (M := atN N i) (by omega)
      have hc := num1_cat hb
      have hp : (padL 9 (dgs (atN N i % 1000000000))).length = 9 := padL_len (by omega)
      rw [← atN_succ] at hc
      have hl : (num1 (atN N i)).length = (num1 (atN N (i + 1))).length + 9 := by rw [hc, List.length_append, hp]
      have ih := ih (i + 1) fuel (by omega) (by omega) (by omega)
      have w : IntKind.wrap IntKind.i64 (((num1 (atN N i)).length : Int) - 9) = ((num1 (atN N (i + 1))).length : Int) := (wrap_in (by omega)).trans (by omega)
      have x1 : ByteArray.extract (bs (num1 (atN N i))) (Int.toNat ((num1 (atN N (i + 1))).length : Int)) (Int.toNat ((num1 (atN N i)).length : Int)) = bs (padL 9 (dgs (atN N i % 1000000000))) := by
        rw [bs_ext, Int.toNat_natCast, Int.toNat_natCast, List.take_length]
        conv => lhs; rw [hc]
        rw [List.drop_left]
      have x2 : ByteArray.extract (bs (num1 (atN N i))) 0 (Int.toNat ((num1 (atN N (i + 1))).length : Int)) = bs (num1 (atN N (i + 1))) := by
        rw [bs_ext, Int.toNat_natCast, List.drop_zero]
        conv => lhs; rw [hc]
        rw [List.take_left]
      have h5' := h5 _ (padL_dg 9 (atN N i % 1000000000)) (by omega)
      rw [padL_val] at h5'
      have hlen := rowF_len i (dgF N)
      have hput := ownI_put (rowF i (dgF N)) (dgF N i)
      rw [← rowF_succ] at hput
      rw [hput] at ih
      cases hq : rowF i (dgF N) with
      | nil =>
        rw [hq] at ih
        refine (F161_124_eqn ..).trans ?_
        rw [bs_size, decide_eq_true (show ((num1 (atN N i)).length : Int) > 9 by omega), ifK_true, w]
        refine chk_step (decide_eq_true ⟨by omega, by omega, by omega⟩) ?_
        rw [x1]
        refine opt_step h5' (int_step ?_)
        refine chk_step (decide_eq_true ⟨by omega, by omega, by omega⟩) ?_
        rw [x2]
        exact ih
      | cons y r =>
        rw [hq] at ih hlen
        refine (F161_124_eqo ..).trans ?_
        rw [bs_size, decide_eq_true (show ((num1 (atN N i)).length : Int) > 9 by omega), ifK_true, w]
        refine chk_step (decide_eq_true ⟨by omega, by omega, by omega⟩) ?_
        rw [x1]
        refine opt_step h5' (int_step ?_)
        refine chk_step (decide_eq_true ⟨by unfold Go.Pd.limit; omega, by omega⟩) ?_
        refine chk_step (decide_eq_true ⟨by omega, by omega, by omega⟩) ?_
        rw [x2]
        exact ih
end
theorem ok161 (z : Int) (hl : (num1 z.natAbs).length ≤ 80000) : OK2 161 [.str (bs (ratL z 1))] (intZ false z) := by
  obtain ⟨B, hB, e5, e2, _⟩ := exF [fam190, fam191] ⟨fam190_good, fam191_good, trivial⟩ rfl
  have h5 : ∀ l : List UInt8, (∀ c ∈ l, IsDg c) → l.length ≤ 18 → callOf B 190 [.str (bs l)] = some (.int .i64 ((vN 0 l : Nat) : Int)) := fun l h hl => e5 ⟨l, h, hl⟩
  have h2 : ∀ (b : Bool) (l : List Int), l.length ≤ 1000000 → callOf B 191 [.bool b, .slc false l.length (ints l)] = some (sgnD b (flL false l) (trimL l)) := fun b l hl => e2 ⟨(b, l), hl⟩
  refine fnT hB Tryz.func161 (ord := O0) (N := N161) (by kernel_rfl) ((F161_eq _ _ _ _).trans ?_)
  have key : ∀ neg : Bool, F161_124 (callOf B) LL C1 LL neg (bs (num1 z.natAbs)) .nil = some (sgnD neg false (big z.natAbs)) := fun neg => by
    have := go161 (B := B) (N := z.natAbs) (neg := neg) h5 h2 9000 0 LL (by rw [atN_zero]; omega) (by omega) (by unfold LL; omega)
    rw [atN_zero] at this
    exact this
  have hr : ratL z 1 = sgnL z ++ num1 z.natAbs := by unfold ratL; rw [tail_one (by omega), List.append_nil]
  rw [hr]
  obtain ⟨c, r, hc, hd⟩ := num1_head z.natAbs []
  rw [List.append_nil] at hc
  by_cases h : z < 0
  · have es : sgnL z ++ num1 z.natAbs = 45 :: num1 z.natAbs := by unfold sgnL; rw [if_pos h]; rfl
    rw [es, bs_size, decide_eq_true (show ((45 :: num1 z.natAbs).length : Int) > 0 by rw [List.length_cons]; omega), ifK_true]
    refine chk_step (decide_eq_true ⟨by omega, by simp⟩) ?_
    rw [bs_at (b := 45) rfl, show (((45 : UInt8).toNat : Int) == 45) = true from rfl, F161_7_eq (C := C1) (hC := fun _ => rfl), ifK_true]
    refine chk_step (decide_eq_true ⟨by omega, by rw [bs_size, List.length_cons]; omega, by omega⟩) ?_
    rw [bs_ext, bs_size, Int.toNat_natCast, List.take_length, List.drop_one, List.tail_cons, F161_15_eq (C := C1) (hC := fun _ => rfl), key]
    unfold sgnD
    have hlen : 0 < (big z.natAbs).length := by rw [big_pos (by omega)]; simp
    have hz : intZ false z = .agg [.bool true, .slc false (big z.natAbs).length (ints (big z.natAbs))] := by unfold intZ; rw [decide_eq_true h]
    rw [decide_eq_true hlen, Bool.true_and, hz]
  · have es : sgnL z ++ num1 z.natAbs = num1 z.natAbs := by unfold sgnL; rw [if_neg h]; rfl
    rw [es, bs_size, decide_eq_true (show ((num1 z.natAbs).length : Int) > 0 by rw [hc, List.length_cons]; omega), ifK_true]
    refine chk_step (decide_eq_true ⟨by omega, by rw [hc]; simp⟩) ?_
    have hb : (byteAt (bs (num1 z.natAbs)) 0 == 45) = false := by
      rw [hc, bs_at (b := c) rfl]
      exact beq_eq_false_iff_ne.2 (by have := hd.1; omega)
    rw [hb, F161_7_eq (C := C1) (hC := fun _ => rfl), ifK_false, F161_15_eq (C := C1) (hC := fun _ => rfl), key]
    unfold sgnD
    have hz : intZ false z = .agg [.bool false, .slc false (big z.natAbs).length (ints (big z.natAbs))] := by unfold intZ; rw [decide_eq_false h]
    rw [Bool.false_and, hz]
end Go.Pd
end
