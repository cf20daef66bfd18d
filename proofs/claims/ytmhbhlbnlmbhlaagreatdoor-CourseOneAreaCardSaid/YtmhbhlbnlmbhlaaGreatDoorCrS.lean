/-
  Chapter 2: polygons whose corners are told from another one on, or the other way round.
  Chapter 2: the area of a place, by ranks of kinds; holes whose corners are told otherwise.
  Chapter 2: the law of one area, as equations.
  Chapter 2: corners that are told otherwise, in place; the checks of one area.
  CourseOneArea: a place lies in one area alone, whatever corner the areas begin with.
  CourseOneArea, put together.
-/
import Derived.Test.YtmhbhlbnlmbhlaaGreatDoorCrL
import Derived.Laws.StructEq
import Derived.Test.YtmhbhlbnlmbhlaaGreatDoorCrA
import Derived.KernelRfl
import Derived.Test.YtmhbhlbnlmbhlaaGreatDoorCrN
import Derived.Test.YtmhbhlbnlmbhlaaGreatDoorCrR
section
namespace Go.Pd
open Go Go.Proofs Go.RowKit
set_option maxRecDepth 100000
/-! ### Sides in another order -/
def swp (s : Pt × Pt) : Pt × Pt := (s.2, s.1)
theorem xor_perm {f : Pt × Pt → Bool} {a b : List (Pt × Pt)} (h : List.Perm a b) : xorL f a = xorL f b := by
  induction h with
  | nil => rfl
  | cons x _ ih => show (f x ^^ xorL f _) = (f x ^^ xorL f _); rw [ih]
  | swap x y l =>
    show (f y ^^ (f x ^^ xorL f l)) = (f x ^^ (f y ^^ xorL f l))
    rw [← Bool.xor_assoc, ← Bool.xor_assoc, Bool.xor_comm (f y) (f x)]
  | trans _ _ h1 h2 => exact h1.trans h2
theorem any_perm {f : Pt × Pt → Bool} {a b : List (Pt × Pt)} (h : List.Perm a b) : a.any f = b.any f := by
  rw [Bool.eq_iff_iff, List.any_eq_true, List.any_eq_true]
  exact ⟨fun ⟨x, hx, e⟩ => ⟨x, h.mem_iff.1 hx, e⟩, fun ⟨x, hx, e⟩ => ⟨x, h.mem_iff.2 hx, e⟩⟩
theorem xor_map (f : Pt × Pt → Bool) : ∀ l : List (Pt × Pt), xorL f (l.map swp) = xorL (fun s => f (swp s)) l
  | [] => rfl
  | s :: l => by show (f (swp s) ^^ xorL f (l.map swp)) = _; rw [xor_map f l]; rfl
theorem sdTo_app : ∀ (a : List Pt) (y : Pt) (b : List Pt) (z : Pt), sdTo (a ++ y :: b) z = sdTo a y ++ sdTo (y :: b) z
  | [], _, _, _ => rfl
  | [x], y, b, z => rfl
  | x :: x' :: a, y, b, z => by
    show (x, x') :: sdTo (x' :: a ++ y :: b) z = (x, x') :: (sdTo (x' :: a) y ++ sdTo (y :: b) z)
    rw [sdTo_app (x' :: a) y b z]
theorem rot_perm (a b : List Pt) : List.Perm (sdL (b ++ a)) (sdL (a ++ b)) := by
  cases a with
  | nil => rw [List.append_nil, List.nil_append]
  | cons x a =>
    cases b with
    | nil => rw [List.append_nil, List.nil_append]
    | cons y b =>
      show List.Perm (sdTo ((y :: b) ++ x :: a) y) (sdTo ((x :: a) ++ y :: b) x)
      rw [sdTo_app (y :: b) x a y, sdTo_app (x :: a) y b x]
      exact List.perm_append_comm
theorem path_rev : ∀ (r : List Pt) (x z : Pt), List.Perm (sdTo (x :: r.reverse) z) ((sdTo (z :: r) x).map swp)
  | [], _, _ => List.Perm.refl _
  | y :: r, x, z => by
    have ih := path_rev r x y
    rw [List.reverse_cons, show x :: (r.reverse ++ [y]) = (x :: r.reverse) ++ y :: [] from rfl, sdTo_app (x :: r.reverse) y [] z]
    show List.Perm (sdTo (x :: r.reverse) y ++ [(y, z)]) ((y, z) :: (sdTo (y :: r) x).map swp)
    exact (ih.append_right _).trans List.perm_append_comm
theorem rev_perm (l : List Pt) : List.Perm (sdL l.reverse) ((sdL l).map swp) := by
  cases l with
  | nil => exact List.Perm.refl _
  | cons x r =>
    rw [List.reverse_cons]
    have h1 := rot_perm [x] r.reverse
    have h2 : List.Perm (sdL ([x] ++ r.reverse)) ((sdL (x :: r)).map swp) := path_rev r x x
    exact h1.trans h2
/-! ### In or on the border -/
theorem con_val {l : List Pt} {p : Pt} (hl : ∀ q ∈ l, InP q) (hp : InP p) : conGo p (sdL l) (-1) = ifK ((sdL l).any fun s => hasP s.1 s.2 p) 0 (ifK (xorL (cr1 p) (sdL l)) 1 (-1)) := by
  have h := conGo_eq hp (sdL l) (fun s hs => ⟨hl _ (sdL_mem hs).1, hl _ (sdL_mem hs).2⟩) false
  rw [ifK_false, Bool.false_xor] at h
  exact h
theorem cr2_swp (p : Pt) (s : Pt × Pt) : cr2 p (swp s) = cr2 p s := by
  unfold cr2 swp
  rw [Bool.or_comm]
theorem con_rot {a b : List Pt} {p : Pt} (hl : ∀ q ∈ a ++ b, InP q) (hp : InP p) : conGo p (sdL (b ++ a)) (-1) = conGo p (sdL (a ++ b)) (-1) := by
  have hl' : ∀ q ∈ b ++ a, InP q := fun q hq => hl q (by
    rcases List.mem_append.1 hq with h | h
    · exact List.mem_append.2 (.inr h)
    · exact List.mem_append.2 (.inl h))
  rw [con_val hl' hp, con_val hl hp, any_perm (rot_perm a b), xor_perm (rot_perm a b)]
theorem con_rev {l : List Pt} {p : Pt} (hl : ∀ q ∈ l, InP q) (hp : InP p) : conGo p (sdL l.reverse) (-1) = conGo p (sdL l) (-1) := by
  have hl' : ∀ q ∈ l.reverse, InP q := fun q hq => hl q (List.mem_reverse.1 hq)
  have ha : ((sdL l.reverse).any fun s => hasP s.1 s.2 p) = (sdL l).any fun s => hasP s.1 s.2 p := by
    rw [any_perm (rev_perm l), List.any_map]
    congr 1
    funext s
    exact has_swap s.1 s.2 p
  rw [con_val hl' hp, con_val hl hp, ha]
  cases hh : (sdL l).any fun s => hasP s.1 s.2 p
  · have n1 : ∀ s ∈ sdL l, hasP s.1 s.2 p = false := fun s hs => by simpa using List.any_eq_false.1 hh s hs
    have n2 : ∀ s ∈ sdL l.reverse, hasP s.1 s.2 p = false := fun s hs => by
      have h1 := ha.trans hh
      simpa using List.any_eq_false.1 h1 s hs
    rw [cross_same n1, cross_same n2, xor_perm (rev_perm l), xor_map, xor_congr (f := fun s => cr2 p (swp s)) (g := cr2 p) (sdL l) fun s _ => cr2_swp p s]
  · rfl
/-! ### Simple polygons -/
theorem succ2 (i n : Nat) : ((i + 1) % n + 1) % n = (i + 2) % n := by rw [Nat.mod_add_mod]
theorem simp_map {l l' : List Pt} (hn : l'.length = l.length) (h3 : 3 ≤ l.length) {σ : Nat → Nat} (h1 : ∀ i, i < l.length → σ i < l.length) (hp : ∀ i, i < l.length → pt l' i = pt l (σ i)) (hs : ∀ i, i < l.length → σ ((i + 1) % l.length) = (σ i + 1) % l.length)
    (hi : ∀ i j, i < l.length → j < l.length → σ i = σ j → i = j) (h : SimpP l) : SimpP l' := by
  have hm : ∀ j, j % l.length < l.length := fun j => Nat.mod_lt _ (by omega)
  have hs2 : ∀ i, i < l.length → σ ((i + 2) % l.length) = (σ i + 2) % l.length := fun i hi' => by
    rw [← succ2, hs _ (hm _), hs i hi', succ2]
  refine ⟨fun i hi' => ?_, fun i hi' => ?_, fun i q hi' hq' c1 c2 c3 => ?_⟩
  · rw [hn] at hi' ⊢
    rw [hp i hi', hp _ (hm _), hs i hi']
    exact h.ne _ (h1 i hi')
  · rw [hn] at hi' ⊢
    rw [hp i hi', hp _ (hm _), hp _ (hm _), hs i hi', hs2 i hi']
    exact h.corn _ (h1 i hi')
  · rw [hn] at hi' hq' c2 c3 ⊢
    rw [hp i hi', hp q hq', hp _ (hm _), hp _ (hm _), hs i hi', hs q hq']
    refine h.meet _ _ (h1 i hi') (h1 q hq') (fun e => c1 (hi _ _ hq' hi' e)) (fun e => ?_) (fun e => ?_)
    · rw [← hs q hq'] at e
      exact c2 (hi _ _ (hm _) hi' e)
    · rw [← hs i hi'] at e
      exact c3 (hi _ _ (hm _) hq' e)
theorem pt_get {l : List Pt} {i : Nat} (h : i < l.length) : l[i]? = some (pt l i) := by
  unfold pt
  rw [List.getD_eq_getElem?_getD, List.getElem?_eq_getElem h]
  rfl
theorem pt_of {l : List Pt} {i : Nat} {x : Pt} (h : l[i]? = some x) : pt l i = x := by
  unfold pt
  rw [List.getD_eq_getElem?_getD, h]
  rfl
theorem simp_rot {a b : List Pt} (h3 : 3 ≤ (a ++ b).length) (h : SimpP (a ++ b)) : SimpP (b ++ a) := by
  have hl : (a ++ b).length = a.length + b.length := List.length_append
  have hn : (b ++ a).length = (a ++ b).length := by simp; omega
  refine simp_map (σ := fun i => (i + a.length) % (a ++ b).length) hn h3 (fun i _ => Nat.mod_lt _ (by omega)) (fun i hi => ?_) (fun i hi => ?_) (fun i j hi hj e => ?_) h
  · show pt (b ++ a) i = pt (a ++ b) ((i + a.length) % (a ++ b).length)
    by_cases hc : i < b.length
    · rw [Nat.mod_eq_of_lt (by omega)]
      refine pt_of ?_
      rw [List.getElem?_append_left hc, ← pt_get (l := a ++ b) (by omega), List.getElem?_append_right (by omega), show i + a.length - a.length = i by omega]
    · have e : (i + a.length) % (a ++ b).length = i - b.length := by
        rw [show i + a.length = (i - b.length) + (a ++ b).length by omega, Nat.add_mod_right, Nat.mod_eq_of_lt (by omega)]
      rw [e]
      refine pt_of ?_
      rw [List.getElem?_append_right (by omega), ← pt_get (l := a ++ b) (by omega), List.getElem?_append_left (by omega)]
  · show ((i + 1) % (a ++ b).length + a.length) % (a ++ b).length = ((i + a.length) % (a ++ b).length + 1) % (a ++ b).length
    rw [Nat.mod_add_mod, Nat.mod_add_mod]
    congr 1
    omega
  · have e : (i + a.length) % (a ++ b).length = (j + a.length) % (a ++ b).length := e
    have key : ∀ k, k < (a ++ b).length → (k + a.length) % (a ++ b).length = if k < b.length then k + a.length else k - b.length := fun k hk => by
      by_cases hc : k < b.length
      · rw [if_pos hc, Nat.mod_eq_of_lt (by omega)]
      · rw [if_neg hc, show k + a.length = (k - b.length) + (a ++ b).length by omega, Nat.add_mod_right, Nat.mod_eq_of_lt (by omega)]
    rw [key i hi, key j hj] at e
    split at e <;> split at e <;> omega
theorem corn_sym {a b c : Pt} (ha : InP a) (hb : InP b) (hc : InP c) : cornB c b a = cornB a b c := by
  unfold cornB
  rw [trn_eq hc hb ha, trn_eq ha hb hc, trn_rev a b c, mns_eq ha hb, mns_eq hc hb, dt_eq (mns_in hc hb) (mns_in ha hb), dt_eq (mns_in ha hb) (mns_in hc hb)]
  have e1 : (-trn a b c == 0) = (trn a b c == 0) := by
    rw [beq_dec, beq_dec]
    exact decide_eq_decide.2 (by omega)
  have e2 : dt (mns c b) (mns a b) = dt (mns a b) (mns c b) := by
    unfold dt
    rw [Int.mul_comm (mns c b).1, Int.mul_comm (mns c b).2]
  rw [e1, e2]
theorem simp_rev {l : List Pt} (h3 : 3 ≤ l.length) (hin : ∀ p ∈ l, InP p) (h : SimpP l) : SimpP l.reverse := by
  have hm : ∀ j, j % l.length < l.length := fun j => Nat.mod_lt _ (by omega)
  have hn : l.reverse.length = l.length := List.length_reverse
  have hp : ∀ i, i < l.length → pt l.reverse i = pt l (l.length - 1 - i) := fun i hi => pt_of (by rw [List.getElem?_reverse hi, ← pt_get (by omega)])
  -- the number ahead
  have ha : ∀ i, i < l.length → ∃ j, j < l.length ∧ l.length - 1 - (i + 1) % l.length = j ∧ (j + 1) % l.length = l.length - 1 - i := fun i hi => by
    by_cases hc : i + 1 < l.length
    · exact ⟨l.length - 2 - i, by omega, by rw [Nat.mod_eq_of_lt hc]; omega, by rw [show l.length - 2 - i + 1 = l.length - 1 - i by omega, Nat.mod_eq_of_lt (by omega)]⟩
    · exact ⟨l.length - 1, by omega, by rw [show i + 1 = l.length by omega, Nat.mod_self]; omega, by rw [show l.length - 1 + 1 = l.length by omega, Nat.mod_self]; omega⟩
  have hP : ∀ j, j < l.length → InP (pt l j) := fun j hj => pt_in hin hj
  refine ⟨fun i hi => ?_, fun i hi => ?_, fun i q hi hq c1 c2 c3 => ?_⟩
  · rw [hn] at hi ⊢
    obtain ⟨j, j1, j2, j3⟩ := ha i hi
    rw [hp i hi, hp _ (hm _), j2, ← j3]
    exact fun e => h.ne j j1 e.symm
  · rw [hn] at hi ⊢
    obtain ⟨j, j1, j2, j3⟩ := ha _ (hm (i + 1))
    obtain ⟨k, k1, k2, k3⟩ := ha i hi
    rw [succ2] at j2
    rw [k2] at j3
    rw [hp i hi, hp _ (hm _), hp _ (hm _), j2, k2, ← k3, ← j3, succ2]
    rw [corn_sym (hP j j1) (hP _ (hm _)) (hP _ (hm _))]
    exact h.corn j j1
  · rw [hn] at hi hq c2 c3 ⊢
    obtain ⟨j, j1, j2, j3⟩ := ha i hi
    obtain ⟨k, k1, k2, k3⟩ := ha q hq
    rw [hp i hi, hp q hq, hp _ (hm _), hp _ (hm _), j2, k2, ← j3, ← k3, meet_swap1, meet_swap2]
    have hmi := hm (i + 1)
    have hmq := hm (q + 1)
    refine h.meet j k j1 k1 (fun e => ?_) (fun e => ?_) (fun e => ?_)
    · -- k = j
      have : (q + 1) % l.length = (i + 1) % l.length := by omega
      refine c1 ?_
      by_cases d1 : i + 1 < l.length <;> by_cases d2 : q + 1 < l.length
      · rw [Nat.mod_eq_of_lt d1, Nat.mod_eq_of_lt d2] at this; omega
      · rw [Nat.mod_eq_of_lt d1, show q + 1 = l.length by omega, Nat.mod_self] at this; omega
      · rw [Nat.mod_eq_of_lt d2, show i + 1 = l.length by omega, Nat.mod_self] at this; omega
      · omega
    · -- (k + 1) % n = j
      rw [k3] at e
      exact c3 (by omega)
    · rw [j3] at e
      exact c2 (by omega)
/-! ### A polygon told otherwise -/
structure Tw (l l' : List Pt) : Prop where
  n : l'.length = l.length
  e : polErr l = 0 → polErr l' = 0
  c : polErr l = 0 → ∀ p, InP p → conGo p (sdL l') (-1) = conGo p (sdL l) (-1)
theorem polErr_mk {l : List Pt} (h1 : 3 ≤ l.length) (h2 : l.length ≤ 64) (h3 : l.any outP = false) (h4 : SimpP l) : polErr l = 0 := by
  rw [poly_same]
  unfold refErr
  rw [decide_eq_false (show ¬ (l.length : Int) < 3 by omega), decide_eq_false (show ¬ (l.length : Int) > 64 by omega), h3, (ref_iff h1 (any_out h3)).2 h4]
  rfl
theorem Tw.trans {a b c : List Pt} (h1 : Tw a b) (h2 : Tw b c) : Tw a c :=
  ⟨h2.n.trans h1.n, fun h => h2.e (h1.e h), fun h p hp => (h2.c (h1.e h) p hp).trans (h1.c h p hp)⟩
theorem tw_rot (a b : List Pt) : Tw (a ++ b) (b ++ a) := by
  refine ⟨by simp; omega, fun h => ?_, fun h p hp => con_rot (any_out (polErr_zero h).2.2.1) hp⟩
  obtain ⟨h1, h2, h3, h4⟩ := polErr_zero h
  refine polErr_mk (by simp at h1 ⊢; omega) (by simp at h2 ⊢; omega) ?_ (simp_rot h1 h4)
  rw [List.any_append] at h3 ⊢
  rw [Bool.or_comm]
  exact h3
theorem tw_rev (l : List Pt) : Tw l l.reverse := by
  refine ⟨List.length_reverse, fun h => ?_, fun h p hp => con_rev (any_out (polErr_zero h).2.2.1) hp⟩
  obtain ⟨h1, h2, h3, h4⟩ := polErr_zero h
  exact polErr_mk (by rw [List.length_reverse]; exact h1) (by rw [List.length_reverse]; exact h2) (by rw [List.any_reverse]; exact h3) (simp_rev h1 (any_out h3) h4)
def turnL (t : Nat) (l : List Pt) : List Pt := if 128 ≤ t then (l.drop (t % l.length) ++ l.take (t % l.length)).reverse else l.drop (t % l.length) ++ l.take (t % l.length)
theorem tw_turn (t : Nat) (l : List Pt) : Tw l (turnL t l) := by
  have h1 : Tw l (l.drop (t % l.length) ++ l.take (t % l.length)) := by
    have := tw_rot (l.take (t % l.length)) (l.drop (t % l.length))
    rw [List.take_append_drop] at this
    exact this
  unfold turnL
  split
  · exact h1.trans (tw_rev _)
  · exact h1
end Go.Pd
end
section
namespace Go.Pd
open Go Go.Proofs Go.RowKit
set_option maxRecDepth 100000
/-! ### Ranks -/
def kinds7 : List ByteArray := kinds6 ++ [outS]
def idxO (v : ByteArray) : List ByteArray → Nat → Option Nat
  | [], _ => none
  | k :: r, i => if seqB v k = true then some i else idxO v r (i + 1)
theorem find_strs (v : ByteArray) : ∀ (l : List ByteArray) (i : Nat), findD (.str v) (strsC l) i = some (idxO v l i)
  | [], _ => rfl
  | k :: r, i => by
    have hk : keyEq (.str v) (.str k) = some (seqB v k) := by
      show some (v == k) = _
      rw [beq_toListBytes]
      rfl
    unfold strsC
    rw [List.map_cons]
    unfold findD idxO
    rw [hk]
    cases seqB v k
    · exact find_strs v r (i + 1)
    · rfl
theorem idxO_spec {v : ByteArray} : ∀ {l : List ByteArray} {i j : Nat}, idxO v l i = some j → i ≤ j ∧ ∃ k, l[j - i]? = some k ∧ seqB v k = true
  | [], _, _, h => by cases h
  | k :: r, i, j, h => by
    unfold idxO at h
    cases hs : seqB v k
    · rw [hs, if_neg (by decide)] at h
      obtain ⟨h1, k', h2, h3⟩ := idxO_spec h
      obtain ⟨d, rfl⟩ : ∃ d, j = i + 1 + d := ⟨j - (i + 1), by omega⟩
      refine ⟨by omega, k', ?_, h3⟩
      rw [show i + 1 + d - i = d + 1 by omega, List.getElem?_cons_succ]
      rw [show i + 1 + d - (i + 1) = d by omega] at h2
      exact h2
    · rw [hs, if_pos rfl] at h
      cases h
      exact ⟨Nat.le_refl _, k, by rw [Nat.sub_self]; rfl, hs⟩
theorem idxO_ex {v : ByteArray} : ∀ {l : List ByteArray} {i : Nat}, (∃ k ∈ l, seqB v k = true) → ∃ j, idxO v l i = some j
  | [], _, h => by obtain ⟨k, hk, _⟩ := h; cases hk
  | k :: r, i, h => by
    unfold idxO
    cases hs : seqB v k
    · rw [if_neg (by decide)]
      obtain ⟨k', hk, h'⟩ := h
      rcases List.mem_cons.1 hk with rfl | hk
      · rw [hs] at h'; cases h'
      · exact idxO_ex ⟨k', hk, h'⟩
    · exact ⟨i, by rw [if_pos rfl]⟩
def rk (v : ByteArray) : Nat := (idxO v kinds7 0).getD 0
theorem rk_area {v : ByteArray} (h : kindB v = true) : ∃ k, kinds7[rk v]? = some k ∧ seqB v k = true := by
  obtain ⟨k, hk, hs⟩ := List.any_eq_true.1 h
  obtain ⟨j, hj⟩ := idxO_ex (v := v) (l := kinds7) (i := 0) ⟨k, List.mem_append.2 (.inl hk), hs⟩
  obtain ⟨_, k', h1, h2⟩ := idxO_spec hj
  unfold rk
  rw [hj]
  exact ⟨k', h1, h2⟩
theorem rk_kind : ∀ {m : Nat} {k : ByteArray}, kinds6[m]? = some k → idxO k kinds7 0 = some m ∧ seqB k outS = false
  | 0, _, h => by cases h; exact ⟨by kernel_rfl, by kernel_rfl⟩
  | 1, _, h => by cases h; exact ⟨by kernel_rfl, by kernel_rfl⟩
  | 2, _, h => by cases h; exact ⟨by kernel_rfl, by kernel_rfl⟩
  | 3, _, h => by cases h; exact ⟨by kernel_rfl, by kernel_rfl⟩
  | 4, _, h => by cases h; exact ⟨by kernel_rfl, by kernel_rfl⟩
  | 5, _, h => by cases h; exact ⟨by kernel_rfl, by kernel_rfl⟩
  | m + 6, _, h => by cases h
/-! ### The area that is found -/
theorem locI_none {has : Ar → Bool} {kind : ByteArray} : ∀ {l : List Ar} {o : Nat}, locI has kind l o = none → ∀ a ∈ l, seqB a.1 kind = true → has a = false
  | [], _, _, a, ha, _ => by cases ha
  | x :: r, o, h, a, ha, hs => by
    unfold locI at h
    cases h1 : seqB x.1 kind
    · rw [h1, ifK_false] at h
      rcases List.mem_cons.1 ha with rfl | ha
      · rw [h1] at hs; cases hs
      · exact locI_none h a ha hs
    · rw [h1, ifK_true] at h
      cases h2 : has x
      · rw [h2, ifK_false] at h
        rcases List.mem_cons.1 ha with rfl | ha
        · exact h2
        · exact locI_none h a ha hs
      · rw [h2, ifK_true] at h; cases h
theorem locI_some {has : Ar → Bool} {kind : ByteArray} : ∀ {l : List Ar} {o i : Nat}, locI has kind l o = some i → ∃ d, i = o + d ∧ (∃ a, l[d]? = some a ∧ seqB a.1 kind = true ∧ has a = true) ∧ ∀ j a, j < d → l[j]? = some a → seqB a.1 kind = true → has a = false
  | [], _, _, h => by cases h
  | x :: r, o, i, h => by
    unfold locI at h
    have main : locI has kind r (o + 1) = some i → (seqB x.1 kind = true → has x = false) → ∃ d, i = o + d ∧ (∃ a, (x :: r)[d]? = some a ∧ seqB a.1 kind = true ∧ has a = true) ∧ ∀ j a, j < d → (x :: r)[j]? = some a → seqB a.1 kind = true → has a = false := fun h hx => by
      obtain ⟨d, e, ⟨a, h1, h2, h3⟩, h4⟩ := locI_some h
      refine ⟨d + 1, by omega, ⟨a, by rw [List.getElem?_cons_succ]; exact h1, h2, h3⟩, fun j b hj hb hs => ?_⟩
      cases j with
      | zero =>
        cases hb
        exact hx hs
      | succ j =>
        rw [List.getElem?_cons_succ] at hb
        exact h4 j b (by omega) hb hs
    cases h1 : seqB x.1 kind
    · rw [h1, ifK_false] at h
      exact main h (by rw [h1]; intro e; cases e)
    · rw [h1, ifK_true] at h
      cases h2 : has x
      · rw [h2, ifK_false] at h
        exact main h fun _ => h2
      · rw [h2, ifK_true] at h
        cases h
        exact ⟨0, rfl, ⟨x, rfl, h1, h2⟩, fun j a hj => by omega⟩
theorem locV_spec (has : Ar → Bool) (l : List Ar) : ∀ ks : List ByteArray, (locV has l ks = (outS, -1) ∧ ∀ k ∈ ks, ∀ a ∈ l, seqB a.1 k = true → has a = false) ∨
    ∃ (m : Nat) (k : ByteArray) (i : Nat), ks[m]? = some k ∧ locV has l ks = (k, (i : Int)) ∧ (∃ a, l[i]? = some a ∧ seqB a.1 k = true ∧ has a = true) ∧ (∀ j a, j < i → l[j]? = some a → seqB a.1 k = true → has a = false) ∧
      ∀ m' k', m' < m → ks[m']? = some k' → ∀ a ∈ l, seqB a.1 k' = true → has a = false
  | [] => .inl ⟨rfl, fun k hk => by cases hk⟩
  | k :: r => by
    cases hi : locI has k l 0 with
    | some i =>
      refine .inr ⟨0, k, i, rfl, by unfold locV; rw [hi], ?_⟩
      obtain ⟨d, e, h1, h2⟩ := locI_some hi
      rw [Nat.zero_add] at e
      subst e
      exact ⟨h1, h2, fun m' _ h => by omega⟩
    | none =>
      have e : locV has l (k :: r) = locV has l r := by
        conv => lhs; unfold locV
        rw [hi]
      rw [e]
      have h0 := locI_none hi
      rcases locV_spec has l r with ⟨h1, h2⟩ | ⟨m, k', i, h1, h2, h3, h4, h5⟩
      · refine .inl ⟨h1, fun k' hk => ?_⟩
        rcases List.mem_cons.1 hk with rfl | hk
        · exact h0
        · exact h2 k' hk
      · refine .inr ⟨m + 1, k', i, by rw [List.getElem?_cons_succ]; exact h1, h2, h3, h4, fun m' k2 hm hk => ?_⟩
        cases m' with
        | zero => cases hk; exact h0
        | succ m' =>
          rw [List.getElem?_cons_succ] at hk
          exact h5 m' k2 (by omega) hk
def bef (x : ByteArray × Int) (i : Nat) (v : ByteArray) : Bool := decide (rk v < rk x.1) || (seqB v x.1 && decide ((i : Int) < x.2))
structure One (has : Ar → Bool) (l : List Ar) (x : ByteArray × Int) : Prop where
  known : ∃ j, idxO x.1 kinds7 0 = some j
  lo : -1 ≤ x.2
  hi : x.2 < (l.length : Int)
  out : seqB x.1 outS = (x.2 == -1)
  kind : ∀ a, 0 ≤ x.2 → l[x.2.toNat]? = some a → seqB a.1 x.1 = true
  it : ∀ (i : Nat) a, l[i]? = some a → (i : Int) = x.2 → has a = true
  bf : ∀ (i : Nat) a, l[i]? = some a → bef x i a.1 = true → has a = false
  no : x.2 < 0 → ∀ a ∈ l, has a = false
theorem one_of {has : Ar → Bool} {l : List Ar} (hk : ∀ a ∈ l, kindB a.1 = true) : One has l (locV has l kinds6) := by
  rcases locV_spec has l kinds6 with ⟨h1, h2⟩ | ⟨m, k, i, h1, h2, ⟨a, h3, h4, h5⟩, h6, h7⟩
  · rw [h1]
    have no : ∀ a ∈ l, has a = false := fun a ha => by
      obtain ⟨k, hk', hs⟩ := List.any_eq_true.1 (hk a ha)
      exact h2 k hk' a ha hs
    exact ⟨⟨6, by kernel_rfl⟩, by decide, by show (-1 : Int) < _; omega, by kernel_rfl, fun a h _ => absurd h (by decide), fun i a _ h => by
      have h : (i : Int) = -1 := h
      omega, fun i a ha _ => no a (List.mem_iff_getElem?.2 ⟨i, ha⟩), fun _ => no⟩
  · rw [h2]
    obtain ⟨r1, r2⟩ := rk_kind h1
    have hm : rk k = m := by unfold rk; rw [r1]; rfl
    have hm6 : m < 6 := (List.getElem?_eq_some_iff.1 h1).1
    have hl : i < l.length := (List.getElem?_eq_some_iff.1 h3).1
    refine ⟨⟨m, r1⟩, by show (-1 : Int) ≤ (i : Int); omega, by show (i : Int) < _; omega, ?_, fun b _ hb => ?_, fun j b hb e => ?_, fun j b hb e => ?_, fun h => ?_⟩
    · show seqB k outS = ((i : Int) == -1)
      rw [r2]
      exact (beq_eq_false_iff_ne.2 (by omega)).symm
    · have hb : l[i]? = some b := hb
      rw [h3] at hb
      cases hb
      exact h4
    · have e : (j : Int) = (i : Int) := e
      have e : j = i := by omega
      subst e
      rw [h3] at hb
      cases hb
      exact h5
    · unfold bef at e
      rcases Bool.or_eq_true_iff.1 e with e | e
      · have e : rk b.1 < rk k := of_decide_eq_true e
        have hbm : b ∈ l := List.mem_iff_getElem?.2 ⟨j, hb⟩
        obtain ⟨k', g1, g2⟩ := rk_area (hk b hbm)
        rw [hm] at e
        refine h7 _ k' e ?_ b hbm g2
        unfold kinds7 at g1
        rw [List.getElem?_append_left (by show rk b.1 < 6; omega)] at g1
        exact g1
      · obtain ⟨e1, e2⟩ := Bool.and_eq_true_iff.1 e
        have e2 : (j : Int) < (i : Int) := of_decide_eq_true e2
        exact h6 j b (by omega) hb e1
    · have h : (i : Int) < 0 := h
      omega
/-! ### Holes whose corners are told otherwise -/
def tA (t : Nat) (a : Ar) : Ar := (a.1, false, turnL t a.2.2)
def tH (t : Nat) (h : Hl) : Hl := { h with af := false, areas := h.areas.map (tA t) }
theorem hole_zero {h : Hl} (hz : holeE h = 0) : preE h = 0 ∧ arsE h.areas = 0 ∧ endE (locP h h.tee).1 (locP h h.cup).1 = 0 := by
  unfold holeE at hz
  by_cases hp : preE h = 0
  · rw [show (preE h != 0) = false by simpa using hp, ifK_false] at hz
    by_cases ha : arsE h.areas = 0
    · rw [show (arsE h.areas != 0) = false by simpa using ha, ifK_false] at hz
      exact ⟨hp, ha, hz⟩
    · rw [show (arsE h.areas != 0) = true by simpa using ha, ifK_true] at hz
      exact absurd hz ha
  · rw [show (preE h != 0) = true by simpa using hp, ifK_true] at hz
    exact absurd hz hp
theorem locI_map {f g : Ar → Bool} {τ : Ar → Ar} {kind : ByteArray} (h1 : ∀ a, (τ a).1 = a.1) : ∀ {l : List Ar} (i : Nat), (∀ a ∈ l, f (τ a) = g a) → locI f kind (l.map τ) i = locI g kind l i
  | [], _, _ => rfl
  | a :: l, i, h => by
    rw [List.map_cons]
    unfold locI
    rw [h1, h a (List.mem_cons_self ..), locI_map h1 (i + 1) fun b hb => h b (List.mem_cons_of_mem _ hb)]
theorem locV_map {f g : Ar → Bool} {τ : Ar → Ar} {l : List Ar} (h1 : ∀ a, (τ a).1 = a.1) (h : ∀ a ∈ l, f (τ a) = g a) : ∀ ks, locV f (l.map τ) ks = locV g l ks
  | [] => rfl
  | k :: ks => by
    unfold locV
    rw [locI_map h1 0 h, locV_map h1 h ks]
theorem loc_turn (t : Nat) {h : Hl} (hz : holeE h = 0) {q : Pt} (hq : InP q) : locP (tH t h) q = locP h q := by
  obtain ⟨_, ha, _⟩ := hole_zero hz
  refine locV_map (τ := tA t) (fun _ => rfl) (fun a hm => ?_) kinds6
  unfold hasA
  rw [show (tA t a).2.2 = turnL t a.2.2 from rfl, (tw_turn t a.2.2).c (arsE_zero ha a hm).2 q hq]
theorem arsE_mk : ∀ {l : List Ar}, (∀ a ∈ l, kindB a.1 = true ∧ polErr a.2.2 = 0) → arsE l = 0
  | [], _ => rfl
  | a :: r, h => by
    obtain ⟨h1, h2⟩ := h a (List.mem_cons_self ..)
    have h0 : arE a = 0 := by rw [arE_eq, h1, ← poly_same, h2]; rfl
    show ifK (arE a != 0) (arE a) (arsE r) = 0
    rw [h0, show ((0 : Int) != 0) = false from rfl, ifK_false]
    exact arsE_mk fun b hb => h b (List.mem_cons_of_mem _ hb)
theorem holeE_turn (t : Nat) {h : Hl} (hz : holeE h = 0) : holeE (tH t h) = 0 := by
  obtain ⟨h1, h2, h3⟩ := hole_zero hz
  obtain ⟨i1, i2, _⟩ := hole_in hz
  have e1 : preE (tH t h) = 0 := by
    rw [← h1]
    unfold preE tH
    simp only [List.length_map]
  have e2 : arsE (tH t h).areas = 0 := arsE_mk fun a ha => by
    obtain ⟨b, hb, rfl⟩ := List.mem_map.1 ha
    obtain ⟨g1, g2⟩ := arsE_zero h2 b hb
    exact ⟨g1, (tw_turn t b.2.2).e g2⟩
  unfold holeE
  rw [e1, e2, show ((0 : Int) != 0) = false from rfl, ifK_false, ifK_false, show (tH t h).tee = h.tee from rfl, show (tH t h).cup = h.cup from rfl, loc_turn t hz (inP_of i1), loc_turn t hz (inP_of i2)]
  exact h3
theorem tH_ok (t : Nat) {h : Hl} (hk : h.Ok) : (tH t h).Ok := ⟨hk.n, hk.l, by rw [show (tH t h).areas = h.areas.map (tA t) from rfl, List.length_map]; exact hk.a, fun a ha => by
  obtain ⟨b, hb, rfl⟩ := List.mem_map.1 ha
  rw [show (tA t b).2.2 = turnL t b.2.2 from rfl, (tw_turn t b.2.2).n]
  exact hk.c b hb⟩
theorem areas_ne {h : Hl} (hz : holeE h = 0) : h.areas ≠ [] := fun e => by
  obtain ⟨_, _, h3⟩ := hole_zero hz
  unfold locP at h3
  rw [e] at h3
  have : endE outS outS = 0 := h3
  exact absurd this (by rw [show endE outS outS = 17 by kernel_rfl]; decide)
end Go.Pd
end
section
namespace Go.Pd
open Go Go.Proofs
set_option maxRecDepth 100000
def N7 : NTab := fun p => match p with
  | 15 => some { keep := [2, 3, 4], kl := [7, 16, 18, 49, 180, 185, 219], ren := [(3, 3), (4, 4), (7, 7), (16, 16), (18, 18), (49, 49), (180, 180), (185, 180), (219, 219)] }
  | 1018 => some { keep := [2, 3, 4, 8, 9, 11, 50, 51, 52], kl := [7, 16, 18, 180, 185, 219], ren := [(3, 3), (4, 4), (7, 7), (16, 16), (18, 18), (49, 49), (180, 180), (185, 180), (219, 219)] }
  | 1023 => some { keep := [2, 3, 4, 8, 9, 11], kl := [7, 16, 18, 180, 185, 219], ren := [(3, 3), (4, 4), (7, 7), (16, 16), (18, 18), (49, 49), (180, 180), (185, 180), (219, 219)] }
  | 2045 => some { keep := [2, 3, 4, 8, 9, 11, 15], kl := [7, 16, 18, 180, 185, 219], ren := [(3, 3), (4, 4), (7, 7), (16, 16), (18, 18), (49, 49), (180, 180), (185, 180), (219, 219)] }
  | 16378 => some { keep := [2, 4, 8, 9, 11, 16, 112, 113, 114], kl := [3, 7, 18, 180, 185], ren := [(3, 3), (4, 4), (7, 7), (16, 16), (18, 18), (49, 49), (180, 180), (185, 180), (219, 219)] }
  | 262055 => some { keep := [2, 4, 8, 9, 11, 16, 112, 113, 114], kl := [3, 7, 18, 180, 185], ren := [(3, 3), (4, 4), (7, 7), (16, 16), (18, 18), (49, 49), (180, 180), (185, 180), (219, 219)] }
  | 8385743 => some { keep := [2, 4, 8, 9, 11, 16, 17, 18, 19, 21, 112, 113, 114], kl := [3, 7, 180, 185], ren := [(3, 3), (4, 4), (7, 7), (16, 16), (18, 18), (49, 49), (180, 180), (185, 180), (219, 219)] }
  | 16771487 => some { keep := [2, 4, 8, 9, 11, 16, 18, 112, 113, 114], kl := [3, 7, 180, 185], ren := [(3, 3), (4, 4), (7, 7), (16, 16), (18, 18), (49, 49), (180, 180), (185, 180), (219, 219)] }
  | 2146750442 => some { keep := [2, 4, 8, 9, 11, 16, 18, 23, 24, 25, 112, 113, 114], kl := [3, 7], ren := [(3, 3), (4, 4), (7, 7), (16, 16), (18, 18), (49, 49), (180, 180), (185, 180), (219, 219)] }
  | _ => none
def O7 : Ord := fun id => match id with
  | 28 => some { fs := [(175, 175), (180, 180), (185, 185), (179, 179), (184, 184)] }
  | _ => none
noncomputable def F7_262055 (call : CL) (L : Nat) (C : Nat → Nat) (z : Nat) (ac : Int) (a8 : ByteArray) (vn : Int) (a6 : Bool) (a7 : Nat) (a5 : List D) (K M aa ab : Int) (W : ByteArray) (X Y a0 a1 : Int) (a3 : Bool) (a4 : Nat) (a2 S U : List D) (V : Nat) (O : List D) : Option D :=
 cutAt (TEf call L C) O7 N7 FinM.canon Tryz.f7 [true, true, true, true, true, true, true, true, true, true, false, true, false, false, true, true, true] [z]  (C 262055) (St.mk (J :: J :: D.int IntKind.u8 ac :: J :: D.loc 4 0 0 :: J :: J :: J :: D.str a8 :: D.int .i64 vn :: J :: D.mloc 49 0 :: J :: J :: J :: J :: D.loc 16 0 0 :: jn 95 (D.slc a6 a7 a5 :: D.int .i64 K :: D.int .i64 M :: jn 129 [])) (Z :: Z :: Z :: Z :: (1, some (Ob.box [D.int .i64 aa, D.int .i64 ab] false)) :: zn 11 ((1, some (Ob.box [D.str W, D.int .i64 X, D.int .i64 Y, D.int .i64 a0, D.int .i64 a1, D.slc a3 a4 a2, D.own 219 0 V] false)) :: zn 32 ((1, some (Ob.map S U false)) :: zn 169 ((1, some (Ob.arr 84 2 O false)) :: zn 24 [])))))
noncomputable def F7_2146750442 (call : CL) (L : Nat) (C : Nat → Nat) (M K : Nat) (ag : Int) (ac : ByteArray) (vn : Int) (aa : Bool) (ab : Nat) (a9 : List D) (O S ae af : Int) (a1 : ByteArray) (a2 a3 a4 a5 : Int) (a7 : Bool) (a8 : Nat) (a6 : List D) (W : ByteArray) (Y : Bool) (a0 : Nat) (X U V : List D) (vl : Ow) (vu vv : Int) (z : Ow) : Option D :=
 loopAt (TEf call L C) O7 N7 FinM.canon Tryz.f7 [true, true, true, true, true, true, true, true, true, true, false, true, false, false, true, true, false, false, true, true, true, true, true, true, true, false, true, false, true, false] [M]  K (St.mk (J :: J :: D.int IntKind.u8 ag :: J :: D.loc 4 0 0 :: J :: J :: J :: D.str ac :: D.int .i64 vn :: J :: D.mloc 49 0 :: J :: J :: J :: J :: D.loc 16 0 0 :: J :: D.loc 18 0 0 :: J :: J :: J :: J :: ownD 180 vl :: D.int .i64 vu :: D.int .i64 vv :: jn 86 (D.slc aa ab a9 :: D.int .i64 O :: D.int .i64 S :: jn 129 [])) (Z :: Z :: Z :: Z :: (1, some (Ob.box [D.int .i64 ae, D.int .i64 af] false)) :: zn 11 ((1, some (Ob.box [D.str a1, D.int .i64 a2, D.int .i64 a3, D.int .i64 a4, D.int .i64 a5, D.slc a7 a8 a6, ownD 219 z] false)) :: Z :: (1, some (Ob.box [D.str W, D.slc Y a0 X] false)) :: zn 30 ((1, some (Ob.map U V false)) :: zn 130 (ownO 23 2 vl :: zn 38 (ownO 84 2 z :: zn 24 []))))))
noncomputable def F7_16771487 (call : CL) (L : Nat) (C : Nat → Nat) (K : Nat) (af : Int) (ab : ByteArray) (vn : Int) (a9 : Bool) (aa : Nat) (a8 : List D) (M O ad ae : Int) (a0 : ByteArray) (a1 a2 a3 a4 : Int) (a6 : Bool) (a7 : Nat) (a5 : List D) (V : ByteArray) (X : Bool) (Y : Nat) (W S U : List D) (z : Ow) : Option D :=
 cutAt (TEf call L C) O7 N7 FinM.canon Tryz.f7 [true, true, true, true, true, true, true, true, true, true, false, true, false, false, true, true, false, false, true, true, true, true, true] [K]  (C 16771487) (St.mk (J :: J :: D.int IntKind.u8 af :: J :: D.loc 4 0 0 :: J :: J :: J :: D.str ab :: D.int .i64 vn :: J :: D.mloc 49 0 :: J :: J :: J :: J :: D.loc 16 0 0 :: J :: D.loc 18 0 0 :: jn 93 (D.slc a9 aa a8 :: D.int .i64 M :: D.int .i64 O :: jn 129 [])) (Z :: Z :: Z :: Z :: (1, some (Ob.box [D.int .i64 ad, D.int .i64 ae] false)) :: zn 11 ((1, some (Ob.box [D.str a0, D.int .i64 a1, D.int .i64 a2, D.int .i64 a3, D.int .i64 a4, D.slc a6 a7 a5, ownD 219 z] false)) :: Z :: (1, some (Ob.box [D.str V, D.slc X Y W] false)) :: zn 30 ((1, some (Ob.map S U false)) :: zn 169 (ownO 84 2 z :: zn 24 [])))))
noncomputable def F7_8385743 (call : CL) (L : Nat) (C : Nat → Nat) (M : Nat) (ah : Int) (ad : ByteArray) (vn z : Int) (ab : Bool) (ac : Nat) (aa : List D) (O af ag : Int) (a2 : ByteArray) (a3 a4 a5 a6 : Int) (a8 : Bool) (a9 : Nat) (a7 S U : List D) (vc : Int) (a0 : Bool) (K : Ow) (V : ByteArray) (X : Bool) (Y : Nat) (W : List D) : Option D :=
 cutAt (TEf call L C) O7 N7 FinM.canon Tryz.f7 [true, true, true, true, true, true, true, true, true, true, false, true, false, false, true, true, false, false, true, true, true, true] [M]  (C 8385743) (St.mk (J :: J :: D.int IntKind.u8 ah :: J :: D.loc 4 0 0 :: J :: J :: J :: D.str ad :: D.int .i64 vn :: J :: D.mloc 49 0 :: J :: J :: J :: J :: D.loc 16 0 0 :: D.int .i64 z :: D.loc 18 0 0 :: D.int .i64 vc :: J :: D.bool a0 :: jn 90 (D.slc ab ac aa :: D.int .i64 O :: D.int .i64 z :: jn 129 [])) (Z :: Z :: Z :: Z :: (1, some (Ob.box [D.int .i64 af, D.int .i64 ag] false)) :: zn 11 ((1, some (Ob.box [D.str a2, D.int .i64 a3, D.int .i64 a4, D.int .i64 a5, D.int .i64 a6, D.slc a8 a9 a7, ownD 219 K] false)) :: Z :: (1, some (Ob.box [D.str V, D.slc X Y W] false)) :: zn 30 ((1, some (Ob.map S U false)) :: zn 169 (ownO 84 2 K :: zn 24 [])))))
noncomputable def F7_16378 (call : CL) (L : Nat) (C : Nat → Nat) (K : Nat) (ab : Int) (a7 : ByteArray) (vn : Int) (a5 : Bool) (a6 : Nat) (a4 : List D) (a9 aa : Int) (V : ByteArray) (W X Y a0 : Int) (a2 : Bool) (a3 : Nat) (a1 S U : List D) (M O : Int) (z : Ow) : Option D :=
 loopAt (TEf call L C) O7 N7 FinM.canon Tryz.f7 [true, true, true, true, true, true, true, true, true, true, false, true, false] []  K (St.mk (J :: J :: D.int IntKind.u8 ab :: J :: D.loc 4 0 0 :: J :: J :: J :: D.str a7 :: D.int .i64 vn :: J :: D.mloc 49 0 :: J :: J :: J :: J :: D.loc 16 0 0 :: jn 95 (D.slc a5 a6 a4 :: D.int .i64 M :: D.int .i64 O :: jn 129 [])) (Z :: Z :: Z :: Z :: (1, some (Ob.box [D.int .i64 a9, D.int .i64 aa] false)) :: zn 11 ((1, some (Ob.box [D.str V, D.int .i64 W, D.int .i64 X, D.int .i64 Y, D.int .i64 a0, D.slc a2 a3 a1, ownD 219 z] false)) :: zn 32 ((1, some (Ob.map S U false)) :: zn 169 (ownO 84 2 z :: zn 24 [])))))
noncomputable def F7_1023 (call : CL) (L : Nat) (C : Nat → Nat) (a7 : Int) (a3 : ByteArray) (vn : Int) (M : ByteArray) (O S U V : Int) (X : Bool) (Y : Nat) (W : List D) (a1 : Bool) (a2 : Nat) (a0 : List D) (a5 a6 : Int) (z K : List D) : Option D :=
 cutAt (TEf call L C) O7 N7 FinM.canon Tryz.f7 [true, true, true, true, true, true, true, true, true] []  (C 1023) (St.mk (J :: J :: D.int IntKind.u8 a7 :: D.loc 3 0 0 :: D.loc 4 0 0 :: J :: J :: J :: D.str a3 :: D.int .i64 vn :: J :: D.mloc 49 0 :: jn 232 []) (Z :: Z :: Z :: (1, some (Ob.box [D.str M, D.int .i64 O, D.int .i64 S, D.int .i64 U, D.int .i64 V, D.slc X Y W, D.slc a1 a2 a0] false)) :: (1, some (Ob.box [D.int .i64 a5, D.int .i64 a6] false)) :: zn 44 ((1, some (Ob.map z K false)) :: zn 194 [])))
noncomputable def F7_2045 (call : CL) (L : Nat) (C : Nat → Nat) (a8 : Int) (a3 : ByteArray) (vn : Int) (M : ByteArray) (O S U V : Int) (X : Bool) (Y : Nat) (W : List D) (a1 : Bool) (a2 : Nat) (a0 : List D) (a6 a7 : Int) (a4 : Bool) (z K : List D) : Option D :=
 cutAt (TEf call L C) O7 N7 FinM.canon Tryz.f7 [true, true, true, true, true, true, true, true, false, true] []  (C 2045) (St.mk (J :: J :: D.int IntKind.u8 a8 :: D.loc 3 0 0 :: D.loc 4 0 0 :: J :: J :: J :: D.str a3 :: D.int .i64 vn :: J :: D.mloc 49 0 :: J :: J :: J :: D.bool a4 :: jn 228 []) (Z :: Z :: Z :: (1, some (Ob.box [D.str M, D.int .i64 O, D.int .i64 S, D.int .i64 U, D.int .i64 V, D.slc X Y W, D.slc a1 a2 a0] false)) :: (1, some (Ob.box [D.int .i64 a6, D.int .i64 a7] false)) :: zn 44 ((1, some (Ob.map z K false)) :: zn 194 [])))
noncomputable def F7_1018 (call : CL) (L : Nat) (C : Nat → Nat) (z : Nat) (ad : Int) (X : ByteArray) (Y a0 a1 a2 : Int) (a4 : Bool) (a5 : Nat) (a3 : List D) (a7 : Bool) (a8 : Nat) (a6 : List D) (ab ac : Int) (a9 : ByteArray) (vn : Int) (S : Bool) (U : Nat) (O : List D) (V W : Int) (K M : List D) : Option D :=
 loopAt (TEf call L C) O7 N7 FinM.canon Tryz.f7 [true, true, true, true, true, true, false, true, false] []  z (St.mk (J :: J :: D.int IntKind.u8 ad :: D.loc 3 0 0 :: D.loc 4 0 0 :: J :: J :: J :: D.str a9 :: D.int .i64 vn :: J :: D.mloc 49 0 :: jn 38 (D.slc S U O :: D.int .i64 V :: D.int .i64 W :: jn 191 [])) (Z :: Z :: Z :: (1, some (Ob.box [D.str X, D.int .i64 Y, D.int .i64 a0, D.int .i64 a1, D.int .i64 a2, D.slc a4 a5 a3, D.slc a7 a8 a6] false)) :: (1, some (Ob.box [D.int .i64 ab, D.int .i64 ac] false)) :: zn 44 ((1, some (Ob.map K M false)) :: zn 194 [])))
noncomputable def F7_15 (call : CL) (L : Nat) (C : Nat → Nat) (a3 : Int) (z : ByteArray) (K M O S : Int) (V : Bool) (W : Nat) (U : List D) (Y : Bool) (a0 : Nat) (X : List D) (a1 a2 : Int) : Option D :=
 cutAt (TEf call L C) O7 N7 FinM.canon Tryz.f7 [true, true, true] []  (C 15) (St.mk (J :: J :: D.int IntKind.u8 a3 :: D.loc 3 0 0 :: D.loc 4 0 0 :: jn 239 []) (Z :: Z :: Z :: (1, some (Ob.box [D.str z, D.int .i64 K, D.int .i64 M, D.int .i64 O, D.int .i64 S, D.slc V W U, D.slc Y a0 X] false)) :: (1, some (Ob.box [D.int .i64 a1, D.int .i64 a2] false)) :: zn 239 []))
theorem F7_262055_eq (call : CL) (L : Nat) (C : Nat → Nat) (z : Nat) (aa : Int) (a6 : ByteArray) (vn : Int) (a4 : Bool) (a5 : Nat) (a3 : List D) (J K a8 a9 : Int) (V : ByteArray) (W X Y Z : Int) (a1 : Bool) (a2 : Nat) (a0 O S : List D) (U : Nat) (M : List D) (hC : ∀ t, C t = 1) : F7_262055 call L C z aa a6 vn a4 a5 a3 J K a8 a9 V W X Y Z a1 a2 a0 O S U M =
 (F7_16378 call L C z aa a6 vn a4 a5 a3 a8 a9 V W X Y Z a1 a2 a0 O S J (IntKind.wrap .i64 (K + 1)) (Ow.own U M)) := by
  unfold F7_262055
  rw [hC]
  kernel_rfl
theorem F7_2146750442_eqon (call : CL) (L : Nat) (C : Nat → Nat) (O ae : Nat) (ad : Int) (a9 : ByteArray) (vn : Int) (a7 : Bool) (a8 : Nat) (a6 : List D) (S U ab ac : Int) (Y : ByteArray) (Z a0 a1 a2 : Int) (a4 : Bool) (a5 : Nat) (a3 : List D) (X : ByteArray) (ag : Bool) (ah : Nat) (af V W : List D) (M : Nat) (K : List D) (z J : Int) : F7_2146750442 call L C O (ae + 1) ad a9 vn a7 a8 a6 S U ab ac Y Z a0 a1 a2 a4 a5 a3 X ag ah af V W (Ow.own M K) z J (Ow.nil) =
 (ifK (decide (z < J))
 (chkK (decide (0 ≤ J ∧ J < (M : Int)))
 (cellK K (Int.toNat J * 2 + 0) fun ak =>
 (intK .i64 ak fun aj =>
 (cellK K (Int.toNat J * 2 + 1) fun al =>
 (intK .i64 al fun ai =>
 (chkK (decide (0 ≤ z ∧ z < (M : Int)))
 (cellK K (Int.toNat z * 2 + 0) fun am =>
 (intK .i64 am fun ao =>
 (cellK K (Int.toNat z * 2 + 1) fun an =>
 (intK .i64 an fun ap =>
 (chkK (decide (0 ≤ z ∧ z < (M : Int)))
 (chkK (decide (Int.toNat z * 2 + 2 ≤ List.length K))
 (chkK (decide (0 ≤ J ∧ J < (M : Int)))
 (chkK (decide (Int.toNat J * 2 + 2 ≤ List.length (writeAt K (Int.toNat z * 2) [D.int .i64 aj, D.int .i64 ai])))
 (F7_2146750442 call L C O ae ad a9 vn a7 a8 a6 S U ab ac Y Z a0 a1 a2 a4 a5 a3 X ag ah af V W (Ow.own M (writeAt (writeAt K (Int.toNat z * 2) [D.int .i64 aj, D.int .i64 ai]) (Int.toNat J * 2) [D.int .i64 ao, D.int .i64 ap])) (IntKind.wrap .i64 (z + 1)) (IntKind.wrap .i64 (J - 1)) (Ow.nil))))))))))))))))
 (F7_262055 call L C O ad a9 vn a7 a8 a6 S U ab ac Y Z a0 a1 a2 a4 a5 a3 V W 1 ([D.str X, D.slc false M K]))) := by kernel_rfl
theorem F7_2146750442_eqoo (call : CL) (L : Nat) (C : Nat → Nat) (S ag : Nat) (af : Int) (ab : ByteArray) (vn : Int) (a9 : Bool) (aa : Nat) (a8 : List D) (U V ad ae : Int) (a0 : ByteArray) (a1 a2 a3 a4 : Int) (a6 : Bool) (a7 : Nat) (a5 : List D) (Y : ByteArray) (ai : Bool) (aj : Nat) (ah W X : List D) (M : Nat) (K : List D) (z J : Int) (O : Nat) (Z : List D) : F7_2146750442 call L C S (ag + 1) af ab vn a9 aa a8 U V ad ae a0 a1 a2 a3 a4 a6 a7 a5 Y ai aj ah W X (Ow.own M K) z J (Ow.own O Z) =
 (ifK (decide (z < J))
 (chkK (decide (0 ≤ J ∧ J < (M : Int)))
 (cellK K (Int.toNat J * 2 + 0) fun am =>
 (intK .i64 am fun ak =>
 (cellK K (Int.toNat J * 2 + 1) fun an =>
 (intK .i64 an fun al =>
 (chkK (decide (0 ≤ z ∧ z < (M : Int)))
 (cellK K (Int.toNat z * 2 + 0) fun ao =>
 (intK .i64 ao fun aq =>
 (cellK K (Int.toNat z * 2 + 1) fun ap =>
 (intK .i64 ap fun ar =>
 (chkK (decide (0 ≤ z ∧ z < (M : Int)))
 (chkK (decide (Int.toNat z * 2 + 2 ≤ List.length K))
 (chkK (decide (0 ≤ J ∧ J < (M : Int)))
 (chkK (decide (Int.toNat J * 2 + 2 ≤ List.length (writeAt K (Int.toNat z * 2) [D.int .i64 ak, D.int .i64 al])))
 (F7_2146750442 call L C S ag af ab vn a9 aa a8 U V ad ae a0 a1 a2 a3 a4 a6 a7 a5 Y ai aj ah W X (Ow.own M (writeAt (writeAt K (Int.toNat z * 2) [D.int .i64 ak, D.int .i64 al]) (Int.toNat J * 2) [D.int .i64 aq, D.int .i64 ar])) (IntKind.wrap .i64 (z + 1)) (IntKind.wrap .i64 (J - 1)) (Ow.own O Z))))))))))))))))
 (chkK (decide ((O + 1) * 40 ≤ limit ∧ O + 1 ≤ 9223372036854775807))
 (F7_262055 call L C S af ab vn a9 aa a8 U V ad ae a0 a1 a2 a3 a4 a6 a7 a5 W X (O + 1) (Z ++ [D.str Y, D.slc false M K])))) := by kernel_rfl
theorem F7_16771487_eqn (call : CL) (L : Nat) (C : Nat → Nat) (M : Nat) (J : Int) (a8 : ByteArray) (vn : Int) (a6 : Bool) (a7 : Nat) (a5 : List D) (O S aa ab : Int) (X : ByteArray) (Y Z a0 a1 : Int) (a3 : Bool) (a4 : Nat) (a2 : List D) (W : ByteArray) (ac : Bool) (z : Nat) (K U V : List D) (hC : ∀ t, C t = 1) : F7_16771487 call L C M J a8 vn a6 a7 a5 O S aa ab X Y Z a0 a1 a3 a4 a2 W ac z K U V (Ow.nil) =
 (chkK (!decide ((z : Int) = 0))
 (chkK (decide (0 ≤ Int.tmod (IntKind.wrap .i64 J) (z : Int) ∧ Int.tmod (IntKind.wrap .i64 J) (z : Int) ≤ (z : Int) ∧ (z : Int) ≤ (z : Int)))
 (chkK (decide (List.length (List.take (Int.toNat ((z : Int) - Int.tmod (IntKind.wrap .i64 J) (z : Int)) * 2) (List.drop (Int.toNat (Int.tmod (IntKind.wrap .i64 J) (z : Int)) * 2) K)) = Int.toNat ((z : Int) - Int.tmod (IntKind.wrap .i64 J) (z : Int)) * 2))
 (chkK (List.all (List.take (Int.toNat ((z : Int) - Int.tmod (IntKind.wrap .i64 J) (z : Int)) * 2) (List.drop (Int.toNat (Int.tmod (IntKind.wrap .i64 J) (z : Int)) * 2) K)) D.one)
 (ifK (decide (Int.toNat ((z : Int) - Int.tmod (IntKind.wrap .i64 J) (z : Int)) = 0))
 (chkK (decide (0 ≤ (0 : Int) ∧ (0 : Int) ≤ Int.tmod (IntKind.wrap .i64 J) (z : Int) ∧ Int.tmod (IntKind.wrap .i64 J) (z : Int) ≤ (z : Int)))
 (chkK (decide (List.length (List.take (Int.toNat (Int.tmod (IntKind.wrap .i64 J) (z : Int) - (0 : Int)) * 2) K) = Int.toNat (Int.tmod (IntKind.wrap .i64 J) (z : Int) - (0 : Int)) * 2))
 (chkK (List.all (List.take (Int.toNat (Int.tmod (IntKind.wrap .i64 J) (z : Int) - (0 : Int)) * 2) K) D.one)
 (ifK (decide (Int.toNat (Int.tmod (IntKind.wrap .i64 J) (z : Int) - (0 : Int)) = 0))
 (ifK (decide (J ≥ 128))
 (F7_2146750442 call L C M L J a8 vn a6 a7 a5 O S aa ab X Y Z a0 a1 a3 a4 a2 W ac z K U V (Ow.slc true 0 []) 0 (-1) (Ow.nil))
 (F7_262055 call L C M J a8 vn a6 a7 a5 O S aa ab X Y Z a0 a1 a3 a4 a2 U V 1 ([D.str W, D.slc true 0 []])))
 (chkK (decide (0 < Int.toNat (Int.tmod (IntKind.wrap .i64 J) (z : Int) - (0 : Int)) ∧ 0 = 0 ∧ (0 + Int.toNat (Int.tmod (IntKind.wrap .i64 J) (z : Int) - (0 : Int))) * 16 ≤ limit ∧ 0 + Int.toNat (Int.tmod (IntKind.wrap .i64 J) (z : Int) - (0 : Int)) ≤ 4611686018427387903))
 (ifK (decide (J ≥ 128))
 (F7_2146750442 call L C M L J a8 vn a6 a7 a5 O S aa ab X Y Z a0 a1 a3 a4 a2 W ac z K U V (Ow.own (0 + Int.toNat (Int.tmod (IntKind.wrap .i64 J) (z : Int) - (0 : Int))) (List.take (Int.toNat (Int.tmod (IntKind.wrap .i64 J) (z : Int) - (0 : Int)) * 2) K)) 0 (IntKind.wrap .i64 (((0 + Int.toNat (Int.tmod (IntKind.wrap .i64 J) (z : Int) - (0 : Int))) : Int) - 1)) (Ow.nil))
 (F7_262055 call L C M J a8 vn a6 a7 a5 O S aa ab X Y Z a0 a1 a3 a4 a2 U V 1 ([D.str W, D.slc false (0 + Int.toNat (Int.tmod (IntKind.wrap .i64 J) (z : Int) - (0 : Int))) (List.take (Int.toNat (Int.tmod (IntKind.wrap .i64 J) (z : Int) - (0 : Int)) * 2) K)]))))))))
 (chkK (decide (0 < Int.toNat ((z : Int) - Int.tmod (IntKind.wrap .i64 J) (z : Int)) ∧ 0 = 0 ∧ (0 + Int.toNat ((z : Int) - Int.tmod (IntKind.wrap .i64 J) (z : Int))) * 16 ≤ limit ∧ 0 + Int.toNat ((z : Int) - Int.tmod (IntKind.wrap .i64 J) (z : Int)) ≤ 4611686018427387903))
 (chkK (decide (0 ≤ (0 : Int) ∧ (0 : Int) ≤ Int.tmod (IntKind.wrap .i64 J) (z : Int) ∧ Int.tmod (IntKind.wrap .i64 J) (z : Int) ≤ (z : Int)))
 (chkK (decide (List.length (List.take (Int.toNat (Int.tmod (IntKind.wrap .i64 J) (z : Int) - (0 : Int)) * 2) K) = Int.toNat (Int.tmod (IntKind.wrap .i64 J) (z : Int) - (0 : Int)) * 2))
 (chkK (List.all (List.take (Int.toNat (Int.tmod (IntKind.wrap .i64 J) (z : Int) - (0 : Int)) * 2) K) D.one)
 (chkK (decide ((0 + Int.toNat ((z : Int) - Int.tmod (IntKind.wrap .i64 J) (z : Int)) + Int.toNat (Int.tmod (IntKind.wrap .i64 J) (z : Int) - (0 : Int))) * 16 ≤ limit ∧ 0 + Int.toNat ((z : Int) - Int.tmod (IntKind.wrap .i64 J) (z : Int)) + Int.toNat (Int.tmod (IntKind.wrap .i64 J) (z : Int) - (0 : Int)) ≤ 9223372036854775807))
 (ifK (decide (J ≥ 128))
 (F7_2146750442 call L C M L J a8 vn a6 a7 a5 O S aa ab X Y Z a0 a1 a3 a4 a2 W ac z K U V (Ow.own (0 + Int.toNat ((z : Int) - Int.tmod (IntKind.wrap .i64 J) (z : Int)) + Int.toNat (Int.tmod (IntKind.wrap .i64 J) (z : Int) - (0 : Int))) (List.take (Int.toNat ((z : Int) - Int.tmod (IntKind.wrap .i64 J) (z : Int)) * 2) (List.drop (Int.toNat (Int.tmod (IntKind.wrap .i64 J) (z : Int)) * 2) K) ++ List.take (Int.toNat (Int.tmod (IntKind.wrap .i64 J) (z : Int) - (0 : Int)) * 2) K)) 0 (IntKind.wrap .i64 (((0 + Int.toNat ((z : Int) - Int.tmod (IntKind.wrap .i64 J) (z : Int)) + Int.toNat (Int.tmod (IntKind.wrap .i64 J) (z : Int) - (0 : Int))) : Int) - 1)) (Ow.nil))
 (F7_262055 call L C M J a8 vn a6 a7 a5 O S aa ab X Y Z a0 a1 a3 a4 a2 U V 1 ([D.str W, D.slc false (0 + Int.toNat ((z : Int) - Int.tmod (IntKind.wrap .i64 J) (z : Int)) + Int.toNat (Int.tmod (IntKind.wrap .i64 J) (z : Int) - (0 : Int))) (List.take (Int.toNat ((z : Int) - Int.tmod (IntKind.wrap .i64 J) (z : Int)) * 2) (List.drop (Int.toNat (Int.tmod (IntKind.wrap .i64 J) (z : Int)) * 2) K) ++ List.take (Int.toNat (Int.tmod (IntKind.wrap .i64 J) (z : Int) - (0 : Int)) * 2) K)]))))))))))))) := by
  unfold F7_16771487
  rw [hC]
  kernel_rfl
theorem F7_16771487_eqo (call : CL) (L : Nat) (C : Nat → Nat) (O : Nat) (J : Int) (aa : ByteArray) (vn : Int) (a8 : Bool) (a9 : Nat) (a7 : List D) (S U ac ad : Int) (Z : ByteArray) (a0 a1 a2 a3 : Int) (a5 : Bool) (a6 : Nat) (a4 : List D) (X : ByteArray) (ae : Bool) (z : Nat) (K V W : List D) (M : Nat) (Y : List D) (hC : ∀ t, C t = 1) : F7_16771487 call L C O J aa vn a8 a9 a7 S U ac ad Z a0 a1 a2 a3 a5 a6 a4 X ae z K V W (Ow.own M Y) =
 (chkK (!decide ((z : Int) = 0))
 (chkK (decide (0 ≤ Int.tmod (IntKind.wrap .i64 J) (z : Int) ∧ Int.tmod (IntKind.wrap .i64 J) (z : Int) ≤ (z : Int) ∧ (z : Int) ≤ (z : Int)))
 (chkK (decide (List.length (List.take (Int.toNat ((z : Int) - Int.tmod (IntKind.wrap .i64 J) (z : Int)) * 2) (List.drop (Int.toNat (Int.tmod (IntKind.wrap .i64 J) (z : Int)) * 2) K)) = Int.toNat ((z : Int) - Int.tmod (IntKind.wrap .i64 J) (z : Int)) * 2))
 (chkK (List.all (List.take (Int.toNat ((z : Int) - Int.tmod (IntKind.wrap .i64 J) (z : Int)) * 2) (List.drop (Int.toNat (Int.tmod (IntKind.wrap .i64 J) (z : Int)) * 2) K)) D.one)
 (ifK (decide (Int.toNat ((z : Int) - Int.tmod (IntKind.wrap .i64 J) (z : Int)) = 0))
 (chkK (decide (0 ≤ (0 : Int) ∧ (0 : Int) ≤ Int.tmod (IntKind.wrap .i64 J) (z : Int) ∧ Int.tmod (IntKind.wrap .i64 J) (z : Int) ≤ (z : Int)))
 (chkK (decide (List.length (List.take (Int.toNat (Int.tmod (IntKind.wrap .i64 J) (z : Int) - (0 : Int)) * 2) K) = Int.toNat (Int.tmod (IntKind.wrap .i64 J) (z : Int) - (0 : Int)) * 2))
 (chkK (List.all (List.take (Int.toNat (Int.tmod (IntKind.wrap .i64 J) (z : Int) - (0 : Int)) * 2) K) D.one)
 (ifK (decide (Int.toNat (Int.tmod (IntKind.wrap .i64 J) (z : Int) - (0 : Int)) = 0))
 (ifK (decide (J ≥ 128))
 (F7_2146750442 call L C O L J aa vn a8 a9 a7 S U ac ad Z a0 a1 a2 a3 a5 a6 a4 X ae z K V W (Ow.slc true 0 []) 0 (-1) (Ow.own M Y))
 (chkK (decide ((M + 1) * 40 ≤ limit ∧ M + 1 ≤ 9223372036854775807))
 (F7_262055 call L C O J aa vn a8 a9 a7 S U ac ad Z a0 a1 a2 a3 a5 a6 a4 V W (M + 1) (Y ++ [D.str X, D.slc true 0 []]))))
 (chkK (decide (0 < Int.toNat (Int.tmod (IntKind.wrap .i64 J) (z : Int) - (0 : Int)) ∧ 0 = 0 ∧ (0 + Int.toNat (Int.tmod (IntKind.wrap .i64 J) (z : Int) - (0 : Int))) * 16 ≤ limit ∧ 0 + Int.toNat (Int.tmod (IntKind.wrap .i64 J) (z : Int) - (0 : Int)) ≤ 4611686018427387903))
 (ifK (decide (J ≥ 128))
 (F7_2146750442 call L C O L J aa vn a8 a9 a7 S U ac ad Z a0 a1 a2 a3 a5 a6 a4 X ae z K V W (Ow.own (0 + Int.toNat (Int.tmod (IntKind.wrap .i64 J) (z : Int) - (0 : Int))) (List.take (Int.toNat (Int.tmod (IntKind.wrap .i64 J) (z : Int) - (0 : Int)) * 2) K)) 0 (IntKind.wrap .i64 (((0 + Int.toNat (Int.tmod (IntKind.wrap .i64 J) (z : Int) - (0 : Int))) : Int) - 1)) (Ow.own M Y))
 (chkK (decide ((M + 1) * 40 ≤ limit ∧ M + 1 ≤ 9223372036854775807))
 (F7_262055 call L C O J aa vn a8 a9 a7 S U ac ad Z a0 a1 a2 a3 a5 a6 a4 V W (M + 1) (Y ++ [D.str X, D.slc false (0 + Int.toNat (Int.tmod (IntKind.wrap .i64 J) (z : Int) - (0 : Int))) (List.take (Int.toNat (Int.tmod (IntKind.wrap .i64 J) (z : Int) - (0 : Int)) * 2) K)])))))))))
 (chkK (decide (0 < Int.toNat ((z : Int) - Int.tmod (IntKind.wrap .i64 J) (z : Int)) ∧ 0 = 0 ∧ (0 + Int.toNat ((z : Int) - Int.tmod (IntKind.wrap .i64 J) (z : Int))) * 16 ≤ limit ∧ 0 + Int.toNat ((z : Int) - Int.tmod (IntKind.wrap .i64 J) (z : Int)) ≤ 4611686018427387903))
 (chkK (decide (0 ≤ (0 : Int) ∧ (0 : Int) ≤ Int.tmod (IntKind.wrap .i64 J) (z : Int) ∧ Int.tmod (IntKind.wrap .i64 J) (z : Int) ≤ (z : Int)))
 (chkK (decide (List.length (List.take (Int.toNat (Int.tmod (IntKind.wrap .i64 J) (z : Int) - (0 : Int)) * 2) K) = Int.toNat (Int.tmod (IntKind.wrap .i64 J) (z : Int) - (0 : Int)) * 2))
 (chkK (List.all (List.take (Int.toNat (Int.tmod (IntKind.wrap .i64 J) (z : Int) - (0 : Int)) * 2) K) D.one)
 (chkK (decide ((0 + Int.toNat ((z : Int) - Int.tmod (IntKind.wrap .i64 J) (z : Int)) + Int.toNat (Int.tmod (IntKind.wrap .i64 J) (z : Int) - (0 : Int))) * 16 ≤ limit ∧ 0 + Int.toNat ((z : Int) - Int.tmod (IntKind.wrap .i64 J) (z : Int)) + Int.toNat (Int.tmod (IntKind.wrap .i64 J) (z : Int) - (0 : Int)) ≤ 9223372036854775807))
 (ifK (decide (J ≥ 128))
 (F7_2146750442 call L C O L J aa vn a8 a9 a7 S U ac ad Z a0 a1 a2 a3 a5 a6 a4 X ae z K V W (Ow.own (0 + Int.toNat ((z : Int) - Int.tmod (IntKind.wrap .i64 J) (z : Int)) + Int.toNat (Int.tmod (IntKind.wrap .i64 J) (z : Int) - (0 : Int))) (List.take (Int.toNat ((z : Int) - Int.tmod (IntKind.wrap .i64 J) (z : Int)) * 2) (List.drop (Int.toNat (Int.tmod (IntKind.wrap .i64 J) (z : Int)) * 2) K) ++ List.take (Int.toNat (Int.tmod (IntKind.wrap .i64 J) (z : Int) - (0 : Int)) * 2) K)) 0 (IntKind.wrap .i64 (((0 + Int.toNat ((z : Int) - Int.tmod (IntKind.wrap .i64 J) (z : Int)) + Int.toNat (Int.tmod (IntKind.wrap .i64 J) (z : Int) - (0 : Int))) : Int) - 1)) (Ow.own M Y))
 (chkK (decide ((M + 1) * 40 ≤ limit ∧ M + 1 ≤ 9223372036854775807))
 (F7_262055 call L C O J aa vn a8 a9 a7 S U ac ad Z a0 a1 a2 a3 a5 a6 a4 V W (M + 1) (Y ++ [D.str X, D.slc false (0 + Int.toNat ((z : Int) - Int.tmod (IntKind.wrap .i64 J) (z : Int)) + Int.toNat (Int.tmod (IntKind.wrap .i64 J) (z : Int) - (0 : Int))) (List.take (Int.toNat ((z : Int) - Int.tmod (IntKind.wrap .i64 J) (z : Int)) * 2) (List.drop (Int.toNat (Int.tmod (IntKind.wrap .i64 J) (z : Int)) * 2) K) ++ List.take (Int.toNat (Int.tmod (IntKind.wrap .i64 J) (z : Int) - (0 : Int)) * 2) K)])))))))))))))) := by
  unfold F7_16771487
  rw [hC]
  kernel_rfl
theorem F7_8385743_eqn (call : CL) (L : Nat) (C : Nat → Nat) (K : Nat) (ac : Int) (a9 : ByteArray) (z J : Int) (a7 : Bool) (a8 : Nat) (a6 : List D) (M aa ab : Int) (Y : ByteArray) (Z a0 a1 a2 : Int) (a4 : Bool) (a5 : Nat) (a3 O S : List D) (vc : Int) (ae : Bool) (U : ByteArray) (W : Bool) (X : Nat) (V : List D) (hC : ∀ t, C t = 1) : F7_8385743 call L C K ac a9 z J a7 a8 a6 M aa ab Y Z a0 a1 a2 a4 a5 a3 O S vc ae (Ow.nil) U W X V =
 (ifK (J == z)
 (ifK (decide (vc < 0))
 (some (D.bool false))
 (ifK ae
 (ifK (decide (vc ≥ 0))
 (some (D.bool false))
 (ifK (decide (z < 0))
 (ifK (decide (vc ≥ 0))
 (some (D.bool false))
 (F7_16771487 call L C K ac a9 z a7 a8 a6 M J aa ab Y Z a0 a1 a2 a4 a5 a3 U W X V O S (Ow.nil)))
 (F7_16771487 call L C K ac a9 z a7 a8 a6 M J aa ab Y Z a0 a1 a2 a4 a5 a3 U W X V O S (Ow.nil))))
 (ifK (decide (z < 0))
 (ifK (decide (vc ≥ 0))
 (some (D.bool false))
 (F7_16771487 call L C K ac a9 z a7 a8 a6 M J aa ab Y Z a0 a1 a2 a4 a5 a3 U W X V O S (Ow.nil)))
 (F7_16771487 call L C K ac a9 z a7 a8 a6 M J aa ab Y Z a0 a1 a2 a4 a5 a3 U W X V O S (Ow.nil)))))
 (ifK ae
 (ifK (decide (vc ≥ 0))
 (some (D.bool false))
 (ifK (decide (z < 0))
 (ifK (decide (vc ≥ 0))
 (some (D.bool false))
 (F7_16771487 call L C K ac a9 z a7 a8 a6 M J aa ab Y Z a0 a1 a2 a4 a5 a3 U W X V O S (Ow.nil)))
 (F7_16771487 call L C K ac a9 z a7 a8 a6 M J aa ab Y Z a0 a1 a2 a4 a5 a3 U W X V O S (Ow.nil))))
 (ifK (decide (z < 0))
 (ifK (decide (vc ≥ 0))
 (some (D.bool false))
 (F7_16771487 call L C K ac a9 z a7 a8 a6 M J aa ab Y Z a0 a1 a2 a4 a5 a3 U W X V O S (Ow.nil)))
 (F7_16771487 call L C K ac a9 z a7 a8 a6 M J aa ab Y Z a0 a1 a2 a4 a5 a3 U W X V O S (Ow.nil))))) := by
  unfold F7_8385743
  rw [hC]
  kernel_rfl
theorem F7_8385743_eqo (call : CL) (L : Nat) (C : Nat → Nat) (K : Nat) (ae : Int) (ab : ByteArray) (z J : Int) (a9 : Bool) (aa : Nat) (a8 : List D) (M ac ad : Int) (a0 : ByteArray) (a1 a2 a3 a4 : Int) (a6 : Bool) (a7 : Nat) (a5 O S : List D) (vc : Int) (ag : Bool) (Z : Nat) (Y : List D) (U : ByteArray) (W : Bool) (X : Nat) (V : List D) (hC : ∀ t, C t = 1) : F7_8385743 call L C K ae ab z J a9 aa a8 M ac ad a0 a1 a2 a3 a4 a6 a7 a5 O S vc ag (Ow.own Z Y) U W X V =
 (ifK (J == z)
 (ifK (decide (vc < 0))
 (some (D.bool false))
 (ifK ag
 (ifK (decide (vc ≥ 0))
 (some (D.bool false))
 (ifK (decide (z < 0))
 (ifK (decide (vc ≥ 0))
 (some (D.bool false))
 (F7_16771487 call L C K ae ab z a9 aa a8 M J ac ad a0 a1 a2 a3 a4 a6 a7 a5 U W X V O S (Ow.own Z Y)))
 (F7_16771487 call L C K ae ab z a9 aa a8 M J ac ad a0 a1 a2 a3 a4 a6 a7 a5 U W X V O S (Ow.own Z Y))))
 (ifK (decide (z < 0))
 (ifK (decide (vc ≥ 0))
 (some (D.bool false))
 (F7_16771487 call L C K ae ab z a9 aa a8 M J ac ad a0 a1 a2 a3 a4 a6 a7 a5 U W X V O S (Ow.own Z Y)))
 (F7_16771487 call L C K ae ab z a9 aa a8 M J ac ad a0 a1 a2 a3 a4 a6 a7 a5 U W X V O S (Ow.own Z Y)))))
 (ifK ag
 (ifK (decide (vc ≥ 0))
 (some (D.bool false))
 (ifK (decide (z < 0))
 (ifK (decide (vc ≥ 0))
 (some (D.bool false))
 (F7_16771487 call L C K ae ab z a9 aa a8 M J ac ad a0 a1 a2 a3 a4 a6 a7 a5 U W X V O S (Ow.own Z Y)))
 (F7_16771487 call L C K ae ab z a9 aa a8 M J ac ad a0 a1 a2 a3 a4 a6 a7 a5 U W X V O S (Ow.own Z Y))))
 (ifK (decide (z < 0))
 (ifK (decide (vc ≥ 0))
 (some (D.bool false))
 (F7_16771487 call L C K ae ab z a9 aa a8 M J ac ad a0 a1 a2 a3 a4 a6 a7 a5 U W X V O S (Ow.own Z Y)))
 (F7_16771487 call L C K ae ab z a9 aa a8 M J ac ad a0 a1 a2 a3 a4 a6 a7 a5 U W X V O S (Ow.own Z Y))))) := by
  unfold F7_8385743
  rw [hC]
  kernel_rfl
theorem F7_16378_eqn (call : CL) (L : Nat) (C : Nat → Nat) (a9 : Nat) (ac : Int) (J : ByteArray) (K : Int) (ab : Bool) (a6 : Nat) (U : List D) (V W : Int) (Y : ByteArray) (Z a0 a1 a2 : Int) (a4 : Bool) (a5 : Nat) (a3 O S : List D) (X z : Int) : F7_16378 call L C  (a9 + 1) ac J K ab a6 U V W Y Z a0 a1 a2 a4 a5 a3 O S X z (Ow.nil) =
 (ifK (decide (z < X))
 (chkK (decide (0 ≤ z ∧ z < (a6 : Int)))
 (cellK U (Int.toNat z * 2 + 0) fun ai =>
 (strK ai fun M =>
 (cellK U (Int.toNat z * 2 + 1) fun aj =>
 (slcK aj fun a8 aa a7 =>
 (optK (call 45 [D.slc a8 aa a7, D.agg [D.int .i64 V, D.int .i64 W]]) fun aw =>
 (tupK aw 2 fun af =>
 (cellK af 0 fun ak =>
 (intK .i64 ak fun ad =>
 (cellK af 1 fun al =>
 (intK .i64 al fun aE =>
 (ifK (aE != 0)
 (some (D.bool false))
 (findK (findD (D.str M) O 0)
 (findK (findD (D.str J) O 0)
 (ifK (ByteArray.toList M == ByteArray.toList J)
 (F7_8385743 call L C a9 ac J K z ab a6 U X V W Y Z a0 a1 a2 a4 a5 a3 O S ad (decide (z < K)) (Ow.nil) M a8 aa a7)
 (F7_8385743 call L C a9 ac J K z ab a6 U X V W Y Z a0 a1 a2 a4 a5 a3 O S ad false (Ow.nil) M a8 aa a7)) fun i =>
 (cellK S i fun am =>
 (intK .i64 am fun aA =>
 (ifK (decide (0 < aA))
 (F7_8385743 call L C a9 ac J K z ab a6 U X V W Y Z a0 a1 a2 a4 a5 a3 O S ad true (Ow.nil) M a8 aa a7)
 (ifK (ByteArray.toList M == ByteArray.toList J)
 (F7_8385743 call L C a9 ac J K z ab a6 U X V W Y Z a0 a1 a2 a4 a5 a3 O S ad (decide (z < K)) (Ow.nil) M a8 aa a7)
 (F7_8385743 call L C a9 ac J K z ab a6 U X V W Y Z a0 a1 a2 a4 a5 a3 O S ad false (Ow.nil) M a8 aa a7)))))) fun au =>
 (cellK S au fun an =>
 (intK .i64 an fun ag =>
 (findK (findD (D.str J) O 0)
 (ifK (decide (ag < 0))
 (F7_8385743 call L C a9 ac J K z ab a6 U X V W Y Z a0 a1 a2 a4 a5 a3 O S ad true (Ow.nil) M a8 aa a7)
 (ifK (ByteArray.toList M == ByteArray.toList J)
 (F7_8385743 call L C a9 ac J K z ab a6 U X V W Y Z a0 a1 a2 a4 a5 a3 O S ad (decide (z < K)) (Ow.nil) M a8 aa a7)
 (F7_8385743 call L C a9 ac J K z ab a6 U X V W Y Z a0 a1 a2 a4 a5 a3 O S ad false (Ow.nil) M a8 aa a7))) fun av =>
 (cellK S av fun ao =>
 (intK .i64 ao fun aB =>
 (ifK (decide (ag < aB))
 (F7_8385743 call L C a9 ac J K z ab a6 U X V W Y Z a0 a1 a2 a4 a5 a3 O S ad true (Ow.nil) M a8 aa a7)
 (ifK (ByteArray.toList M == ByteArray.toList J)
 (F7_8385743 call L C a9 ac J K z ab a6 U X V W Y Z a0 a1 a2 a4 a5 a3 O S ad (decide (z < K)) (Ow.nil) M a8 aa a7)
 (F7_8385743 call L C a9 ac J K z ab a6 U X V W Y Z a0 a1 a2 a4 a5 a3 O S ad false (Ow.nil) M a8 aa a7)))))))))))))))))))))
 (optK (call 19 [D.agg [D.str Y, D.int .i64 Z, D.int .i64 a0, D.int .i64 a1, D.int .i64 a2, D.slc a4 a5 a3, D.nils], D.agg [D.int .i64 V, D.int .i64 W]]) fun ax =>
 (tupK ax 3 fun ae =>
 (cellK ae 0 fun ap =>
 (strK ap fun az =>
 (cellK ae 1 fun aq =>
 (intK .i64 aq fun aC =>
 (cellK ae 2 fun ar =>
 (intK .i64 ar fun aD =>
 (ifK (aD == 0)
 (ifK (ByteArray.toList az == ByteArray.toList J)
 (ifK (aC == K)
 (optK (call 17 []) fun ay =>
 (boolK ay fun ah =>
 (some (D.bool ah))))
 (some (D.bool false)))
 (some (D.bool false)))
 (some (D.bool false)))))))))))) := by kernel_rfl
theorem F7_16378_eqo (call : CL) (L : Nat) (C : Nat → Nat) (ac : Nat) (ae : Int) (J : ByteArray) (K : Int) (ad : Bool) (a8 : Nat) (U : List D) (V W : Int) (a0 : ByteArray) (a1 a2 a3 a4 : Int) (a6 : Bool) (a7 : Nat) (a5 O S : List D) (X z : Int) (Z : Nat) (Y : List D) : F7_16378 call L C  (ac + 1) ae J K ad a8 U V W a0 a1 a2 a3 a4 a6 a7 a5 O S X z (Ow.own Z Y) =
 (ifK (decide (z < X))
 (chkK (decide (0 ≤ z ∧ z < (a8 : Int)))
 (cellK U (Int.toNat z * 2 + 0) fun ak =>
 (strK ak fun M =>
 (cellK U (Int.toNat z * 2 + 1) fun al =>
 (slcK al fun aa ab a9 =>
 (optK (call 45 [D.slc aa ab a9, D.agg [D.int .i64 V, D.int .i64 W]]) fun az =>
 (tupK az 2 fun ah =>
 (cellK ah 0 fun am =>
 (intK .i64 am fun af =>
 (cellK ah 1 fun an =>
 (intK .i64 an fun aD =>
 (ifK (aD != 0)
 (some (D.bool false))
 (findK (findD (D.str M) O 0)
 (findK (findD (D.str J) O 0)
 (ifK (ByteArray.toList M == ByteArray.toList J)
 (F7_8385743 call L C ac ae J K z ad a8 U X V W a0 a1 a2 a3 a4 a6 a7 a5 O S af (decide (z < K)) (Ow.own Z Y) M aa ab a9)
 (F7_8385743 call L C ac ae J K z ad a8 U X V W a0 a1 a2 a3 a4 a6 a7 a5 O S af false (Ow.own Z Y) M aa ab a9)) fun aw =>
 (cellK S aw fun ao =>
 (intK .i64 ao fun aE =>
 (ifK (decide (0 < aE))
 (F7_8385743 call L C ac ae J K z ad a8 U X V W a0 a1 a2 a3 a4 a6 a7 a5 O S af true (Ow.own Z Y) M aa ab a9)
 (ifK (ByteArray.toList M == ByteArray.toList J)
 (F7_8385743 call L C ac ae J K z ad a8 U X V W a0 a1 a2 a3 a4 a6 a7 a5 O S af (decide (z < K)) (Ow.own Z Y) M aa ab a9)
 (F7_8385743 call L C ac ae J K z ad a8 U X V W a0 a1 a2 a3 a4 a6 a7 a5 O S af false (Ow.own Z Y) M aa ab a9)))))) fun ax =>
 (cellK S ax fun ap =>
 (intK .i64 ap fun ai =>
 (findK (findD (D.str J) O 0)
 (ifK (decide (ai < 0))
 (F7_8385743 call L C ac ae J K z ad a8 U X V W a0 a1 a2 a3 a4 a6 a7 a5 O S af true (Ow.own Z Y) M aa ab a9)
 (ifK (ByteArray.toList M == ByteArray.toList J)
 (F7_8385743 call L C ac ae J K z ad a8 U X V W a0 a1 a2 a3 a4 a6 a7 a5 O S af (decide (z < K)) (Ow.own Z Y) M aa ab a9)
 (F7_8385743 call L C ac ae J K z ad a8 U X V W a0 a1 a2 a3 a4 a6 a7 a5 O S af false (Ow.own Z Y) M aa ab a9))) fun ay =>
 (cellK S ay fun aq =>
 (intK .i64 aq fun aF =>
 (ifK (decide (ai < aF))
 (F7_8385743 call L C ac ae J K z ad a8 U X V W a0 a1 a2 a3 a4 a6 a7 a5 O S af true (Ow.own Z Y) M aa ab a9)
 (ifK (ByteArray.toList M == ByteArray.toList J)
 (F7_8385743 call L C ac ae J K z ad a8 U X V W a0 a1 a2 a3 a4 a6 a7 a5 O S af (decide (z < K)) (Ow.own Z Y) M aa ab a9)
 (F7_8385743 call L C ac ae J K z ad a8 U X V W a0 a1 a2 a3 a4 a6 a7 a5 O S af false (Ow.own Z Y) M aa ab a9)))))))))))))))))))))
 (optK (call 19 [D.agg [D.str a0, D.int .i64 a1, D.int .i64 a2, D.int .i64 a3, D.int .i64 a4, D.slc a6 a7 a5, D.slc false Z Y], D.agg [D.int .i64 V, D.int .i64 W]]) fun aA =>
 (tupK aA 3 fun ag =>
 (cellK ag 0 fun ar =>
 (strK ar fun aC =>
 (cellK ag 1 fun au =>
 (intK .i64 au fun aG =>
 (cellK ag 2 fun av =>
 (intK .i64 av fun aH =>
 (ifK (aH == 0)
 (ifK (ByteArray.toList aC == ByteArray.toList J)
 (ifK (aG == K)
 (optK (call 17 []) fun aB =>
 (boolK aB fun aj =>
 (some (D.bool aj))))
 (some (D.bool false)))
 (some (D.bool false)))
 (some (D.bool false)))))))))))) := by kernel_rfl
theorem F7_1023_eq (call : CL) (L : Nat) (C : Nat → Nat) (a5 : Int) (a1 : ByteArray) (vn : Int) (M : ByteArray) (O S U V : Int) (X : Bool) (Y : Nat) (W : List D) (a0 : Bool) (z : Nat) (Z : List D) (a3 a4 : Int) (J K : List D) (hC : ∀ t, C t = 1) : F7_1023 call L C  a5 a1 vn M O S U V X Y W a0 z Z a3 a4 J K  =
 (F7_16378 call L C L a5 a1 vn a0 z Z a3 a4 M O S U V X Y W J K ((z : Int)) 0 (Ow.nil)) := by
  unfold F7_1023
  rw [hC]
  kernel_rfl
theorem F7_2045_eq (call : CL) (L : Nat) (C : Nat → Nat) (a5 : Int) (K : ByteArray) (z : Int) (U : ByteArray) (V W X Y : Int) (a0 : Bool) (a1 : Nat) (Z : List D) (a2 : Bool) (J : Nat) (M : List D) (a3 a4 : Int) (a6 : Bool) (O S : List D) (hC : ∀ t, C t = 1) : F7_2045 call L C  a5 K z U V W X Y a0 a1 Z a2 J M a3 a4 a6 O S =
 (ifK (!a6)
 (some (D.bool false))
 (ifK (decide (z < -1))
 (some (D.bool false))
 (ifK (decide (z ≥ (J : Int)))
 (some (D.bool false))
 (ifK (!(ByteArray.toList K == ByteArray.toList (ByteArray.mk #[111, 117, 116])) == (z == -1))
 (some (D.bool false))
 (ifK (decide (z ≥ 0))
 (chkK (decide (0 ≤ z ∧ z < (J : Int)))
 (cellK M (Int.toNat z * 2 + 0) fun a7 =>
 (strK a7 fun a8 =>
 (ifK (!ByteArray.toList a8 == ByteArray.toList K)
 (some (D.bool false))
 (F7_1023 call L C a5 K z U V W X Y a0 a1 Z a2 J M a3 a4 O S)))))
 (F7_1023 call L C a5 K z U V W X Y a0 a1 Z a2 J M a3 a4 O S)))))) := by
  unfold F7_2045
  rw [hC]
  kernel_rfl
theorem F7_1018_eq (call : CL) (L : Nat) (C : Nat → Nat) (ac : Nat) (a4 : Int) (K : ByteArray) (M O S U : Int) (W : Bool) (X : Nat) (V : List D) (Z : Bool) (a0 : Nat) (Y : List D) (a2 a3 : Int) (J : ByteArray) (vn : Int) (ad : Bool) (a9 : Nat) (a8 : List D) (aa z : Int) (a6 a7 : List D) : F7_1018 call L C  (ac + 1) a4 K M O S U W X V Z a0 Y a2 a3 J vn ad a9 a8 aa z a6 a7 =
 (ifK (decide (z < aa))
 (chkK (decide (0 ≤ z ∧ z < (a9 : Int)))
 (cellK a8 (Int.toNat z * 1) fun ae =>
 (strK ae fun ah =>
 (updK (updD (D.str ah) (D.int .i64 z) a6 a7) fun ks vs =>
 (F7_1018 call L C ac a4 K M O S U W X V Z a0 Y a2 a3 J vn ad a9 a8 aa (IntKind.wrap .i64 (z + 1)) ks vs)))))
 (updK (updD (D.str (ByteArray.mk #[111, 117, 116])) (D.int .i64 6) a6 a7) fun a5 ab =>
 (findK (findD (D.str J) a5 0)
 (F7_2045 call L C a4 J vn K M O S U W X V Z a0 Y a2 a3 false a5 ab) fun ag =>
 (cellK ab ag fun af =>
 (intK .i64 af fun _x_37 =>
 (F7_2045 call L C a4 J vn K M O S U W X V Z a0 Y a2 a3 true a5 ab)))))) := by kernel_rfl
theorem F7_15_eq (call : CL) (L : Nat) (C : Nat → Nat) (a3 : Int) (J : ByteArray) (K M O S : Int) (V : Bool) (W : Nat) (U : List D) (Y : Bool) (Z : Nat) (X : List D) (a0 a1 : Int) (hC : ∀ t, C t = 1) : F7_15 call L C  a3 J K M O S V W U Y Z X a0 a1  =
 (optK (call 19 [D.agg [D.str J, D.int .i64 K, D.int .i64 M, D.int .i64 O, D.int .i64 S, D.slc V W U, D.slc Y Z X], D.agg [D.int .i64 a0, D.int .i64 a1]]) fun a9 =>
 (tupK a9 3 fun z =>
 (cellK z 0 fun a5 =>
 (strK a5 fun ab =>
 (cellK z 1 fun a6 =>
 (intK .i64 a6 fun ac =>
 (cellK z 2 fun a7 =>
 (intK .i64 a7 fun ad =>
 (ifK (ad != 0)
 (some (D.bool false))
 (optK (call 44 []) fun aa =>
 (slcK aa fun a8 a2 a4 =>
 (F7_1018 call L C L a3 J K M O S V W U Y Z X a0 a1 ab ac a8 a2 a4 ((a2 : Int)) 0 ([]) ([]))))))))))))) := by
  unfold F7_15
  rw [hC]
  kernel_rfl
theorem F7_eq (call : CL) (L : Nat) (C : Nat → Nat) (z : ByteArray) (J K M O : Int) (U : Bool) (V : Nat) (S : List D) (X : Bool) (Y : Nat) (W : List D) (Z a0 a1 : Int) : evFnT (TEf call L C) O7 N7 FinM.canon Tryz.f7 [D.agg [D.str z, D.int .i64 J, D.int .i64 K, D.int .i64 M, D.int .i64 O, D.slc U V S, D.slc X Y W], D.agg [D.int .i64 Z, D.int .i64 a0], D.int IntKind.u8 a1] =
 (optK (call 15 [D.agg [D.str z, D.int .i64 J, D.int .i64 K, D.int .i64 M, D.int .i64 O, D.slc U V S, D.slc X Y W]]) fun r =>
 (aggK r 7 fun c =>
 (cellK c 0 fun d =>
 (strK d fun s =>
 (cellK c 1 fun a6 =>
 (intK .i64 a6 fun x =>
 (cellK c 2 fun a7 =>
 (intK .i64 a7 fun ai =>
 (cellK c 3 fun a8 =>
 (intK .i64 a8 fun aj =>
 (cellK c 4 fun a9 =>
 (intK .i64 a9 fun ak =>
 (cellK c 5 fun aa =>
 (slcK aa fun f n a4 =>
 (cellK c 6 fun ab =>
 (slcK ab fun ac ad a5 =>
 (optK (call 43 [D.agg [D.str s, D.int .i64 x, D.int .i64 ai, D.int .i64 aj, D.int .i64 ak, D.slc f n a4, D.slc ac ad a5], D.int .i64 6, D.int .i64 8]) fun ae =>
 (boolK ae fun b =>
 (ifK (!b)
 (optK (call 17 []) fun af =>
 (boolK af fun a2 =>
 (some (D.bool a2))))
 (optK (call 24 [D.agg [D.int .i64 Z, D.int .i64 a0]]) fun ag =>
 (intK .i64 ag fun al =>
 (ifK (al != 0)
 (optK (call 17 []) fun ah =>
 (boolK ah fun a3 =>
 (some (D.bool a3))))
 (F7_15 call L C a1 z J K M O U V S X Y W Z a0))))))))))))))))))))))) := by kernel_rfl
end Go.Pd
end
section
namespace Go.Pd
open Go Go.Proofs Go.RowKit
set_option maxRecDepth 100000
/-! ### Rows of places -/
def rowP (n : Nat) (f : Nat → Pt) : List Pt := (List.range n).map f
theorem rowP_len (n : Nat) (f : Nat → Pt) : (rowP n f).length = n := by simp [rowP]
theorem rowP_get {n k : Nat} (f : Nat → Pt) (h : k < n) : (rowP n f)[k]? = some (f k) := by simp [rowP, h]
theorem rowP_ext {n : Nat} {f g : Nat → Pt} (h : ∀ k, k < n → f k = g k) : rowP n f = rowP n g :=
  List.map_congr_left fun k hk => h k (List.mem_range.1 hk)
theorem rowP_set (n : Nat) (f : Nat → Pt) (v : Nat) (x : Pt) : (rowP n f).set v x = rowP n (fun k => if k = v then x else f k) := by
  apply List.ext_getElem?
  intro k
  by_cases hk : k < n
  · rw [rowP_get _ hk]
    by_cases e : v = k
    · subst e
      rw [List.getElem?_set_self (by rw [rowP_len]; exact hk), if_pos rfl]
    · rw [List.getElem?_set_ne e, rowP_get _ hk, if_neg (fun h => e h.symm)]
  · rw [List.getElem?_eq_none (by simp [rowP_len]; omega), List.getElem?_eq_none (by rw [rowP_len]; omega)]
def gP (l : List Pt) (i k : Nat) : Pt := if k < i ∨ l.length ≤ k + i then pt l (l.length - 1 - k) else pt l k
theorem gP_zero (l : List Pt) : rowP l.length (gP l 0) = l := by
  apply List.ext_getElem?
  intro k
  by_cases hk : k < l.length
  · rw [rowP_get _ hk, pt_get hk]
    unfold gP
    rw [if_neg (by omega)]
  · rw [List.getElem?_eq_none (by rw [rowP_len]; omega), List.getElem?_eq_none (by omega)]
theorem gP_step {l : List Pt} {i : Nat} (h : i + 1 + i < l.length) :
    rowP l.length (fun k => if k = l.length - 1 - i then gP l i i else if k = i then gP l i (l.length - 1 - i) else gP l i k) = rowP l.length (gP l (i + 1)) := rowP_ext fun k hk => by
  have e1 : gP l i (l.length - 1 - i) = pt l (l.length - 1 - i) := by unfold gP; rw [if_neg (by omega)]
  have e2 : gP l i i = pt l i := by unfold gP; rw [if_neg (by omega)]
  show (if k = l.length - 1 - i then gP l i i else if k = i then gP l i (l.length - 1 - i) else gP l i k) = _
  rw [e1, e2]
  by_cases c1 : k = l.length - 1 - i
  · rw [if_pos c1]
    unfold gP
    rw [if_pos (by omega), show l.length - 1 - k = i by omega]
  · rw [if_neg c1]
    by_cases c2 : k = i
    · subst c2
      rw [if_pos rfl]
      unfold gP
      rw [if_pos (by omega)]
    · rw [if_neg c2]
      unfold gP
      by_cases c3 : k < i ∨ l.length ≤ k + i
      · rw [if_pos c3, if_pos (by omega)]
      · rw [if_neg c3, if_neg (by omega)]
theorem gP_end {l : List Pt} {i : Nat} (h : l.length ≤ i + 1 + i) : rowP l.length (gP l i) = l.reverse := by
  apply List.ext_getElem?
  intro k
  by_cases hk : k < l.length
  · rw [rowP_get _ hk, List.getElem?_reverse hk, pt_get (by omega)]
    unfold gP
    by_cases c : k < i ∨ l.length ≤ k + i
    · rw [if_pos c]
    · rw [if_neg c, show l.length - 1 - k = k by omega]
  · rw [List.getElem?_eq_none (by rw [rowP_len]; omega), List.getElem?_eq_none (by simp; omega)]
theorem pts_set : ∀ (l : List Pt) (i : Nat) (x : Pt), writeAt (ptsC l) (i * 2) [.int .i64 x.1, .int .i64 x.2] = ptsC (l.set i x)
  | [], _, _ => rfl
  | _ :: _, 0, _ => rfl
  | q :: l, i + 1, x => by
    have ih := pts_set l i x
    show (((ptsC (q :: l)).set ((i + 1) * 2) (.int .i64 x.1)).set ((i + 1) * 2 + 1) (.int .i64 x.2)) = _
    have ih : (((ptsC l).set (i * 2) (.int .i64 x.1)).set (i * 2 + 1) (.int .i64 x.2)) = ptsC (l.set i x) := ih
    rw [show (i + 1) * 2 = i * 2 + 1 + 1 by omega, show i * 2 + 1 + 1 + 1 = i * 2 + 1 + 1 + 1 from rfl]
    show (D.int .i64 q.1 :: D.int .i64 q.2 :: (((ptsC l).set (i * 2) (.int .i64 x.1)).set (i * 2 + 1) (.int .i64 x.2))) = _
    rw [ih]
    rfl
theorem pts_get : ∀ (l : List Pt) (i : Nat) (q : Pt), l[i]? = some q → (ptsC l)[i * 2 + 0]? = some (.int .i64 q.1) ∧ (ptsC l)[i * 2 + 1]? = some (.int .i64 q.2)
  | [], _, _, h => by cases h
  | _ :: _, 0, _, h => by cases h; exact ⟨rfl, rfl⟩
  | y :: l, i + 1, q, h => by
    obtain ⟨h1, h2⟩ := pts_get l i q h
    rw [show (i + 1) * 2 + 0 = i * 2 + 0 + 1 + 1 by omega, show (i + 1) * 2 + 1 = i * 2 + 1 + 1 + 1 by omega]
    exact ⟨h1, h2⟩
theorem pts_c0 {γ : Type} {l : List Pt} {i : Nat} {q : Pt} (h : l[i]? = some q) (k : D → Option γ) : cellK (ptsC l) (Int.toNat (i : Int) * 2 + 0) k = k (.int .i64 q.1) := cellK_some (pts_get l i q h).1 k
theorem pts_c1 {γ : Type} {l : List Pt} {i : Nat} {q : Pt} (h : l[i]? = some q) (k : D → Option γ) : cellK (ptsC l) (Int.toNat (i : Int) * 2 + 1) k = k (.int .i64 q.2) := cellK_some (pts_get l i q h).2 k
theorem pts_drop : ∀ (l : List Pt) (k : Nat), (ptsC l).drop (k * 2) = ptsC (l.drop k)
  | _, 0 => rfl
  | [], k + 1 => by rw [show ptsC [] = [] from rfl]; simp [ptsC]
  | q :: l, k + 1 => by
    rw [show (k + 1) * 2 = k * 2 + 1 + 1 by omega]
    exact pts_drop l k
theorem pts_take : ∀ (l : List Pt) (k : Nat), (ptsC l).take (k * 2) = ptsC (l.take k)
  | _, 0 => by simp [ptsC]
  | [], k + 1 => by rw [show ptsC [] = [] from rfl]; simp [ptsC]
  | q :: l, k + 1 => by
    rw [show (k + 1) * 2 = k * 2 + 1 + 1 by omega]
    show D.int .i64 q.1 :: D.int .i64 q.2 :: (ptsC l).take (k * 2) = D.int .i64 q.1 :: D.int .i64 q.2 :: ptsC (l.take k)
    rw [pts_take l k]
theorem arsC_put (pre : List Ar) (s : ByteArray) (l : List Pt) : arsC (pre ++ [(s, false, l)]) = arsC pre ++ [.str s, .slc false l.length (ptsC l)] := by rw [arsC_app]; rfl
/-! ### Two corners that change places -/
theorem body7 {l : List Pt} {i : Nat} (hl : l.length ≤ 1000) (hd : i + 1 + i < l.length) (K : List D → Int → Int → Option D) :
    (chkK (decide (0 ≤ (l.length : Int) - 1 - i ∧ (l.length : Int) - 1 - i < (l.length : Int)))
      (cellK (ptsC (rowP l.length (gP l i))) (Int.toNat ((l.length : Int) - 1 - i) * 2 + 0) fun d_16 =>
      (intK IntKind.i64 (d_16) fun x_9 =>
      (cellK (ptsC (rowP l.length (gP l i))) (Int.toNat ((l.length : Int) - 1 - i) * 2 + 1) fun d_17 =>
      (intK IntKind.i64 (d_17) fun x_10 =>
      (chkK (decide (0 ≤ (i : Int) ∧ (i : Int) < (l.length : Int)))
        (cellK (ptsC (rowP l.length (gP l i))) (Int.toNat (i : Int) * 2 + 0) fun d_18 =>
        (intK IntKind.i64 (d_18) fun x_11 =>
        (cellK (ptsC (rowP l.length (gP l i))) (Int.toNat (i : Int) * 2 + 1) fun d_19 =>
        (intK IntKind.i64 (d_19) fun x_12 =>
        (chkK (decide (0 ≤ (i : Int) ∧ (i : Int) < (l.length : Int)))
          (chkK (decide (Int.toNat (i : Int) * 2 + 2 ≤ List.length (ptsC (rowP l.length (gP l i)))))
            (chkK (decide (0 ≤ (l.length : Int) - 1 - i ∧ (l.length : Int) - 1 - i < (l.length : Int)))
              (chkK (decide (Int.toNat ((l.length : Int) - 1 - i) * 2 + 2 ≤ List.length (writeAt (ptsC (rowP l.length (gP l i))) (Int.toNat (i : Int) * 2) [D.int IntKind.i64 x_9, D.int IntKind.i64 x_10])))
                (K (writeAt (writeAt (ptsC (rowP l.length (gP l i))) (Int.toNat (i : Int) * 2) [D.int IntKind.i64 x_9, D.int IntKind.i64 x_10]) (Int.toNat ((l.length : Int) - 1 - i) * 2) [D.int IntKind.i64 x_11, D.int IntKind.i64 x_12]) (IntKind.wrap IntKind.i64 ((i : Int) + 1)) (IntKind.wrap IntKind.i64 ((l.length : Int) - 1 - i - 1)))))))))))))))))
    = K (ptsC (rowP l.length (gP l (i + 1)))) ((i + 1 : Nat) : Int) ((l.length : Int) - 1 - ((i + 1 : Nat) : Int)) := by
  have ej : (l.length : Int) - 1 - i = ((l.length - 1 - i : Nat) : Int) := by omega
  have e1 : decide ((0 : Int) ≤ ((l.length - 1 - i : Nat) : Int) ∧ ((l.length - 1 - i : Nat) : Int) < (l.length : Int)) = true := decide_eq_true ⟨by omega, by omega⟩
  have e2 : decide ((0 : Int) ≤ (i : Int) ∧ (i : Int) < (l.length : Int)) = true := decide_eq_true ⟨by omega, by omega⟩
  have hj : l.length - 1 - i < l.length := by omega
  have hi' : i < l.length := by omega
  rw [ej, e1, chkK_true, pts_c0 (rowP_get _ hj), intK_int, pts_c1 (rowP_get _ hj), intK_int, e2, chkK_true, pts_c0 (rowP_get _ hi'), intK_int, pts_c1 (rowP_get _ hi'), intK_int, chkK_true, ptsC_len, rowP_len, Int.toNat_natCast, decide_eq_true (show i * 2 + 2 ≤ l.length * 2 by omega), chkK_true, chkK_true,
    pts_set, ptsC_len, List.length_set, rowP_len, Int.toNat_natCast, decide_eq_true (show (l.length - 1 - i) * 2 + 2 ≤ l.length * 2 by omega), chkK_true, pts_set, rowP_set, rowP_set, gP_step hd, show IntKind.wrap .i64 ((i : Int) + 1) = ((i + 1 : Nat) : Int) from (wrap_in (by omega)).trans (by omega),
    show IntKind.wrap .i64 (((l.length - 1 - i : Nat) : Int) - 1) = (l.length : Int) - 1 - ((i + 1 : Nat) : Int) from (wrap_in (by omega)).trans (by omega)]
/-! ### The walk through a hole's areas -/
section
variable {call : CL} {h : Hl} {t : Nat} {p : Pt} {x : ByteArray × Int} {ks vs : List D}
noncomputable abbrev A7 (call : CL) (h : Hl) (t : Nat) (p : Pt) (x : ByteArray × Int) (ks vs : List D) (n : Nat) (i : Int) (o : Ow) : Option D :=
  F7_16378 call LL C1 n (t : Int) x.1 x.2 h.af h.areas.length (arsC h.areas) p.1 p.2 h.name h.tee.1 h.tee.2 h.cup.1 h.cup.2 h.lf h.line.length (ptsC h.line) ks vs (h.areas.length : Int) i o
noncomputable abbrev R7 (call : CL) (h : Hl) (t : Nat) (p : Pt) (x : ByteArray × Int) (ks vs : List D) (n m : Nat) (i : Int) (a : Ar) (l : Ow) (u v : Int) (o : Ow) : Option D :=
  F7_2146750442 call LL C1 n m (t : Int) x.1 x.2 h.af h.areas.length (arsC h.areas) (h.areas.length : Int) i p.1 p.2 h.name h.tee.1 h.tee.2 h.cup.1 h.cup.2 h.lf h.line.length (ptsC h.line) a.1 a.2.1 a.2.2.length (ptsC a.2.2) ks vs l u v o
noncomputable abbrev S7 (call : CL) (h : Hl) (t : Nat) (p : Pt) (x : ByteArray × Int) (ks vs : List D) (n : Nat) (i : Int) (a : Ar) (o : Ow) : Option D :=
  F7_16771487 call LL C1 n (t : Int) x.1 x.2 h.af h.areas.length (arsC h.areas) (h.areas.length : Int) i p.1 p.2 h.name h.tee.1 h.tee.2 h.cup.1 h.cup.2 h.lf h.line.length (ptsC h.line) a.1 a.2.1 a.2.2.length (ptsC a.2.2) ks vs o
noncomputable abbrev T7 (call : CL) (h : Hl) (t : Nat) (p : Pt) (x : ByteArray × Int) (ks vs : List D) (n : Nat) (i : Int) (c : Int) (b : Bool) (o : Ow) (a : Ar) : Option D :=
  F7_8385743 call LL C1 n (t : Int) x.1 x.2 i h.af h.areas.length (arsC h.areas) (h.areas.length : Int) p.1 p.2 h.name h.tee.1 h.tee.2 h.cup.1 h.cup.2 h.lf h.line.length (ptsC h.line) ks vs c b o a.1 a.2.1 a.2.2.length (ptsC a.2.2)
theorem put7 {n : Nat} {i : Nat} (hi : i ≤ 1000) (N : Nat) (cs : List D) :
    F7_262055 call LL C1 n (t : Int) x.1 x.2 h.af h.areas.length (arsC h.areas) (h.areas.length : Int) (i : Int) p.1 p.2 h.name h.tee.1 h.tee.2 h.cup.1 h.cup.2 h.lf h.line.length (ptsC h.line) ks vs N cs = A7 call h t p x ks vs n ((i + 1 : Nat) : Int) (.own N cs) := by
  rw [F7_262055_eq (C := C1) (hC := fun _ => rfl), show IntKind.wrap .i64 ((i : Int) + 1) = ((i + 1 : Nat) : Int) from (wrap_in (by omega)).trans (by omega)]
theorem goR7 {n i : Nat} {a : Ar} {l : List Pt} (hi : i ≤ 1000) (hl : l.length ≤ 1000) {pre : List Ar} (hp : pre.length ≤ 1000) : ∀ (k j fuel : Nat), l.length ≤ j + j + k → j ≤ l.length → k < fuel →
    R7 call h t p x ks vs n fuel (i : Int) a (.own l.length (ptsC (rowP l.length (gP l j)))) (j : Int) ((l.length : Int) - 1 - j) (ownOw pre) = A7 call h t p x ks vs n ((i + 1 : Nat) : Int) (.own (pre.length + 1) (arsC (pre ++ [(a.1, false, l.reverse)]))) := by
  have fin : ∀ j fuel : Nat, ¬ (j + 1 + j < l.length) → j ≤ l.length → R7 call h t p x ks vs n (fuel + 1) (i : Int) a (.own l.length (ptsC (rowP l.length (gP l j)))) (j : Int) ((l.length : Int) - 1 - j) (ownOw pre) = A7 call h t p x ks vs n ((i + 1 : Nat) : Int) (.own (pre.length + 1) (arsC (pre ++ [(a.1, false, l.reverse)]))) := fun j fuel hd hj => by
    have ed : decide ((j : Int) < (l.length : Int) - 1 - j) = false := decide_eq_false (by omega)
    rw [gP_end (by omega), arsC_put, List.length_reverse]
    cases pre with
    | nil =>
      refine (F7_2146750442_eqon ..).trans ?_
      rw [ed, ifK_false]
      exact put7 hi _ _
    | cons y r =>
      refine (F7_2146750442_eqoo ..).trans ?_
      rw [ed, ifK_false]
      refine chk_step (decide_eq_true ⟨by unfold Go.Pd.limit; omega, by omega⟩) ?_
      exact put7 hi _ _
  intro k
  induction k with
  | zero =>
    intro j fuel h1 h2 hf
    obtain ⟨fuel, rfl⟩ : ∃ n, fuel = n + 1 := ⟨fuel - 1, by omega⟩
    exact fin j fuel (by omega) h2
  | succ k ih =>
    intro j fuel h1 h2 hf
    obtain ⟨fuel, rfl⟩ : ∃ n, fuel = n + 1 := ⟨fuel - 1, by omega⟩
    by_cases hd : j + 1 + j < l.length
    · have ih := ih (j + 1) fuel (by omega) (by omega) (by omega)
      have ed : decide ((j : Int) < (l.length : Int) - 1 - j) = true := decide_eq_true (by omega)
      refine Eq.trans ?_ ih
      cases pre with
      | nil =>
        refine (F7_2146750442_eqon ..).trans ?_
        rw [ed, ifK_true]
        exact body7 hl hd fun c u v => R7 call h t p x ks vs n fuel (i : Int) a (.own l.length c) u v .nil
      | cons y r =>
        refine (F7_2146750442_eqoo ..).trans ?_
        rw [ed, ifK_true]
        exact body7 hl hd fun c u v => R7 call h t p x ks vs n fuel (i : Int) a (.own l.length c) u v (.own (y :: r).length (arsC (y :: r)))
    · exact fin j fuel hd h2
theorem t7a {b1 b2 b3 b4 b : Bool} {F S : Option D} (H1 : (b1 && b2) = false) (H2 : (b && b3) = false) (H3 : (b4 && b3) = false) :
    (ifK b1 (ifK b2 F (ifK b (ifK b3 F (ifK b4 (ifK b3 F S) S)) (ifK b4 (ifK b3 F S) S))) (ifK b (ifK b3 F (ifK b4 (ifK b3 F S) S)) (ifK b4 (ifK b3 F S) S))) = S := by
  cases b1 <;> cases b2 <;> cases b3 <;> cases b4 <;> cases b <;> first | rfl | exact absurd H1 (by decide) | exact absurd H2 (by decide) | exact absurd H3 (by decide)
theorem t7 {n i : Nat} {c : Int} {b : Bool} {a : Ar} {pre : List Ar} (H1 : (((i : Int) == x.2) && decide (c < 0)) = false) (H2 : (b && decide (c ≥ 0)) = false) (H3 : (decide (x.2 < 0) && decide (c ≥ 0)) = false) :
    T7 call h t p x ks vs n (i : Int) c b (ownOw pre) a = S7 call h t p x ks vs n (i : Int) a (ownOw pre) := by
  cases pre with
  | nil => exact (F7_8385743_eqn (C := C1) (hC := fun _ => rfl) ..).trans (t7a H1 H2 H3)
  | cons y r => exact (F7_8385743_eqo (C := C1) (hC := fun _ => rfl) ..).trans (t7a H1 H2 H3)
end
end Go.Pd
end
section
namespace Go.Pd
open Go Go.Proofs Go.RowKit
set_option maxRecDepth 100000
/-! ### The corners of one area -/
theorem sbody {l : List Pt} {T : Int} {k : Nat} (hT : T = (k : Int)) (hk : k < l.length) (hl : l.length ≤ 1000) (t : Int) (X : Option D) (K1 : Nat → List D → Int → Option D) (K2 : Nat → List D → Option D) :
    (chkK (!decide ((l.length : Int) = 0))
    (chkK (decide (0 ≤ T ∧ T ≤ (l.length : Int) ∧ (l.length : Int) ≤ (l.length : Int)))
      (chkK (decide (List.length (List.take (Int.toNat ((l.length : Int) - T) * 2) (List.drop (Int.toNat T * 2) (ptsC l))) = Int.toNat ((l.length : Int) - T) * 2))
        (chkK (List.all (List.take (Int.toNat ((l.length : Int) - T) * 2) (List.drop (Int.toNat T * 2) (ptsC l))) D.one)
          (ifK (decide (Int.toNat ((l.length : Int) - T) = 0)) X
            (chkK (decide (0 < Int.toNat ((l.length : Int) - T) ∧ 0 = 0 ∧ (0 + Int.toNat ((l.length : Int) - T)) * 16 ≤ limit ∧ 0 + Int.toNat ((l.length : Int) - T) ≤ 4611686018427387903))
              (chkK (decide (0 ≤ (0 : Int) ∧ (0 : Int) ≤ T ∧ T ≤ (l.length : Int)))
                (chkK (decide (List.length (List.take (Int.toNat (T - (0 : Int)) * 2) (ptsC l)) = Int.toNat (T - (0 : Int)) * 2))
                  (chkK (List.all (List.take (Int.toNat (T - (0 : Int)) * 2) (ptsC l)) D.one)
                    (chkK (decide ((0 + Int.toNat ((l.length : Int) - T) + Int.toNat (T - (0 : Int))) * 16 ≤ limit ∧ 0 + Int.toNat ((l.length : Int) - T) + Int.toNat (T - (0 : Int)) ≤ 9223372036854775807))
                      (ifK (decide (t ≥ 128))
                        (K1 (0 + Int.toNat ((l.length : Int) - T) + Int.toNat (T - (0 : Int))) (List.take (Int.toNat ((l.length : Int) - T) * 2) (List.drop (Int.toNat T * 2) (ptsC l)) ++ List.take (Int.toNat (T - (0 : Int)) * 2) (ptsC l)) (IntKind.wrap IntKind.i64 (((0 + Int.toNat ((l.length : Int) - T) + Int.toNat (T - (0 : Int))) : Int) - 1)))
                        (K2 (0 + Int.toNat ((l.length : Int) - T) + Int.toNat (T - (0 : Int))) (List.take (Int.toNat ((l.length : Int) - T) * 2) (List.drop (Int.toNat T * 2) (ptsC l)) ++ List.take (Int.toNat (T - (0 : Int)) * 2) (ptsC l))))))))))))))
    = ifK (decide (t ≥ 128)) (K1 (l.drop k ++ l.take k).length (ptsC (rowP (l.drop k ++ l.take k).length (gP (l.drop k ++ l.take k) 0))) (((l.drop k ++ l.take k).length : Int) - 1 - ((0 : Nat) : Int))) (K2 (l.drop k ++ l.take k).length (ptsC (l.drop k ++ l.take k))) := by
  subst hT
  have hn : (l.drop k ++ l.take k).length = l.length := by simp; omega
  have a1 : Int.toNat ((l.length : Int) - (k : Int)) = l.length - k := by omega
  have a2 : Int.toNat ((k : Int) - (0 : Int)) = k := by omega
  have b1 : List.take ((l.length - k) * 2) (List.drop (k * 2) (ptsC l)) = ptsC (l.drop k) := by
    rw [pts_drop, pts_take, List.take_of_length_le (by simp)]
  have b2 : List.take (k * 2) (ptsC l) = ptsC (l.take k) := pts_take l k
  have c1 : IntKind.wrap IntKind.i64 (((0 : Int) + ((l.length - k : Nat) : Int) + ((k : Nat) : Int)) - 1) = (l.length : Int) - 1 - ((0 : Nat) : Int) := (wrap_in (by omega)).trans (by omega)
  have c2 : 0 + (l.length - k) + k = l.length := by omega
  rw [gP_zero, a1, a2, Int.toNat_natCast, b1, b2, c1, c2, ← ptsC_app, hn]
  refine chk_step (by rw [decide_eq_false (show ¬ ((l.length : Int) = 0) by omega)]; rfl) ?_
  refine chk_step (decide_eq_true ⟨by omega, by omega, by omega⟩) ?_
  refine chk_step (decide_eq_true (by rw [ptsC_len, List.length_drop])) ?_
  refine chk_step (pt_one _) ?_
  rw [decide_eq_false (show ¬ (l.length - k = 0) by omega), ifK_false]
  refine chk_step (decide_eq_true ⟨by omega, rfl, by unfold Go.Pd.limit; omega, by omega⟩) ?_
  refine chk_step (decide_eq_true ⟨by omega, by omega, by omega⟩) ?_
  refine chk_step (decide_eq_true (by rw [ptsC_len, List.length_take]; omega)) ?_
  refine chk_step (pt_one _) ?_
  refine chk_step (decide_eq_true ⟨by unfold Go.Pd.limit; omega, by omega⟩) ?_
  rfl
section
variable {call : CL} {h : Hl} {t : Nat} {p : Pt} {x : ByteArray × Int} {ks vs : List D}
theorem s7 {n i : Nat} {a : Ar} (ht : t < 256) (hi : i ≤ 1000) (h3 : 3 ≤ a.2.2.length) (hl : a.2.2.length ≤ 1000) {pre : List Ar} (hp : pre.length ≤ 1000) :
    S7 call h t p x ks vs n (i : Int) a (ownOw pre) = A7 call h t p x ks vs n ((i + 1 : Nat) : Int) (.own (pre.length + 1) (arsC (pre ++ [tA t a]))) := by
  have hT : Int.tmod (IntKind.wrap IntKind.i64 (t : Int)) (a.2.2.length : Int) = ((t % a.2.2.length : Nat) : Int) := by
    rw [wrap_in (by omega)]
    rfl
  have hk : t % a.2.2.length < a.2.2.length := Nat.mod_lt _ (by omega)
  have hn : (a.2.2.drop (t % a.2.2.length) ++ a.2.2.take (t % a.2.2.length)).length = a.2.2.length := by simp; omega
  have hA : tA t a = (a.1, false, turnL t a.2.2) := rfl
  rw [hA]
  unfold turnL
  generalize hrot : a.2.2.drop (t % a.2.2.length) ++ a.2.2.take (t % a.2.2.length) = rot at *
  have e1 : ∀ o : Ow, o = ownOw pre → 128 ≤ t → R7 call h t p x ks vs n LL (i : Int) a (.own rot.length (ptsC (rowP rot.length (gP rot 0)))) 0 ((rot.length : Int) - 1 - ((0 : Nat) : Int)) o = A7 call h t p x ks vs n ((i + 1 : Nat) : Int) (.own (pre.length + 1) (arsC (pre ++ [(a.1, false, rot.reverse)]))) := fun o ho _ => by
    rw [ho]
    exact goR7 hi (by omega) hp rot.length 0 LL (by omega) (by omega) (by unfold LL; omega)
  cases pre with
  | nil =>
    refine (F7_16771487_eqn (C := C1) (hC := fun _ => rfl) ..).trans ?_
    refine (sbody hT hk hl (t : Int) _ (fun N c v => R7 call h t p x ks vs n LL (i : Int) a (.own N c) 0 v .nil) (fun N c => F7_262055 call LL C1 n (t : Int) x.1 x.2 h.af h.areas.length (arsC h.areas) (h.areas.length : Int) (i : Int) p.1 p.2 h.name h.tee.1 h.tee.2 h.cup.1 h.cup.2 h.lf h.line.length (ptsC h.line) ks vs 1 [D.str a.1, D.slc false N c])).trans ?_
    rw [hrot]
    by_cases hd : 128 ≤ t
    · rw [decide_eq_true (show (t : Int) ≥ 128 by omega), ifK_true, if_pos hd]
      exact e1 .nil rfl hd
    · rw [decide_eq_false (show ¬ ((t : Int) ≥ 128) by omega), ifK_false, if_neg hd, arsC_put]
      exact put7 hi _ _
  | cons y r =>
    refine (F7_16771487_eqo (C := C1) (hC := fun _ => rfl) ..).trans ?_
    refine (sbody hT hk hl (t : Int) _ (fun N c v => R7 call h t p x ks vs n LL (i : Int) a (.own N c) 0 v (.own (y :: r).length (arsC (y :: r)))) (fun N c => chkK (decide (((y :: r).length + 1) * 40 ≤ limit ∧ (y :: r).length + 1 ≤ 9223372036854775807)) (F7_262055 call LL C1 n (t : Int) x.1 x.2 h.af h.areas.length (arsC h.areas) (h.areas.length : Int) (i : Int) p.1 p.2 h.name h.tee.1 h.tee.2 h.cup.1 h.cup.2 h.lf h.line.length (ptsC h.line) ks vs ((y :: r).length + 1) (arsC (y :: r) ++ [D.str a.1, D.slc false N c])))).trans ?_
    rw [hrot]
    by_cases hd : 128 ≤ t
    · rw [decide_eq_true (show (t : Int) ≥ 128 by omega), ifK_true, if_pos hd]
      exact e1 _ rfl hd
    · rw [decide_eq_false (show ¬ ((t : Int) ≥ 128) by omega), ifK_false, if_neg hd, arsC_put]
      refine chk_step (decide_eq_true ⟨by unfold Go.Pd.limit; omega, by omega⟩) ?_
      exact put7 hi _ _
end
/-! ### Ranks from the table -/
def ints7 : List D := [.int .i64 0, .int .i64 1, .int .i64 2, .int .i64 3, .int .i64 4, .int .i64 5, .int .i64 6]
theorem ints7_at : ∀ {j : Nat}, j < 7 → ints7[j]? = some (.int .i64 (j : Int))
  | 0, _ => rfl
  | 1, _ => rfl
  | 2, _ => rfl
  | 3, _ => rfl
  | 4, _ => rfl
  | 5, _ => rfl
  | 6, _ => rfl
  | _ + 7, h => by omega
theorem idx7 {v : ByteArray} {j : Nat} (h : idxO v kinds7 0 = some j) : j < 7 := by
  obtain ⟨_, k, h1, _⟩ := idxO_spec h
  exact (List.getElem?_eq_some_iff.1 h1).1
theorem step7 {s v : ByteArray} {b : Bool} (K : Bool → Option D) :
    (findK (findD (D.str s) (strsC kinds7) 0)
      (findK (findD (D.str v) (strsC kinds7) 0)
        (ifK (ByteArray.toList s == ByteArray.toList v) (K b) (K false)) fun i =>
        (cellK (ints7) (i) fun d_32 =>
        (intK IntKind.i64 (d_32) fun x_25 =>
        (ifK (decide (0 < x_25)) (K true) (ifK (ByteArray.toList s == ByteArray.toList v) (K b) (K false)))))) fun i_1 =>
      (cellK (ints7) (i_1) fun d_33 =>
      (intK IntKind.i64 (d_33) fun x_26 =>
      (findK (findD (D.str v) (strsC kinds7) 0)
        (ifK (decide (x_26 < 0)) (K true) (ifK (ByteArray.toList s == ByteArray.toList v) (K b) (K false))) fun i_2 =>
        (cellK (ints7) (i_2) fun d_34 =>
        (intK IntKind.i64 (d_34) fun x_27 =>
        (ifK (decide (x_26 < x_27)) (K true) (ifK (ByteArray.toList s == ByteArray.toList v) (K b) (K false)))))))))
    = K (decide (rk s < rk v) || (seqB s v && b)) := by
  have fin : ∀ c c' : Bool, c = c' → ifK c (K true) (ifK (ByteArray.toList s == ByteArray.toList v) (K b) (K false)) = K (c' || (seqB s v && b)) := fun c c' e => by
    subst e
    show ifK c (K true) (ifK (seqB s v) (K b) (K false)) = _
    cases c <;> cases seqB s v <;> rfl
  rw [find_strs, find_strs]
  unfold rk
  cases h1 : idxO s kinds7 0 with
  | none =>
    cases h2 : idxO v kinds7 0 with
    | none =>
      show ifK (seqB s v) (K b) (K false) = K (decide (0 < 0) || (seqB s v && b))
      cases seqB s v <;> rfl
    | some j =>
      show cellK ints7 j _ = _
      refine cell_step (ints7_at (idx7 h2)) (int_step ?_)
      exact fin _ _ (decide_eq_decide.2 (by show (0 : Int) < (j : Int) ↔ 0 < j; omega))
  | some i =>
    show cellK ints7 i _ = _
    refine cell_step (ints7_at (idx7 h1)) (int_step ?_)
    cases h2 : idxO v kinds7 0 with
    | none =>
      show ifK (decide ((i : Int) < 0)) (K true) _ = _
      exact fin _ _ (decide_eq_decide.2 (by show (i : Int) < 0 ↔ i < 0; omega))
    | some j =>
      show cellK ints7 j _ = _
      refine cell_step (ints7_at (idx7 h2)) (int_step ?_)
      exact fin _ _ (decide_eq_decide.2 (by show (i : Int) < (j : Int) ↔ i < j; omega))
/-! ### All areas -/
section
variable {call : CL} {h : Hl} {t : Nat} {p : Pt} {x : ByteArray × Int}
structure C7 (call : CL) (h : Hl) (t : Nat) (p : Pt) (x : ByteArray × Int) : Prop where
  one : One (hasA p) h.areas x
  c45 : ∀ a ∈ h.areas, call 45 [.slc a.2.1 a.2.2.length (ptsC a.2.2), ptD p] = some (errOr 0 (conGo p (sdL a.2.2) (-1)))
  l3 : ∀ a ∈ h.areas, 3 ≤ a.2.2.length ∧ a.2.2.length ≤ 64
  c19 : call 19 [holeD (tH t h), ptD p] = some (errLoc 0 x)
  c17 : call 17 [] = some (.bool true)
  n : h.areas.length ≤ 1000
  ne : h.areas ≠ []
  t : t < 256
theorem end7 (hC : C7 call h t p x) :
    (optK (call 19 [holeD (tH t h), ptD p]) fun r_11 =>
      (tupK (r_11) 3 fun c_10 =>
      (cellK (c_10) (0) fun d_45 =>
      (strK (d_45) fun s_7 =>
      (cellK (c_10) (1) fun d_46 =>
      (intK IntKind.i64 (d_46) fun x_35 =>
      (cellK (c_10) (2) fun d_47 =>
      (intK IntKind.i64 (d_47) fun x_36 =>
      (ifK (x_36 == 0)
        (ifK (ByteArray.toList s_7 == ByteArray.toList x.1)
          (ifK (x_35 == x.2)
            (optK (call 17 []) fun r_12 =>
              (boolK (r_12) fun b_4 =>
              (some (D.bool b_4))))
            (some (D.bool false)))
          (some (D.bool false)))
        (some (D.bool false))))))))))) = some (.bool true) := by
  refine opt_step (x := errLoc 0 x) hC.c19 ?_
  refine (rd_errLoc 0 x _).trans ?_
  show ifK ((0 : Int) == 0) (ifK (ByteArray.toList x.1 == ByteArray.toList x.1) (ifK (x.2 == x.2) _ _) _) _ = _
  rw [seqB_self, show (x.2 == x.2) = true from beq_self_eq_true _, show ((0 : Int) == 0) = true from rfl, ifK_true, ifK_true, ifK_true]
  exact opt_step (x := D.bool true) hC.c17 rfl
theorem go7 (hC : C7 call h t p x) : ∀ (r pre : List Ar) (fuel : Nat), pre ++ r = h.areas → r.length < fuel →
    A7 call h t p x (strsC kinds7) ints7 fuel (pre.length : Int) (ownOw (pre.map (tA t))) = some (.bool true) := by
  intro r
  induction r with
  | nil =>
    intro pre fuel hp hf
    obtain ⟨fuel, rfl⟩ : ∃ n, fuel = n + 1 := ⟨fuel - 1, by omega⟩
    rw [List.append_nil] at hp
    have hne := hC.ne
    cases pre with
    | nil => exact absurd hp.symm hne
    | cons y r =>
      have e0 : decide (((y :: r).length : Int) < (h.areas.length : Int)) = false := by rw [hp]; exact decide_eq_false (by omega)
      have h1 := end7 hC
      have e1 : holeD (tH t h) = .agg [.str h.name, .int .i64 h.tee.1, .int .i64 h.tee.2, .int .i64 h.cup.1, .int .i64 h.cup.2, .slc h.lf h.line.length (ptsC h.line), .slc false ((y :: r).map (tA t)).length (arsC ((y :: r).map (tA t)))] := by
        unfold holeD tH
        rw [← hp]
      rw [e1] at h1
      refine (F7_16378_eqo ..).trans ?_
      rw [e0, ifK_false]
      exact h1
  | cons a r ih =>
    intro pre fuel hp hf
    obtain ⟨fuel, rfl⟩ : ∃ n, fuel = n + 1 := ⟨fuel - 1, by omega⟩
    have ih := ih (pre ++ [a]) fuel (by rw [← hp]; simp) (by simp at hf; omega)
    have ham : a ∈ h.areas := by rw [← hp]; simp
    have hat : h.areas[pre.length]? = some a := by rw [← hp]; simp
    have hlen : pre.length < h.areas.length := by rw [← hp]; simp
    have hn := hC.n
    have e1 : decide ((pre.length : Int) < (h.areas.length : Int)) = true := by simp; omega
    have e2 : decide ((0 : Int) ≤ (pre.length : Int) ∧ (pre.length : Int) < (h.areas.length : Int)) = true := decide_eq_true ⟨by omega, by omega⟩
    have q0 : ∀ {γ : Type} (k : D → Option γ), cellK (arsC h.areas) (Int.toNat (pre.length : Int) * 2 + 0) k = k (.str a.1) := fun k => by rw [← hp]; exact a0 pre a r
    have q1 : ∀ {γ : Type} (k : D → Option γ), cellK (arsC h.areas) (Int.toNat (pre.length : Int) * 2 + 1) k = k (.slc a.2.1 a.2.2.length (ptsC a.2.2)) := fun k => by rw [← hp]; exact a1 pre a r
    -- what the checks say
    have hb : ∀ {c : Int}, conGo p (sdL a.2.2) (-1) = c → T7 call h t p x (strsC kinds7) ints7 fuel (pre.length : Int) c (decide (rk a.1 < rk x.1) || (seqB a.1 x.1 && decide ((pre.length : Int) < x.2))) (ownOw (pre.map (tA t))) a = some (.bool true) := fun {c} hc => by
      have hh : hasA p a = decide (c ≥ 0) := by unfold hasA; rw [hc]
      rw [t7, s7 hC.t (by omega) (hC.l3 a ham).1 (by have := (hC.l3 a ham).2; omega) (by simp; omega)]
      · have e3 : ownOw ((pre ++ [a]).map (tA t)) = .own ((pre.map (tA t)).length + 1) (arsC (pre.map (tA t) ++ [tA t a])) := by
          rw [List.map_append, List.map_cons, List.map_nil]
          cases hq : pre.map (tA t) ++ [tA t a] with
          | nil => simp at hq
          | cons y l =>
            show Ow.own (y :: l).length _ = _
            rw [← hq, List.length_append]
            rfl
        rw [e3] at ih
        rw [List.length_append] at ih
        exact ih
      · cases hq : ((pre.length : Int) == x.2)
        · rfl
        · have := hC.one.it pre.length a hat (by simpa using hq)
          rw [hh] at this
          have := of_decide_eq_true this
          rw [Bool.true_and]
          exact decide_eq_false (by omega)
      · cases hq : (decide (rk a.1 < rk x.1) || (seqB a.1 x.1 && decide ((pre.length : Int) < x.2)))
        · rfl
        · have := hC.one.bf pre.length a hat hq
          rw [hh] at this
          rw [this]; rfl
      · cases hq : decide (x.2 < 0)
        · rfl
        · have := hC.one.no (of_decide_eq_true hq) a ham
          rw [hh] at this
          rw [this]; rfl
    have h45 := hC.c45 a ham
    have key := hb rfl
    cases pre with
    | nil =>
      refine (F7_16378_eqn ..).trans ?_
      rw [e1, ifK_true]
      refine chk_step e2 ?_
      refine (q0 _).trans ?_
      rw [strK_str]
      refine (q1 _).trans ?_
      refine slc_step (opt_step h45 ?_)
      refine (rd_errOr 0 _ _).trans ?_
      show ifK ((0 : Int) != 0) _ _ = _
      rw [show ((0 : Int) != 0) = false from rfl, ifK_false]
      exact (step7 fun b => T7 call h t p x (strsC kinds7) ints7 fuel ((([] : List Ar).length : Nat) : Int) (conGo p (sdL a.2.2) (-1)) b .nil a).trans key
    | cons y r =>
      refine (F7_16378_eqo ..).trans ?_
      rw [e1, ifK_true]
      refine chk_step e2 ?_
      refine (q0 _).trans ?_
      rw [strK_str]
      refine (q1 _).trans ?_
      refine slc_step (opt_step h45 ?_)
      refine (rd_errOr 0 _ _).trans ?_
      show ifK ((0 : Int) != 0) _ _ = _
      rw [show ((0 : Int) != 0) = false from rfl, ifK_false]
      exact (step7 fun b => T7 call h t p x (strsC kinds7) ints7 fuel (((y :: r).length : Nat) : Int) (conGo p (sdL a.2.2) (-1)) b (ownOw ((y :: r).map (tA t))) a).trans key
end
end Go.Pd
end
section
namespace Go.Pd
open Go Go.Proofs Go.RowKit
set_option maxRecDepth 100000
section
variable {call : CL} {h : Hl} {t : Nat} {p : Pt} {x : ByteArray × Int}
noncomputable abbrev Q7 (call : CL) (h : Hl) (t : Nat) (p : Pt) (x : ByteArray × Int) (n : Nat) (i : Int) (ks vs : List D) : Option D :=
  F7_1018 call LL C1 n (t : Int) h.name h.tee.1 h.tee.2 h.cup.1 h.cup.2 h.lf h.line.length (ptsC h.line) h.af h.areas.length (arsC h.areas) p.1 p.2 x.1 x.2 true 6 (strsC kinds6) ((6 : Nat) : Int) i ks vs
noncomputable abbrev U7 (call : CL) (h : Hl) (t : Nat) (p : Pt) (x : ByteArray × Int) (b : Bool) (ks vs : List D) : Option D :=
  F7_2045 call LL C1 (t : Int) x.1 x.2 h.name h.tee.1 h.tee.2 h.cup.1 h.cup.2 h.lf h.line.length (ptsC h.line) h.af h.areas.length (arsC h.areas) p.1 p.2 b ks vs
theorem step18 {fuel i : Nat} {k : ByteArray} {ks vs ks' vs' : List D} (hk : kinds6[i]? = some k) (hu : updD (.str k) (.int .i64 (i : Int)) ks vs = some (ks', vs')) :
    Q7 call h t p x (fuel + 1) (i : Int) ks vs = Q7 call h t p x fuel ((i + 1 : Nat) : Int) ks' vs' := by
  have hi : i < 6 := (List.getElem?_eq_some_iff.1 hk).1
  refine (F7_1018_eq ..).trans ?_
  rw [decide_eq_true (show (i : Int) < ((6 : Nat) : Int) by omega), ifK_true]
  refine chk_step (decide_eq_true ⟨by omega, by omega⟩) ?_
  refine cell_step (d := .str k) (by unfold strsC; rw [Nat.mul_one, Int.toNat_natCast, List.getElem?_map, hk]; rfl) ?_
  rw [strK_str, hu, show IntKind.wrap .i64 ((i : Int) + 1) = ((i + 1 : Nat) : Int) from (wrap_in (by omega)).trans (by omega)]
  rfl
theorem rank7 {fuel j : Nat} (hj : idxO x.1 kinds7 0 = some j) : Q7 call h t p x (fuel + 7) 0 [] [] = U7 call h t p x true (strsC kinds7) ints7 := by
  refine (step18 (i := 0) (k := ByteArray.mk #[103, 114, 101, 101, 110]) (ks' := strsC (kinds6.take 1)) (vs' := ints7.take 1) rfl (by kernel_rfl)).trans ?_
  refine (step18 (i := 1) (k := ByteArray.mk #[116, 101, 101]) (ks' := strsC (kinds6.take 2)) (vs' := ints7.take 2) rfl (by kernel_rfl)).trans ?_
  refine (step18 (i := 2) (k := ByteArray.mk #[98, 117, 110, 107, 101, 114]) (ks' := strsC (kinds6.take 3)) (vs' := ints7.take 3) rfl (by kernel_rfl)).trans ?_
  refine (step18 (i := 3) (k := ByteArray.mk #[119, 97, 116, 101, 114]) (ks' := strsC (kinds6.take 4)) (vs' := ints7.take 4) rfl (by kernel_rfl)).trans ?_
  refine (step18 (i := 4) (k := ByteArray.mk #[102, 97, 105, 114, 119, 97, 121]) (ks' := strsC (kinds6.take 5)) (vs' := ints7.take 5) rfl (by kernel_rfl)).trans ?_
  refine (step18 (i := 5) (k := ByteArray.mk #[114, 111, 117, 103, 104]) (ks' := strsC (kinds6.take 6)) (vs' := ints7.take 6) rfl (by kernel_rfl)).trans ?_
  refine (F7_1018_eq ..).trans ?_
  rw [decide_eq_false (show ¬ (((5 + 1 : Nat) : Int) < ((6 : Nat) : Int)) by omega), ifK_false, show updD (D.str (ByteArray.mk #[111, 117, 116])) (D.int IntKind.i64 6) (strsC (kinds6.take 6)) (ints7.take 6) = some (strsC kinds7, ints7) by kernel_rfl]
  show findK (findD (D.str x.1) (strsC kinds7) 0) _ _ = _
  rw [find_strs, hj]
  show cellK ints7 j _ = _
  exact cell_step (ints7_at (idx7 hj)) (int_step rfl)
theorem mid7 (hC : C7 call h t p x) : U7 call h t p x true (strsC kinds7) ints7 = some (.bool true) := by
  have hO := hC.one
  have lo := hO.lo
  have hi := hO.hi
  have go : F7_1023 call LL C1 (t : Int) x.1 x.2 h.name h.tee.1 h.tee.2 h.cup.1 h.cup.2 h.lf h.line.length (ptsC h.line) h.af h.areas.length (arsC h.areas) p.1 p.2 (strsC kinds7) ints7 = some (.bool true) := by
    rw [F7_1023_eq (C := C1) (hC := fun _ => rfl)]
    exact go7 hC h.areas [] LL rfl (by have := hC.n; unfold LL; omega)
  refine (F7_2045_eq (C := C1) (hC := fun _ => rfl) ..).trans ?_
  rw [Bool.not_true, ifK_false, decide_eq_false (show ¬ (x.2 < -1) by omega), ifK_false, decide_eq_false (show ¬ (x.2 ≥ (h.areas.length : Int)) by omega), ifK_false,
    show (ByteArray.toList x.1 == ByteArray.toList (ByteArray.mk #[111, 117, 116])) = seqB x.1 outS from rfl, hO.out, show ((x.2 == -1) == (x.2 == -1)) = true from beq_self_eq_true _, Bool.not_true, ifK_false]
  by_cases h0 : x.2 ≥ 0
  · rw [decide_eq_true h0, ifK_true]
    refine chk_step (decide_eq_true ⟨h0, hi⟩) ?_
    have hlt : x.2.toNat < h.areas.length := by omega
    obtain ⟨a, ha⟩ : ∃ a, h.areas[x.2.toNat]? = some a := ⟨_, List.getElem?_eq_getElem hlt⟩
    obtain ⟨pre, r, hs, hl⟩ : ∃ pre r, h.areas = pre ++ a :: r ∧ pre.length = x.2.toNat := by
      refine ⟨h.areas.take x.2.toNat, h.areas.drop (x.2.toNat + 1), ?_, by simp; omega⟩
      have e := List.take_append_drop x.2.toNat h.areas
      rw [List.drop_eq_getElem_cons hlt, (List.getElem?_eq_some_iff.1 ha).2] at e
      exact e.symm
    have q0 : ∀ {γ : Type} (k : D → Option γ), cellK (arsC h.areas) (Int.toNat x.2 * 2 + 0) k = k (.str a.1) := fun k => by
      have e : cellK (arsC (pre ++ a :: r)) (Int.toNat (pre.length : Int) * 2 + 0) k = k (.str a.1) := a0 pre a r
      rw [← hs, Int.toNat_natCast, hl] at e
      exact e
    refine (q0 _).trans ?_
    rw [strK_str, show (ByteArray.toList a.1 == ByteArray.toList x.1) = seqB a.1 x.1 from rfl, hO.kind a h0 ha, Bool.not_true, ifK_false]
    exact go
  · rw [decide_eq_false h0, ifK_false]
    exact go
end
theorem okf7 : okFn Tryz.prog O7 Tryz.f7 = true := by kernel_rfl
def fam45 (h : Hl) (p : Pt) : Fam := ⟨45, {a : Ar // a ∈ h.areas}, fun a => [.slc a.1.2.1 a.1.2.2.length (ptsC a.1.2.2), ptD p], fun a => errOr (firstZ [polErr a.1.2.2, ifK (outP p) 3 0]) (conGo p (sdL a.1.2.2) (-1))⟩
theorem fam45_good {h : Hl} (hk : h.Ok) (p : Pt) : (fam45 h p).Good := ⟨fun a => ok45 a.1.2.2 p (hk.c a.1 a.2), fun (a b : {a : Ar // a ∈ h.areas}) e => by
  have e : ([.slc a.1.2.1 a.1.2.2.length (ptsC a.1.2.2), ptD p] : List D) = [.slc b.1.2.1 b.1.2.2.length (ptsC b.1.2.2), ptD p] := e
  simp only [List.cons.injEq, D.slc.injEq, and_true] at e
  show errOr (firstZ [polErr a.1.2.2, ifK (outP p) 3 0]) (conGo p (sdL a.1.2.2) (-1)) = errOr (firstZ [polErr b.1.2.2, ifK (outP p) 3 0]) (conGo p (sdL b.1.2.2) (-1))
  rw [ptsC_inj e.2.2], fun _ => rfl⟩
theorem ok7 (h : Hl) (hb : h.areas.length * 40 ≤ 140737488355328) (p : Pt) (t : Nat) (ht : t < 256) : OK2 7 [holeD h, ptD p, .int .u8 (t : Int)] (.bool true) := by
  cases hs : shH (ownH h) 6 8
  · obtain ⟨B, hB, e15, e43, e17, _⟩ := exF [one 15 [holeD h] (holeD (ownH h)), one 43 [holeD (ownH h), .int .i64 6, .int .i64 8] (.bool false), one 17 [] (.bool true)]
      ⟨one_good (ok15 h hb) rfl, one_good (ok43n _ 6 8 hs) rfl, one_good ok17 rfl, trivial⟩ rfl
    refine fnT hB Tryz.func7 (ord := O7) (N := N7) okf7 ((F7_eq _ _ _ h.name h.tee.1 h.tee.2 h.cup.1 h.cup.2 h.lf h.line.length (ptsC h.line) h.af h.areas.length (arsC h.areas) p.1 p.2 (t : Int)).trans ?_)
    refine opt_step (x := holeD (ownH h)) (e15 ()) ?_
    rw [rd_hole]
    refine opt_step (x := D.bool false) (e43 ()) ?_
    rw [boolK_bool, Bool.not_false, ifK_true]
    exact opt_step (x := D.bool true) (e17 ()) rfl
  · have hk : h.Ok := by
      have := shH_ok hs
      exact ⟨this.n, this.l, this.a, this.c⟩
    have hk' := ownH_ok hk
    have h43 := ok43 (ownH h) hk' 6 8 hs
    rw [show refHole (ownH h) = holeE h from (hole_same h).symm] at h43
    by_cases hzp : holeE h = 0 ∧ outP p = false
    · obtain ⟨hz, hp⟩ := hzp
      have hf : firstZ [holeE h, ifK (outP p) 3 0] = 0 := by rw [hz, hp]; rfl
      have hf' : firstZ [holeE (tH t h), ifK (outP p) 3 0] = 0 := by rw [holeE_turn t hz, hp]; rfl
      have g1 := ok19 h hk p
      rw [hf] at g1
      have g2 := ok19 (tH t h) (tH_ok t hk) p
      rw [hf', loc_turn t hz (inP_of hp)] at g2
      obtain ⟨B, hB, e15, e43, e17, e24, e19, e44, e45, _⟩ := exF [one 15 [holeD h] (holeD (ownH h)), one 43 [holeD (ownH h), .int .i64 6, .int .i64 8] (.bool (holeE h == 0)), one 17 [] (.bool true), one 24 [ptD p] (.int .i64 (ifK (outP p) 3 0)),
          ⟨19, Bool, fun b => [holeD (if b = true then h else tH t h), ptD p], fun _ => errLoc 0 (locP h p)⟩, one 44 [] (.slc true 6 (strsC kinds6)), fam45 h p]
        ⟨one_good (ok15 h hb) rfl, one_good h43 rfl, one_good ok17 rfl, one_good (ok24 p) rfl, ⟨fun b => by
          cases b
          · exact g2
          · exact g1, fun _ _ _ => rfl, fun _ => rfl⟩, one_good ok44 rfl, fam45_good hk p, trivial⟩ rfl
      have hC : C7 (callOf B) h t p (locP h p) := by
        refine ⟨one_of fun a ha => (arsE_zero (hole_zero hz).2.1 a ha).1, fun a ha => ?_, fun a ha => ?_, e19 false, e17 (), hk.a, areas_ne hz, ht⟩
        · have h45 : callOf B 45 [.slc a.2.1 a.2.2.length (ptsC a.2.2), ptD p] = some (errOr (firstZ [polErr a.2.2, ifK (outP p) 3 0]) (conGo p (sdL a.2.2) (-1))) := e45 ⟨a, ha⟩
          rw [(arsE_zero (hole_zero hz).2.1 a ha).2, hp] at h45
          exact h45
        · obtain ⟨c1, c2, _⟩ := polErr_zero (arsE_zero (hole_zero hz).2.1 a ha).2
          exact ⟨c1, c2⟩
      refine fnT hB Tryz.func7 (ord := O7) (N := N7) okf7 ((F7_eq _ _ _ h.name h.tee.1 h.tee.2 h.cup.1 h.cup.2 h.lf h.line.length (ptsC h.line) h.af h.areas.length (arsC h.areas) p.1 p.2 (t : Int)).trans ?_)
      refine opt_step (x := holeD (ownH h)) (e15 ()) ?_
      rw [rd_hole]
      refine opt_step (x := D.bool (holeE h == 0)) (e43 ()) ?_
      rw [boolK_bool, show (holeE h == 0) = true by simpa using hz, Bool.not_true, ifK_false]
      refine opt_step (x := D.int .i64 (ifK (outP p) 3 0)) (e24 ()) (int_step ?_)
      rw [hp, ifK_false, show ((0 : Int) != 0) = false from rfl, ifK_false]
      refine (F7_15_eq (C := C1) (hC := fun _ => rfl) ..).trans ?_
      have f19 : callOf B 19 [holeD h, ptD p] = some (errLoc 0 (locP h p)) := e19 true
      refine opt_step f19 ?_
      refine (rd_errLoc 0 (locP h p) _).trans ?_
      show ifK ((0 : Int) != 0) _ _ = _
      rw [show ((0 : Int) != 0) = false from rfl, ifK_false]
      refine opt_step (x := D.slc true 6 (strsC kinds6)) (e44 ()) (slc_step ?_)
      obtain ⟨j, hj⟩ := hC.one.known
      obtain ⟨n, hn⟩ : ∃ n, LL = n + 7 := ⟨4611686018427387897, rfl⟩
      refine Eq.trans ?_ ((rank7 (fuel := n) (call := callOf B) (h := h) (t := t) (p := p) hj).trans (mid7 hC))
      rw [← hn]
      rfl
    · obtain ⟨B, hB, e15, e43, e17, e24, _⟩ := exF [one 15 [holeD h] (holeD (ownH h)), one 43 [holeD (ownH h), .int .i64 6, .int .i64 8] (.bool (holeE h == 0)), one 17 [] (.bool true), one 24 [ptD p] (.int .i64 (ifK (outP p) 3 0))]
        ⟨one_good (ok15 h hb) rfl, one_good h43 rfl, one_good ok17 rfl, one_good (ok24 p) rfl, trivial⟩ rfl
      refine fnT hB Tryz.func7 (ord := O7) (N := N7) okf7 ((F7_eq _ _ _ h.name h.tee.1 h.tee.2 h.cup.1 h.cup.2 h.lf h.line.length (ptsC h.line) h.af h.areas.length (arsC h.areas) p.1 p.2 (t : Int)).trans ?_)
      refine opt_step (x := holeD (ownH h)) (e15 ()) ?_
      rw [rd_hole]
      refine opt_step (x := D.bool (holeE h == 0)) (e43 ()) ?_
      rw [boolK_bool]
      by_cases hz : holeE h = 0
      · have hp : outP p = true := by
          cases hp : outP p
          · exact absurd ⟨hz, hp⟩ hzp
          · rfl
        rw [show (holeE h == 0) = true by simpa using hz, Bool.not_true, ifK_false]
        refine opt_step (x := D.int .i64 (ifK (outP p) 3 0)) (e24 ()) (int_step ?_)
        rw [hp, ifK_true, show ((3 : Int) != 0) = true from rfl, ifK_true]
        exact opt_step (x := D.bool true) (e17 ()) rfl
      · rw [show (holeE h == 0) = false by simpa using hz, Bool.not_false, ifK_true]
        exact opt_step (x := D.bool true) (e17 ()) rfl
end Go.Pd
end
