/-
  Chapter 2: calls whose answer may be a nil slice.
  Chapter 2: stations put into rounds by the reference, as equations.
  Chapter 2: rounds of stations by the reference, as equations.
  Chapter 2: the law of upkeep, as equations.
  Chapter 2: a slice turned round, as equations.
  Chapter 2: rows of numbers, tables of numbers, a row turned round.
  Chapter 2: stations put into rounds by the reference; they are those of the program.
  CourseUpkeep: Rotation and Rounds return the results or the errors of the reference.
  Chapter 2: numbers and pairs of numbers, laid open.
-/
import Derived.Test.YtmhbhlbnlmbhlaaGreatDoorCrB
import Derived.KernelRfl
import Derived.Test.YtmhbhlbnlmbhlaaGreatDoorCrA
import Derived.Test.YtmhbhlbnlmbhlaaGreatDoorCrF
import Derived.Test.YtmhbhlbnlmbhlaaGreatDoorCrM
import Derived.Test.YtmhbhlbnlmbhlaaGreatDoorCrI
import Derived.Test.YtmhbhlbnlmbhlaaGreatDoorCrLaw
section
namespace Go.Pd
open Go Go.Proofs

def splV : FuncId → Bool := fun k => match k with
  | 105 => true
  | 114 => true
  | _ => false
noncomputable def TEv (call : FuncId → List D → Option D) (L : Nat) (C : Nat → Nat) : TE := { E := { P := Tryz.prog, gl := glO, call := call, L := L, wr := wrM noMu, spl := splV }, cst := cstG, C := C, sq := sqT }
theorem fnV {base : FuncId → List D → Option D} (hb : CallsT base) {f : FuncId} {fn : Func} (hf : Tryz.prog.funcs[f]? = some fn) {ord : Ord} {N : NTab} {keep : FinM} (hk : keep = .canon ∨ keep = .raw) (hok : okFn Tryz.prog ord fn = true) {ds : List D} {r : D}
    (he : evFnT (TEv (callOf base) LL C1) ord N keep fn ds = some r) : OK2 f ds r :=
  evFnT_ok (Te := TEv (callOf base) LL C1) mixedT ⟨callOf_ok hb, wrM_ok noMu_ok, wrM_ow⟩ callOf_cst rfl sqT_ok hf (by rcases hk with h | h <;> subst h <;> simp) hok he
end Go.Pd
end

section
namespace Go.Pd
open Go Go.Proofs
set_option maxRecDepth 100000
end Go.Pd
end

section
namespace Go.Pd
open Go Go.Proofs
set_option maxRecDepth 100000
end Go.Pd
end

section
namespace Go.Pd
open Go Go.Proofs
set_option maxRecDepth 100000
end Go.Pd
end

section
namespace Go.Pd
open Go Go.Proofs
set_option maxRecDepth 100000
def N177 : NTab := fun p => match p with
  | 6 => some { keep := [0, 2, 3], kl := [], ren := [] }
  | _ => none
noncomputable def F177_6 (call : FuncId → List D → Option D) (mu : FuncId → List D → Option D) (L : Nat) (C : Nat → Nat) (te0 : TypeId) (tn0 : Nat) (n : Nat) (vs_n : Nat) (vi : Int) (vj : Int) (vs_c_1 : List D) : Option D :=
  loopAt (TEM call mu L C te0 tn0) O0 N177 (FinM.over te0 tn0) Tryz.f177 [true, false] []  n (St.mk [D.own 0 0 vs_n, J, D.int IntKind.i64 vi, D.int IntKind.i64 vj, J, J, J, J, J, J, J, J, J, J, J, J, J, J, J, J, J, J, J, J, J, J, J, J] [(1, some (Ob.arr te0 tn0 vs_c_1 false)), Z, Z, Z, Z, Z, Z, Z, Z, Z, Z, Z, Z, Z, Z, Z, Z, Z, Z, Z, Z, Z, Z, Z, Z, Z, Z, Z])
theorem F177_6_eq (call : FuncId → List D → Option D) (mu : FuncId → List D → Option D) (L : Nat) (C : Nat → Nat) (te0 : TypeId) (tn0 : Nat) (n : Nat) (vs_n : Nat) (vi : Int) (vj : Int) (vs_c_1 : List D) : F177_6 call mu L C te0 tn0  (n + 1) vs_n (vi) (vj) (vs_c_1) =
  (ifK (decide (vi < vj))
    (chkK (decide (0 ≤ vj ∧ vj < (vs_n : Int)))
      (cellK (vs_c_1) (Int.toNat vj * 1) fun d =>
      (intK IntKind.i64 (d) fun x =>
      (chkK (decide (0 ≤ vi ∧ vi < (vs_n : Int)))
        (cellK (vs_c_1) (Int.toNat vi * 1) fun d_1 =>
        (intK IntKind.i64 (d_1) fun x_1 =>
        (chkK (decide (0 ≤ vi ∧ vi < (vs_n : Int)))
          (chkK (decide (Int.toNat vi * 1 + 1 ≤ List.length vs_c_1))
            (chkK (decide (0 ≤ vj ∧ vj < (vs_n : Int)))
              (chkK (decide (Int.toNat vj * 1 + 1 ≤ List.length (writeAt vs_c_1 (Int.toNat vi * 1) [D.int IntKind.i64 x])))
                (F177_6 call mu L C te0 tn0 n vs_n (IntKind.wrap IntKind.i64 (vi + 1)) (IntKind.wrap IntKind.i64 (vj - 1)) (writeAt (writeAt vs_c_1 (Int.toNat vi * 1) [D.int IntKind.i64 x]) (Int.toNat vj * 1) [D.int IntKind.i64 x_1]))))))))))))
    (chkK (decide (te0 = te0))
      (chkK (decide (tn0 = tn0))
        (chkK (decide (List.length vs_c_1 = vs_n * tn0))
          (chkK (List.all vs_c_1 D.plain)
            (some (D.slc false vs_n vs_c_1))))))) := by kernel_rfl
theorem F177_eq (call : FuncId → List D → Option D) (mu : FuncId → List D → Option D) (L : Nat) (C : Nat → Nat) (te0 : TypeId) (tn0 : Nat) (vs_n : Nat) (vs_c : List D) : evFnTM (TEM call mu L C te0 tn0) O0 N177 te0 tn0 Tryz.f177 vs_n vs_c [] =
  (F177_6 call mu L C te0 tn0 L vs_n (0) (IntKind.wrap IntKind.i64 ((vs_n : Int) - 1)) (vs_c)) := by kernel_rfl

end Go.Pd
end

section
namespace Go.Pd
open Go Go.Proofs Go.RowKit
set_option maxRecDepth 100000

/-! ### Rows -/
theorem ints_app1 (l : List Int) (x : Int) : ints l ++ [D.int .i64 x] = ints (l ++ [x]) := by simp [ints]
def rowF (n : Nat) (f : Nat → Int) : List Int := (List.range n).map f
theorem rowF_len (n : Nat) (f : Nat → Int) : (rowF n f).length = n := by simp [rowF]
theorem rowF_get {n k : Nat} (f : Nat → Int) (h : k < n) : (rowF n f)[k]? = some (f k) := by simp [rowF, h]
theorem rowF_set (n : Nat) (f : Nat → Int) (v : Nat) (x : Int) : (rowF n f).set v x = rowF n (updF f v x) := by
  apply List.ext_getElem?
  intro k
  by_cases hk : k < n
  · rw [rowF_get _ hk]
    by_cases e : v = k
    · subst e
      rw [List.getElem?_set_self (by rw [rowF_len]; exact hk), updF_same]
    · rw [List.getElem?_set_ne e, rowF_get _ hk, updF_ne _ _ (fun h => e h.symm)]
  · rw [List.getElem?_eq_none (by simp [rowF_len]; omega), List.getElem?_eq_none (by rw [rowF_len]; omega)]
theorem rowF_ext {n : Nat} {f g : Nat → Int} (h : ∀ k, k < n → f k = g k) : rowF n f = rowF n g :=
  List.map_congr_left fun k hk => h k (List.mem_range.1 hk)
theorem row_of (l : List Int) : l = rowF l.length fun k => l.getD k 0 := by
  apply List.ext_getElem?
  intro k
  by_cases hk : k < l.length
  · rw [rowF_get _ hk, List.getElem?_eq_getElem hk, List.getD_eq_getElem?_getD, List.getElem?_eq_getElem hk]
    rfl
  · rw [List.getElem?_eq_none (by omega), List.getElem?_eq_none (by rw [rowF_len]; omega)]
theorem rep_row (n : Nat) : List.replicate n (0 : Int) = rowF n fun _ => 0 := by
  apply List.ext_getElem?
  intro k
  by_cases hk : k < n
  · rw [rowF_get _ hk]; simp [hk]
  · rw [List.getElem?_eq_none (by simp; omega), List.getElem?_eq_none (by rw [rowF_len]; omega)]
theorem rep_rowI (n : Nat) : repD n [D.int .i64 0] = ints (rowF n fun _ => 0) := by
  rw [← rep_row]
  induction n with
  | zero => rfl
  | succ n ih => rw [List.replicate_succ]; show D.int .i64 0 :: repD n [D.int .i64 0] = D.int .i64 0 :: ints (List.replicate n 0); rw [ih]

/-! ### A row turned round in place -/
def gR (l : List Int) (i k : Nat) : Int := if k < i ∨ l.length ≤ k + i then l.getD (l.length - 1 - k) 0 else l.getD k 0
theorem gR_zero (l : List Int) : rowF l.length (gR l 0) = l := by
  conv => rhs; rw [row_of l]
  exact rowF_ext fun k hk => by unfold gR; rw [if_neg (by omega)]
theorem gR_step {l : List Int} {i : Nat} (h : i + 1 + i < l.length) : rowF l.length (updF (updF (gR l i) i (gR l i (l.length - 1 - i))) (l.length - 1 - i) (gR l i i)) = rowF l.length (gR l (i + 1)) := rowF_ext fun k hk => by
  have e1 : gR l i (l.length - 1 - i) = l.getD (l.length - 1 - i) 0 := by unfold gR; rw [if_neg (by omega)]
  have e2 : gR l i i = l.getD i 0 := by unfold gR; rw [if_neg (by omega)]
  rw [e1, e2]
  by_cases c1 : k = l.length - 1 - i
  · subst c1
    rw [updF_same]
    unfold gR
    rw [if_pos (by omega), show l.length - 1 - (l.length - 1 - i) = i by omega]
  · rw [updF_ne _ _ c1]
    by_cases c2 : k = i
    · subst c2
      rw [updF_same]
      unfold gR
      rw [if_pos (by omega)]
    · rw [updF_ne _ _ c2]
      unfold gR
      by_cases c3 : k < i ∨ l.length ≤ k + i
      · rw [if_pos c3, if_pos (by omega)]
      · rw [if_neg c3, if_neg (by omega)]
theorem gR_end {l : List Int} {i : Nat} (h : l.length ≤ i + 1 + i) : rowF l.length (gR l i) = l.reverse := by
  apply List.ext_getElem?
  intro k
  by_cases hk : k < l.length
  · rw [rowF_get _ hk, List.getElem?_reverse hk, List.getElem?_eq_getElem (by omega)]
    unfold gR
    by_cases c : k < i ∨ l.length ≤ k + i
    · rw [if_pos c, List.getD_eq_getElem?_getD, List.getElem?_eq_getElem (by omega)]
      rfl
    · rw [if_neg c, List.getD_eq_getElem?_getD, List.getElem?_eq_getElem (by omega)]
      congr 1
      simp only [Option.getD_some]
      congr 1
      omega
  · rw [List.getElem?_eq_none (by rw [rowF_len]; omega), List.getElem?_eq_none (by simp; omega)]
section
variable {call mu : FuncId → List D → Option D} {te : TypeId} {tn : Nat}
theorem go177 {l : List Int} (hl : l.length ≤ 1000) (hn : l.length = l.length * tn) : ∀ (k i fuel : Nat), l.length ≤ i + i + k → i ≤ l.length → k < fuel →
    F177_6 call mu LL C1 te tn fuel l.length (i : Int) ((l.length : Int) - 1 - i) (ints (rowF l.length (gR l i))) = some (.slc false l.length (ints l.reverse)) := by
  intro k
  induction k with
  | zero =>
    intro i fuel hi hil hf
    obtain ⟨fuel, rfl⟩ : ∃ n, fuel = n + 1 := ⟨fuel - 1, by omega⟩
    rw [F177_6_eq, show decide ((i : Int) < (l.length : Int) - 1 - i) = false by simp; omega, ifK_false, decide_eq_true rfl, chkK_true, decide_eq_true rfl, chkK_true, ints_len, rowF_len, decide_eq_true hn, chkK_true, ints_plain, chkK_true, gR_end (by omega)]
  | succ k ih =>
    intro i fuel hi hil hf
    obtain ⟨fuel, rfl⟩ : ∃ n, fuel = n + 1 := ⟨fuel - 1, by omega⟩
    by_cases hd : i + 1 + i < l.length
    · have ih := ih (i + 1) fuel (by omega) (by omega) (by omega)
      have ej : (l.length : Int) - 1 - i = ((l.length - 1 - i : Nat) : Int) := by omega
      have e1 : decide ((0 : Int) ≤ ((l.length - 1 - i : Nat) : Int) ∧ ((l.length - 1 - i : Nat) : Int) < (l.length : Int)) = true := decide_eq_true ⟨by omega, by omega⟩
      have e2 : decide ((0 : Int) ≤ (i : Int) ∧ (i : Int) < (l.length : Int)) = true := decide_eq_true ⟨by omega, by omega⟩
      have hj : l.length - 1 - i < l.length := by omega
      have hi' : i < l.length := by omega
      rw [F177_6_eq, ej, show decide ((i : Int) < ((l.length - 1 - i : Nat) : Int)) = true by simp; omega, ifK_true, e1, chkK_true, cell_at (rowF_get _ hj), intK_int, e2, chkK_true, cell_at (rowF_get _ hi'), intK_int, chkK_true, ints_len, rowF_len, Int.toNat_natCast, decide_eq_true (show i * 1 + 1 ≤ l.length by omega), chkK_true, chkK_true, ints_set, ints_len, List.length_set, rowF_len, Int.toNat_natCast,
        decide_eq_true (show (l.length - 1 - i) * 1 + 1 ≤ l.length by omega), chkK_true, ints_set, rowF_set, rowF_set, gR_step hd, show IntKind.wrap .i64 ((i : Int) + 1) = ((i + 1 : Nat) : Int) from (wrap_in (by omega)).trans (by omega),
        show IntKind.wrap .i64 (((l.length - 1 - i : Nat) : Int) - 1) = (l.length : Int) - 1 - ((i + 1 : Nat) : Int) from (wrap_in (by omega)).trans (by omega)]
      exact ih
    · rw [F177_6_eq, show decide ((i : Int) < (l.length : Int) - 1 - i) = false by simp; omega, ifK_false, decide_eq_true rfl, chkK_true, decide_eq_true rfl, chkK_true, ints_len, rowF_len, decide_eq_true hn, chkK_true, ints_plain, chkK_true, gR_end (by omega)]
end
def isI64 : D → Bool
  | .int .i64 _ => true
  | _ => false
theorem ints_of : ∀ {cs : List D}, cs.all isI64 = true → ∃ l : List Int, cs = ints l
  | [], _ => ⟨[], rfl⟩
  | d :: cs, h => by
    simp only [List.all_cons, Bool.and_eq_true] at h
    obtain ⟨l, rfl⟩ := ints_of h.2
    have h1 := h.1
    unfold isI64 at h1
    split at h1
    · rename_i x; exact ⟨x :: l, rfl⟩
    · cases h1
theorem ints_i64 : ∀ l : List Int, (ints l).all isI64 = true
  | [] => rfl
  | _ :: l => ints_i64 l
def muR : FuncId → List D → Option D := fun k ds => match k with
  | 177 => (match ds with
    | [.slc _ n cs] => ifK (cs.all isI64 && (decide (n ≤ 1000) && decide (cs.length = n))) (some (.slc false n cs.reverse)) none
    | _ => none)
  | _ => none
theorem muR_at (l : List Int) (h : l.length ≤ 1000) : muR 177 [.slc false l.length (ints l)] = some (.slc false l.length (ints l.reverse)) := by
  show ifK ((ints l).all isI64 && (decide (l.length ≤ 1000) && decide ((ints l).length = l.length))) (some (D.slc false l.length (ints l).reverse)) none = _
  rw [ints_i64, decide_eq_true h, decide_eq_true (ints_len l)]
  show some (D.slc false l.length (ints l).reverse) = _
  rw [show (ints l).reverse = ints l.reverse by simp [ints, List.map_reverse]]
theorem okf177 : okFn Tryz.prog O0 Tryz.f177 = true := by kernel_rfl
theorem muR_ok : MutsT trimT muR := by
  intro k cs len rest f m cs' h
  unfold muR at h
  split at h
  · split at h
    · rename_i hd
      cases hd
      cases hc : cs.all isI64 && (decide (len ≤ 1000) && decide (cs.length = len))
      · rw [hc] at h; cases h
      · rw [hc] at h
        cases h
        simp only [Bool.and_eq_true, decide_eq_true_eq] at hc
        obtain ⟨h1, h2, h3⟩ := hc
        obtain ⟨l, rfl⟩ := ints_of h1
        rw [ints_len] at h3
        subst h3
        rw [show (ints l).reverse = ints l.reverse by simp [ints, List.map_reverse]]
        refine fnM none_ok noMu_ok Tryz.func177 (ord := O0) (N := N177) okf177 (by kernel_rfl) fun e n he => (F177_eq _ _ _ _ _ _ _ _).trans ?_
        rw [ints_len] at he
        have hw : IntKind.wrap .i64 ((l.length : Int) - 1) = (l.length : Int) - 1 - ((0 : Nat) : Int) := (wrap_in (by omega)).trans (by omega)
        rw [hw]
        have := go177 (call := callOf fun _ _ => none) (mu := noMu) (te := e) (tn := n) h2 he l.length 0 LL (by omega) (by omega) (by unfold LL; omega)
        rw [gR_zero] at this
        exact this
    · cases h
  · cases h

/-! ### Steps of printed equations -/
section
variable {α : Type} {r : Option α}
theorem find_step {o : Option (Option Nat)} {j : Nat} {e : Option α} {c : Nat → Option α} (h : o = some (some j)) (h2 : c j = r) : findK o e c = r := by
  subst h
  exact h2
theorem cell_step {cs : List D} {i : Nat} {d : D} {k : D → Option α} (h : cs[i]? = some d) (h2 : k d = r) : cellK cs i k = r := (cellK_some h k).trans h2
theorem int_step {kd : IntKind} {n : Int} {k : Int → Option α} (h2 : k n = r) : intK kd (.int kd n) k = r := by
  rw [intK_int]
  exact h2
theorem chk_step {b : Bool} {t : Option α} (h : b = true) (h2 : t = r) : chkK b t = r := by
  subst h
  exact h2
theorem opt_step {β : Type} {o : Option β} {x : β} {k : β → Option α} (h : o = some x) (h2 : k x = r) : optK o k = r := by
  subst h
  exact h2
theorem slc_step {f : Bool} {n : Nat} {cs : List D} {k : Bool → Nat → List D → Option α} (h2 : k f n cs = r) : slcK (.slc f n cs) k = r := h2
theorem if_step {b b' : Bool} {t e t' e' : Option α} (h : b = b') (h1 : b' = true → t = t') (h2 : b' = false → e = e') : ifK b t e = ifK b' t' e' := by
  subst h
  cases b
  · exact h2 rfl
  · exact h1 rfl
end

/-! ### Tables -/
theorem findK_some {α : Type} (i : Nat) (e : Option α) (c : Nat → Option α) : findK (some (some i)) e c = c i := rfl
def asN (v : Nat) : List (Nat × Nat) → Option Nat
  | [] => none
  | (k, x) :: r => if v = k then some x else asN v r
def ixN (v : Nat) : List (Nat × Nat) → Nat → Option Nat
  | [], _ => none
  | (k, _) :: r, i => if v = k then some i else ixN v r (i + 1)
def upN (v x : Nat) : List (Nat × Nat) → List (Nat × Nat)
  | [] => [(v, x)]
  | (k, y) :: r => if v = k then (k, x) :: r else (k, y) :: upN v x r
def kysC (M : List (Nat × Nat)) : List D := M.map fun p => .int .i64 (p.1 : Int)
def vlsC (M : List (Nat × Nat)) : List D := M.map fun p => .int .i64 (p.2 : Int)
theorem findD_ix (v : Nat) : ∀ (M : List (Nat × Nat)) (i : Nat), findD (.int .i64 (v : Int)) (kysC M) i = some (ixN v M i)
  | [], _ => rfl
  | (k, x) :: r, i => by
    have hk : keyEq (.int .i64 (v : Int)) (.int .i64 (k : Int)) = some ((v : Int) == (k : Int)) := rfl
    show (match keyEq (.int .i64 (v : Int)) (.int .i64 (k : Int)) with
      | some true => some (some i)
      | some false => findD (.int .i64 (v : Int)) (kysC r) (i + 1)
      | none => none) = some (if v = k then some i else ixN v r (i + 1))
    rw [hk]
    by_cases e : v = k
    · subst e
      rw [if_pos rfl]
      simp
    · rw [if_neg e, show ((v : Int) == (k : Int)) = false by simp; omega]
      exact findD_ix v r (i + 1)
theorem ix_as {v : Nat} : ∀ {M : List (Nat × Nat)} {i : Nat}, (asN v M = none ∧ ixN v M i = none) ∨ ∃ j x, asN v M = some x ∧ ixN v M i = some (i + j) ∧ (vlsC M)[j]? = some (.int .i64 (x : Int)) ∧ j < M.length
  | [], _ => .inl ⟨rfl, rfl⟩
  | (k, y) :: r, i => by
    by_cases e : v = k
    · exact .inr ⟨0, y, by simp [asN, e], by simp [ixN, e], rfl, by simp⟩
    · rcases ix_as (v := v) (M := r) (i := i + 1) with ⟨h1, h2⟩ | ⟨j, x, h1, h2, h3, h4⟩
      · exact .inl ⟨by simp [asN, e, h1], by simp [ixN, e, h2]⟩
      · exact .inr ⟨j + 1, x, by simp [asN, e, h1], by simp only [ixN, if_neg e, h2]; congr 1; omega, h3, by simp; omega⟩
theorem as_up (v x v' : Nat) : ∀ M : List (Nat × Nat), asN v' (upN v x M) = updF (fun k => asN k M) v (some x) v'
  | [] => by
    unfold updF
    show (if v' = v then some x else none) = _
    rfl
  | (k, y) :: r => by
    have ih := as_up v x v' r
    unfold updF at ih ⊢
    by_cases e : v = k
    · subst e
      simp only [upN, if_true, asN]
      by_cases c : v' = v
      · simp [c]
      · simp [c]
    · simp only [upN, if_neg e, asN]
      by_cases c : v' = k
      · subst c
        rw [if_pos rfl, if_neg (fun h => e h.symm), if_pos rfl]
      · rw [if_neg c, ih]
        split
        · rfl
        · rfl
theorem upd_N (v x : Nat) (M : List (Nat × Nat)) : updD (.int .i64 (v : Int)) (.int .i64 (x : Int)) (kysC M) (vlsC M) = some (kysC (upN v x M), vlsC (upN v x M)) := by
  unfold updD
  rw [findD_ix]
  have key : ∀ (M : List (Nat × Nat)) (i : Nat), match ixN v M i with
      | some j => i ≤ j ∧ kysC (upN v x M) = kysC M ∧ vlsC (upN v x M) = (vlsC M).set (j - i) (.int .i64 (x : Int))
      | none => kysC (upN v x M) = kysC M ++ [.int .i64 (v : Int)] ∧ vlsC (upN v x M) = vlsC M ++ [.int .i64 (x : Int)] := by
    intro M
    induction M with
    | nil => exact fun i => ⟨rfl, rfl⟩
    | cons p r ih =>
      intro i
      obtain ⟨k, y⟩ := p
      by_cases e : v = k
      · subst e
        simp only [ixN, if_true, upN]
        exact ⟨Nat.le_refl _, rfl, by simp [vlsC]⟩
      · have ih := ih (i + 1)
        simp only [ixN, if_neg e, upN]
        cases hx : ixN v r (i + 1) with
        | none =>
          rw [hx] at ih
          exact ⟨by show _ :: kysC (upN v x r) = _; rw [ih.1]; rfl, by show _ :: vlsC (upN v x r) = _; rw [ih.2]; rfl⟩
        | some j =>
          rw [hx] at ih
          obtain ⟨h1, h2, h3⟩ := ih
          refine ⟨by omega, by show _ :: kysC (upN v x r) = _; rw [h2]; rfl, ?_⟩
          show _ :: vlsC (upN v x r) = _
          rw [h3, show j - i = (j - (i + 1)) + 1 by omega]
          rfl
  have := key M 0
  cases hx : ixN v M 0 with
  | none => rw [hx] at this; dsimp only; rw [this.1, this.2]
  | some j => rw [hx] at this; dsimp only; rw [this.2.1, this.2.2]; rfl
end Go.Pd
end

section
namespace Go.Pd
open Go Go.Proofs Go.RowKit
set_option maxRecDepth 100000

/-! ### fill, told of the stations that are left -/
structure FQ (flows : List Int) (rest : List Int) where
  room : List Int
  l : List Int
  h1 : flows.drop l.length = rest
  h2 : l.length ≤ flows.length
  h3 : room.length ≤ 1000
  h4 : Fit 999999999 room
section
variable {call : FuncId → List D → Option D} {ff : Bool} {flows : List Int} {n : Int} {rest room l : List Int} {lf gf : Bool}
end
end Go.Pd
end

section
namespace Go.Pd
open Go Go.Proofs Go.RowKit
set_option maxRecDepth 100000

section
variable {call : FuncId → List D → Option D} {ff : Bool} {flows : List Int} {limit : Int}
end
def famT (k : FuncId) : Fam := ⟨k, {ds : List D // OK2 k ds (.bool true)}, fun x => x.1, fun _ => .bool true⟩
theorem famT_good {k : FuncId} (h : ∀ ds, cstG k ds = none) : (famT k).Good := ⟨fun x => x.2, fun _ _ _ => rfl, fun x => h x.1⟩
theorem rd_sl {γ : Type} (f : Bool) (n : Nat) (c : List D) (e : Int) (k : Bool → Nat → List D → Int → Option γ) : (tupK (.tup [.slc f n c, .int .i64 e]) 2 fun c' => cellK c' 0 fun d => slcK d fun f n c1 => cellK c' 1 fun d1 => intK .i64 d1 fun x => k f n c1 x) = k f n c e := rfl
end Go.Pd
end

section
namespace Go.Pd
open Go Go.Proofs Go.RowKit
set_option maxRecDepth 100000

theorem ty_ints {n : Nat} {c : List D} (h : Ty Tryz.prog (n + 3) 69 c) : ∃ l : List Int, c = [.slc false l.length (ints l)] := by
  obtain ⟨gs, rfl, _, h1⟩ := ty_slice Tryz.underlying69 h
  have key : ∀ gs : List (List D), (∀ g ∈ gs, Ty Tryz.prog (n + 2) 3 g) → ∃ l : List Int, gs.length = l.length ∧ gs.flatten = ints l := by
    intro gs
    induction gs with
    | nil => exact fun _ => ⟨[], rfl, rfl⟩
    | cons g gs ih =>
      intro h
      obtain ⟨l, e1, e2⟩ := ih fun g hg => h g (List.mem_cons_of_mem _ hg)
      obtain ⟨x, rfl, _⟩ := ty_int Tryz.underlying3 (h g (List.mem_cons_self ..))
      exact ⟨x :: l, by simp [e1], by rw [List.flatten_cons, e2]; rfl⟩
  obtain ⟨l, e1, e2⟩ := key gs h1
  exact ⟨l, by rw [e1, e2]⟩
end Go.Pd
end
