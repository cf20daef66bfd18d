/-
  Chapter 5: a table of calls from what is known of each of them.
  Chapter 5: what FormatFourballs makes of open arguments (printed by the desk's tool, each proved by the kernel).
  Chapter 5: what FormatFourballs itself makes of open arguments (printed by the desk's tool, each proved by the kernel).
  Chapter 5: players, one after another: turned into those of the reference, few, checked.
  Chapter 5: players checked by the reference; the best net strokes of a hole, by both.
  Chapter 5: a fourball's net strokes, by the program and by the reference.
  Chapter 5: fourballs and aggregates: what the program and the reference answer.
  FormatFourballs is true of all holes and players.
-/
import Derived.Test.YtanpmgfaieekhaaGreatDoorFmC2
import Derived.Test.YtanpmgfaieekhaaGreatDoorFmA
import Derived.KernelRfl
section
namespace Go.Pd
open Go Go.Proofs Go.RowKit

/-! ### Families of calls -/
/-- Calls of one function, by what tells them apart. -/
structure Fam where
  f : FuncId
  ι : Type
  a : ι → List D
  r : ι → D
def Fam.Good (F : Fam) : Prop := (∀ i, OK5 F.f (F.a i) (F.r i)) ∧ (∀ i j, F.a i = F.a j → F.r i = F.r j) ∧ ∀ i, cstG F.f (F.a i) = none
def AllGood : List Fam → Prop
  | [] => True
  | F :: l => F.Good ∧ AllGood l
def AllF (B : FuncId → List D → Option D) : List Fam → Prop
  | [] => True
  | F :: l => (∀ i, callOf B F.f (F.a i) = some (F.r i)) ∧ AllF B l
theorem allGood_mem : ∀ {l : List Fam}, AllGood l → ∀ F ∈ l, F.Good
  | [], _, F, hF => by cases hF
  | F0 :: l, h, F, hF => by
    rcases List.mem_cons.1 hF with rfl | hF
    · exact h.1
    · exact allGood_mem h.2 F hF
theorem allF_of {B : FuncId → List D → Option D} : ∀ {l : List Fam}, (∀ F ∈ l, ∀ i, callOf B F.f (F.a i) = some (F.r i)) → AllF B l
  | [], _ => trivial
  | F :: _, h => ⟨h F (List.mem_cons_self ..), allF_of fun e he => h e (List.mem_cons_of_mem _ he)⟩
open Classical in
noncomputable def bFam (l : List Fam) : FuncId → List D → Option D := fun k ds =>
  if h : ∃ r, ∃ F ∈ l, ∃ i : F.ι, F.f = k ∧ F.a i = ds ∧ F.r i = r then some h.choose else none
theorem bFam_ok {l : List Fam} (h : AllGood l) : CallsT (bFam l) := by
  intro k ds r hr
  unfold bFam at hr
  split at hr
  · rename_i hx
    cases hr
    obtain ⟨F, hF, i, rfl, rfl, h3⟩ := hx.choose_spec
    rw [← h3]
    exact (allGood_mem h F hF).1 i
  · cases hr
/-- Is a number unlike others? -/
def newF : List FuncId → Bool
  | [] => true
  | x :: l => l.all (fun y => x != y) && newF l
theorem newF_eq : ∀ {l : List Fam}, newF (l.map Fam.f) = true → ∀ F ∈ l, ∀ F' ∈ l, F.f = F'.f → F = F'
  | [], _, F, hF, _, _, _ => by cases hF
  | F0 :: l, h, F, hF, F', hF', he => by
    simp only [List.map_cons, newF, Bool.and_eq_true, List.all_eq_true, bne_iff_ne, ne_eq] at h
    have key : ∀ G ∈ l, F0.f ≠ G.f := fun G hG => h.1 G.f (List.mem_map.2 ⟨G, hG, rfl⟩)
    rcases List.mem_cons.1 hF with h1 | h1
    · rcases List.mem_cons.1 hF' with h2 | h2
      · rw [h1, h2]
      · exact absurd (h1 ▸ he) (key F' h2)
    · rcases List.mem_cons.1 hF' with h2 | h2
      · exact absurd (h2 ▸ he).symm (key F h1)
      · exact newF_eq h.2 F h1 F' h2 he
/-- Families of calls make a table. -/
theorem exF (l : List Fam) (h : AllGood l) (hn : newF (l.map Fam.f) = true) : ∃ B, CallsT B ∧ AllF B l := by
  refine ⟨bFam l, bFam_ok h, allF_of fun F hF i => ?_⟩
  obtain ⟨_, h2, h3⟩ := allGood_mem h F hF
  rw [callOf_b (h3 i)]
  have hx : ∃ r, ∃ F' ∈ l, ∃ j : F'.ι, F'.f = F.f ∧ F'.a j = F.a i ∧ F'.r j = r := ⟨F.r i, F, hF, i, rfl, rfl, rfl⟩
  unfold bFam
  rw [dif_pos hx]
  obtain ⟨F', hF', j, h4, h5, h6⟩ := hx.choose_spec
  obtain rfl := newF_eq hn F' hF' F hF h4
  rw [← h6, h2 j i h5]
/-- One call. -/
def one (f : FuncId) (ds : List D) (r : D) : Fam := ⟨f, Unit, fun _ => ds, fun _ => r⟩
theorem one_good {f : FuncId} {ds : List D} {r : D} (h : OK5 f ds r) (hc : cstG f ds = none) : (one f ds r).Good := ⟨fun _ => h, fun _ _ _ => rfl, fun _ => hc⟩
def fam83 : Fam := ⟨83, Bool × Int, fun x => [.bool x.1, .int .i64 x.2], fun x => .int .i64 (ifK x.1 x.2 0)⟩
theorem fam83_good : fam83.Good := ⟨fun x => ok83 x.1 x.2, fun x y h => by
  simp only [fam83, List.cons.injEq, D.bool.injEq, D.int.injEq, true_and, and_true] at h
  show D.int .i64 (ifK x.1 x.2 0) = .int .i64 (ifK y.1 y.2 0)
  rw [h.1, h.2], fun _ => rfl⟩
def fam81 : Fam := ⟨81, Int × Int, fun x => [.slc true 2 [.int .i64 x.1, .int .i64 x.2]], fun x => .int .i64 (fst2 x.1 x.2)⟩
theorem fam81_good : fam81.Good := ⟨fun x => ok81 x.1 x.2, fun x y h => by
  simp only [fam81, List.cons.injEq, D.slc.injEq, D.int.injEq, true_and, and_true] at h
  show D.int .i64 (fst2 x.1 x.2) = .int .i64 (fst2 y.1 y.2)
  rw [h.1, h.2], fun _ => rfl⟩
end Go.Pd
end

section
namespace Go.Pd
open Go Go.Proofs
set_option maxRecDepth 100000
def N37 : NTab := fun p => match p with
  | 58 => some { keep := [3, 6, 7, 8], kl := [5], ren := [(5, 5), (15, 15)] }
  | _ => none
noncomputable def F37_58 (call : FuncId → List D → Option D) (L : Nat) (C : Nat → Nat) (n : Nat) (vl_f : Bool) (vl_n : Nat) (vl_c : List D) (vout : Ow) (t7 : Int) (t8 : Int) : Option D :=
  loopAt (TEf call L C) O0 N37 FinM.canon Tryz.f37 [true, true, false, true, false] []  n (St.mk [J, J, J, ownD 15 vout, J, J, D.slc vl_f vl_n vl_c, D.int IntKind.i64 t7, D.int IntKind.i64 t8, J, J, J, J, J, J, J, J, J] [Z, Z, Z, Z, Z, Z, Z, Z, Z, Z, Z, Z, Z, Z, Z, ownO 38 3 vout, Z, Z])
theorem F37_58_eqn (call : FuncId → List D → Option D) (L : Nat) (C : Nat → Nat) (n : Nat) (vl_f : Bool) (vl_n : Nat) (vl_c : List D) (t7 : Int) (t8 : Int) : F37_58 call L C  (n + 1) vl_f vl_n vl_c (Ow.nil) (t7) (t8) =
  (ifK (decide (t8 < t7))
    (chkK (decide (0 ≤ t8 ∧ t8 < (vl_n : Int)))
      (cellK (vl_c) (Int.toNat t8 * 3 + 0) fun d =>
      (strK (d) fun s =>
      (cellK (vl_c) (Int.toNat t8 * 3 + 1) fun d_1 =>
      (slcK (d_1) fun f n_1 c =>
      (cellK (vl_c) (Int.toNat t8 * 3 + 2) fun d_2 =>
      (intK IntKind.i64 (d_2) fun x =>
      (F37_58 call L C n vl_f vl_n vl_c (Ow.own 1 [D.str s, D.slc f n_1 c, D.int IntKind.i64 x]) (t7) (IntKind.wrap IntKind.i64 (t8 + 1))))))))))
    (some (D.slc true 0 []))) := by kernel_rfl
theorem F37_58_eqo (call : FuncId → List D → Option D) (L : Nat) (C : Nat → Nat) (n : Nat) (vl_f : Bool) (vl_n : Nat) (vl_c : List D) (vout_n : Nat) (vout_c : List D) (t7 : Int) (t8 : Int) : F37_58 call L C  (n + 1) vl_f vl_n vl_c (Ow.own vout_n vout_c) (t7) (t8) =
  (ifK (decide (t8 < t7))
    (chkK (decide (0 ≤ t8 ∧ t8 < (vl_n : Int)))
      (cellK (vl_c) (Int.toNat t8 * 3 + 0) fun d_3 =>
      (strK (d_3) fun s_1 =>
      (cellK (vl_c) (Int.toNat t8 * 3 + 1) fun d_4 =>
      (slcK (d_4) fun f_1 n_2 c_1 =>
      (cellK (vl_c) (Int.toNat t8 * 3 + 2) fun d_5 =>
      (intK IntKind.i64 (d_5) fun x_1 =>
      (chkK (decide ((vout_n + 1) * 48 ≤ limit ∧ vout_n + 1 ≤ 9223372036854775807))
        (F37_58 call L C n vl_f vl_n vl_c (Ow.own (vout_n + 1) (vout_c ++ [D.str s_1, D.slc f_1 n_2 c_1, D.int IntKind.i64 x_1])) (t7) (IntKind.wrap IntKind.i64 (t8 + 1)))))))))))
    (some (D.slc false vout_n vout_c))) := by kernel_rfl
theorem F37_eq (call : FuncId → List D → Option D) (L : Nat) (C : Nat → Nat) (vl_f : Bool) (vl_n : Nat) (vl_c : List D) : evFnT (TEf call L C) O0 N37 FinM.canon Tryz.f37 [D.slc vl_f vl_n vl_c] =
  (F37_58 call L C L vl_f vl_n vl_c (Ow.nil) ((vl_n : Int)) (0)) := by kernel_rfl

end Go.Pd
end

section
namespace Go.Pd
open Go Go.Proofs
set_option maxRecDepth 100000
end Go.Pd
end

section
namespace Go.Pd
open Go Go.Proofs Go.RowKit

/-- A player: name, entries, handicap strokes. -/
abbrev PlV := ByteArray × List NetV × Int
def plC (p : PlV) : List D := [.str p.1, .slc false p.2.1.length (p.2.1.flatMap netD), .int .i64 p.2.2]
section
variable {γ : Type} (pre : List PlV) (x : PlV) (r : List PlV) {k : D → Option γ}
theorem p0 : cellK ((pre ++ x :: r).flatMap plC) (Int.toNat (pre.length : Int) * 3 + 0) k = k (.str x.1) := cell_row pre x r plC 3 (fun _ => rfl) 0 (by omega) k
theorem p1 : cellK ((pre ++ x :: r).flatMap plC) (Int.toNat (pre.length : Int) * 3 + 1) k = k (.slc false x.2.1.length (x.2.1.flatMap netD)) := cell_row pre x r plC 3 (fun _ => rfl) 1 (by omega) k
theorem p2 : cellK ((pre ++ x :: r).flatMap plC) (Int.toNat (pre.length : Int) * 3 + 2) k = k (.int .i64 x.2.2) := cell_row pre x r plC 3 (fun _ => rfl) 2 (by omega) k
end
theorem nets_inj : ∀ {a b : List NetV}, a.flatMap netD = b.flatMap netD → a = b
  | [], [], _ => rfl
  | [], x :: b, h => by simp [netD] at h
  | x :: a, [], h => by simp [netD] at h
  | x :: a, y :: b, h => by
    simp only [List.flatMap_cons, netD, List.cons_append, List.nil_append, List.cons.injEq, D.int.injEq, D.str.injEq, true_and] at h
    obtain ⟨h1, h2, h3⟩ := h
    rw [nets_inj h3, show x = y from Prod.ext h1 h2]
theorem plC_inj {x y : PlV} (h : plC x = plC y) : x = y := by
  simp only [plC, List.cons.injEq, D.str.injEq, D.slc.injEq, D.int.injEq, true_and, and_true] at h
  obtain ⟨h1, ⟨_, h2⟩, h3⟩ := h
  exact Prod.ext h1 (Prod.ext (nets_inj h2) h3)

/-! ### Few -/
def shPs : List PlV → Bool
  | [] => true
  | x :: r => ifK (!shP x.1 x.2.1) false (shPs r)
theorem shPs_mem : ∀ {l : List PlV}, shPs l = true → ∀ x ∈ l, x.1.size ≤ 60 ∧ x.2.1.length ≤ 39
  | [], _, x, hx => by cases hx
  | y :: r, h, x, hx => by
    unfold shPs at h
    cases hy : shP y.1 y.2.1 with
    | false => rw [hy, Bool.not_false, ifK_true] at h; cases h
    | true =>
      rw [hy, Bool.not_true, ifK_false] at h
      rcases List.mem_cons.1 hx with rfl | hx
      · exact shP_true hy
      · exact shPs_mem h x hx

/-! ### Checked -/
/-- Does a text stand among others? -/
def namedB (s : ByteArray) : List PlV → Bool
  | [] => false
  | x :: r => (ByteArray.toList x.1 == ByteArray.toList s) || namedB s r
/-- The first error of players, some behind others. -/
def plsGo (n : Nat) (P S : Nat → Int) : List PlV → List PlV → Int
  | _, [] => 0
  | pre, x :: r => ifK (plErr n P S x.1 x.2.1 x.2.2 != 0) (plErr n P S x.1 x.2.1 x.2.2) (ifK (namedB x.1 pre) 9 (plsGo n P S (pre ++ [x]) r))
theorem str_beq (a b : ByteArray) : (a == b) = (ByteArray.toList a == ByteArray.toList b) := by
  rw [ByteArray.toList_eq, ByteArray.toList_eq]
  obtain ⟨x⟩ := a
  obtain ⟨y⟩ := b
  show (x == y) = (x.toList == y.toList)
  simp
/-- What a look into names finds. -/
theorem find_named (s : ByteArray) : ∀ (l : List PlV) (i : Nat), (findD (.str s) (l.map fun x => D.str x.1) i = some none ∧ namedB s l = false) ∨ ∃ j, findD (.str s) (l.map fun x => D.str x.1) i = some (some (i + j)) ∧ j < l.length ∧ namedB s l = true
  | [], _ => .inl ⟨rfl, rfl⟩
  | x :: l, i => by
    have hk : keyEq (.str s) (.str x.1) = some (ByteArray.toList x.1 == ByteArray.toList s) := by
      show some (s == x.1) = _
      rw [str_beq, Bool.beq_comm]
    simp only [List.map_cons, findD, hk, namedB]
    cases hxy : (ByteArray.toList x.1 == ByteArray.toList s) with
    | true => exact .inr ⟨0, rfl, by simp, rfl⟩
    | false =>
      rcases find_named s l (i + 1) with ⟨h1, h2⟩ | ⟨j, h1, h2, h3⟩
      · exact .inl ⟨h1, h2⟩
      · exact .inr ⟨j + 1, by rw [show i + (j + 1) = i + 1 + j by omega]; exact h1, by simp; exact h2, h3⟩
section
variable {f g : Bool} {n m : Nat} {c : List D} {P S : Nat → Int}
/-- Calls of one of some players, behind an argument. -/
def famPl (k : FuncId) (d : D) (l : List PlV) (F : PlV → D) : Fam := ⟨k, {x : PlV // x ∈ l}, fun x => [d, .agg (plC x.1)], fun x => F x.1⟩
theorem famPl_good {k : FuncId} {d : D} {l : List PlV} {F : PlV → D} (h : ∀ x ∈ l, OK5 k [d, .agg (plC x)] (F x)) (hc : ∀ x, cstG k [d, .agg (plC x)] = none) : (famPl k d l F).Good :=
  ⟨fun x => h x.1 x.2, fun x y e => by
    simp only [famPl, List.cons.injEq, D.agg.injEq, true_and, and_true] at e
    show F x.1 = F y.1
    rw [plC_inj e], fun x => hc x.1⟩
theorem go87 {call : FuncId → List D → Option D} {l : List PlV} (h57 : ∀ x ∈ l, call 57 [.slc f n c, .agg (plC x)] = some (.int .i64 (plErr n P S x.1 x.2.1 x.2.2)))
    (h83 : ∀ b e, call 83 [.bool b, .int .i64 e] = some (.int .i64 (ifK b e 0))) (h81 : ∀ x y, call 81 [.slc true 2 [.int .i64 x, .int .i64 y]] = some (.int .i64 (fst2 x y))) : ∀ (r pre : List PlV) (fuel : Nat), pre ++ r = l → l.length ≤ 1000 → r.length < fuel →
    F87_58 call LL C1 fuel f n c g l.length (l.flatMap plC) l.length (pre.length : Int) (pre.map fun x => D.str x.1) (pre.map fun _ => D.bool true) = some (.int .i64 (plsGo n P S pre r)) := by
  intro r
  induction r with
  | nil =>
    intro pre fuel hn hB hf
    cases fuel with
    | zero => exact absurd hf (Nat.not_lt_zero _)
    | succ fuel =>
      subst hn
      rw [F87_58_eq, end_pre, ifK_false]
      rfl
  | cons x r ih =>
    intro pre fuel hn hB hf
    cases fuel with
    | zero => exact absurd hf (Nat.not_lt_zero _)
    | succ fuel =>
      have ih := ih (pre ++ [x]) fuel (by rw [app1]; exact hn) hB (by simp at hf; omega)
      have hx : call 57 [.slc f n c, .agg [.str x.1, .slc false x.2.1.length (x.2.1.flatMap netD), .int .i64 x.2.2]] = _ := h57 x (by rw [← hn]; simp)
      subst hn
      have hfind := find_named x.1 pre 0
      rw [F87_58_eq, lt_pre, ifK_true, in_pre, chkK_true, p0, strK_str, p1, slcK_slc, p2, intK_int, hx, optK_some, intK_int, step_pre pre x r (by omega),
        show plsGo n P S pre (x :: r) = ifK (plErr n P S x.1 x.2.1 x.2.2 != 0) (plErr n P S x.1 x.2.1 x.2.2) (ifK (namedB x.1 pre) 9 (plsGo n P S (pre ++ [x]) r)) from rfl]
      generalize plErr n P S x.1 x.2.1 x.2.2 = e
      rcases hfind with ⟨h1, h2⟩ | ⟨j, h1, h2, h3⟩
      · have hu : updD (.str x.1) (.bool true) (pre.map fun x => D.str x.1) (pre.map fun _ => D.bool true) = some ((pre ++ [x]).map fun x => D.str x.1, (pre ++ [x]).map fun _ => D.bool true) := by
          unfold updD
          rw [h1]
          simp
        rw [h1, h2]
        show optK (call 83 [.bool false, .int .i64 9]) _ = _
        rw [h83, optK_some, intK_int, h81, optK_some, intK_int, hu]
        show ifK (fst2 e 0 != 0) _ (F87_58 call LL C1 fuel f n c g _ _ _ _ _ _) = _
        rw [ih, ifK_false]
        unfold fst2
        cases he : e != 0 with
        | true => rw [ifK_true, ifK_true, he, ifK_true]
        | false => rfl
      · rw [h1, h3]
        show cellK (pre.map fun _ => D.bool true) (0 + j) _ = _
        rw [cellK_some (show (pre.map fun _ => D.bool true)[0 + j]? = some (.bool true) by simp [h2]), boolK_bool, h83, optK_some, intK_int, h81, optK_some, intK_int, ifK_true]
        unfold fst2
        cases he : e != 0 with
        | true => rw [ifK_true, ifK_true, he, ifK_true]
        | false => rfl
theorem ok87 (hc : HolesC n c P S) (l : List PlV) (hl : l.length ≤ 1000) (hs : ∀ x ∈ l, x.1.size ≤ 60 ∧ x.2.1.length ≤ 39) : OK5 87 [.slc f n c, .slc g l.length (l.flatMap plC)] (.int .i64 (plsGo n P S [] l)) := by
  obtain ⟨B, hb, h57, h83, h81, _⟩ := exF [famPl 57 (.slc f n c) l fun x => .int .i64 (plErr n P S x.1 x.2.1 x.2.2), fam83, fam81]
    ⟨famPl_good (fun x hx => ok57 hc x.1 x.2.1 x.2.2 (by have := (hs x hx).1; omega) (by have := (hs x hx).2; omega)) (fun _ => rfl), fam83_good, fam81_good, trivial⟩ rfl
  refine fnT hb Tryz.func87 (ord := O0) (N := N87) (by kernel_rfl) ((F87_eq _ _ _ _ _ _ _ _ _).trans ?_)
  exact go87 (f := f) (g := g) (fun x hx => h57 ⟨x, hx⟩) (fun b e => h83 (b, e)) (fun x y => h81 (x, y)) l [] LL rfl hl (by unfold LL; omega)
end
end Go.Pd
end

section
namespace Go.Pd
open Go Go.Proofs Go.RowKit

section
variable {f g : Bool} {n : Nat} {c : List D} {P S : Nat → Int}
theorem p00 {γ : Type} (pre : List PlV) (x : PlV) (r : List PlV) {k : D → Option γ} : cellK ((pre ++ x :: r).flatMap plC) (Int.toNat (pre.length : Int) * 3 + 0 + 0) k = k (.str x.1) := p0 pre x r
theorem in40 {call : FuncId → List D → Option D} {l : List PlV} {pre : List PlV} {x : PlV} {r : List PlV} (hl : pre ++ x :: r = l) (hB : l.length ≤ 1000) (N : Nat) : ∀ (q p : List PlV) (fuel : Nat), p ++ q = pre → q.length < fuel →
    F40_6734 call LL C1 N fuel f n c g l.length (l.flatMap plC) (pre.length : Int) (p.length : Int) = ifK (namedB x.1 q) (some (.int .i64 9)) (F40_26 call LL C1 N f n c g l.length (l.flatMap plC) ((pre ++ [x]).length : Int)) := by
  intro q
  induction q with
  | nil =>
    intro p fuel hp hf
    cases fuel with
    | zero => exact absurd hf (Nat.not_lt_zero _)
    | succ fuel =>
      subst hl
      rw [List.append_nil] at hp
      subst hp
      have h1 : decide ((p.length : Int) < (p.length : Int)) = false := by simp
      rw [F40_6734_eq, h1, ifK_false, step_pre p x r (by omega)]
      rfl
  | cons y q ih =>
    intro p fuel hp hf
    cases fuel with
    | zero => exact absurd hf (Nat.not_lt_zero _)
    | succ fuel =>
      have ih := ih (p ++ [y]) fuel (by rw [app1]; exact hp) (by simp at hf; omega)
      subst hp
      have h1 : decide ((p.length : Int) < ((p ++ y :: q).length : Int)) = true := lt_pre p y q
      have e1 : (p ++ y :: q) ++ x :: r = p ++ y :: (q ++ x :: r) := by simp
      have h2 : decide ((0 : Int) ≤ (p.length : Int) ∧ (p.length : Int) < (l.length : Int)) = true := by rw [← hl, e1]; exact in_pre p y (q ++ x :: r)
      have h3 : decide ((0 : Int) ≤ ((p ++ y :: q).length : Int) ∧ ((p ++ y :: q).length : Int) < (l.length : Int)) = true := by rw [← hl]; exact in_pre (p ++ y :: q) x r
      have c1 : ∀ {γ : Type} (k : D → Option γ), cellK (l.flatMap plC) (Int.toNat (p.length : Int) * 3 + 0 + 0) k = k (.str y.1) := fun k => by rw [← hl, e1]; exact p00 p y (q ++ x :: r)
      have c2 : ∀ {γ : Type} (k : D → Option γ), cellK (l.flatMap plC) (Int.toNat ((p ++ y :: q).length : Int) * 3 + 0 + 0) k = k (.str x.1) := fun k => by rw [← hl]; exact p00 (p ++ y :: q) x r
      have hw : IntKind.wrap .i64 ((p.length : Int) + 1) = ((p ++ [y]).length : Int) := step_pre p y (q ++ x :: r) (by rw [← e1, hl]; omega)
      rw [F40_6734_eq, h1, ifK_true, h2, chkK_true, c1, strK_str, h3, chkK_true, c2, strK_str, hw, ih, show namedB x.1 (y :: q) = ((ByteArray.toList y.1 == ByteArray.toList x.1) || namedB x.1 q) from rfl]
      cases (ByteArray.toList y.1 == ByteArray.toList x.1) <;> rfl
theorem go40 {call : FuncId → List D → Option D} {l : List PlV} (h23 : ∀ x ∈ l, call 23 [.slc f n c, .agg (plC x)] = some (.int .i64 (plErr n P S x.1 x.2.1 x.2.2))) : ∀ (r pre : List PlV) (fuel : Nat), pre ++ r = l → l.length ≤ 1000 → r.length < fuel →
    F40_26 call LL C1 fuel f n c g l.length (l.flatMap plC) (pre.length : Int) = some (.int .i64 (plsGo n P S pre r)) := by
  intro r
  induction r with
  | nil =>
    intro pre fuel hn hB hf
    cases fuel with
    | zero => exact absurd hf (Nat.not_lt_zero _)
    | succ fuel =>
      subst hn
      rw [F40_26_eq, end_pre, ifK_false]
      rfl
  | cons x r ih =>
    intro pre fuel hn hB hf
    cases fuel with
    | zero => exact absurd hf (Nat.not_lt_zero _)
    | succ fuel =>
      have ih := ih (pre ++ [x]) fuel (by rw [app1]; exact hn) hB (by simp at hf; omega)
      have hx : call 23 [.slc f n c, .agg [.str x.1, .slc false x.2.1.length (x.2.1.flatMap netD), .int .i64 x.2.2]] = _ := h23 x (by rw [← hn]; simp)
      have hin := in40 (f := f) (g := g) (n := n) (c := c) (call := call) hn hB fuel pre [] LL rfl (by have : pre.length ≤ l.length := (by rw [← hn]; simp); unfold LL; omega)
      rw [ih, show (([] : List PlV).length : Int) = 0 from rfl] at hin
      subst hn
      rw [F40_26_eq, lt_pre, ifK_true, in_pre, chkK_true, p0, strK_str, p1, slcK_slc, p2, intK_int, hx, optK_some, intK_int, hin,
        show plsGo n P S pre (x :: r) = ifK (plErr n P S x.1 x.2.1 x.2.2 != 0) (plErr n P S x.1 x.2.1 x.2.2) (ifK (namedB x.1 pre) 9 (plsGo n P S (pre ++ [x]) r)) from rfl]
      cases plErr n P S x.1 x.2.1 x.2.2 != 0 <;> cases namedB x.1 pre <;> rfl
theorem ok40 (hc : HolesC n c P S) (l : List PlV) (hl : l.length ≤ 1000) (hs : ∀ x ∈ l, x.1.size ≤ 60 ∧ x.2.1.length ≤ 39) : OK5 40 [.slc f n c, .slc g l.length (l.flatMap plC)] (.int .i64 (plsGo n P S [] l)) := by
  obtain ⟨B, hb, h23, _⟩ := exF [famPl 23 (.slc f n c) l fun x => .int .i64 (plErr n P S x.1 x.2.1 x.2.2)]
    ⟨famPl_good (fun x hx => ok23 hc x.1 x.2.1 x.2.2 (by have := (hs x hx).2; omega)) (fun _ => rfl), trivial⟩ rfl
  refine fnT hb Tryz.func40 (ord := O0) (N := N40) (by kernel_rfl) ((F40_eq _ _ _ _ _ _ _ _ _).trans ?_)
  exact go40 (f := f) (g := g) (fun x hx => h23 ⟨x, hx⟩) l [] LL rfl hl (by unfold LL; omega)
/-- What valid players are. -/
theorem pls_zero : ∀ {r pre : List PlV}, plsGo n P S pre r = 0 → ∀ x ∈ r, plErr n P S x.1 x.2.1 x.2.2 = 0
  | [], _, _, x, hx => by cases hx
  | y :: r, pre, h, x, hx => by
    unfold plsGo at h
    cases h1 : plErr n P S y.1 y.2.1 y.2.2 != 0 with
    | true => rw [h1, ifK_true] at h; rw [h] at h1; cases h1
    | false =>
      rw [h1, ifK_false] at h
      cases h2 : namedB y.1 pre with
      | true => rw [h2, ifK_true] at h; cases h
      | false =>
        rw [h2, ifK_false] at h
        rcases List.mem_cons.1 hx with rfl | hx
        · simpa using h1
        · exact pls_zero h x hx
end

theorem ex : emptyB (ByteArray.mk #[120]) = false := by kernel_rfl
theorem dx : dashB (ByteArray.mk #[120]) = false := by kernel_rfl
theorem dd : dashB (ByteArray.mk #[45]) = true := by kernel_rfl
theorem mx : markX (ByteArray.mk #[120]) = true := by kernel_rfl
end Go.Pd
end

section
namespace Go.Pd
open Go Go.Proofs Go.RowKit

/-- The net strokes of a player. -/
def ntP (n : Nat) (S : Nat → Int) (p : PlV) : List NetV := ntGo (gvH n S p.2.2) p.2.1 0
section
variable {γ : Type} {l : List NetV} {i : Nat} {k : D → Option γ}
end
section
variable {f g : Bool} {n : Nat} {c : List D} {S : Nat → Int} {call : FuncId → List D → Option D} {l : List PlV}
end
end Go.Pd
end

section
namespace Go.Pd
open Go Go.Proofs Go.RowKit

section
variable {f g : Bool} {n : Nat} {c : List D} {call : FuncId → List D → Option D} {a b : List NetV}
end
end Go.Pd
end

section
namespace Go.Pd
open Go Go.Proofs Go.RowKit

theorem ints_inj : ∀ {a b : List Int}, ints a = ints b → a = b
  | [], [], _ => rfl
  | [], x :: b, h => by cases h
  | x :: a, [], h => by cases h
  | x :: a, y :: b, h => by
    simp only [ints, List.map_cons, List.cons.injEq, D.int.injEq, true_and] at h
    obtain ⟨h1, h2⟩ := h
    have h3 : a = b := ints_inj h2
    rw [h1, h3]
/-- Calls of one of some players, ahead of an argument. -/
def famPr (k : FuncId) (d : D) (l : List PlV) (F : PlV → D) : Fam := ⟨k, {x : PlV // x ∈ l}, fun x => [.agg (plC x.1), d], fun x => F x.1⟩
theorem famPr_good {k : FuncId} {d : D} {l : List PlV} {F : PlV → D} (h : ∀ x ∈ l, OK5 k [.agg (plC x), d] (F x)) (hc : ∀ x, cstG k [.agg (plC x), d] = none) : (famPr k d l F).Good :=
  ⟨fun x => h x.1 x.2, fun x y e => by
    simp only [famPr, List.cons.injEq, D.agg.injEq, and_true] at e
    show F x.1 = F y.1
    rw [plC_inj e], fun x => hc x.1⟩
theorem slN_inj {a b : List NetV} (h : slR netD a = slR netD b) : a = b := by
  simp only [slR, D.slc.injEq] at h
  exact nets_inj h.2.2
section
variable {f g : Bool} {n : Nat} {c : List D} {P S : Nat → Int}
theorem ok89p (hc : HolesC n c P S) {x : PlV} (h : plErr n P S x.1 x.2.1 x.2.2 = 0) : OK5 89 [.agg (plC x), .slc f n c] (slR netD (ntP n S x)) := by
  obtain ⟨⟨a1, a2, _⟩, ⟨a4, a5⟩, a6, _⟩ := plErr_zero h
  have := ok89 (f := f) (g := false) hc a1 a2 a4 a5 x.1 x.2.1 a6
  unfold plC
  rw [a6]
  exact this
theorem ok26p (hc : HolesC n c P S) {x : PlV} (h : plErr n P S x.1 x.2.1 x.2.2 = 0) : OK5 26 [.slc f n c, .agg (plC x)] (slR netD (ntP n S x)) := by
  obtain ⟨⟨a1, a2, a3⟩, ⟨a4, a5⟩, a6, a7⟩ := plErr_zero h
  have := ok26 (f := f) (g := false) hc a1 a2 a3 a4 a5 x.1 x.2.1 a6 a7
  unfold plC
  rw [a6]
  exact this
def wide (l : List PlV) : Bool := decide ((l.length : Int) < 2) || decide ((l.length : Int) > 4)
end
end Go.Pd
end
