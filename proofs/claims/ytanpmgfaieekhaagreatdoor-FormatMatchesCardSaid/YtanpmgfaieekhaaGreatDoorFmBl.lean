/-
  Chapter 5: a table of calls from what is known of each of them.
  Chapter 5: what FormatFourballs makes of open arguments (printed by the desk's tool, each proved by the kernel).
  Chapter 5: what FormatFourballs itself makes of open arguments (printed by the desk's tool, each proved by the kernel).
  Chapter 5: players, one after another: turned into those of the reference, few, checked.
  Chapter 5: players checked by the reference; the best net strokes of a hole, by both.
  Chapter 5: a fourball's net strokes, by the program and by the reference.
  Chapter 5: fourballs and aggregates: what the program and the reference answer.
  FormatFourballs is true of all holes and players.
  FormatFourballs is true of all holes and players.
-/
import Derived.Test.YtanpmgfaieekhaaGreatDoorFmC2
import Derived.Test.YtanpmgfaieekhaaGreatDoorFmA
import Derived.KernelRfl
section
namespace Go.Pd
open Go Go.Proofs Go.RowKit

/-- Each of a list of calls keeps what is said of it. -/
def AllOK : List (FuncId × List D × D) → Prop
  | [] => True
  | (f, ds, r) :: l => OK5 f ds r ∧ AllOK l
/-- A table says of each call what the list says. -/
def AllT (B : FuncId → List D → Option D) : List (FuncId × List D × D) → Prop
  | [] => True
  | (f, ds, r) :: l => callOf B f ds = some r ∧ AllT B l
/-- A call is not named twice. -/
def AllNew : List (FuncId × List D × D) → Prop
  | [] => True
  | (f, ds, r) :: l => (cstG f ds = none ∧ ∀ e ∈ l, e.1 = f → e.2.1 = ds → e.2.2 = r) ∧ AllNew l
theorem allOK_mem : ∀ {l : List (FuncId × List D × D)}, AllOK l → ∀ e ∈ l, OK5 e.1 e.2.1 e.2.2
  | [], _, e, he => by cases he
  | (f, ds, r) :: l, h, e, he => by
    rcases List.mem_cons.1 he with rfl | he
    · exact h.1
    · exact allOK_mem h.2 e he
theorem tabC_mem : ∀ {l : List (FuncId × List D × D)} {f : FuncId} {ds : List D} {r : D}, (∃ e ∈ l, e.1 = f ∧ e.2.1 = ds) → (∀ e ∈ l, e.1 = f → e.2.1 = ds → e.2.2 = r) → tabC l f ds = some r
  | [], f, ds, r, ⟨e, he, _⟩, _ => by cases he
  | (f0, d0, r0) :: l, f, ds, r, ⟨e, he, h1, h2⟩, hu => by
    unfold tabC
    split
    · rename_i hc
      have := hu (f0, d0, r0) (List.mem_cons_self ..) hc.1.symm hc.2.symm
      exact congrArg some this
    · rename_i hc
      rcases List.mem_cons.1 he with rfl | he
      · exact absurd ⟨h1.symm, h2.symm⟩ hc
      · exact tabC_mem ⟨e, he, h1, h2⟩ (fun e he => hu e (List.mem_cons_of_mem _ he))
theorem allT_of {B : FuncId → List D → Option D} : ∀ {l : List (FuncId × List D × D)}, (∀ e ∈ l, callOf B e.1 e.2.1 = some e.2.2) → AllT B l
  | [], _ => trivial
  | (f, ds, r) :: _, h => ⟨h (f, ds, r) (List.mem_cons_self ..), allT_of fun e he => h e (List.mem_cons_of_mem _ he)⟩
theorem allNew_uniq : ∀ {l : List (FuncId × List D × D)}, AllNew l → ∀ e ∈ l, cstG e.1 e.2.1 = none ∧ ∀ e' ∈ l, e'.1 = e.1 → e'.2.1 = e.2.1 → e'.2.2 = e.2.2
  | [], _, e, he => by cases he
  | (f, ds, r) :: l, h, e, he => by
    rcases List.mem_cons.1 he with rfl | he
    · refine ⟨h.1.1, fun e' he' h1 h2 => ?_⟩
      rcases List.mem_cons.1 he' with rfl | he'
      · rfl
      · exact h.1.2 e' he' h1 h2
    · obtain ⟨h3, h4⟩ := allNew_uniq h.2 e he
      refine ⟨h3, fun e' he' h1 h2 => ?_⟩
      rcases List.mem_cons.1 he' with rfl | he'
      · exact (h.1.2 e he h1.symm h2.symm).symm
      · exact h4 e' he' h1 h2
theorem tabC_none {f : FuncId} {ds : List D} : ∀ (l : List (FuncId × List D × D)), (∀ e ∈ l, e.1 ≠ f) → tabC l f ds = none
  | [], _ => rfl
  | (f0, d0, r0) :: l, h => by
    rw [tabC_skip (fun hh => h (f0, d0, r0) (List.mem_cons_self ..) hh.symm)]
    exact tabC_none l fun e he => h e (List.mem_cons_of_mem _ he)
/-- What is known of calls makes a table. -/
theorem exT {base : FuncId → List D → Option D} (hbase : CallsT base) (l : List (FuncId × List D × D)) (h : AllOK l) (hn : AllNew l) :
    ∃ B, CallsT B ∧ AllT B l ∧ ∀ f ds, (∀ e ∈ l, e.1 ≠ f) → callOf B f ds = callOf base f ds := by
  refine ⟨orC (tabC l) base, orC_ok (tabC_ok (allOK_mem h)) hbase, allT_of fun e he => ?_, fun f ds hf => ?_⟩
  · obtain ⟨h1, h2⟩ := allNew_uniq hn e he
    rw [callOf_b h1]
    exact orC_l (tabC_mem ⟨e, he, rfl, rfl⟩ h2)
  · unfold callOf
    cases cstG f ds with
    | some r => rfl
    | none =>
      show orC (tabC l) base f ds = base f ds
      refine orC_r ?_
      cases ht : tabC l f ds with
      | none => rfl
      | some r =>
        rw [tabC_none l hf] at ht
        cases ht
/-- A table of one call. -/
theorem ex1 {f : FuncId} {ds : List D} {r : D} (h : OK5 f ds r) (hc : cstG f ds = none) : ∃ B, CallsT B ∧ callOf B f ds = some r := by
  obtain ⟨B, h1, h2, _⟩ := exT none_ok [(f, ds, r)] ⟨h, trivial⟩ ⟨⟨hc, fun e he => by cases he⟩, trivial⟩
  exact ⟨B, h1, h2.1⟩
/-! ### Families of calls -/
/-- Calls of one function, by what tells them apart. -/
structure Fam where
  f : FuncId
  ι : Type
  a : ι → List D
  r : ι → D
def Fam.Good (F : Fam) : Prop := (∀ i, OK5 F.f (F.a i) (F.r i)) ∧ (∀ i j, F.a i = F.a j → F.r i = F.r j) ∧ ∀ i, cstG F.f (F.a i) = none
def AllGood : List Fam → Prop
  | [] => True
  | F :: l => F.Good ∧ AllGood l
def AllF (B : FuncId → List D → Option D) : List Fam → Prop
  | [] => True
  | F :: l => (∀ i, callOf B F.f (F.a i) = some (F.r i)) ∧ AllF B l
theorem allGood_mem : ∀ {l : List Fam}, AllGood l → ∀ F ∈ l, F.Good
  | [], _, F, hF => by cases hF
  | F0 :: l, h, F, hF => by
    rcases List.mem_cons.1 hF with rfl | hF
    · exact h.1
    · exact allGood_mem h.2 F hF
theorem allF_of {B : FuncId → List D → Option D} : ∀ {l : List Fam}, (∀ F ∈ l, ∀ i, callOf B F.f (F.a i) = some (F.r i)) → AllF B l
  | [], _ => trivial
  | F :: _, h => ⟨h F (List.mem_cons_self ..), allF_of fun e he => h e (List.mem_cons_of_mem _ he)⟩
open Classical in
noncomputable def bFam (l : List Fam) : FuncId → List D → Option D := fun k ds =>
  if h : ∃ r, ∃ F ∈ l, ∃ i : F.ι, F.f = k ∧ F.a i = ds ∧ F.r i = r then some h.choose else none
theorem bFam_ok {l : List Fam} (h : AllGood l) : CallsT (bFam l) := by
  intro k ds r hr
  unfold bFam at hr
  split at hr
  · rename_i hx
    cases hr
    obtain ⟨F, hF, i, rfl, rfl, h3⟩ := hx.choose_spec
    rw [← h3]
    exact (allGood_mem h F hF).1 i
  · cases hr
/-- Is a number unlike others? -/
def newF : List FuncId → Bool
  | [] => true
  | x :: l => l.all (fun y => x != y) && newF l
theorem newF_eq : ∀ {l : List Fam}, newF (l.map Fam.f) = true → ∀ F ∈ l, ∀ F' ∈ l, F.f = F'.f → F = F'
  | [], _, F, hF, _, _, _ => by cases hF
  | F0 :: l, h, F, hF, F', hF', he => by
    simp only [List.map_cons, newF, Bool.and_eq_true, List.all_eq_true, bne_iff_ne, ne_eq] at h
    have key : ∀ G ∈ l, F0.f ≠ G.f := fun G hG => h.1 G.f (List.mem_map.2 ⟨G, hG, rfl⟩)
    rcases List.mem_cons.1 hF with h1 | h1
    · rcases List.mem_cons.1 hF' with h2 | h2
      · rw [h1, h2]
      · exact absurd (h1 ▸ he) (key F' h2)
    · rcases List.mem_cons.1 hF' with h2 | h2
      · exact absurd (h2 ▸ he).symm (key F h1)
      · exact newF_eq h.2 F h1 F' h2 he
/-- Families of calls make a table. -/
theorem exF (l : List Fam) (h : AllGood l) (hn : newF (l.map Fam.f) = true) : ∃ B, CallsT B ∧ AllF B l := by
  refine ⟨bFam l, bFam_ok h, allF_of fun F hF i => ?_⟩
  obtain ⟨_, h2, h3⟩ := allGood_mem h F hF
  rw [callOf_b (h3 i)]
  have hx : ∃ r, ∃ F' ∈ l, ∃ j : F'.ι, F'.f = F.f ∧ F'.a j = F.a i ∧ F'.r j = r := ⟨F.r i, F, hF, i, rfl, rfl, rfl⟩
  unfold bFam
  rw [dif_pos hx]
  obtain ⟨F', hF', j, h4, h5, h6⟩ := hx.choose_spec
  obtain rfl := newF_eq hn F' hF' F hF h4
  rw [← h6, h2 j i h5]
/-- One call. -/
def one (f : FuncId) (ds : List D) (r : D) : Fam := ⟨f, Unit, fun _ => ds, fun _ => r⟩
theorem one_good {f : FuncId} {ds : List D} {r : D} (h : OK5 f ds r) (hc : cstG f ds = none) : (one f ds r).Good := ⟨fun _ => h, fun _ _ _ => rfl, fun _ => hc⟩
def fam83 : Fam := ⟨83, Bool × Int, fun x => [.bool x.1, .int .i64 x.2], fun x => .int .i64 (ifK x.1 x.2 0)⟩
theorem fam83_good : fam83.Good := ⟨fun x => ok83 x.1 x.2, fun x y h => by
  simp only [fam83, List.cons.injEq, D.bool.injEq, D.int.injEq, true_and, and_true] at h
  show D.int .i64 (ifK x.1 x.2 0) = .int .i64 (ifK y.1 y.2 0)
  rw [h.1, h.2], fun _ => rfl⟩
def fam81 : Fam := ⟨81, Int × Int, fun x => [.slc true 2 [.int .i64 x.1, .int .i64 x.2]], fun x => .int .i64 (fst2 x.1 x.2)⟩
theorem fam81_good : fam81.Good := ⟨fun x => ok81 x.1 x.2, fun x y h => by
  simp only [fam81, List.cons.injEq, D.slc.injEq, D.int.injEq, true_and, and_true] at h
  show D.int .i64 (fst2 x.1 x.2) = .int .i64 (fst2 y.1 y.2)
  rw [h.1, h.2], fun _ => rfl⟩
end Go.Pd
end

section
namespace Go.Pd
open Go Go.Proofs
set_option maxRecDepth 100000
def N37 : NTab := fun p => match p with
  | 58 => some { keep := [3, 6, 7, 8], kl := [5], ren := [(5, 5), (15, 15)] }
  | _ => none
noncomputable def F37_58 (call : FuncId → List D → Option D) (L : Nat) (C : Nat → Nat) (n : Nat) (vl_f : Bool) (vl_n : Nat) (vl_c : List D) (vout : Ow) (t7 : Int) (t8 : Int) : Option D :=
  loopAt (TEf call L C) O0 N37 FinM.canon Tryz.f37 [true, true, false, true, false] []  n (St.mk [J, J, J, ownD 15 vout, J, J, D.slc vl_f vl_n vl_c, D.int IntKind.i64 t7, D.int IntKind.i64 t8, J, J, J, J, J, J, J, J, J] [Z, Z, Z, Z, Z, Z, Z, Z, Z, Z, Z, Z, Z, Z, Z, ownO 38 3 vout, Z, Z])
theorem F37_58_eqn (call : FuncId → List D → Option D) (L : Nat) (C : Nat → Nat) (n : Nat) (vl_f : Bool) (vl_n : Nat) (vl_c : List D) (t7 : Int) (t8 : Int) : F37_58 call L C  (n + 1) vl_f vl_n vl_c (Ow.nil) (t7) (t8) =
  (ifK (decide (t8 < t7))
    (chkK (decide (0 ≤ t8 ∧ t8 < (vl_n : Int)))
      (cellK (vl_c) (Int.toNat t8 * 3 + 0) fun d =>
      (strK (d) fun s =>
      (cellK (vl_c) (Int.toNat t8 * 3 + 1) fun d_1 =>
      (slcK (d_1) fun f n_1 c =>
      (cellK (vl_c) (Int.toNat t8 * 3 + 2) fun d_2 =>
      (intK IntKind.i64 (d_2) fun x =>
      (F37_58 call L C n vl_f vl_n vl_c (Ow.own 1 [D.str s, D.slc f n_1 c, D.int IntKind.i64 x]) (t7) (IntKind.wrap IntKind.i64 (t8 + 1))))))))))
    (some (D.slc true 0 []))) := by kernel_rfl
theorem F37_58_eqo (call : FuncId → List D → Option D) (L : Nat) (C : Nat → Nat) (n : Nat) (vl_f : Bool) (vl_n : Nat) (vl_c : List D) (vout_n : Nat) (vout_c : List D) (t7 : Int) (t8 : Int) : F37_58 call L C  (n + 1) vl_f vl_n vl_c (Ow.own vout_n vout_c) (t7) (t8) =
  (ifK (decide (t8 < t7))
    (chkK (decide (0 ≤ t8 ∧ t8 < (vl_n : Int)))
      (cellK (vl_c) (Int.toNat t8 * 3 + 0) fun d_3 =>
      (strK (d_3) fun s_1 =>
      (cellK (vl_c) (Int.toNat t8 * 3 + 1) fun d_4 =>
      (slcK (d_4) fun f_1 n_2 c_1 =>
      (cellK (vl_c) (Int.toNat t8 * 3 + 2) fun d_5 =>
      (intK IntKind.i64 (d_5) fun x_1 =>
      (chkK (decide ((vout_n + 1) * 48 ≤ limit ∧ vout_n + 1 ≤ 9223372036854775807))
        (F37_58 call L C n vl_f vl_n vl_c (Ow.own (vout_n + 1) (vout_c ++ [D.str s_1, D.slc f_1 n_2 c_1, D.int IntKind.i64 x_1])) (t7) (IntKind.wrap IntKind.i64 (t8 + 1)))))))))))
    (some (D.slc false vout_n vout_c))) := by kernel_rfl
theorem F37_eq (call : FuncId → List D → Option D) (L : Nat) (C : Nat → Nat) (vl_f : Bool) (vl_n : Nat) (vl_c : List D) : evFnT (TEf call L C) O0 N37 FinM.canon Tryz.f37 [D.slc vl_f vl_n vl_c] =
  (F37_58 call L C L vl_f vl_n vl_c (Ow.nil) ((vl_n : Int)) (0)) := by kernel_rfl

def N38 : NTab := fun p => match p with
  | 7 => some { keep := [0, 1], kl := [12, 37, 57], ren := [(12, 12), (37, 37), (57, 57)] }
  | 250 => some { keep := [0, 1, 8, 39, 40], kl := [12, 57], ren := [(12, 12), (37, 37), (57, 57)] }
  | 256410 => some { keep := [0, 1, 8, 9, 10, 39, 40, 43, 44, 45], kl := [12], ren := [(12, 12), (37, 37), (57, 57)] }
  | _ => none
noncomputable def F38_256410 (call : FuncId → List D → Option D) (L : Nat) (C : Nat → Nat) (n_1 : Nat) (n_2 : Nat) (vh_f : Bool) (vh_n : Nat) (vh_c : List D) (vl_f : Bool) (vl_n : Nat) (vl_c : List D) (vout_n : Nat) (t40 : Int) (t39 : Int) (t37_c : List D) (vown : Ow) (t44 : Int) (t45 : Int) : Option D :=
  loopAt (TEf call L C) O0 N38 FinM.canon Tryz.f38 [true, true, true, true, false, true, false, false, true, true, false, false, true, true, false, true, false] [n_1]  n_2 (St.mk [D.slc vh_f vh_n vh_c, D.slc vl_f vl_n vl_c, J, J, J, J, J, J, D.own 37 0 vout_n, D.int IntKind.i64 t40, ownD 57 vown, J, J, J, J, J, J, J, J, J, J, J, J, J, J, J, J, J, J, J, J, J, J, J, J, J, J, J, J, D.int IntKind.i64 t39, D.int IntKind.i64 t40, J, J, D.slc vl_f vl_n vl_c, D.int IntKind.i64 t44, D.int IntKind.i64 t45, J, J, J, J, J, J, J, J, J, J, J, J, J, J, J, J, J, J, J, J] [Z, Z, Z, Z, Z, Z, Z, Z, Z, Z, Z, Z, Z, Z, Z, Z, Z, Z, Z, Z, Z, Z, Z, Z, Z, Z, Z, Z, Z, Z, Z, Z, Z, Z, Z, Z, Z, (1, some (Ob.arr 88 2 t37_c false)), Z, Z, Z, Z, Z, Z, Z, Z, Z, Z, Z, Z, Z, Z, Z, Z, Z, Z, Z, ownO 88 2 vown, Z, Z, Z, Z, Z, Z, Z, Z])
noncomputable def F38_250 (call : FuncId → List D → Option D) (L : Nat) (C : Nat → Nat) (n_1 : Nat) (vh_f : Bool) (vh_n : Nat) (vh_c : List D) (vl_f : Bool) (vl_n : Nat) (vl_c : List D) (vout_n : Nat) (t39 : Int) (t40 : Int) (t37_c : List D) : Option D :=
  loopAt (TEf call L C) O0 N38 FinM.canon Tryz.f38 [true, true, true, true, false, true, false] []  n_1 (St.mk [D.slc vh_f vh_n vh_c, D.slc vl_f vl_n vl_c, J, J, J, J, J, J, D.own 37 0 vout_n, J, J, J, J, J, J, J, J, J, J, J, J, J, J, J, J, J, J, J, J, J, J, J, J, J, J, J, J, J, J, D.int IntKind.i64 t39, D.int IntKind.i64 t40, J, J, J, J, J, J, J, J, J, J, J, J, J, J, J, J, J, J, J, J, J, J, J, J, J] [Z, Z, Z, Z, Z, Z, Z, Z, Z, Z, Z, Z, Z, Z, Z, Z, Z, Z, Z, Z, Z, Z, Z, Z, Z, Z, Z, Z, Z, Z, Z, Z, Z, Z, Z, Z, Z, (1, some (Ob.arr 88 2 t37_c false)), Z, Z, Z, Z, Z, Z, Z, Z, Z, Z, Z, Z, Z, Z, Z, Z, Z, Z, Z, Z, Z, Z, Z, Z, Z, Z, Z, Z])
noncomputable def F38_7 (call : FuncId → List D → Option D) (L : Nat) (C : Nat → Nat) (vh_f : Bool) (vh_n : Nat) (vh_c : List D) (vl_f : Bool) (vl_n : Nat) (vl_c : List D) : Option D :=
  cutAt (TEf call L C) O0 N38 FinM.canon Tryz.f38 [true, true] []  (C 7) (St.mk [D.slc vh_f vh_n vh_c, D.slc vl_f vl_n vl_c, J, J, J, J, J, J, J, J, J, J, J, J, J, J, J, J, J, J, J, J, J, J, J, J, J, J, J, J, J, J, J, J, J, J, J, J, J, J, J, J, J, J, J, J, J, J, J, J, J, J, J, J, J, J, J, J, J, J, J, J, J, J, J, J] [Z, Z, Z, Z, Z, Z, Z, Z, Z, Z, Z, Z, Z, Z, Z, Z, Z, Z, Z, Z, Z, Z, Z, Z, Z, Z, Z, Z, Z, Z, Z, Z, Z, Z, Z, Z, Z, Z, Z, Z, Z, Z, Z, Z, Z, Z, Z, Z, Z, Z, Z, Z, Z, Z, Z, Z, Z, Z, Z, Z, Z, Z, Z, Z, Z, Z])
theorem F38_256410_eqn (call : FuncId → List D → Option D) (L : Nat) (C : Nat → Nat) (n_1 : Nat) (n_2 : Nat) (vh_f : Bool) (vh_n : Nat) (vh_c : List D) (vl_f : Bool) (vl_n : Nat) (vl_c : List D) (vout_n : Nat) (t40 : Int) (t39 : Int) (t37_c : List D) (t44 : Int) (t45 : Int) : F38_256410 call L C n_1 (n_2 + 1) vh_f vh_n vh_c vl_f vl_n vl_c vout_n t40 t39 t37_c (Ow.nil) (t44) (t45) =
  (ifK (decide (t45 < t44))
    (chkK (decide (0 ≤ t45 ∧ t45 < (vl_n : Int)))
      (cellK (vl_c) (Int.toNat t45 * 3 + 0) fun d =>
      (strK (d) fun s =>
      (cellK (vl_c) (Int.toNat t45 * 3 + 1) fun d_1 =>
      (slcK (d_1) fun f n_3 c =>
      (cellK (vl_c) (Int.toNat t45 * 3 + 2) fun d_2 =>
      (intK IntKind.i64 (d_2) fun x_4 =>
      (optK (call 89 [D.agg [D.str s, D.slc f n_3 c, D.int IntKind.i64 x_4], D.slc vh_f vh_n vh_c]) fun r_4 =>
        (slcK (r_4) fun _f_1 n_4 c_1 =>
        (chkK (decide (0 ≤ t40 ∧ t40 < (n_4 : Int)))
          (cellK (c_1) (Int.toNat t40 * 2 + 0) fun d_3 =>
          (intK IntKind.i64 (d_3) fun x_5 =>
          (cellK (c_1) (Int.toNat t40 * 2 + 1) fun d_4 =>
          (strK (d_4) fun s_1 =>
          (F38_256410 call L C n_1 n_2 vh_f vh_n vh_c vl_f vl_n vl_c vout_n t40 t39 t37_c (Ow.own 1 [D.int IntKind.i64 x_5, D.str s_1]) (t44) (IntKind.wrap IntKind.i64 (t45 + 1)))))))))))))))))
    (optK (call 101 [D.nils]) fun r_5 =>
      (aggK (r_5) 2 fun c_2 =>
      (cellK (c_2) (0) fun d_5 =>
      (intK IntKind.i64 (d_5) fun x_6 =>
      (cellK (c_2) (1) fun d_6 =>
      (strK (d_6) fun s_2 =>
      (chkK (decide (0 ≤ t40 ∧ t40 < (vout_n : Int)))
        (chkK (decide (Int.toNat t40 * 2 + 2 ≤ List.length t37_c))
          (F38_250 call L C n_1 vh_f vh_n vh_c vl_f vl_n vl_c (vout_n) (t39) (IntKind.wrap IntKind.i64 (t40 + 1)) (writeAt t37_c (Int.toNat t40 * 2) [D.int IntKind.i64 x_6, D.str s_2]))))))))))) := by kernel_rfl
theorem F38_256410_eqo (call : FuncId → List D → Option D) (L : Nat) (C : Nat → Nat) (n_1 : Nat) (n_2 : Nat) (vh_f : Bool) (vh_n : Nat) (vh_c : List D) (vl_f : Bool) (vl_n : Nat) (vl_c : List D) (vout_n : Nat) (t40 : Int) (t39 : Int) (t37_c : List D) (vown_n : Nat) (vown_c : List D) (t44 : Int) (t45 : Int) : F38_256410 call L C n_1 (n_2 + 1) vh_f vh_n vh_c vl_f vl_n vl_c vout_n t40 t39 t37_c (Ow.own vown_n vown_c) (t44) (t45) =
  (ifK (decide (t45 < t44))
    (chkK (decide (0 ≤ t45 ∧ t45 < (vl_n : Int)))
      (cellK (vl_c) (Int.toNat t45 * 3 + 0) fun d_7 =>
      (strK (d_7) fun s_3 =>
      (cellK (vl_c) (Int.toNat t45 * 3 + 1) fun d_8 =>
      (slcK (d_8) fun f_2 n_5 c_3 =>
      (cellK (vl_c) (Int.toNat t45 * 3 + 2) fun d_9 =>
      (intK IntKind.i64 (d_9) fun x_7 =>
      (optK (call 89 [D.agg [D.str s_3, D.slc f_2 n_5 c_3, D.int IntKind.i64 x_7], D.slc vh_f vh_n vh_c]) fun r_6 =>
        (slcK (r_6) fun _f_3 n_6 c_4 =>
        (chkK (decide (0 ≤ t40 ∧ t40 < (n_6 : Int)))
          (cellK (c_4) (Int.toNat t40 * 2 + 0) fun d_10 =>
          (intK IntKind.i64 (d_10) fun x_8 =>
          (cellK (c_4) (Int.toNat t40 * 2 + 1) fun d_11 =>
          (strK (d_11) fun s_4 =>
          (chkK (decide ((vown_n + 1) * 24 ≤ limit ∧ vown_n + 1 ≤ 9223372036854775807))
            (F38_256410 call L C n_1 n_2 vh_f vh_n vh_c vl_f vl_n vl_c vout_n t40 t39 t37_c (Ow.own (vown_n + 1) (vown_c ++ [D.int IntKind.i64 x_8, D.str s_4])) (t44) (IntKind.wrap IntKind.i64 (t45 + 1))))))))))))))))))
    (optK (call 101 [D.slc false vown_n vown_c]) fun r_7 =>
      (aggK (r_7) 2 fun c_5 =>
      (cellK (c_5) (0) fun d_12 =>
      (intK IntKind.i64 (d_12) fun x_9 =>
      (cellK (c_5) (1) fun d_13 =>
      (strK (d_13) fun s_5 =>
      (chkK (decide (0 ≤ t40 ∧ t40 < (vout_n : Int)))
        (chkK (decide (Int.toNat t40 * 2 + 2 ≤ List.length t37_c))
          (F38_250 call L C n_1 vh_f vh_n vh_c vl_f vl_n vl_c (vout_n) (t39) (IntKind.wrap IntKind.i64 (t40 + 1)) (writeAt t37_c (Int.toNat t40 * 2) [D.int IntKind.i64 x_9, D.str s_5]))))))))))) := by kernel_rfl
theorem F38_250_eq (call : FuncId → List D → Option D) (L : Nat) (C : Nat → Nat) (n_1 : Nat) (vh_f : Bool) (vh_n : Nat) (vh_c : List D) (vl_f : Bool) (vl_n : Nat) (vl_c : List D) (vout_n : Nat) (t39 : Int) (t40 : Int) (t37_c : List D) : F38_250 call L C  (n_1 + 1) vh_f vh_n vh_c vl_f vl_n vl_c (vout_n) (t39) (t40) (t37_c) =
  (ifK (decide (t40 < t39))
    (F38_256410 call L C n_1 L vh_f vh_n vh_c vl_f vl_n vl_c vout_n t40 t39 t37_c (Ow.nil) ((vl_n : Int)) (0))
    (some (D.tup [D.slc false vout_n t37_c, D.int IntKind.i64 0]))) := by kernel_rfl
theorem F38_7_eq (call : FuncId → List D → Option D) (L : Nat) (C : Nat → Nat) (vh_f : Bool) (vh_n : Nat) (vh_c : List D) (vl_f : Bool) (vl_n : Nat) (vl_c : List D) (hC : ∀ t, C t = 1) : F38_7 call L C  vh_f vh_n vh_c vl_f vl_n vl_c  =
  (optK (call 87 [D.slc vh_f vh_n vh_c, D.slc vl_f vl_n vl_c]) fun r_3 =>
    (intK IntKind.i64 (r_3) fun x_3 =>
    (ifK (x_3 != 0)
      (some (D.tup [D.slc true 0 [], D.int IntKind.i64 x_3]))
      (chkK (decide (0 ≤ (vh_n : Int) ∧ (vh_n : Int) ≤ (vh_n : Int) ∧ (vh_n : Int) * (24 : Int) ≤ 140737488355328 ∧ (vh_n : Int) ≤ 9223372036854775807))
        (F38_250 call L C L vh_f vh_n vh_c vl_f vl_n vl_c (Int.toNat (vh_n : Int)) (((Int.toNat (vh_n : Int)) : Int)) (0) (repD (Int.toNat (vh_n : Int)) [D.int IntKind.i64 0, D.str (ByteArray.mk #[])])))))) := by
  unfold F38_7
  rw [hC]
  kernel_rfl
theorem F38_eq (call : FuncId → List D → Option D) (L : Nat) (C : Nat → Nat) (vh_f : Bool) (vh_n : Nat) (vh_c : List D) (vl_f : Bool) (vl_n : Nat) (vl_c : List D) : evFnT (TEf call L C) O0 N38 FinM.canon Tryz.f38 [D.slc vh_f vh_n vh_c, D.slc vl_f vl_n vl_c] =
  (optK (call 82 [D.slc vh_f vh_n vh_c]) fun r =>
    (intK IntKind.i64 (r) fun x =>
    (ifK (decide ((vl_n : Int) < 2))
      (optK (call 83 [D.bool true, D.int IntKind.i64 2]) fun r_1 =>
        (intK IntKind.i64 (r_1) fun x_1 =>
        (optK (call 81 [D.slc true 2 [D.int IntKind.i64 x, D.int IntKind.i64 x_1]]) fun r_2 =>
          (intK IntKind.i64 (r_2) fun x_2 =>
          (ifK (x_2 != 0)
            (some (D.tup [D.slc true 0 [], D.int IntKind.i64 x_2]))
            (F38_7 call L C vh_f vh_n vh_c vl_f vl_n vl_c))))))
      (optK (call 83 [D.bool (decide ((vl_n : Int) > 4)), D.int IntKind.i64 2]) fun r_8 =>
        (intK IntKind.i64 (r_8) fun x_10 =>
        (optK (call 81 [D.slc true 2 [D.int IntKind.i64 x, D.int IntKind.i64 x_10]]) fun r_9 =>
          (intK IntKind.i64 (r_9) fun x_11 =>
          (ifK (x_11 != 0)
            (some (D.tup [D.slc true 0 [], D.int IntKind.i64 x_11]))
            (F38_7 call L C vh_f vh_n vh_c vl_f vl_n vl_c))))))))) := by kernel_rfl

def N41 : NTab := fun p => match p with
  | 58 => some { keep := [0, 1, 5, 6], kl := [7, 9], ren := [(7, 7), (9, 9), (61, 61)] }
  | 14922 => some { keep := [0, 1, 5, 6, 7, 8], kl := [9], ren := [(7, 7), (9, 9), (61, 61)] }
  | 119379 => some { keep := [0, 1, 5, 6, 7, 8], kl := [9], ren := [(7, 7), (9, 9), (61, 61)] }
  | _ => none
noncomputable def F41_119379 (call : FuncId → List D → Option D) (L : Nat) (C : Nat → Nat) (n : Nat) (n_1 : Nat) (vh_f : Bool) (vh_n : Nat) (vh_c : List D) (vl_f : Bool) (vl_n : Nat) (vl_c : List D) (vi : Int) (vk : Int) (vr_2 : Ow) (vbest_1 : Int) (vbest1_1 : ByteArray) : Option D :=
  cutAt (TEf call L C) O0 N41 FinM.canon Tryz.f41 [true, true, false, true, false, false, true, false, false, true, false, true, false, false, true, true] [n, n_1]  (C 119379) (St.mk [D.slc vh_f vh_n vh_c, D.slc vl_f vl_n vl_c, J, J, J, ownD 61 vr_2, D.int IntKind.i64 vi, D.loc 7 0 0, D.int IntKind.i64 vk, J, J, J, J, J, J, J, J, J, J, J, J, J, J, J, J, J, J, J, J, J, J, J, J, J, J, J, J, J, J, J, J, J, J, J, J, J, J, J, J, J, J, J, J, J, J, J, J, J, J, J, J, J, J] [Z, Z, Z, Z, Z, Z, Z, (1, some (Ob.box [D.int IntKind.i64 vbest_1, D.str vbest1_1] false)), Z, Z, Z, Z, Z, Z, Z, Z, Z, Z, Z, Z, Z, Z, Z, Z, Z, Z, Z, Z, Z, Z, Z, Z, Z, Z, Z, Z, Z, Z, Z, Z, Z, Z, Z, Z, Z, Z, Z, Z, Z, Z, Z, Z, Z, Z, Z, Z, Z, Z, Z, Z, Z, ownO 137 2 vr_2, Z])
noncomputable def F41_14922 (call : FuncId → List D → Option D) (L : Nat) (C : Nat → Nat) (n : Nat) (n_1 : Nat) (vh_f : Bool) (vh_n : Nat) (vh_c : List D) (vl_f : Bool) (vl_n : Nat) (vl_c : List D) (vi : Int) (vr_1 : Ow) (vk : Int) (vbest : Int) (vbest1 : ByteArray) : Option D :=
  loopAt (TEf call L C) O0 N41 FinM.canon Tryz.f41 [true, true, false, true, false, false, true, false, false, true, false, true, false] [n]  n_1 (St.mk [D.slc vh_f vh_n vh_c, D.slc vl_f vl_n vl_c, J, J, J, ownD 61 vr_1, D.int IntKind.i64 vi, D.loc 7 0 0, D.int IntKind.i64 vk, J, J, J, J, J, J, J, J, J, J, J, J, J, J, J, J, J, J, J, J, J, J, J, J, J, J, J, J, J, J, J, J, J, J, J, J, J, J, J, J, J, J, J, J, J, J, J, J, J, J, J, J, J, J] [Z, Z, Z, Z, Z, Z, Z, (1, some (Ob.box [D.int IntKind.i64 vbest, D.str vbest1] false)), Z, Z, Z, Z, Z, Z, Z, Z, Z, Z, Z, Z, Z, Z, Z, Z, Z, Z, Z, Z, Z, Z, Z, Z, Z, Z, Z, Z, Z, Z, Z, Z, Z, Z, Z, Z, Z, Z, Z, Z, Z, Z, Z, Z, Z, Z, Z, Z, Z, Z, Z, Z, Z, ownO 137 2 vr_1, Z])
noncomputable def F41_58 (call : FuncId → List D → Option D) (L : Nat) (C : Nat → Nat) (n : Nat) (vh_f : Bool) (vh_n : Nat) (vh_c : List D) (vl_f : Bool) (vl_n : Nat) (vl_c : List D) (vr : Ow) (vi : Int) : Option D :=
  loopAt (TEf call L C) O0 N41 FinM.canon Tryz.f41 [true, true, false, true, false] []  n (St.mk [D.slc vh_f vh_n vh_c, D.slc vl_f vl_n vl_c, J, J, J, ownD 61 vr, D.int IntKind.i64 vi, J, J, J, J, J, J, J, J, J, J, J, J, J, J, J, J, J, J, J, J, J, J, J, J, J, J, J, J, J, J, J, J, J, J, J, J, J, J, J, J, J, J, J, J, J, J, J, J, J, J, J, J, J, J, J, J] [Z, Z, Z, Z, Z, Z, Z, Z, Z, Z, Z, Z, Z, Z, Z, Z, Z, Z, Z, Z, Z, Z, Z, Z, Z, Z, Z, Z, Z, Z, Z, Z, Z, Z, Z, Z, Z, Z, Z, Z, Z, Z, Z, Z, Z, Z, Z, Z, Z, Z, Z, Z, Z, Z, Z, Z, Z, Z, Z, Z, Z, ownO 137 2 vr, Z])
theorem F41_119379_eqn (call : FuncId → List D → Option D) (L : Nat) (C : Nat → Nat) (n : Nat) (n_1 : Nat) (vh_f : Bool) (vh_n : Nat) (vh_c : List D) (vl_f : Bool) (vl_n : Nat) (vl_c : List D) (vi : Int) (vk : Int) (vbest_1 : Int) (vbest1_1 : ByteArray) (hC : ∀ t, C t = 1) : F41_119379 call L C n n_1 vh_f vh_n vh_c vl_f vl_n vl_c vi vk (Ow.nil) (vbest_1) (vbest1_1) =
  (F41_14922 call L C n n_1 vh_f vh_n vh_c vl_f vl_n vl_c vi (Ow.nil) (IntKind.wrap IntKind.i64 (vk + 1)) (vbest_1) (vbest1_1)) := by
  unfold F41_119379
  rw [hC]
  kernel_rfl
theorem F41_119379_eqo (call : FuncId → List D → Option D) (L : Nat) (C : Nat → Nat) (n : Nat) (n_1 : Nat) (vh_f : Bool) (vh_n : Nat) (vh_c : List D) (vl_f : Bool) (vl_n : Nat) (vl_c : List D) (vi : Int) (vk : Int) (vr_2_n : Nat) (vr_2_c : List D) (vbest_1 : Int) (vbest1_1 : ByteArray) (hC : ∀ t, C t = 1) : F41_119379 call L C n n_1 vh_f vh_n vh_c vl_f vl_n vl_c vi vk (Ow.own vr_2_n vr_2_c) (vbest_1) (vbest1_1) =
  (F41_14922 call L C n n_1 vh_f vh_n vh_c vl_f vl_n vl_c vi (Ow.own vr_2_n vr_2_c) (IntKind.wrap IntKind.i64 (vk + 1)) (vbest_1) (vbest1_1)) := by
  unfold F41_119379
  rw [hC]
  kernel_rfl
theorem F41_14922_eqn (call : FuncId → List D → Option D) (L : Nat) (C : Nat → Nat) (n : Nat) (n_1 : Nat) (vh_f : Bool) (vh_n : Nat) (vh_c : List D) (vl_f : Bool) (vl_n : Nat) (vl_c : List D) (vi : Int) (vk : Int) (vbest : Int) (vbest1 : ByteArray) : F41_14922 call L C n (n_1 + 1) vh_f vh_n vh_c vl_f vl_n vl_c vi (Ow.nil) (vk) (vbest) (vbest1) =
  (ifK (decide (vk < (vl_n : Int)))
    (chkK (decide (0 ≤ vk ∧ vk < (vl_n : Int)))
      (cellK (vl_c) (Int.toNat vk * 3 + 0) fun d =>
      (strK (d) fun s =>
      (cellK (vl_c) (Int.toNat vk * 3 + 1) fun d_1 =>
      (slcK (d_1) fun f n_2 c =>
      (cellK (vl_c) (Int.toNat vk * 3 + 2) fun d_2 =>
      (intK IntKind.i64 (d_2) fun x =>
      (optK (call 26 [D.slc vh_f vh_n vh_c, D.agg [D.str s, D.slc f n_2 c, D.int IntKind.i64 x]]) fun r =>
        (slcK (r) fun _f_1 n_3 c_1 =>
        (chkK (decide (0 ≤ vi ∧ vi < (n_3 : Int)))
          (cellK (c_1) (Int.toNat vi * 2 + 0) fun d_3 =>
          (intK IntKind.i64 (d_3) fun x_1 =>
          (cellK (c_1) (Int.toNat vi * 2 + 1) fun d_4 =>
          (strK (d_4) fun s_1 =>
          (ifK (ByteArray.toList s_1 == ByteArray.toList (ByteArray.mk #[]))
            (ifK (!ByteArray.toList vbest1 == ByteArray.toList (ByteArray.mk #[]))
              (F41_119379 call L C n n_1 vh_f vh_n vh_c vl_f vl_n vl_c vi vk (Ow.nil) (x_1) (s_1))
              (ifK (decide (x_1 < vbest))
                (F41_119379 call L C n n_1 vh_f vh_n vh_c vl_f vl_n vl_c vi vk (Ow.nil) (x_1) (s_1))
                (ifK (ByteArray.toList s_1 == ByteArray.toList (ByteArray.mk #[120]))
                  (ifK (ByteArray.toList vbest1 == ByteArray.toList (ByteArray.mk #[45]))
                    (F41_119379 call L C n n_1 vh_f vh_n vh_c vl_f vl_n vl_c vi vk (Ow.nil) (x_1) (s_1))
                    (F41_119379 call L C n n_1 vh_f vh_n vh_c vl_f vl_n vl_c vi vk (Ow.nil) (vbest) (vbest1)))
                  (F41_119379 call L C n n_1 vh_f vh_n vh_c vl_f vl_n vl_c vi vk (Ow.nil) (vbest) (vbest1)))))
            (ifK (ByteArray.toList s_1 == ByteArray.toList (ByteArray.mk #[120]))
              (ifK (ByteArray.toList vbest1 == ByteArray.toList (ByteArray.mk #[45]))
                (F41_119379 call L C n n_1 vh_f vh_n vh_c vl_f vl_n vl_c vi vk (Ow.nil) (x_1) (s_1))
                (F41_119379 call L C n n_1 vh_f vh_n vh_c vl_f vl_n vl_c vi vk (Ow.nil) (vbest) (vbest1)))
              (F41_119379 call L C n n_1 vh_f vh_n vh_c vl_f vl_n vl_c vi vk (Ow.nil) (vbest) (vbest1))))))))))))))))))
    (F41_58 call L C n vh_f vh_n vh_c vl_f vl_n vl_c (Ow.own 1 [D.int IntKind.i64 vbest, D.str vbest1]) (IntKind.wrap IntKind.i64 (vi + 1)))) := by kernel_rfl
theorem F41_14922_eqo (call : FuncId → List D → Option D) (L : Nat) (C : Nat → Nat) (n : Nat) (n_1 : Nat) (vh_f : Bool) (vh_n : Nat) (vh_c : List D) (vl_f : Bool) (vl_n : Nat) (vl_c : List D) (vi : Int) (vr_1_n : Nat) (vr_1_c : List D) (vk : Int) (vbest : Int) (vbest1 : ByteArray) : F41_14922 call L C n (n_1 + 1) vh_f vh_n vh_c vl_f vl_n vl_c vi (Ow.own vr_1_n vr_1_c) (vk) (vbest) (vbest1) =
  (ifK (decide (vk < (vl_n : Int)))
    (chkK (decide (0 ≤ vk ∧ vk < (vl_n : Int)))
      (cellK (vl_c) (Int.toNat vk * 3 + 0) fun d_5 =>
      (strK (d_5) fun s_2 =>
      (cellK (vl_c) (Int.toNat vk * 3 + 1) fun d_6 =>
      (slcK (d_6) fun f_2 n_5 c_2 =>
      (cellK (vl_c) (Int.toNat vk * 3 + 2) fun d_7 =>
      (intK IntKind.i64 (d_7) fun x_2 =>
      (optK (call 26 [D.slc vh_f vh_n vh_c, D.agg [D.str s_2, D.slc f_2 n_5 c_2, D.int IntKind.i64 x_2]]) fun r_1 =>
        (slcK (r_1) fun _f_3 n_6 c_3 =>
        (chkK (decide (0 ≤ vi ∧ vi < (n_6 : Int)))
          (cellK (c_3) (Int.toNat vi * 2 + 0) fun d_8 =>
          (intK IntKind.i64 (d_8) fun x_3 =>
          (cellK (c_3) (Int.toNat vi * 2 + 1) fun d_9 =>
          (strK (d_9) fun s_3 =>
          (ifK (ByteArray.toList s_3 == ByteArray.toList (ByteArray.mk #[]))
            (ifK (!ByteArray.toList vbest1 == ByteArray.toList (ByteArray.mk #[]))
              (F41_119379 call L C n n_1 vh_f vh_n vh_c vl_f vl_n vl_c vi vk (Ow.own vr_1_n vr_1_c) (x_3) (s_3))
              (ifK (decide (x_3 < vbest))
                (F41_119379 call L C n n_1 vh_f vh_n vh_c vl_f vl_n vl_c vi vk (Ow.own vr_1_n vr_1_c) (x_3) (s_3))
                (ifK (ByteArray.toList s_3 == ByteArray.toList (ByteArray.mk #[120]))
                  (ifK (ByteArray.toList vbest1 == ByteArray.toList (ByteArray.mk #[45]))
                    (F41_119379 call L C n n_1 vh_f vh_n vh_c vl_f vl_n vl_c vi vk (Ow.own vr_1_n vr_1_c) (x_3) (s_3))
                    (F41_119379 call L C n n_1 vh_f vh_n vh_c vl_f vl_n vl_c vi vk (Ow.own vr_1_n vr_1_c) (vbest) (vbest1)))
                  (F41_119379 call L C n n_1 vh_f vh_n vh_c vl_f vl_n vl_c vi vk (Ow.own vr_1_n vr_1_c) (vbest) (vbest1)))))
            (ifK (ByteArray.toList s_3 == ByteArray.toList (ByteArray.mk #[120]))
              (ifK (ByteArray.toList vbest1 == ByteArray.toList (ByteArray.mk #[45]))
                (F41_119379 call L C n n_1 vh_f vh_n vh_c vl_f vl_n vl_c vi vk (Ow.own vr_1_n vr_1_c) (x_3) (s_3))
                (F41_119379 call L C n n_1 vh_f vh_n vh_c vl_f vl_n vl_c vi vk (Ow.own vr_1_n vr_1_c) (vbest) (vbest1)))
              (F41_119379 call L C n n_1 vh_f vh_n vh_c vl_f vl_n vl_c vi vk (Ow.own vr_1_n vr_1_c) (vbest) (vbest1))))))))))))))))))
    (chkK (decide ((vr_1_n + 1) * 24 ≤ limit ∧ vr_1_n + 1 ≤ 9223372036854775807))
      (F41_58 call L C n vh_f vh_n vh_c vl_f vl_n vl_c (Ow.own (vr_1_n + 1) (vr_1_c ++ [D.int IntKind.i64 vbest, D.str vbest1])) (IntKind.wrap IntKind.i64 (vi + 1))))) := by kernel_rfl
theorem F41_58_eqn (call : FuncId → List D → Option D) (L : Nat) (C : Nat → Nat) (n : Nat) (vh_f : Bool) (vh_n : Nat) (vh_c : List D) (vl_f : Bool) (vl_n : Nat) (vl_c : List D) (vi : Int) : F41_58 call L C  (n + 1) vh_f vh_n vh_c vl_f vl_n vl_c (Ow.nil) (vi) =
  (ifK (decide (vi < (vh_n : Int)))
    (F41_14922 call L C n L vh_f vh_n vh_c vl_f vl_n vl_c vi (Ow.nil) (0) (0) (ByteArray.mk #[45]))
    (some (D.slc true 0 []))) := by kernel_rfl
theorem F41_58_eqo (call : FuncId → List D → Option D) (L : Nat) (C : Nat → Nat) (n : Nat) (vh_f : Bool) (vh_n : Nat) (vh_c : List D) (vl_f : Bool) (vl_n : Nat) (vl_c : List D) (vr_n : Nat) (vr_c : List D) (vi : Int) : F41_58 call L C  (n + 1) vh_f vh_n vh_c vl_f vl_n vl_c (Ow.own vr_n vr_c) (vi) =
  (ifK (decide (vi < (vh_n : Int)))
    (F41_14922 call L C n L vh_f vh_n vh_c vl_f vl_n vl_c vi (Ow.own vr_n vr_c) (0) (0) (ByteArray.mk #[45]))
    (some (D.slc false vr_n vr_c))) := by kernel_rfl
theorem F41_eq (call : FuncId → List D → Option D) (L : Nat) (C : Nat → Nat) (vh_f : Bool) (vh_n : Nat) (vh_c : List D) (vl_f : Bool) (vl_n : Nat) (vl_c : List D) : evFnT (TEf call L C) O0 N41 FinM.canon Tryz.f41 [D.slc vh_f vh_n vh_c, D.slc vl_f vl_n vl_c] =
  (F41_58 call L C L vh_f vh_n vh_c vl_f vl_n vl_c (Ow.nil) (0)) := by kernel_rfl

def N44 : NTab := fun p => match p with
  | 250 => some { keep := [10, 11, 28, 29, 30], kl := [4, 5, 13], ren := [(4, 4), (5, 5), (13, 13), (38, 38), (60, 38), (76, 38)] }
  | 64101 => some { keep := [10, 11, 12, 13, 28, 29, 30, 39], kl := [4, 5], ren := [(4, 4), (5, 5), (13, 13), (38, 38), (60, 38), (76, 38)] }
  | _ => none
noncomputable def F44_64101 (call : FuncId → List D → Option D) (L : Nat) (C : Nat → Nat) (n_2 : Nat) (vtwo_f : Bool) (vtwo_n : Nat) (vtwo_c : List D) (t30 : Int) (t28_f : Bool) (t28_n : Nat) (t28_c : List D) (t29 : Int) (vout_1 : Ow) (t39 : Bool) (vn : Int) (vn1 : ByteArray) : Option D :=
  cutAt (TEf call L C) O0 N44 FinM.canon Tryz.f44 [true, true, true, true, false, true, false, false, true, true, false, false, true, false, true] [n_2]  (C 64101) (St.mk [J, J, J, J, J, J, J, J, J, J, D.slc vtwo_f vtwo_n vtwo_c, ownD 38 vout_1, D.int IntKind.i64 t30, D.loc 13 0 0, J, J, J, J, J, J, J, J, J, J, J, J, J, J, D.slc t28_f t28_n t28_c, D.int IntKind.i64 t29, D.int IntKind.i64 t30, J, J, J, J, J, J, J, J, D.bool t39, J, J, J, J, J, J, J, J, J, J, J, J, J, J, J, J, J, J, J, J, J, J, J, J, J, J, J, J, J, J, J, J, J, J, J, J, J, J, J] [Z, Z, Z, Z, Z, Z, Z, Z, Z, Z, Z, Z, Z, (1, some (Ob.box [D.int IntKind.i64 vn, D.str vn1] false)), Z, Z, Z, Z, Z, Z, Z, Z, Z, Z, Z, Z, Z, Z, Z, Z, Z, Z, Z, Z, Z, Z, Z, Z, ownO 88 2 vout_1, Z, Z, Z, Z, Z, Z, Z, Z, Z, Z, Z, Z, Z, Z, Z, Z, Z, Z, Z, Z, Z, Z, Z, Z, Z, Z, Z, Z, Z, Z, Z, Z, Z, Z, Z, Z, Z, Z, Z, Z])
noncomputable def F44_250 (call : FuncId → List D → Option D) (L : Nat) (C : Nat → Nat) (n_2 : Nat) (vtwo_f : Bool) (vtwo_n : Nat) (vtwo_c : List D) (vout : Ow) (t28_f : Bool) (t28_n : Nat) (t28_c : List D) (t29 : Int) (t30 : Int) : Option D :=
  loopAt (TEf call L C) O0 N44 FinM.canon Tryz.f44 [true, true, true, true, false, true, false] []  n_2 (St.mk [J, J, J, J, J, J, J, J, J, J, D.slc vtwo_f vtwo_n vtwo_c, ownD 38 vout, J, J, J, J, J, J, J, J, J, J, J, J, J, J, J, J, D.slc t28_f t28_n t28_c, D.int IntKind.i64 t29, D.int IntKind.i64 t30, J, J, J, J, J, J, J, J, J, J, J, J, J, J, J, J, J, J, J, J, J, J, J, J, J, J, J, J, J, J, J, J, J, J, J, J, J, J, J, J, J, J, J, J, J, J, J, J] [Z, Z, Z, Z, Z, Z, Z, Z, Z, Z, Z, Z, Z, Z, Z, Z, Z, Z, Z, Z, Z, Z, Z, Z, Z, Z, Z, Z, Z, Z, Z, Z, Z, Z, Z, Z, Z, Z, ownO 88 2 vout, Z, Z, Z, Z, Z, Z, Z, Z, Z, Z, Z, Z, Z, Z, Z, Z, Z, Z, Z, Z, Z, Z, Z, Z, Z, Z, Z, Z, Z, Z, Z, Z, Z, Z, Z, Z, Z, Z, Z, Z])
theorem F44_64101_eqn (call : FuncId → List D → Option D) (L : Nat) (C : Nat → Nat) (n_2 : Nat) (vtwo_f : Bool) (vtwo_n : Nat) (vtwo_c : List D) (t30 : Int) (t28_f : Bool) (t28_n : Nat) (t28_c : List D) (t29 : Int) (t39 : Bool) (vn : Int) (vn1 : ByteArray) (hC : ∀ t, C t = 1) : F44_64101 call L C n_2 vtwo_f vtwo_n vtwo_c t30 t28_f t28_n t28_c t29 (Ow.nil) (t39) (vn) (vn1) =
  (ifK (t39)
    (chkK (decide (0 ≤ t30 ∧ t30 < (vtwo_n : Int)))
      (cellK (vtwo_c) (Int.toNat t30 * 2 + 0) fun d_4 =>
      (intK IntKind.i64 (d_4) fun x_3 =>
      (F44_250 call L C n_2 (vtwo_f) (vtwo_n) (vtwo_c) (Ow.own 1 [D.int IntKind.i64 (IntKind.wrap IntKind.i64 (vn + x_3)), D.str (ByteArray.mk #[])]) (t28_f) (t28_n) (t28_c) (t29) (IntKind.wrap IntKind.i64 (t30 + 1))))))
    (ifK (ByteArray.toList vn1 == ByteArray.toList (ByteArray.mk #[45]))
      (F44_250 call L C n_2 (vtwo_f) (vtwo_n) (vtwo_c) (Ow.own 1 [D.int IntKind.i64 0, D.str (ByteArray.mk #[45])]) (t28_f) (t28_n) (t28_c) (t29) (IntKind.wrap IntKind.i64 (t30 + 1)))
      (chkK (decide (0 ≤ t30 ∧ t30 < (vtwo_n : Int)))
        (cellK (vtwo_c) (Int.toNat t30 * 2 + 1) fun d_5 =>
        (strK (d_5) fun s_2 =>
        (ifK (ByteArray.toList s_2 == ByteArray.toList (ByteArray.mk #[45]))
          (F44_250 call L C n_2 (vtwo_f) (vtwo_n) (vtwo_c) (Ow.own 1 [D.int IntKind.i64 0, D.str (ByteArray.mk #[45])]) (t28_f) (t28_n) (t28_c) (t29) (IntKind.wrap IntKind.i64 (t30 + 1)))
          (F44_250 call L C n_2 (vtwo_f) (vtwo_n) (vtwo_c) (Ow.own 1 [D.int IntKind.i64 0, D.str (ByteArray.mk #[120])]) (t28_f) (t28_n) (t28_c) (t29) (IntKind.wrap IntKind.i64 (t30 + 1))))))))) := by
  unfold F44_64101
  rw [hC]
  kernel_rfl
theorem F44_64101_eqo (call : FuncId → List D → Option D) (L : Nat) (C : Nat → Nat) (n_2 : Nat) (vtwo_f : Bool) (vtwo_n : Nat) (vtwo_c : List D) (t30 : Int) (t28_f : Bool) (t28_n : Nat) (t28_c : List D) (t29 : Int) (vout_1_n : Nat) (vout_1_c : List D) (t39 : Bool) (vn : Int) (vn1 : ByteArray) (hC : ∀ t, C t = 1) : F44_64101 call L C n_2 vtwo_f vtwo_n vtwo_c t30 t28_f t28_n t28_c t29 (Ow.own vout_1_n vout_1_c) (t39) (vn) (vn1) =
  (ifK (t39)
    (chkK (decide (0 ≤ t30 ∧ t30 < (vtwo_n : Int)))
      (cellK (vtwo_c) (Int.toNat t30 * 2 + 0) fun d_6 =>
      (intK IntKind.i64 (d_6) fun x_4 =>
      (chkK (decide ((vout_1_n + 1) * 24 ≤ limit ∧ vout_1_n + 1 ≤ 9223372036854775807))
        (F44_250 call L C n_2 (vtwo_f) (vtwo_n) (vtwo_c) (Ow.own (vout_1_n + 1) (vout_1_c ++ [D.int IntKind.i64 (IntKind.wrap IntKind.i64 (vn + x_4)), D.str (ByteArray.mk #[])])) (t28_f) (t28_n) (t28_c) (t29) (IntKind.wrap IntKind.i64 (t30 + 1)))))))
    (ifK (ByteArray.toList vn1 == ByteArray.toList (ByteArray.mk #[45]))
      (chkK (decide ((vout_1_n + 1) * 24 ≤ limit ∧ vout_1_n + 1 ≤ 9223372036854775807))
        (F44_250 call L C n_2 (vtwo_f) (vtwo_n) (vtwo_c) (Ow.own (vout_1_n + 1) (vout_1_c ++ [D.int IntKind.i64 0, D.str (ByteArray.mk #[45])])) (t28_f) (t28_n) (t28_c) (t29) (IntKind.wrap IntKind.i64 (t30 + 1))))
      (chkK (decide (0 ≤ t30 ∧ t30 < (vtwo_n : Int)))
        (cellK (vtwo_c) (Int.toNat t30 * 2 + 1) fun d_7 =>
        (strK (d_7) fun s_3 =>
        (ifK (ByteArray.toList s_3 == ByteArray.toList (ByteArray.mk #[45]))
          (chkK (decide ((vout_1_n + 1) * 24 ≤ limit ∧ vout_1_n + 1 ≤ 9223372036854775807))
            (F44_250 call L C n_2 (vtwo_f) (vtwo_n) (vtwo_c) (Ow.own (vout_1_n + 1) (vout_1_c ++ [D.int IntKind.i64 0, D.str (ByteArray.mk #[45])])) (t28_f) (t28_n) (t28_c) (t29) (IntKind.wrap IntKind.i64 (t30 + 1))))
          (chkK (decide ((vout_1_n + 1) * 24 ≤ limit ∧ vout_1_n + 1 ≤ 9223372036854775807))
            (F44_250 call L C n_2 (vtwo_f) (vtwo_n) (vtwo_c) (Ow.own (vout_1_n + 1) (vout_1_c ++ [D.int IntKind.i64 0, D.str (ByteArray.mk #[120])])) (t28_f) (t28_n) (t28_c) (t29) (IntKind.wrap IntKind.i64 (t30 + 1)))))))))) := by
  unfold F44_64101
  rw [hC]
  kernel_rfl
theorem F44_250_eqn (call : FuncId → List D → Option D) (L : Nat) (C : Nat → Nat) (n_2 : Nat) (vtwo_f : Bool) (vtwo_n : Nat) (vtwo_c : List D) (t28_f : Bool) (t28_n : Nat) (t28_c : List D) (t29 : Int) (t30 : Int) : F44_250 call L C  (n_2 + 1)  (vtwo_f) (vtwo_n) (vtwo_c) (Ow.nil) (t28_f) (t28_n) (t28_c) (t29) (t30) =
  (ifK (decide (t30 < t29))
    (chkK (decide (0 ≤ t30 ∧ t30 < (t28_n : Int)))
      (cellK (t28_c) (Int.toNat t30 * 2 + 0) fun d =>
      (intK IntKind.i64 (d) fun x_1 =>
      (cellK (t28_c) (Int.toNat t30 * 2 + 1) fun d_1 =>
      (strK (d_1) fun s =>
      (optK (call 102 [D.agg [D.int IntKind.i64 x_1, D.str s]]) fun r_3 =>
        (boolK (r_3) fun b =>
        (ifK (b)
          (chkK (decide (0 ≤ t30 ∧ t30 < (vtwo_n : Int)))
            (cellK (vtwo_c) (Int.toNat t30 * 2 + 0) fun d_2 =>
            (intK IntKind.i64 (d_2) fun x_2 =>
            (cellK (vtwo_c) (Int.toNat t30 * 2 + 1) fun d_3 =>
            (strK (d_3) fun s_1 =>
            (optK (call 102 [D.agg [D.int IntKind.i64 x_2, D.str s_1]]) fun r_4 =>
              (boolK (r_4) fun b_1 =>
              (F44_64101 call L C n_2 vtwo_f vtwo_n vtwo_c t30 t28_f t28_n t28_c t29 (Ow.nil) (b_1) (x_1) (s)))))))))
          (F44_64101 call L C n_2 vtwo_f vtwo_n vtwo_c t30 t28_f t28_n t28_c t29 (Ow.nil) (false) (x_1) (s))))))))))
    (some (D.tup [D.slc true 0 [], D.int IntKind.i64 0]))) := by kernel_rfl
theorem F44_250_eqo (call : FuncId → List D → Option D) (L : Nat) (C : Nat → Nat) (n_2 : Nat) (vtwo_f : Bool) (vtwo_n : Nat) (vtwo_c : List D) (vout_n : Nat) (vout_c : List D) (t28_f : Bool) (t28_n : Nat) (t28_c : List D) (t29 : Int) (t30 : Int) : F44_250 call L C  (n_2 + 1)  (vtwo_f) (vtwo_n) (vtwo_c) (Ow.own vout_n vout_c) (t28_f) (t28_n) (t28_c) (t29) (t30) =
  (ifK (decide (t30 < t29))
    (chkK (decide (0 ≤ t30 ∧ t30 < (t28_n : Int)))
      (cellK (t28_c) (Int.toNat t30 * 2 + 0) fun d_8 =>
      (intK IntKind.i64 (d_8) fun x_5 =>
      (cellK (t28_c) (Int.toNat t30 * 2 + 1) fun d_9 =>
      (strK (d_9) fun s_4 =>
      (optK (call 102 [D.agg [D.int IntKind.i64 x_5, D.str s_4]]) fun r_5 =>
        (boolK (r_5) fun b_2 =>
        (ifK (b_2)
          (chkK (decide (0 ≤ t30 ∧ t30 < (vtwo_n : Int)))
            (cellK (vtwo_c) (Int.toNat t30 * 2 + 0) fun d_10 =>
            (intK IntKind.i64 (d_10) fun x_6 =>
            (cellK (vtwo_c) (Int.toNat t30 * 2 + 1) fun d_11 =>
            (strK (d_11) fun s_5 =>
            (optK (call 102 [D.agg [D.int IntKind.i64 x_6, D.str s_5]]) fun r_6 =>
              (boolK (r_6) fun b_3 =>
              (F44_64101 call L C n_2 vtwo_f vtwo_n vtwo_c t30 t28_f t28_n t28_c t29 (Ow.own vout_n vout_c) (b_3) (x_5) (s_4)))))))))
          (F44_64101 call L C n_2 vtwo_f vtwo_n vtwo_c t30 t28_f t28_n t28_c t29 (Ow.own vout_n vout_c) (false) (x_5) (s_4))))))))))
    (some (D.tup [D.slc false vout_n vout_c, D.int IntKind.i64 0]))) := by kernel_rfl
theorem F44_eq (call : FuncId → List D → Option D) (L : Nat) (C : Nat → Nat) (vh_f : Bool) (vh_n : Nat) (vh_c : List D) (va0 : ByteArray) (va1_f : Bool) (va1_n : Nat) (va1_c : List D) (va2 : Int) (vb0 : ByteArray) (vb1_f : Bool) (vb1_n : Nat) (vb1_c : List D) (vb2 : Int) : evFnT (TEf call L C) O0 N44 FinM.canon Tryz.f44 [D.slc vh_f vh_n vh_c, D.agg [D.str va0, D.slc va1_f va1_n va1_c, D.int IntKind.i64 va2], D.agg [D.str vb0, D.slc vb1_f vb1_n vb1_c, D.int IntKind.i64 vb2]] =
  (optK (call 87 [D.slc vh_f vh_n vh_c, D.slc true 2 [D.str va0, D.slc va1_f va1_n va1_c, D.int IntKind.i64 va2, D.str vb0, D.slc vb1_f vb1_n vb1_c, D.int IntKind.i64 vb2]]) fun r =>
    (intK IntKind.i64 (r) fun x =>
    (ifK (x != 0)
      (some (D.tup [D.slc true 0 [], D.int IntKind.i64 x]))
      (optK (call 89 [D.agg [D.str va0, D.slc va1_f va1_n va1_c, D.int IntKind.i64 va2], D.slc vh_f vh_n vh_c]) fun r_1 =>
        (slcK (r_1) fun f n c =>
        (optK (call 89 [D.agg [D.str vb0, D.slc vb1_f vb1_n vb1_c, D.int IntKind.i64 vb2], D.slc vh_f vh_n vh_c]) fun r_2 =>
          (slcK (r_2) fun f_1 n_1 c_1 =>
          (F44_250 call L C L (f_1) (n_1) (c_1) (Ow.nil) (f) (n) (c) ((n : Int)) (0))))))))) := by kernel_rfl

def N45 : NTab := fun p => match p with
  | 122 => some { keep := [0, 7, 8, 9, 10], kl := [4, 5, 11], ren := [(4, 4), (5, 5), (11, 11), (69, 69)] }
  | 979 => some { keep := [0, 7, 8, 9, 10], kl := [4, 5, 11], ren := [(4, 4), (5, 5), (11, 11), (69, 69)] }
  | 7827 => some { keep := [0, 7, 8, 9, 10, 11], kl := [4, 5], ren := [(4, 4), (5, 5), (11, 11), (69, 69)] }
  | 15653 => some { keep := [0, 7, 8, 9, 10, 11, 49], kl := [4, 5], ren := [(4, 4), (5, 5), (11, 11), (69, 69)] }
  | _ => none
def O45 : Ord := fun id => match id with
  | 6 => some { l := some [0, 1, 2, 3, 4, 5, 6, 7, 8, 9, 10, 11, 12, 13], ks := [11] }
  | _ => none
noncomputable def F45_979 (call : FuncId → List D → Option D) (L : Nat) (C : Nat → Nat) (n_2 : Nat) (vh_f : Bool) (vh_n : Nat) (vh_c : List D) (vx_f : Bool) (vx_n : Nat) (vx_c : List D) (vy_f : Bool) (vy_n : Nat) (vy_c : List D) (vi : Int) (vr_n : Nat) (t69_c : List D) : Option D :=
  cutAt (TEf call L C) O45 N45 FinM.canon Tryz.f45 [true, true, true, false, true, false, false, true, true] [n_2]  (C 979) (St.mk [D.slc vh_f vh_n vh_c, J, J, J, J, J, J, D.slc vx_f vx_n vx_c, D.slc vy_f vy_n vy_c, D.own 69 0 vr_n, D.int IntKind.i64 vi, J, J, J, J, J, J, J, J, J, J, J, J, J, J, J, J, J, J, J, J, J, J, J, J, J, J, J, J, J, J, J, J, J, J, J, J, J, J, J, J, J, J, J, J, J, J, J, J, J, J, J, J, J, J, J, J, J, J, J, J] [Z, Z, Z, Z, Z, Z, Z, Z, Z, Z, Z, Z, Z, Z, Z, Z, Z, Z, Z, Z, Z, Z, Z, Z, Z, Z, Z, Z, Z, Z, Z, Z, Z, Z, Z, Z, Z, Z, Z, Z, Z, Z, Z, Z, Z, Z, Z, Z, Z, Z, Z, Z, Z, Z, Z, Z, Z, Z, Z, Z, Z, Z, Z, Z, Z, Z, Z, Z, Z, (1, some (Ob.arr 137 2 t69_c false)), Z])
noncomputable def F45_7827 (call : FuncId → List D → Option D) (L : Nat) (C : Nat → Nat) (n_2 : Nat) (vh_f : Bool) (vh_n : Nat) (vh_c : List D) (vx_f : Bool) (vx_n : Nat) (vx_c : List D) (vy_f : Bool) (vy_n : Nat) (vy_c : List D) (vi : Int) (vr_2 : Ow) (vn_1 : Int) (vn1 : ByteArray) : Option D :=
  cutAt (TEf call L C) O45 N45 FinM.canon Tryz.f45 [true, true, true, false, true, false, false, true, false, false, true, true] [n_2]  (C 7827) (St.mk [D.slc vh_f vh_n vh_c, J, J, J, J, J, J, D.slc vx_f vx_n vx_c, D.slc vy_f vy_n vy_c, ownD 69 vr_2, D.int IntKind.i64 vi, D.loc 11 0 0, J, J, J, J, J, J, J, J, J, J, J, J, J, J, J, J, J, J, J, J, J, J, J, J, J, J, J, J, J, J, J, J, J, J, J, J, J, J, J, J, J, J, J, J, J, J, J, J, J, J, J, J, J, J, J, J, J, J, J] [Z, Z, Z, Z, Z, Z, Z, Z, Z, Z, Z, (1, some (Ob.box [D.int IntKind.i64 vn_1, D.str vn1] false)), Z, Z, Z, Z, Z, Z, Z, Z, Z, Z, Z, Z, Z, Z, Z, Z, Z, Z, Z, Z, Z, Z, Z, Z, Z, Z, Z, Z, Z, Z, Z, Z, Z, Z, Z, Z, Z, Z, Z, Z, Z, Z, Z, Z, Z, Z, Z, Z, Z, Z, Z, Z, Z, Z, Z, Z, Z, ownO 137 2 vr_2, Z])
noncomputable def F45_15653 (call : FuncId → List D → Option D) (L : Nat) (C : Nat → Nat) (n_2 : Nat) (vh_f : Bool) (vh_n : Nat) (vh_c : List D) (vx_f : Bool) (vx_n : Nat) (vx_c : List D) (vy_f : Bool) (vy_n : Nat) (vy_c : List D) (vi : Int) (vr_1 : Ow) (t49 : Bool) (vn : Int) : Option D :=
  cutAt (TEf call L C) O45 N45 FinM.canon Tryz.f45 [true, true, true, false, true, false, false, true, false, false, true, false, true] [n_2]  (C 15653) (St.mk [D.slc vh_f vh_n vh_c, J, J, J, J, J, J, D.slc vx_f vx_n vx_c, D.slc vy_f vy_n vy_c, ownD 69 vr_1, D.int IntKind.i64 vi, D.loc 11 0 0, J, J, J, J, J, J, J, J, J, J, J, J, J, J, J, J, J, J, J, J, J, J, J, J, J, J, J, J, J, J, J, J, J, J, J, J, J, D.bool t49, J, J, J, J, J, J, J, J, J, J, J, J, J, J, J, J, J, J, J, J, J] [Z, Z, Z, Z, Z, Z, Z, Z, Z, Z, Z, (1, some (Ob.box [D.int IntKind.i64 vn, D.str (ByteArray.mk #[])] false)), Z, Z, Z, Z, Z, Z, Z, Z, Z, Z, Z, Z, Z, Z, Z, Z, Z, Z, Z, Z, Z, Z, Z, Z, Z, Z, Z, Z, Z, Z, Z, Z, Z, Z, Z, Z, Z, Z, Z, Z, Z, Z, Z, Z, Z, Z, Z, Z, Z, Z, Z, Z, Z, Z, Z, Z, Z, ownO 137 2 vr_1, Z])
noncomputable def F45_122 (call : FuncId → List D → Option D) (L : Nat) (C : Nat → Nat) (n_2 : Nat) (vh_f : Bool) (vh_n : Nat) (vh_c : List D) (vx_f : Bool) (vx_n : Nat) (vx_c : List D) (vy_f : Bool) (vy_n : Nat) (vy_c : List D) (vr : Ow) (vi : Int) : Option D :=
  loopAt (TEf call L C) O45 N45 FinM.canon Tryz.f45 [true, true, true, false, true, false] []  n_2 (St.mk [D.slc vh_f vh_n vh_c, J, J, J, J, J, J, D.slc vx_f vx_n vx_c, D.slc vy_f vy_n vy_c, ownD 69 vr, D.int IntKind.i64 vi, J, J, J, J, J, J, J, J, J, J, J, J, J, J, J, J, J, J, J, J, J, J, J, J, J, J, J, J, J, J, J, J, J, J, J, J, J, J, J, J, J, J, J, J, J, J, J, J, J, J, J, J, J, J, J, J, J, J, J, J] [Z, Z, Z, Z, Z, Z, Z, Z, Z, Z, Z, Z, Z, Z, Z, Z, Z, Z, Z, Z, Z, Z, Z, Z, Z, Z, Z, Z, Z, Z, Z, Z, Z, Z, Z, Z, Z, Z, Z, Z, Z, Z, Z, Z, Z, Z, Z, Z, Z, Z, Z, Z, Z, Z, Z, Z, Z, Z, Z, Z, Z, Z, Z, Z, Z, Z, Z, Z, Z, ownO 137 2 vr, Z])
theorem F45_979_eq (call : FuncId → List D → Option D) (L : Nat) (C : Nat → Nat) (n_2 : Nat) (vh_f : Bool) (vh_n : Nat) (vh_c : List D) (vx_f : Bool) (vx_n : Nat) (vx_c : List D) (vy_f : Bool) (vy_n : Nat) (vy_c : List D) (vi : Int) (vr_n : Nat) (t69_c : List D) (hC : ∀ t, C t = 1) : F45_979 call L C n_2 vh_f vh_n vh_c vx_f vx_n vx_c vy_f vy_n vy_c vi (vr_n) (t69_c) =
  (F45_122 call L C n_2 vh_f vh_n vh_c (vx_f) (vx_n) (vx_c) (vy_f) (vy_n) (vy_c) (Ow.own vr_n t69_c) (IntKind.wrap IntKind.i64 (vi + 1))) := by
  unfold F45_979
  rw [hC]
  kernel_rfl
theorem F45_7827_eqn (call : FuncId → List D → Option D) (L : Nat) (C : Nat → Nat) (n_2 : Nat) (vh_f : Bool) (vh_n : Nat) (vh_c : List D) (vx_f : Bool) (vx_n : Nat) (vx_c : List D) (vy_f : Bool) (vy_n : Nat) (vy_c : List D) (vi : Int) (vn_1 : Int) (vn1 : ByteArray) (hC : ∀ t, C t = 1) : F45_7827 call L C n_2 vh_f vh_n vh_c vx_f vx_n vx_c vy_f vy_n vy_c vi (Ow.nil) (vn_1) (vn1) =
  (F45_979 call L C n_2 vh_f vh_n vh_c vx_f vx_n vx_c vy_f vy_n vy_c vi (1) ([D.int IntKind.i64 vn_1, D.str vn1])) := by
  unfold F45_7827
  rw [hC]
  kernel_rfl
theorem F45_7827_eqo (call : FuncId → List D → Option D) (L : Nat) (C : Nat → Nat) (n_2 : Nat) (vh_f : Bool) (vh_n : Nat) (vh_c : List D) (vx_f : Bool) (vx_n : Nat) (vx_c : List D) (vy_f : Bool) (vy_n : Nat) (vy_c : List D) (vi : Int) (vr_2_n : Nat) (vr_2_c : List D) (vn_1 : Int) (vn1 : ByteArray) (hC : ∀ t, C t = 1) : F45_7827 call L C n_2 vh_f vh_n vh_c vx_f vx_n vx_c vy_f vy_n vy_c vi (Ow.own vr_2_n vr_2_c) (vn_1) (vn1) =
  (chkK (decide ((vr_2_n + 1) * 24 ≤ limit ∧ vr_2_n + 1 ≤ 9223372036854775807))
    (F45_979 call L C n_2 vh_f vh_n vh_c vx_f vx_n vx_c vy_f vy_n vy_c vi (vr_2_n + 1) (vr_2_c ++ [D.int IntKind.i64 vn_1, D.str vn1]))) := by
  unfold F45_7827
  rw [hC]
  kernel_rfl
theorem F45_15653_eqn (call : FuncId → List D → Option D) (L : Nat) (C : Nat → Nat) (n_2 : Nat) (vh_f : Bool) (vh_n : Nat) (vh_c : List D) (vx_f : Bool) (vx_n : Nat) (vx_c : List D) (vy_f : Bool) (vy_n : Nat) (vy_c : List D) (vi : Int) (t49 : Bool) (vn : Int) (hC : ∀ t, C t = 1) : F45_15653 call L C n_2 vh_f vh_n vh_c vx_f vx_n vx_c vy_f vy_n vy_c vi (Ow.nil) (t49) (vn) =
  (ifK (t49)
    (F45_7827 call L C n_2 vh_f vh_n vh_c vx_f vx_n vx_c vy_f vy_n vy_c vi (Ow.nil) (0) (ByteArray.mk #[45]))
    (chkK (decide (0 ≤ vi ∧ vi < (vx_n : Int)))
      (cellK (vx_c) (Int.toNat vi * 2 + 1) fun d_3 =>
      (strK (d_3) fun s_1 =>
      (ifK (ByteArray.toList s_1 == ByteArray.toList (ByteArray.mk #[120]))
        (F45_7827 call L C n_2 vh_f vh_n vh_c vx_f vx_n vx_c vy_f vy_n vy_c vi (Ow.nil) (0) (ByteArray.mk #[120]))
        (chkK (decide (0 ≤ vi ∧ vi < (vy_n : Int)))
          (cellK (vy_c) (Int.toNat vi * 2 + 1) fun d_4 =>
          (strK (d_4) fun s_2 =>
          (ifK (ByteArray.toList s_2 == ByteArray.toList (ByteArray.mk #[120]))
            (F45_7827 call L C n_2 vh_f vh_n vh_c vx_f vx_n vx_c vy_f vy_n vy_c vi (Ow.nil) (0) (ByteArray.mk #[120]))
            (F45_7827 call L C n_2 vh_f vh_n vh_c vx_f vx_n vx_c vy_f vy_n vy_c vi (Ow.nil) (vn) (ByteArray.mk #[]))))))))))) := by
  unfold F45_15653
  rw [hC]
  kernel_rfl
theorem F45_15653_eqo (call : FuncId → List D → Option D) (L : Nat) (C : Nat → Nat) (n_2 : Nat) (vh_f : Bool) (vh_n : Nat) (vh_c : List D) (vx_f : Bool) (vx_n : Nat) (vx_c : List D) (vy_f : Bool) (vy_n : Nat) (vy_c : List D) (vi : Int) (vr_1_n : Nat) (vr_1_c : List D) (t49 : Bool) (vn : Int) (hC : ∀ t, C t = 1) : F45_15653 call L C n_2 vh_f vh_n vh_c vx_f vx_n vx_c vy_f vy_n vy_c vi (Ow.own vr_1_n vr_1_c) (t49) (vn) =
  (ifK (t49)
    (F45_7827 call L C n_2 vh_f vh_n vh_c vx_f vx_n vx_c vy_f vy_n vy_c vi (Ow.own vr_1_n vr_1_c) (0) (ByteArray.mk #[45]))
    (chkK (decide (0 ≤ vi ∧ vi < (vx_n : Int)))
      (cellK (vx_c) (Int.toNat vi * 2 + 1) fun d_5 =>
      (strK (d_5) fun s_3 =>
      (ifK (ByteArray.toList s_3 == ByteArray.toList (ByteArray.mk #[120]))
        (F45_7827 call L C n_2 vh_f vh_n vh_c vx_f vx_n vx_c vy_f vy_n vy_c vi (Ow.own vr_1_n vr_1_c) (0) (ByteArray.mk #[120]))
        (chkK (decide (0 ≤ vi ∧ vi < (vy_n : Int)))
          (cellK (vy_c) (Int.toNat vi * 2 + 1) fun d_6 =>
          (strK (d_6) fun s_4 =>
          (ifK (ByteArray.toList s_4 == ByteArray.toList (ByteArray.mk #[120]))
            (F45_7827 call L C n_2 vh_f vh_n vh_c vx_f vx_n vx_c vy_f vy_n vy_c vi (Ow.own vr_1_n vr_1_c) (0) (ByteArray.mk #[120]))
            (F45_7827 call L C n_2 vh_f vh_n vh_c vx_f vx_n vx_c vy_f vy_n vy_c vi (Ow.own vr_1_n vr_1_c) (vn) (ByteArray.mk #[]))))))))))) := by
  unfold F45_15653
  rw [hC]
  kernel_rfl
theorem F45_122_eqn (call : FuncId → List D → Option D) (L : Nat) (C : Nat → Nat) (n_2 : Nat) (vh_f : Bool) (vh_n : Nat) (vh_c : List D) (vx_f : Bool) (vx_n : Nat) (vx_c : List D) (vy_f : Bool) (vy_n : Nat) (vy_c : List D) (vi : Int) : F45_122 call L C  (n_2 + 1) vh_f vh_n vh_c (vx_f) (vx_n) (vx_c) (vy_f) (vy_n) (vy_c) (Ow.nil) (vi) =
  (ifK (decide (vi < (vh_n : Int)))
    (chkK (decide (0 ≤ vi ∧ vi < (vx_n : Int)))
      (cellK (vx_c) (Int.toNat vi * 2 + 0) fun d =>
      (intK IntKind.i64 (d) fun x =>
      (chkK (decide (0 ≤ vi ∧ vi < (vy_n : Int)))
        (cellK (vy_c) (Int.toNat vi * 2 + 0) fun d_1 =>
        (intK IntKind.i64 (d_1) fun x_1 =>
        (chkK (decide (0 ≤ vi ∧ vi < (vx_n : Int)))
          (cellK (vx_c) (Int.toNat vi * 2 + 1) fun d_2 =>
          (strK (d_2) fun s =>
          (ifK (ByteArray.toList s == ByteArray.toList (ByteArray.mk #[45]))
            (F45_15653 call L C n_2 vh_f vh_n vh_c vx_f vx_n vx_c vy_f vy_n vy_c vi (Ow.nil) (true) (IntKind.wrap IntKind.i64 (x + x_1)))
            (chkK (decide (0 ≤ vi ∧ vi < (vy_n : Int)))
              (cellK (vy_c) (Int.toNat vi * 2 + 1) fun d_7 =>
              (strK (d_7) fun s_5 =>
              (F45_15653 call L C n_2 vh_f vh_n vh_c vx_f vx_n vx_c vy_f vy_n vy_c vi (Ow.nil) (ByteArray.toList s_5 == ByteArray.toList (ByteArray.mk #[45])) (IntKind.wrap IntKind.i64 (x + x_1))))))))))))))))
    (some (D.slc true 0 []))) := by kernel_rfl
theorem F45_122_eqo (call : FuncId → List D → Option D) (L : Nat) (C : Nat → Nat) (n_2 : Nat) (vh_f : Bool) (vh_n : Nat) (vh_c : List D) (vx_f : Bool) (vx_n : Nat) (vx_c : List D) (vy_f : Bool) (vy_n : Nat) (vy_c : List D) (vr_n_1 : Nat) (vr_c : List D) (vi : Int) : F45_122 call L C  (n_2 + 1) vh_f vh_n vh_c (vx_f) (vx_n) (vx_c) (vy_f) (vy_n) (vy_c) (Ow.own vr_n_1 vr_c) (vi) =
  (ifK (decide (vi < (vh_n : Int)))
    (chkK (decide (0 ≤ vi ∧ vi < (vx_n : Int)))
      (cellK (vx_c) (Int.toNat vi * 2 + 0) fun d_8 =>
      (intK IntKind.i64 (d_8) fun x_2 =>
      (chkK (decide (0 ≤ vi ∧ vi < (vy_n : Int)))
        (cellK (vy_c) (Int.toNat vi * 2 + 0) fun d_9 =>
        (intK IntKind.i64 (d_9) fun x_3 =>
        (chkK (decide (0 ≤ vi ∧ vi < (vx_n : Int)))
          (cellK (vx_c) (Int.toNat vi * 2 + 1) fun d_10 =>
          (strK (d_10) fun s_6 =>
          (ifK (ByteArray.toList s_6 == ByteArray.toList (ByteArray.mk #[45]))
            (F45_15653 call L C n_2 vh_f vh_n vh_c vx_f vx_n vx_c vy_f vy_n vy_c vi (Ow.own vr_n_1 vr_c) (true) (IntKind.wrap IntKind.i64 (x_2 + x_3)))
            (chkK (decide (0 ≤ vi ∧ vi < (vy_n : Int)))
              (cellK (vy_c) (Int.toNat vi * 2 + 1) fun d_11 =>
              (strK (d_11) fun s_7 =>
              (F45_15653 call L C n_2 vh_f vh_n vh_c vx_f vx_n vx_c vy_f vy_n vy_c vi (Ow.own vr_n_1 vr_c) (ByteArray.toList s_7 == ByteArray.toList (ByteArray.mk #[45])) (IntKind.wrap IntKind.i64 (x_2 + x_3))))))))))))))))
    (some (D.slc false vr_n_1 vr_c))) := by kernel_rfl
theorem F45_eq (call : FuncId → List D → Option D) (L : Nat) (C : Nat → Nat) (vh_f : Bool) (vh_n : Nat) (vh_c : List D) (va0 : ByteArray) (va1_f : Bool) (va1_n : Nat) (va1_c : List D) (va2 : Int) (vb0 : ByteArray) (vb1_f : Bool) (vb1_n : Nat) (vb1_c : List D) (vb2 : Int) : evFnT (TEf call L C) O45 N45 FinM.canon Tryz.f45 [D.slc vh_f vh_n vh_c, D.agg [D.str va0, D.slc va1_f va1_n va1_c, D.int IntKind.i64 va2], D.agg [D.str vb0, D.slc vb1_f vb1_n vb1_c, D.int IntKind.i64 vb2]] =
  (optK (call 26 [D.slc vh_f vh_n vh_c, D.agg [D.str va0, D.slc va1_f va1_n va1_c, D.int IntKind.i64 va2]]) fun r =>
    (slcK (r) fun f n c =>
    (optK (call 26 [D.slc vh_f vh_n vh_c, D.agg [D.str vb0, D.slc vb1_f vb1_n vb1_c, D.int IntKind.i64 vb2]]) fun r_1 =>
      (slcK (r_1) fun f_1 n_1 c_1 =>
      (F45_122 call L C L vh_f vh_n vh_c (f) (n) (c) (f_1) (n_1) (c_1) (Ow.nil) (0)))))) := by kernel_rfl

def N101 : NTab := fun p => match p with
  | 122 => some { keep := [0, 2, 3, 4, 8, 9, 10], kl := [6], ren := [(2, 2), (3, 3), (6, 6)] }
  | _ => none
noncomputable def F101_122 (call : FuncId → List D → Option D) (L : Nat) (C : Nat → Nat) (n : Nat) (vl_f : Bool) (vl_n : Nat) (vl_c : List D) (vwaiting : Int) (t9 : Int) (t10 : Int) (vout : Int) (vout1 : ByteArray) : Option D :=
  loopAt (TEf call L C) O0 N101 FinM.canon Tryz.f101 [true, true, true, false, true, false] []  n (St.mk [D.slc vl_f vl_n vl_c, J, D.loc 2 0 0, D.loc 3 0 0, D.int IntKind.i64 vwaiting, J, J, J, D.slc vl_f vl_n vl_c, D.int IntKind.i64 t9, D.int IntKind.i64 t10, J, J, J, J, J, J, J, J, J, J, J, J, J, J, J, J, J, J, J, J, J, J, J, J, J, J, J, J, J, J] [Z, Z, (1, some (Ob.box [D.int IntKind.i64 0, D.str (ByteArray.mk #[])] false)), (1, some (Ob.box [D.int IntKind.i64 vout, D.str vout1] false)), Z, Z, Z, Z, Z, Z, Z, Z, Z, Z, Z, Z, Z, Z, Z, Z, Z, Z, Z, Z, Z, Z, Z, Z, Z, Z, Z, Z, Z, Z, Z, Z, Z, Z, Z, Z, Z])
theorem F101_122_eq (call : FuncId → List D → Option D) (L : Nat) (C : Nat → Nat) (n : Nat) (vl_f : Bool) (vl_n : Nat) (vl_c : List D) (vwaiting : Int) (t9 : Int) (t10 : Int) (vout : Int) (vout1 : ByteArray) : F101_122 call L C  (n + 1) vl_f vl_n vl_c (vwaiting) (t9) (t10) (vout) (vout1) =
  (ifK (decide (t10 < t9))
    (chkK (decide (0 ≤ t10 ∧ t10 < (vl_n : Int)))
      (cellK (vl_c) (Int.toNat t10 * 2 + 0) fun d =>
      (intK IntKind.i64 (d) fun x =>
      (cellK (vl_c) (Int.toNat t10 * 2 + 1) fun d_1 =>
      (strK (d_1) fun s =>
      (ifK (ByteArray.toList s == ByteArray.toList (ByteArray.mk #[45]))
        (optK (call 102 [D.agg [D.int IntKind.i64 x, D.str s]]) fun r =>
          (boolK (r) fun b =>
          (ifK (b)
            (optK (call 102 [D.agg [D.int IntKind.i64 vout, D.str vout1]]) fun r_1 =>
              (boolK (r_1) fun b_1 =>
              (ifK (!b_1)
                (F101_122 call L C n vl_f vl_n vl_c (IntKind.wrap IntKind.i64 (vwaiting + 1)) (t9) (IntKind.wrap IntKind.i64 (t10 + 1)) (x) (s))
                (ifK (decide (x < vout))
                  (F101_122 call L C n vl_f vl_n vl_c (IntKind.wrap IntKind.i64 (vwaiting + 1)) (t9) (IntKind.wrap IntKind.i64 (t10 + 1)) (x) (s))
                  (F101_122 call L C n vl_f vl_n vl_c (IntKind.wrap IntKind.i64 (vwaiting + 1)) (t9) (IntKind.wrap IntKind.i64 (t10 + 1)) (vout) (vout1))))))
            (F101_122 call L C n vl_f vl_n vl_c (IntKind.wrap IntKind.i64 (vwaiting + 1)) (t9) (IntKind.wrap IntKind.i64 (t10 + 1)) (vout) (vout1)))))
        (optK (call 102 [D.agg [D.int IntKind.i64 x, D.str s]]) fun r_2 =>
          (boolK (r_2) fun b_2 =>
          (ifK (b_2)
            (optK (call 102 [D.agg [D.int IntKind.i64 vout, D.str vout1]]) fun r_3 =>
              (boolK (r_3) fun b_3 =>
              (ifK (!b_3)
                (F101_122 call L C n vl_f vl_n vl_c (vwaiting) (t9) (IntKind.wrap IntKind.i64 (t10 + 1)) (x) (s))
                (ifK (decide (x < vout))
                  (F101_122 call L C n vl_f vl_n vl_c (vwaiting) (t9) (IntKind.wrap IntKind.i64 (t10 + 1)) (x) (s))
                  (F101_122 call L C n vl_f vl_n vl_c (vwaiting) (t9) (IntKind.wrap IntKind.i64 (t10 + 1)) (vout) (vout1))))))
            (F101_122 call L C n vl_f vl_n vl_c (vwaiting) (t9) (IntKind.wrap IntKind.i64 (t10 + 1)) (vout) (vout1)))))))))))
    (ifK (vwaiting == (vl_n : Int))
      (some (D.agg [D.int IntKind.i64 0, D.str (ByteArray.mk #[45])]))
      (some (D.agg [D.int IntKind.i64 vout, D.str vout1])))) := by kernel_rfl
theorem F101_eq (call : FuncId → List D → Option D) (L : Nat) (C : Nat → Nat) (vl_f : Bool) (vl_n : Nat) (vl_c : List D) : evFnT (TEf call L C) O0 N101 FinM.canon Tryz.f101 [D.slc vl_f vl_n vl_c] =
  (F101_122 call L C L vl_f vl_n vl_c (0) ((vl_n : Int)) (0) (0) (ByteArray.mk #[120])) := by kernel_rfl

end Go.Pd
end

section
namespace Go.Pd
open Go Go.Proofs
set_option maxRecDepth 100000
def N6 : NTab := fun p => match p with
  | 7 => some { keep := [0, 1], kl := [], ren := [] }
  | 63 => some { keep := [0, 1, 5, 6, 7, 8], kl := [], ren := [] }
  | 127 => some { keep := [0, 1, 5, 6, 7, 8], kl := [], ren := [] }
  | 511 => some { keep := [0, 1, 5, 6, 7, 8, 9], kl := [], ren := [] }
  | 1023 => some { keep := [0, 1, 5], kl := [], ren := [] }
  | _ => none
noncomputable def F6_1023 (call : FuncId → List D → Option D) (L : Nat) (C : Nat → Nat) (vh_f : Bool) (vh_n : Nat) (vh_c : List D) (vl_f : Bool) (vl_n : Nat) (vl_c : List D) (vx_f : Bool) (vx_n : Nat) (vx_c : List D) : Option D :=
  cutAt (TEf call L C) O0 N6 FinM.canon Tryz.f6 [true, true, true, true, true, true, true, true, true] []  (C 1023) (St.mk [D.slc vh_f vh_n vh_c, D.slc vl_f vl_n vl_c, J, J, J, D.slc vx_f vx_n vx_c, J, J, J, J, J, J, J, J, J, J, J, J, J, J, J, J, J, J, J, J, J, J, J, J, J, J, J, J, J, J, J, J, J, J, J, J, J, J, J, J, J, J, J, J, J, J, J, J, J, J, J, J, J, J, J, J, J, J, J, J, J, J, J, J, J, J, J, J, J, J, J, J, J, J, J, J, J, J, J, J, J, J, J, J, J, J, J, J, J, J, J, J, J, J, J, J, J, J, J, J, J, J, J, J, J, J, J, J, J, J, J, J, J, J, J, J, J, J] [Z, Z, Z, Z, Z, Z, Z, Z, Z, Z, Z, Z, Z, Z, Z, Z, Z, Z, Z, Z, Z, Z, Z, Z, Z, Z, Z, Z, Z, Z, Z, Z, Z, Z, Z, Z, Z, Z, Z, Z, Z, Z, Z, Z, Z, Z, Z, Z, Z, Z, Z, Z, Z, Z, Z, Z, Z, Z, Z, Z, Z, Z, Z, Z, Z, Z, Z, Z, Z, Z, Z, Z, Z, Z, Z, Z, Z, Z, Z, Z, Z, Z, Z, Z, Z, Z, Z, Z, Z, Z, Z, Z, Z, Z, Z, Z, Z, Z, Z, Z, Z, Z, Z, Z, Z, Z, Z, Z, Z, Z, Z, Z, Z, Z, Z, Z, Z, Z, Z, Z, Z, Z, Z, Z])
noncomputable def F6_511 (call : FuncId → List D → Option D) (L : Nat) (C : Nat → Nat) (vh_f : Bool) (vh_n : Nat) (vh_c : List D) (vl_f : Bool) (vl_n : Nat) (vl_c : List D) (vx_f : Bool) (vx_n : Nat) (vx_c : List D) (vf_f : Bool) (vf_n : Nat) (vf_c : List D) (ve1 : Int) (vbad_1 : Int) (vwant : Ow) : Option D :=
  cutAt (TEf call L C) O0 N6 FinM.canon Tryz.f6 [true, true, true, true, true, true, true, true] []  (C 511) (St.mk [D.slc vh_f vh_n vh_c, D.slc vl_f vl_n vl_c, J, J, J, D.slc vx_f vx_n vx_c, D.slc vf_f vf_n vf_c, D.int IntKind.i64 ve1, D.int IntKind.i64 vbad_1, ownD 0 vwant, J, J, J, J, J, J, J, J, J, J, J, J, J, J, J, J, J, J, J, J, J, J, J, J, J, J, J, J, J, J, J, J, J, J, J, J, J, J, J, J, J, J, J, J, J, J, J, J, J, J, J, J, J, J, J, J, J, J, J, J, J, J, J, J, J, J, J, J, J, J, J, J, J, J, J, J, J, J, J, J, J, J, J, J, J, J, J, J, J, J, J, J, J, J, J, J, J, J, J, J, J, J, J, J, J, J, J, J, J, J, J, J, J, J] [Z, Z, Z, Z, Z, Z, Z, Z, Z, Z, Z, Z, Z, Z, Z, Z, Z, Z, Z, Z, Z, Z, Z, Z, Z, Z, Z, Z, Z, Z, Z, Z, Z, Z, Z, Z, Z, Z, Z, Z, Z, Z, Z, Z, Z, Z, Z, Z, Z, Z, Z, Z, Z, Z, Z, Z, Z, Z, Z, Z, Z, Z, Z, Z, Z, Z, Z, Z, Z, Z, Z, Z, Z, Z, Z, Z, Z, Z, Z, Z, Z, Z, Z, Z, Z, Z, Z, Z, Z, Z, Z, Z, Z, Z, Z, Z, Z, Z, Z, Z, Z, Z, Z, Z, Z, Z, Z, Z, Z, Z, Z, Z, Z, Z, Z, Z, Z, Z, Z, Z, Z, Z, Z, Z])
noncomputable def F6_127 (call : FuncId → List D → Option D) (L : Nat) (C : Nat → Nat) (vh_f : Bool) (vh_n : Nat) (vh_c : List D) (vl_f : Bool) (vl_n : Nat) (vl_c : List D) (vx_f : Bool) (vx_n : Nat) (vx_c : List D) (vf_f : Bool) (vf_n : Nat) (vf_c : List D) (ve1 : Int) (vbad_1 : Int) : Option D :=
  cutAt (TEf call L C) O0 N6 FinM.canon Tryz.f6 [true, true, true, true, true, true] []  (C 127) (St.mk [D.slc vh_f vh_n vh_c, D.slc vl_f vl_n vl_c, J, J, J, D.slc vx_f vx_n vx_c, D.slc vf_f vf_n vf_c, D.int IntKind.i64 ve1, D.int IntKind.i64 vbad_1, J, J, J, J, J, J, J, J, J, J, J, J, J, J, J, J, J, J, J, J, J, J, J, J, J, J, J, J, J, J, J, J, J, J, J, J, J, J, J, J, J, J, J, J, J, J, J, J, J, J, J, J, J, J, J, J, J, J, J, J, J, J, J, J, J, J, J, J, J, J, J, J, J, J, J, J, J, J, J, J, J, J, J, J, J, J, J, J, J, J, J, J, J, J, J, J, J, J, J, J, J, J, J, J, J, J, J, J, J, J, J, J, J, J, J] [Z, Z, Z, Z, Z, Z, Z, Z, Z, Z, Z, Z, Z, Z, Z, Z, Z, Z, Z, Z, Z, Z, Z, Z, Z, Z, Z, Z, Z, Z, Z, Z, Z, Z, Z, Z, Z, Z, Z, Z, Z, Z, Z, Z, Z, Z, Z, Z, Z, Z, Z, Z, Z, Z, Z, Z, Z, Z, Z, Z, Z, Z, Z, Z, Z, Z, Z, Z, Z, Z, Z, Z, Z, Z, Z, Z, Z, Z, Z, Z, Z, Z, Z, Z, Z, Z, Z, Z, Z, Z, Z, Z, Z, Z, Z, Z, Z, Z, Z, Z, Z, Z, Z, Z, Z, Z, Z, Z, Z, Z, Z, Z, Z, Z, Z, Z, Z, Z, Z, Z, Z, Z, Z, Z])
noncomputable def F6_63 (call : FuncId → List D → Option D) (L : Nat) (C : Nat → Nat) (vh_f : Bool) (vh_n : Nat) (vh_c : List D) (vl_f : Bool) (vl_n : Nat) (vl_c : List D) (vx_f : Bool) (vx_n : Nat) (vx_c : List D) (vf_f : Bool) (vf_n : Nat) (vf_c : List D) (ve1 : Int) (vbad : Int) : Option D :=
  cutAt (TEf call L C) O0 N6 FinM.canon Tryz.f6 [true, true, true, true, true] []  (C 63) (St.mk [D.slc vh_f vh_n vh_c, D.slc vl_f vl_n vl_c, J, J, J, D.slc vx_f vx_n vx_c, D.slc vf_f vf_n vf_c, D.int IntKind.i64 ve1, D.int IntKind.i64 vbad, J, J, J, J, J, J, J, J, J, J, J, J, J, J, J, J, J, J, J, J, J, J, J, J, J, J, J, J, J, J, J, J, J, J, J, J, J, J, J, J, J, J, J, J, J, J, J, J, J, J, J, J, J, J, J, J, J, J, J, J, J, J, J, J, J, J, J, J, J, J, J, J, J, J, J, J, J, J, J, J, J, J, J, J, J, J, J, J, J, J, J, J, J, J, J, J, J, J, J, J, J, J, J, J, J, J, J, J, J, J, J, J, J, J, J] [Z, Z, Z, Z, Z, Z, Z, Z, Z, Z, Z, Z, Z, Z, Z, Z, Z, Z, Z, Z, Z, Z, Z, Z, Z, Z, Z, Z, Z, Z, Z, Z, Z, Z, Z, Z, Z, Z, Z, Z, Z, Z, Z, Z, Z, Z, Z, Z, Z, Z, Z, Z, Z, Z, Z, Z, Z, Z, Z, Z, Z, Z, Z, Z, Z, Z, Z, Z, Z, Z, Z, Z, Z, Z, Z, Z, Z, Z, Z, Z, Z, Z, Z, Z, Z, Z, Z, Z, Z, Z, Z, Z, Z, Z, Z, Z, Z, Z, Z, Z, Z, Z, Z, Z, Z, Z, Z, Z, Z, Z, Z, Z, Z, Z, Z, Z, Z, Z, Z, Z, Z, Z, Z, Z])
noncomputable def F6_7 (call : FuncId → List D → Option D) (L : Nat) (C : Nat → Nat) (vh_f : Bool) (vh_n : Nat) (vh_c : List D) (vl_f : Bool) (vl_n : Nat) (vl_c : List D) : Option D :=
  cutAt (TEf call L C) O0 N6 FinM.canon Tryz.f6 [true, true] []  (C 7) (St.mk [D.slc vh_f vh_n vh_c, D.slc vl_f vl_n vl_c, J, J, J, J, J, J, J, J, J, J, J, J, J, J, J, J, J, J, J, J, J, J, J, J, J, J, J, J, J, J, J, J, J, J, J, J, J, J, J, J, J, J, J, J, J, J, J, J, J, J, J, J, J, J, J, J, J, J, J, J, J, J, J, J, J, J, J, J, J, J, J, J, J, J, J, J, J, J, J, J, J, J, J, J, J, J, J, J, J, J, J, J, J, J, J, J, J, J, J, J, J, J, J, J, J, J, J, J, J, J, J, J, J, J, J, J, J, J, J, J, J, J] [Z, Z, Z, Z, Z, Z, Z, Z, Z, Z, Z, Z, Z, Z, Z, Z, Z, Z, Z, Z, Z, Z, Z, Z, Z, Z, Z, Z, Z, Z, Z, Z, Z, Z, Z, Z, Z, Z, Z, Z, Z, Z, Z, Z, Z, Z, Z, Z, Z, Z, Z, Z, Z, Z, Z, Z, Z, Z, Z, Z, Z, Z, Z, Z, Z, Z, Z, Z, Z, Z, Z, Z, Z, Z, Z, Z, Z, Z, Z, Z, Z, Z, Z, Z, Z, Z, Z, Z, Z, Z, Z, Z, Z, Z, Z, Z, Z, Z, Z, Z, Z, Z, Z, Z, Z, Z, Z, Z, Z, Z, Z, Z, Z, Z, Z, Z, Z, Z, Z, Z, Z, Z, Z, Z])
theorem F6_1023_eq (call : FuncId → List D → Option D) (L : Nat) (C : Nat → Nat) (vh_f : Bool) (vh_n : Nat) (vh_c : List D) (vl_f : Bool) (vl_n : Nat) (vl_c : List D) (vx_f : Bool) (vx_n : Nat) (vx_c : List D) (hC : ∀ t, C t = 1) : F6_1023 call L C  vh_f vh_n vh_c vl_f vl_n vl_c vx_f vx_n vx_c  =
  (ifK (decide ((vl_n : Int) < 2))
    (optK (call 16 []) fun r_12 =>
      (boolK (r_12) fun b_4 =>
      (some (D.bool b_4))))
    (chkK (decide ((0 : Int) ≤ 0 ∧ (0 : Int) < (vl_n : Int)))
      (cellK (vl_c) (0) fun d_2 =>
      (strK (d_2) fun s =>
      (cellK (vl_c) (1) fun d_3 =>
      (slcK (d_3) fun f_4 n_9 c_5 =>
      (cellK (vl_c) (2) fun d_4 =>
      (intK IntKind.i64 (d_4) fun x_5 =>
      (chkK (decide ((0 : Int) ≤ 1 ∧ (1 : Int) < (vl_n : Int)))
        (cellK (vl_c) (3) fun d_5 =>
        (strK (d_5) fun s_1 =>
        (cellK (vl_c) (4) fun d_6 =>
        (slcK (d_6) fun f_5 n_10 c_6 =>
        (cellK (vl_c) (5) fun d_7 =>
        (intK IntKind.i64 (d_7) fun x_6 =>
        (optK (call 44 [D.slc vh_f vh_n vh_c, D.agg [D.str s, D.slc f_4 n_9 c_5, D.int IntKind.i64 x_5], D.agg [D.str s_1, D.slc f_5 n_10 c_6, D.int IntKind.i64 x_6]]) fun r_13 =>
          (tupK (r_13) 2 fun c_7 =>
          (cellK (c_7) (0) fun d_8 =>
          (slcK (d_8) fun f_6 n_11 c_8 =>
          (cellK (c_7) (1) fun d_9 =>
          (intK IntKind.i64 (d_9) fun x_7 =>
          (chkK (decide ((0 : Int) ≤ 0 ∧ (0 : Int) < (vx_n : Int)))
            (cellK (vx_c) (0) fun d_10 =>
            (strK (d_10) fun s_2 =>
            (cellK (vx_c) (1) fun d_11 =>
            (slcK (d_11) fun f_7 n_12 c_9 =>
            (cellK (vx_c) (2) fun d_12 =>
            (intK IntKind.i64 (d_12) fun x_8 =>
            (optK (call 23 [D.slc vh_f vh_n vh_c, D.agg [D.str s_2, D.slc f_7 n_12 c_9, D.int IntKind.i64 x_8]]) fun r_14 =>
              (intK IntKind.i64 (r_14) fun x_9 =>
              (chkK (decide ((0 : Int) ≤ 1 ∧ (1 : Int) < (vx_n : Int)))
                (cellK (vx_c) (3) fun d_13 =>
                (strK (d_13) fun s_3 =>
                (cellK (vx_c) (4) fun d_14 =>
                (slcK (d_14) fun f_8 n_13 c_10 =>
                (cellK (vx_c) (5) fun d_15 =>
                (intK IntKind.i64 (d_15) fun x_10 =>
                (optK (call 23 [D.slc vh_f vh_n vh_c, D.agg [D.str s_3, D.slc f_8 n_13 c_10, D.int IntKind.i64 x_10]]) fun r_15 =>
                  (intK IntKind.i64 (r_15) fun x_11 =>
                  (chkK (decide ((0 : Int) ≤ 0 ∧ (0 : Int) < (vl_n : Int)))
                    (cellK (vl_c) (0) fun d_16 =>
                    (strK (d_16) fun s_4 =>
                    (chkK (decide ((0 : Int) ≤ 1 ∧ (1 : Int) < (vl_n : Int)))
                      (cellK (vl_c) (3) fun d_17 =>
                      (strK (d_17) fun s_5 =>
                      (optK (call 24 [D.bool (ByteArray.toList s_4 == ByteArray.toList s_5), D.int IntKind.i64 9]) fun r_16 =>
                        (intK IntKind.i64 (r_16) fun x_12 =>
                        (optK (call 22 [D.slc true 3 [D.int IntKind.i64 x_9, D.int IntKind.i64 x_11, D.int IntKind.i64 x_12]]) fun r_17 =>
                          (intK IntKind.i64 (r_17) fun x_13 =>
                          (ifK (x_13 == 0)
                            (chkK (decide ((0 : Int) ≤ 0 ∧ (0 : Int) < (vx_n : Int)))
                              (cellK (vx_c) (0) fun d_18 =>
                              (strK (d_18) fun s_6 =>
                              (cellK (vx_c) (1) fun d_19 =>
                              (slcK (d_19) fun f_9 n_14 c_11 =>
                              (cellK (vx_c) (2) fun d_20 =>
                              (intK IntKind.i64 (d_20) fun x_14 =>
                              (chkK (decide ((0 : Int) ≤ 1 ∧ (1 : Int) < (vx_n : Int)))
                                (cellK (vx_c) (3) fun d_21 =>
                                (strK (d_21) fun s_7 =>
                                (cellK (vx_c) (4) fun d_22 =>
                                (slcK (d_22) fun f_10 n_15 c_12 =>
                                (cellK (vx_c) (5) fun d_23 =>
                                (intK IntKind.i64 (d_23) fun x_15 =>
                                (optK (call 45 [D.slc vh_f vh_n vh_c, D.agg [D.str s_6, D.slc f_9 n_14 c_11, D.int IntKind.i64 x_14], D.agg [D.str s_7, D.slc f_10 n_15 c_12, D.int IntKind.i64 x_15]]) fun r_18 =>
                                  (slcK (r_18) fun f_11 n_16 c_13 =>
                                  (ifK (x_7 == x_13)
                                    (optK (call 43 [D.slc f_6 n_11 c_8]) fun r_19 =>
                                      (slcK (r_19) fun f_12 n_17 c_14 =>
                                      (optK (call 42 [D.slc f_12 n_17 c_14, D.slc f_11 n_16 c_13]) fun r_20 =>
                                        (boolK (r_20) fun b_5 =>
                                        (ifK (b_5)
                                          (optK (call 16 []) fun r_21 =>
                                            (boolK (r_21) fun b_6 =>
                                            (some (D.bool b_6))))
                                          (some (D.bool false)))))))
                                    (some (D.bool false)))))))))))))))))))
                            (ifK (x_7 == x_13)
                              (optK (call 43 [D.slc f_6 n_11 c_8]) fun r_22 =>
                                (slcK (r_22) fun f_13 n_18 c_15 =>
                                (optK (call 42 [D.slc f_13 n_18 c_15, D.nils]) fun r_23 =>
                                  (boolK (r_23) fun b_7 =>
                                  (ifK (b_7)
                                    (optK (call 16 []) fun r_24 =>
                                      (boolK (r_24) fun b_8 =>
                                      (some (D.bool b_8))))
                                    (some (D.bool false)))))))
                              (some (D.bool false))))))))))))))))))))))))))))))))))))))))))))))))))))) := by
  unfold F6_1023
  rw [hC]
  kernel_rfl
theorem F6_511_eqn (call : FuncId → List D → Option D) (L : Nat) (C : Nat → Nat) (vh_f : Bool) (vh_n : Nat) (vh_c : List D) (vl_f : Bool) (vl_n : Nat) (vl_c : List D) (vx_f : Bool) (vx_n : Nat) (vx_c : List D) (vf_f : Bool) (vf_n : Nat) (vf_c : List D) (ve1 : Int) (vbad_1 : Int) (hC : ∀ t, C t = 1) : F6_511 call L C  vh_f vh_n vh_c vl_f vl_n vl_c vx_f vx_n vx_c vf_f vf_n vf_c ve1 vbad_1 (Ow.nil) =
  (ifK (ve1 != vbad_1)
    (some (D.bool false))
    (optK (call 43 [D.slc vf_f vf_n vf_c]) fun r_10 =>
      (slcK (r_10) fun f_3 n_7 c_4 =>
      (optK (call 42 [D.slc f_3 n_7 c_4, D.nils]) fun r_11 =>
        (boolK (r_11) fun b_3 =>
        (ifK (!b_3)
          (some (D.bool false))
          (F6_1023 call L C vh_f vh_n vh_c vl_f vl_n vl_c vx_f vx_n vx_c))))))) := by
  unfold F6_511
  rw [hC]
  kernel_rfl
theorem F6_511_eqs (call : FuncId → List D → Option D) (L : Nat) (C : Nat → Nat) (vh_f : Bool) (vh_n : Nat) (vh_c : List D) (vl_f : Bool) (vl_n : Nat) (vl_c : List D) (vx_f : Bool) (vx_n : Nat) (vx_c : List D) (vf_f : Bool) (vf_n : Nat) (vf_c : List D) (ve1 : Int) (vbad_1 : Int) (vwant_f : Bool) (vwant_n : Nat) (vwant_c : List D) (hC : ∀ t, C t = 1) : F6_511 call L C  vh_f vh_n vh_c vl_f vl_n vl_c vx_f vx_n vx_c vf_f vf_n vf_c ve1 vbad_1 (Ow.slc vwant_f vwant_n vwant_c) =
  (ifK (ve1 != vbad_1)
    (some (D.bool false))
    (optK (call 43 [D.slc vf_f vf_n vf_c]) fun r_25 =>
      (slcK (r_25) fun f_14 n_19 c_16 =>
      (optK (call 42 [D.slc f_14 n_19 c_16, D.slc vwant_f vwant_n vwant_c]) fun r_26 =>
        (boolK (r_26) fun b_9 =>
        (ifK (!b_9)
          (some (D.bool false))
          (F6_1023 call L C vh_f vh_n vh_c vl_f vl_n vl_c vx_f vx_n vx_c))))))) := by
  unfold F6_511
  rw [hC]
  kernel_rfl
theorem F6_127_eq (call : FuncId → List D → Option D) (L : Nat) (C : Nat → Nat) (vh_f : Bool) (vh_n : Nat) (vh_c : List D) (vl_f : Bool) (vl_n : Nat) (vl_c : List D) (vx_f : Bool) (vx_n : Nat) (vx_c : List D) (vf_f : Bool) (vf_n : Nat) (vf_c : List D) (ve1 : Int) (vbad_1 : Int) (hC : ∀ t, C t = 1) : F6_127 call L C  vh_f vh_n vh_c vl_f vl_n vl_c vx_f vx_n vx_c vf_f vf_n vf_c ve1 (vbad_1) =
  (ifK (vbad_1 == 0)
    (optK (call 41 [D.slc vh_f vh_n vh_c, D.slc vx_f vx_n vx_c]) fun r_9 =>
      (slcK (r_9) fun f_2 n_5 c_3 =>
      (F6_511 call L C vh_f vh_n vh_c vl_f vl_n vl_c vx_f vx_n vx_c vf_f vf_n vf_c ve1 vbad_1 (Ow.slc f_2 n_5 c_3))))
    (F6_511 call L C vh_f vh_n vh_c vl_f vl_n vl_c vx_f vx_n vx_c vf_f vf_n vf_c ve1 vbad_1 (Ow.nil))) := by
  unfold F6_127
  rw [hC]
  kernel_rfl
theorem F6_63_eq (call : FuncId → List D → Option D) (L : Nat) (C : Nat → Nat) (vh_f : Bool) (vh_n : Nat) (vh_c : List D) (vl_f : Bool) (vl_n : Nat) (vl_c : List D) (vx_f : Bool) (vx_n : Nat) (vx_c : List D) (vf_f : Bool) (vf_n : Nat) (vf_c : List D) (ve1 : Int) (vbad : Int) (hC : ∀ t, C t = 1) : F6_63 call L C  vh_f vh_n vh_c vl_f vl_n vl_c (vx_f) (vx_n) (vx_c) (vf_f) (vf_n) (vf_c) (ve1) (vbad) =
  (ifK (vbad == 0)
    (optK (call 40 [D.slc vh_f vh_n vh_c, D.slc vx_f vx_n vx_c]) fun r_8 =>
      (intK IntKind.i64 (r_8) fun x_4 =>
      (F6_127 call L C vh_f vh_n vh_c vl_f vl_n vl_c vx_f vx_n vx_c vf_f vf_n vf_c ve1 (x_4))))
    (F6_127 call L C vh_f vh_n vh_c vl_f vl_n vl_c vx_f vx_n vx_c vf_f vf_n vf_c ve1 (vbad))) := by
  unfold F6_63
  rw [hC]
  kernel_rfl
theorem F6_7_eq (call : FuncId → List D → Option D) (L : Nat) (C : Nat → Nat) (vh_f : Bool) (vh_n : Nat) (vh_c : List D) (vl_f : Bool) (vl_n : Nat) (vl_c : List D) (hC : ∀ t, C t = 1) : F6_7 call L C  vh_f vh_n vh_c vl_f vl_n vl_c  =
  (optK (call 37 [D.slc vl_f vl_n vl_c]) fun r_3 =>
    (slcK (r_3) fun f n_1 c =>
    (optK (call 38 [D.slc vh_f vh_n vh_c, D.slc vl_f vl_n vl_c]) fun r_4 =>
      (tupK (r_4) 2 fun c_1 =>
      (cellK (c_1) (0) fun d =>
      (slcK (d) fun f_1 n_2 c_2 =>
      (cellK (c_1) (1) fun d_1 =>
      (intK IntKind.i64 (d_1) fun x =>
      (optK (call 39 [D.slc vh_f vh_n vh_c]) fun r_5 =>
        (intK IntKind.i64 (r_5) fun x_1 =>
        (ifK (decide ((vl_n : Int) < 2))
          (optK (call 24 [D.bool true, D.int IntKind.i64 2]) fun r_6 =>
            (intK IntKind.i64 (r_6) fun x_2 =>
            (optK (call 22 [D.slc true 2 [D.int IntKind.i64 x_1, D.int IntKind.i64 x_2]]) fun r_7 =>
              (intK IntKind.i64 (r_7) fun x_3 =>
              (F6_63 call L C vh_f vh_n vh_c vl_f vl_n vl_c (f) (n_1) (c) (f_1) (n_2) (c_2) (x) (x_3))))))
          (optK (call 24 [D.bool (decide ((vl_n : Int) > 4)), D.int IntKind.i64 2]) fun r_27 =>
            (intK IntKind.i64 (r_27) fun x_16 =>
            (optK (call 22 [D.slc true 2 [D.int IntKind.i64 x_1, D.int IntKind.i64 x_16]]) fun r_28 =>
              (intK IntKind.i64 (r_28) fun x_17 =>
              (F6_63 call L C vh_f vh_n vh_c vl_f vl_n vl_c (f) (n_1) (c) (f_1) (n_2) (c_2) (x) (x_17))))))))))))))))) := by
  unfold F6_7
  rw [hC]
  kernel_rfl
theorem F6_eq (call : FuncId → List D → Option D) (L : Nat) (C : Nat → Nat) (vh_f : Bool) (vh_n : Nat) (vh_c : List D) (vl_f : Bool) (vl_n : Nat) (vl_c : List D) : evFnT (TEf call L C) O0 N6 FinM.canon Tryz.f6 [D.slc vh_f vh_n vh_c, D.slc vl_f vl_n vl_c] =
  (ifK (decide ((vl_n : Int) > 6))
    (optK (call 16 []) fun r =>
      (boolK (r) fun b =>
      (some (D.bool b))))
    (optK (call 15 [D.slc vh_f vh_n vh_c, D.slc vl_f vl_n vl_c]) fun r_1 =>
      (boolK (r_1) fun b_1 =>
      (ifK (!b_1)
        (optK (call 16 []) fun r_2 =>
          (boolK (r_2) fun b_2 =>
          (some (D.bool b_2))))
        (F6_7 call L C vh_f vh_n vh_c vl_f vl_n vl_c))))) := by kernel_rfl

end Go.Pd
end

section
namespace Go.Pd
open Go Go.Proofs Go.RowKit

/-- A player: name, entries, handicap strokes. -/
abbrev PlV := ByteArray × List NetV × Int
def plC (p : PlV) : List D := [.str p.1, .slc false p.2.1.length (p.2.1.flatMap netD), .int .i64 p.2.2]
section
variable {γ : Type} (pre : List PlV) (x : PlV) (r : List PlV) {k : D → Option γ}
theorem p0 : cellK ((pre ++ x :: r).flatMap plC) (Int.toNat (pre.length : Int) * 3 + 0) k = k (.str x.1) := cell_row pre x r plC 3 (fun _ => rfl) 0 (by omega) k
theorem p1 : cellK ((pre ++ x :: r).flatMap plC) (Int.toNat (pre.length : Int) * 3 + 1) k = k (.slc false x.2.1.length (x.2.1.flatMap netD)) := cell_row pre x r plC 3 (fun _ => rfl) 1 (by omega) k
theorem p2 : cellK ((pre ++ x :: r).flatMap plC) (Int.toNat (pre.length : Int) * 3 + 2) k = k (.int .i64 x.2.2) := cell_row pre x r plC 3 (fun _ => rfl) 2 (by omega) k
end
theorem room48 {i : Nat} (h : i ≤ 1000000) : decide ((i + 1) * 48 ≤ limit ∧ i + 1 ≤ 9223372036854775807) = true := by
  simp only [decide_eq_true_eq]
  rw [show limit = 140737488355328 from rfl]
  omega
theorem go37 {call : FuncId → List D → Option D} {f : Bool} {n : Nat} : ∀ (r pre : List PlV) (fuel : Nat), (pre ++ r).length = n → n ≤ 1000 → r.length < fuel → F37_58 call LL C1 fuel f n ((pre ++ r).flatMap plC) (owR plC pre) n (pre.length : Int) = some (slR plC (pre ++ r)) := by
  intro r
  induction r with
  | nil =>
    intro pre fuel hn hB hf
    cases fuel with
    | zero => exact absurd hf (Nat.not_lt_zero _)
    | succ fuel =>
      subst hn
      cases pre with
      | nil =>
        show F37_58 call LL C1 (fuel + 1) f _ _ .nil _ _ = _
        rw [F37_58_eqn, end_pre, ifK_false]
        rfl
      | cons o os =>
        show F37_58 call LL C1 (fuel + 1) f _ _ (.own (os.length + 1) ((o :: os).flatMap plC)) _ _ = _
        rw [F37_58_eqo, end_pre, ifK_false, List.append_nil]
        rfl
  | cons x r ih =>
    intro pre fuel hn hB hf
    cases fuel with
    | zero => exact absurd hf (Nat.not_lt_zero _)
    | succ fuel =>
      have ih := ih (pre ++ [x]) fuel (by rw [app1]; exact hn) hB (by simp at hf; omega)
      rw [app1, owR_snoc] at ih
      subst hn
      cases pre with
      | nil =>
        show F37_58 call LL C1 (fuel + 1) f _ _ .nil _ _ = _
        rw [F37_58_eqn, lt_pre, ifK_true, in_pre, chkK_true, p0, strK_str, p1, slcK_slc, p2, intK_int, step_pre _ x r (by omega)]
        exact ih
      | cons o os =>
        show F37_58 call LL C1 (fuel + 1) f _ _ (.own (os.length + 1) ((o :: os).flatMap plC)) _ _ = _
        rw [F37_58_eqo, lt_pre, ifK_true, in_pre, chkK_true, p0, strK_str, p1, slcK_slc, p2, intK_int, step_pre _ x r (by omega), room48 (by simp at hB; omega), chkK_true]
        exact ih
/-- Players as those of the reference. -/
theorem ok37 {f : Bool} (l : List PlV) (hl : l.length ≤ 1000) : OK5 37 [.slc f l.length (l.flatMap plC)] (slR plC l) := by
  refine fnT none_ok Tryz.func37 (ord := O0) (N := N37) (by kernel_rfl) ((F37_eq _ _ _ _ _ _).trans ?_)
  exact go37 (f := f) l [] LL rfl hl (by unfold LL; omega)

theorem nets_inj : ∀ {a b : List NetV}, a.flatMap netD = b.flatMap netD → a = b
  | [], [], _ => rfl
  | [], x :: b, h => by simp [netD] at h
  | x :: a, [], h => by simp [netD] at h
  | x :: a, y :: b, h => by
    simp only [List.flatMap_cons, netD, List.cons_append, List.nil_append, List.cons.injEq, D.int.injEq, D.str.injEq, true_and] at h
    obtain ⟨h1, h2, h3⟩ := h
    rw [nets_inj h3, show x = y from Prod.ext h1 h2]
theorem plC_inj {x y : PlV} (h : plC x = plC y) : x = y := by
  simp only [plC, List.cons.injEq, D.str.injEq, D.slc.injEq, D.int.injEq, true_and, and_true] at h
  obtain ⟨h1, ⟨_, h2⟩, h3⟩ := h
  exact Prod.ext h1 (Prod.ext (nets_inj h2) h3)

/-! ### Few -/
def shPs : List PlV → Bool
  | [] => true
  | x :: r => ifK (!shP x.1 x.2.1) false (shPs r)
theorem go15 {call : FuncId → List D → Option D} (a78 : ∀ x : PlV, call 78 [.agg [.str x.1, .slc false x.2.1.length (x.2.1.flatMap netD), .int .i64 x.2.2]] = some (.bool (shP x.1 x.2.1))) {f g : Bool} {n m : Nat} {c : List D} : ∀ (r pre : List PlV) (fuel : Nat), (pre ++ r).length = m → m ≤ 1000 → r.length < fuel → F15_26 call LL C1 fuel f n c g m ((pre ++ r).flatMap plC) m (pre.length : Int) = some (.bool (ifK (shPs r) (decide ((n : Int) ≤ 39)) false)) := by
  intro r
  induction r with
  | nil =>
    intro pre fuel hn hB hf
    cases fuel with
    | zero => exact absurd hf (Nat.not_lt_zero _)
    | succ fuel =>
      subst hn
      rw [F15_26_eq, end_pre, ifK_false]
      rfl
  | cons x r ih =>
    intro pre fuel hn hB hf
    cases fuel with
    | zero => exact absurd hf (Nat.not_lt_zero _)
    | succ fuel =>
      have ih := ih (pre ++ [x]) fuel (by rw [app1]; exact hn) hB (by simp at hf; omega)
      rw [app1] at ih
      subst hn
      rw [F15_26_eq, lt_pre, ifK_true, in_pre, chkK_true, p0, strK_str, p1, slcK_slc, p2, intK_int, a78, optK_some, boolK_bool, step_pre pre x r (by omega), ih, show shPs (x :: r) = ifK (!shP x.1 x.2.1) false (shPs r) from rfl]
      cases shP x.1 x.2.1 <;> rfl
theorem ok15l {f g : Bool} {n : Nat} {c : List D} (l : List PlV) (hl : l.length ≤ 1000) : OK5 15 [.slc f n c, .slc g l.length (l.flatMap plC)] (.bool (ifK (shPs l) (decide ((n : Int) ≤ 39)) false)) := by
  obtain ⟨B, hb, h78, _⟩ := exF [⟨78, PlV, fun x => [.agg (plC x)], fun x => .bool (shP x.1 x.2.1)⟩] ⟨⟨fun x => ok78 x.1 x.2.1 x.2.2, fun x y e => by
    simp only [List.cons.injEq, D.agg.injEq, and_true] at e
    show D.bool (shP x.1 x.2.1) = .bool (shP y.1 y.2.1)
    rw [plC_inj e], fun _ => rfl⟩, trivial⟩ rfl
  refine fnT hb Tryz.func15 (ord := O0) (N := N15) (by kernel_rfl) ((F15_eq _ _ _ _ _ _ _ _ _).trans ?_)
  exact go15 h78 (f := f) (g := g) l [] LL rfl hl (by unfold LL; omega)
theorem shPs_mem : ∀ {l : List PlV}, shPs l = true → ∀ x ∈ l, x.1.size ≤ 60 ∧ x.2.1.length ≤ 39
  | [], _, x, hx => by cases hx
  | y :: r, h, x, hx => by
    unfold shPs at h
    cases hy : shP y.1 y.2.1 with
    | false => rw [hy, Bool.not_false, ifK_true] at h; cases h
    | true =>
      rw [hy, Bool.not_true, ifK_false] at h
      rcases List.mem_cons.1 hx with rfl | hx
      · exact shP_true hy
      · exact shPs_mem h x hx

/-! ### Checked -/
/-- Does a text stand among others? -/
def namedB (s : ByteArray) : List PlV → Bool
  | [] => false
  | x :: r => (ByteArray.toList x.1 == ByteArray.toList s) || namedB s r
/-- The first error of players, some behind others. -/
def plsGo (n : Nat) (P S : Nat → Int) : List PlV → List PlV → Int
  | _, [] => 0
  | pre, x :: r => ifK (plErr n P S x.1 x.2.1 x.2.2 != 0) (plErr n P S x.1 x.2.1 x.2.2) (ifK (namedB x.1 pre) 9 (plsGo n P S (pre ++ [x]) r))
theorem str_beq (a b : ByteArray) : (a == b) = (ByteArray.toList a == ByteArray.toList b) := by
  rw [ByteArray.toList_eq, ByteArray.toList_eq]
  obtain ⟨x⟩ := a
  obtain ⟨y⟩ := b
  show (x == y) = (x.toList == y.toList)
  simp
/-- What a look into names finds. -/
theorem find_named (s : ByteArray) : ∀ (l : List PlV) (i : Nat), (findD (.str s) (l.map fun x => D.str x.1) i = some none ∧ namedB s l = false) ∨ ∃ j, findD (.str s) (l.map fun x => D.str x.1) i = some (some (i + j)) ∧ j < l.length ∧ namedB s l = true
  | [], _ => .inl ⟨rfl, rfl⟩
  | x :: l, i => by
    have hk : keyEq (.str s) (.str x.1) = some (ByteArray.toList x.1 == ByteArray.toList s) := by
      show some (s == x.1) = _
      rw [str_beq, Bool.beq_comm]
    simp only [List.map_cons, findD, hk, namedB]
    cases hxy : (ByteArray.toList x.1 == ByteArray.toList s) with
    | true => exact .inr ⟨0, rfl, by simp, rfl⟩
    | false =>
      rcases find_named s l (i + 1) with ⟨h1, h2⟩ | ⟨j, h1, h2, h3⟩
      · exact .inl ⟨h1, h2⟩
      · exact .inr ⟨j + 1, by rw [show i + (j + 1) = i + 1 + j by omega]; exact h1, by simp; exact h2, h3⟩
section
variable {f g : Bool} {n m : Nat} {c : List D} {P S : Nat → Int}
/-- Calls of one of some players, behind an argument. -/
def famPl (k : FuncId) (d : D) (l : List PlV) (F : PlV → D) : Fam := ⟨k, {x : PlV // x ∈ l}, fun x => [d, .agg (plC x.1)], fun x => F x.1⟩
theorem famPl_good {k : FuncId} {d : D} {l : List PlV} {F : PlV → D} (h : ∀ x ∈ l, OK5 k [d, .agg (plC x)] (F x)) (hc : ∀ x, cstG k [d, .agg (plC x)] = none) : (famPl k d l F).Good :=
  ⟨fun x => h x.1 x.2, fun x y e => by
    simp only [famPl, List.cons.injEq, D.agg.injEq, true_and, and_true] at e
    show F x.1 = F y.1
    rw [plC_inj e], fun x => hc x.1⟩
theorem go87 {call : FuncId → List D → Option D} {l : List PlV} (h57 : ∀ x ∈ l, call 57 [.slc f n c, .agg (plC x)] = some (.int .i64 (plErr n P S x.1 x.2.1 x.2.2)))
    (h83 : ∀ b e, call 83 [.bool b, .int .i64 e] = some (.int .i64 (ifK b e 0))) (h81 : ∀ x y, call 81 [.slc true 2 [.int .i64 x, .int .i64 y]] = some (.int .i64 (fst2 x y))) : ∀ (r pre : List PlV) (fuel : Nat), pre ++ r = l → l.length ≤ 1000 → r.length < fuel →
    F87_58 call LL C1 fuel f n c g l.length (l.flatMap plC) l.length (pre.length : Int) (pre.map fun x => D.str x.1) (pre.map fun _ => D.bool true) = some (.int .i64 (plsGo n P S pre r)) := by
  intro r
  induction r with
  | nil =>
    intro pre fuel hn hB hf
    cases fuel with
    | zero => exact absurd hf (Nat.not_lt_zero _)
    | succ fuel =>
      subst hn
      rw [F87_58_eq, end_pre, ifK_false]
      rfl
  | cons x r ih =>
    intro pre fuel hn hB hf
    cases fuel with
    | zero => exact absurd hf (Nat.not_lt_zero _)
    | succ fuel =>
      have ih := ih (pre ++ [x]) fuel (by rw [app1]; exact hn) hB (by simp at hf; omega)
      have hx : call 57 [.slc f n c, .agg [.str x.1, .slc false x.2.1.length (x.2.1.flatMap netD), .int .i64 x.2.2]] = _ := h57 x (by rw [← hn]; simp)
      subst hn
      have hfind := find_named x.1 pre 0
      rw [F87_58_eq, lt_pre, ifK_true, in_pre, chkK_true, p0, strK_str, p1, slcK_slc, p2, intK_int, hx, optK_some, intK_int, step_pre pre x r (by omega),
        show plsGo n P S pre (x :: r) = ifK (plErr n P S x.1 x.2.1 x.2.2 != 0) (plErr n P S x.1 x.2.1 x.2.2) (ifK (namedB x.1 pre) 9 (plsGo n P S (pre ++ [x]) r)) from rfl]
      generalize plErr n P S x.1 x.2.1 x.2.2 = e
      rcases hfind with ⟨h1, h2⟩ | ⟨j, h1, h2, h3⟩
      · have hu : updD (.str x.1) (.bool true) (pre.map fun x => D.str x.1) (pre.map fun _ => D.bool true) = some ((pre ++ [x]).map fun x => D.str x.1, (pre ++ [x]).map fun _ => D.bool true) := by
          unfold updD
          rw [h1]
          simp
        rw [h1, h2]
        show optK (call 83 [.bool false, .int .i64 9]) _ = _
        rw [h83, optK_some, intK_int, h81, optK_some, intK_int, hu]
        show ifK (fst2 e 0 != 0) _ (F87_58 call LL C1 fuel f n c g _ _ _ _ _ _) = _
        rw [ih, ifK_false]
        unfold fst2
        cases he : e != 0 with
        | true => rw [ifK_true, ifK_true, he, ifK_true]
        | false => rfl
      · rw [h1, h3]
        show cellK (pre.map fun _ => D.bool true) (0 + j) _ = _
        rw [cellK_some (show (pre.map fun _ => D.bool true)[0 + j]? = some (.bool true) by simp [h2]), boolK_bool, h83, optK_some, intK_int, h81, optK_some, intK_int, ifK_true]
        unfold fst2
        cases he : e != 0 with
        | true => rw [ifK_true, ifK_true, he, ifK_true]
        | false => rfl
theorem ok87 (hc : HolesC n c P S) (l : List PlV) (hl : l.length ≤ 1000) (hs : ∀ x ∈ l, x.1.size ≤ 60 ∧ x.2.1.length ≤ 39) : OK5 87 [.slc f n c, .slc g l.length (l.flatMap plC)] (.int .i64 (plsGo n P S [] l)) := by
  obtain ⟨B, hb, h57, h83, h81, _⟩ := exF [famPl 57 (.slc f n c) l fun x => .int .i64 (plErr n P S x.1 x.2.1 x.2.2), fam83, fam81]
    ⟨famPl_good (fun x hx => ok57 hc x.1 x.2.1 x.2.2 (by have := (hs x hx).1; omega) (by have := (hs x hx).2; omega)) (fun _ => rfl), fam83_good, fam81_good, trivial⟩ rfl
  refine fnT hb Tryz.func87 (ord := O0) (N := N87) (by kernel_rfl) ((F87_eq _ _ _ _ _ _ _ _ _).trans ?_)
  exact go87 (f := f) (g := g) (fun x hx => h57 ⟨x, hx⟩) (fun b e => h83 (b, e)) (fun x y => h81 (x, y)) l [] LL rfl hl (by unfold LL; omega)
end
end Go.Pd
end

section
namespace Go.Pd
open Go Go.Proofs Go.RowKit

section
variable {f g : Bool} {n : Nat} {c : List D} {P S : Nat → Int}
theorem p00 {γ : Type} (pre : List PlV) (x : PlV) (r : List PlV) {k : D → Option γ} : cellK ((pre ++ x :: r).flatMap plC) (Int.toNat (pre.length : Int) * 3 + 0 + 0) k = k (.str x.1) := p0 pre x r
theorem in40 {call : FuncId → List D → Option D} {l : List PlV} {pre : List PlV} {x : PlV} {r : List PlV} (hl : pre ++ x :: r = l) (hB : l.length ≤ 1000) (N : Nat) : ∀ (q p : List PlV) (fuel : Nat), p ++ q = pre → q.length < fuel →
    F40_6734 call LL C1 N fuel f n c g l.length (l.flatMap plC) (pre.length : Int) (p.length : Int) = ifK (namedB x.1 q) (some (.int .i64 9)) (F40_26 call LL C1 N f n c g l.length (l.flatMap plC) ((pre ++ [x]).length : Int)) := by
  intro q
  induction q with
  | nil =>
    intro p fuel hp hf
    cases fuel with
    | zero => exact absurd hf (Nat.not_lt_zero _)
    | succ fuel =>
      subst hl
      rw [List.append_nil] at hp
      subst hp
      have h1 : decide ((p.length : Int) < (p.length : Int)) = false := by simp
      rw [F40_6734_eq, h1, ifK_false, step_pre p x r (by omega)]
      rfl
  | cons y q ih =>
    intro p fuel hp hf
    cases fuel with
    | zero => exact absurd hf (Nat.not_lt_zero _)
    | succ fuel =>
      have ih := ih (p ++ [y]) fuel (by rw [app1]; exact hp) (by simp at hf; omega)
      subst hp
      have h1 : decide ((p.length : Int) < ((p ++ y :: q).length : Int)) = true := lt_pre p y q
      have e1 : (p ++ y :: q) ++ x :: r = p ++ y :: (q ++ x :: r) := by simp
      have h2 : decide ((0 : Int) ≤ (p.length : Int) ∧ (p.length : Int) < (l.length : Int)) = true := by rw [← hl, e1]; exact in_pre p y (q ++ x :: r)
      have h3 : decide ((0 : Int) ≤ ((p ++ y :: q).length : Int) ∧ ((p ++ y :: q).length : Int) < (l.length : Int)) = true := by rw [← hl]; exact in_pre (p ++ y :: q) x r
      have c1 : ∀ {γ : Type} (k : D → Option γ), cellK (l.flatMap plC) (Int.toNat (p.length : Int) * 3 + 0 + 0) k = k (.str y.1) := fun k => by rw [← hl, e1]; exact p00 p y (q ++ x :: r)
      have c2 : ∀ {γ : Type} (k : D → Option γ), cellK (l.flatMap plC) (Int.toNat ((p ++ y :: q).length : Int) * 3 + 0 + 0) k = k (.str x.1) := fun k => by rw [← hl]; exact p00 (p ++ y :: q) x r
      have hw : IntKind.wrap .i64 ((p.length : Int) + 1) = ((p ++ [y]).length : Int) := step_pre p y (q ++ x :: r) (by rw [← e1, hl]; omega)
      rw [F40_6734_eq, h1, ifK_true, h2, chkK_true, c1, strK_str, h3, chkK_true, c2, strK_str, hw, ih, show namedB x.1 (y :: q) = ((ByteArray.toList y.1 == ByteArray.toList x.1) || namedB x.1 q) from rfl]
      cases (ByteArray.toList y.1 == ByteArray.toList x.1) <;> rfl
theorem go40 {call : FuncId → List D → Option D} {l : List PlV} (h23 : ∀ x ∈ l, call 23 [.slc f n c, .agg (plC x)] = some (.int .i64 (plErr n P S x.1 x.2.1 x.2.2))) : ∀ (r pre : List PlV) (fuel : Nat), pre ++ r = l → l.length ≤ 1000 → r.length < fuel →
    F40_26 call LL C1 fuel f n c g l.length (l.flatMap plC) (pre.length : Int) = some (.int .i64 (plsGo n P S pre r)) := by
  intro r
  induction r with
  | nil =>
    intro pre fuel hn hB hf
    cases fuel with
    | zero => exact absurd hf (Nat.not_lt_zero _)
    | succ fuel =>
      subst hn
      rw [F40_26_eq, end_pre, ifK_false]
      rfl
  | cons x r ih =>
    intro pre fuel hn hB hf
    cases fuel with
    | zero => exact absurd hf (Nat.not_lt_zero _)
    | succ fuel =>
      have ih := ih (pre ++ [x]) fuel (by rw [app1]; exact hn) hB (by simp at hf; omega)
      have hx : call 23 [.slc f n c, .agg [.str x.1, .slc false x.2.1.length (x.2.1.flatMap netD), .int .i64 x.2.2]] = _ := h23 x (by rw [← hn]; simp)
      have hin := in40 (f := f) (g := g) (n := n) (c := c) (call := call) hn hB fuel pre [] LL rfl (by have : pre.length ≤ l.length := (by rw [← hn]; simp); unfold LL; omega)
      rw [ih, show (([] : List PlV).length : Int) = 0 from rfl] at hin
      subst hn
      rw [F40_26_eq, lt_pre, ifK_true, in_pre, chkK_true, p0, strK_str, p1, slcK_slc, p2, intK_int, hx, optK_some, intK_int, hin,
        show plsGo n P S pre (x :: r) = ifK (plErr n P S x.1 x.2.1 x.2.2 != 0) (plErr n P S x.1 x.2.1 x.2.2) (ifK (namedB x.1 pre) 9 (plsGo n P S (pre ++ [x]) r)) from rfl]
      cases plErr n P S x.1 x.2.1 x.2.2 != 0 <;> cases namedB x.1 pre <;> rfl
theorem ok40 (hc : HolesC n c P S) (l : List PlV) (hl : l.length ≤ 1000) (hs : ∀ x ∈ l, x.1.size ≤ 60 ∧ x.2.1.length ≤ 39) : OK5 40 [.slc f n c, .slc g l.length (l.flatMap plC)] (.int .i64 (plsGo n P S [] l)) := by
  obtain ⟨B, hb, h23, _⟩ := exF [famPl 23 (.slc f n c) l fun x => .int .i64 (plErr n P S x.1 x.2.1 x.2.2)]
    ⟨famPl_good (fun x hx => ok23 hc x.1 x.2.1 x.2.2 (by have := (hs x hx).2; omega)) (fun _ => rfl), trivial⟩ rfl
  refine fnT hb Tryz.func40 (ord := O0) (N := N40) (by kernel_rfl) ((F40_eq _ _ _ _ _ _ _ _ _).trans ?_)
  exact go40 (f := f) (g := g) (fun x hx => h23 ⟨x, hx⟩) l [] LL rfl hl (by unfold LL; omega)
/-- What valid players are. -/
theorem pls_zero : ∀ {r pre : List PlV}, plsGo n P S pre r = 0 → ∀ x ∈ r, plErr n P S x.1 x.2.1 x.2.2 = 0
  | [], _, _, x, hx => by cases hx
  | y :: r, pre, h, x, hx => by
    unfold plsGo at h
    cases h1 : plErr n P S y.1 y.2.1 y.2.2 != 0 with
    | true => rw [h1, ifK_true] at h; rw [h] at h1; cases h1
    | false =>
      rw [h1, ifK_false] at h
      cases h2 : namedB y.1 pre with
      | true => rw [h2, ifK_true] at h; cases h
      | false =>
        rw [h2, ifK_false] at h
        rcases List.mem_cons.1 hx with rfl | hx
        · simpa using h1
        · exact pls_zero h x hx
end

/-! ### The best -/
def bpGo : List NetV → NetV → Int → NetV × Int
  | [], o, w => (o, w)
  | x :: r, o, w => bpGo r (ifK (emptyB x.2 && (!emptyB o.2 || decide (x.1 < o.1))) x o) (ifK (dashB x.2) (w + 1) w)
def noX : NetV := (0, ByteArray.mk #[120])
def noD : NetV := (0, ByteArray.mk #[45])
/-- The best net strokes by the program. -/
def bpV (l : List NetV) : NetV := ifK ((bpGo l noX 0).2 == (l.length : Int)) noD (bpGo l noX 0).1
def bstGo : List NetV → NetV → NetV
  | [], b => b
  | x :: r, b => bstGo r (ifK ((emptyB x.2 && (!emptyB b.2 || decide (x.1 < b.1))) || (markX x.2 && dashB b.2)) x b)
/-- The best net strokes by the reference. -/
def bstV (l : List NetV) : NetV := bstGo l noD
/-- Net strokes as they are. -/
def vNet (x : NetV) : Prop := x.2 = ByteArray.mk #[] ∨ x = noX ∨ x = noD
theorem ee : emptyB (ByteArray.mk #[]) = true := by kernel_rfl
theorem ex : emptyB (ByteArray.mk #[120]) = false := by kernel_rfl
theorem ed : emptyB (ByteArray.mk #[45]) = false := by kernel_rfl
theorem de : dashB (ByteArray.mk #[]) = false := by kernel_rfl
theorem dx : dashB (ByteArray.mk #[120]) = false := by kernel_rfl
theorem dd : dashB (ByteArray.mk #[45]) = true := by kernel_rfl
theorem me : markX (ByteArray.mk #[]) = false := by kernel_rfl
theorem mx : markX (ByteArray.mk #[120]) = true := by kernel_rfl
theorem md : markX (ByteArray.mk #[45]) = false := by kernel_rfl
theorem br_bp : ∀ (l : List NetV) (o b : NetV) (w k : Int), (∀ x ∈ l, vNet x) → ((w = k ∧ o = noX ∧ b = noD) ∨ (w < k ∧ b = o ∧ (o.2 = ByteArray.mk #[] ∨ o = noX))) → bstGo l b = ifK ((bpGo l o w).2 == k + l.length) noD (bpGo l o w).1
  | [], o, b, w, k, _, h => by
    show b = ifK (w == k + ((0 : Nat) : Int)) noD o
    rcases h with ⟨rfl, rfl, rfl⟩ | ⟨h1, rfl, _⟩
    · rw [show (w == w + ((0 : Nat) : Int)) = true by simp, ifK_true]
    · rw [show (w == k + ((0 : Nat) : Int)) = false by simp; omega, ifK_false]
  | x :: l, o, b, w, k, hv, h => by
    have hl : k + ((x :: l).length : Int) = (k + 1) + (l.length : Int) := by simp; omega
    rw [hl]
    refine br_bp l _ _ _ (k + 1) (fun y hy => hv y (List.mem_cons_of_mem _ hy)) ?_
    rcases hv x (List.mem_cons_self ..) with hx | rfl | rfl
    · rw [hx, ee, de, me]
      right
      rcases h with ⟨rfl, rfl, rfl⟩ | ⟨h1, rfl, h2⟩
      · refine ⟨by rw [ifK_false]; omega, ?_, ?_⟩
        · show ifK ((true && (!emptyB (ByteArray.mk #[45]) || _)) || _) x _ = ifK (true && (!emptyB (ByteArray.mk #[120]) || _)) x _
          rw [ed, ex]
          rfl
        · left
          show (ifK (true && (!emptyB (ByteArray.mk #[120]) || _)) x _).2 = _
          rw [ex]
          exact hx
      · refine ⟨by rw [ifK_false]; omega, by rw [Bool.false_and, Bool.or_false], ?_⟩
        cases (true && (!emptyB b.2 || decide (x.1 < b.1))) with
        | true => exact .inl hx
        | false => exact h2
    · show _ ∨ _
      rw [show noX.2 = ByteArray.mk #[120] from rfl, ex, dx, mx]
      right
      rcases h with ⟨rfl, rfl, rfl⟩ | ⟨h1, rfl, h2⟩
      · exact ⟨by rw [ifK_false]; omega, by rw [show dashB noD.2 = true from dd]; rfl, .inr rfl⟩
      · refine ⟨by rw [ifK_false]; omega, ?_, h2⟩
        have hb : dashB b.2 = false := by
          rcases h2 with h2 | h2
          · rw [h2]; exact de
          · rw [h2]; exact dx
        rw [hb]
        rfl
    · rw [show noD.2 = ByteArray.mk #[45] from rfl, ed, dd, md]
      rcases h with ⟨rfl, rfl, rfl⟩ | ⟨h1, rfl, h2⟩
      · exact .inl ⟨by rw [ifK_true], rfl, rfl⟩
      · exact .inr ⟨by rw [ifK_true]; omega, rfl, h2⟩
theorem bstV_eq {l : List NetV} (hv : ∀ x ∈ l, vNet x) : bstV l = bpV l := by
  have := br_bp l noX noD 0 0 hv (.inl ⟨rfl, rfl, rfl⟩)
  rw [Int.zero_add] at this
  exact this
theorem go101 {call : FuncId → List D → Option D} {f : Bool} {n : Nat} (h102 : ∀ x s, call 102 [.agg [.int .i64 x, .str s]] = some (.bool (emptyB s))) : ∀ (r pre : List NetV) (fuel : Nat) (o : NetV) (w : Int), (pre ++ r).length = n → n ≤ 1000 → 0 ≤ w → w ≤ pre.length → r.length < fuel →
    F101_122 call LL C1 fuel f n ((pre ++ r).flatMap netD) w n (pre.length : Int) o.1 o.2 = some (.agg (netD (ifK ((bpGo r o w).2 == (n : Int)) noD (bpGo r o w).1))) := by
  intro r
  induction r with
  | nil =>
    intro pre fuel o w hn hB hw hw2 hf
    cases fuel with
    | zero => exact absurd hf (Nat.not_lt_zero _)
    | succ fuel =>
      subst hn
      rw [F101_122_eq, end_pre, ifK_false]
      show _ = some (D.agg (netD (ifK (w == _) noD o)))
      cases (w == ((pre ++ ([] : List NetV)).length : Int)) <;> rfl
  | cons x r ih =>
    intro pre fuel o w hn hB hw hw2 hf
    cases fuel with
    | zero => exact absurd hf (Nat.not_lt_zero _)
    | succ fuel =>
      have ih := fun o w h1 h2 => ih (pre ++ [x]) fuel o w (by rw [app1]; exact hn) hB h1 h2 (by simp at hf; omega)
      rw [app1] at ih
      have hlen : pre.length ≤ n := by rw [← hn]; simp
      have hww : IntKind.wrap .i64 (w + 1) = w + 1 := wrap_id (by omega)
      subst hn
      have hd : (ByteArray.toList x.2 == ByteArray.toList (ByteArray.mk #[45])) = dashB x.2 := rfl
      rw [F101_122_eq, lt_pre, ifK_true, in_pre, chkK_true, n0, intK_int, n1, strK_str, hd, h102, optK_some, boolK_bool, h102, optK_some, boolK_bool, hww, step_pre pre x r (by omega),
        ih x (w + 1) (by omega) (by simp; omega), ih o (w + 1) (by omega) (by simp; omega), ih x w (by omega) (by simp; omega), ih o w (by omega) (by simp; omega),
        show bpGo (x :: r) o w = bpGo r (ifK (emptyB x.2 && (!emptyB o.2 || decide (x.1 < o.1))) x o) (ifK (dashB x.2) (w + 1) w) from rfl]
      cases dashB x.2 <;> cases emptyB x.2 <;> cases emptyB o.2 <;> cases decide (x.1 < o.1) <;> rfl
theorem ok101 {f : Bool} (l : List NetV) (hl : l.length ≤ 1000) : OK5 101 [.slc f l.length (l.flatMap netD)] (.agg (netD (bpV l))) := by
  refine fnT bNt_ok Tryz.func101 (ord := O0) (N := N101) (by kernel_rfl) ((F101_eq _ _ _ _ _ _).trans ?_)
  exact go101 (f := f) h102 l [] LL noX 0 rfl hl (by omega) (by simp) (by unfold LL; omega)
end Go.Pd
end

section
namespace Go.Pd
open Go Go.Proofs Go.RowKit

/-- The net strokes of a player. -/
def ntP (n : Nat) (S : Nat → Int) (p : PlV) : List NetV := ntGo (gvH n S p.2.2) p.2.1 0
theorem ntP_len (n : Nat) (S : Nat → Int) (p : PlV) : (ntP n S p).length = p.2.1.length := ntGo_len ..
/-- The net strokes of a hole. -/
def atN (l : List NetV) (i : Nat) : NetV := (l[i]?).getD noD
theorem atN_split {l : List NetV} {i : Nat} (h : i < l.length) : ∃ pre r, l = pre ++ atN l i :: r ∧ pre.length = i := by
  refine ⟨l.take i, l.drop (i + 1), ?_, by simp; omega⟩
  unfold atN
  rw [List.getElem?_eq_getElem h]
  simp
section
variable {γ : Type} {l : List NetV} {i : Nat} {k : D → Option γ}
theorem nAt0 (h : i < l.length) : cellK (l.flatMap netD) (Int.toNat (i : Int) * 2 + 0) k = k (.int .i64 (atN l i).1) := by
  obtain ⟨pre, r, h1, h2⟩ := atN_split h
  generalize atN l i = v at *
  subst h1 h2
  exact n0 (c := k) pre v r
theorem nAt1 (h : i < l.length) : cellK (l.flatMap netD) (Int.toNat (i : Int) * 2 + 1) k = k (.str (atN l i).2) := by
  obtain ⟨pre, r, h1, h2⟩ := atN_split h
  generalize atN l i = v at *
  subst h1 h2
  exact n1 (c := k) pre v r
end
theorem str_of {s : ByteArray} {l : List UInt8} (h : (ByteArray.toList s == ByteArray.toList (ByteArray.mk l.toArray)) = true) : s = ByteArray.mk l.toArray := by
  rw [ByteArray.toList_eq, ByteArray.toList_eq] at h
  obtain ⟨⟨x⟩⟩ := s
  simp at h
  subst h
  rfl
theorem nvE_v (g : Nat → Int) {x : NetV} (i : Nat) (h : entE x = 0) : vNet (nvE g x i) := by
  unfold entE at h
  unfold nvE vNet
  cases hq : (emptyB x.2 || markC x.2) with
  | true => exact .inl rfl
  | false =>
    rw [hq, ifK_false] at h
    rw [ifK_false]
    cases hx : markX x.2 with
    | true => exact .inr (.inl (by rw [str_of (l := [120]) hx]; rfl))
    | false =>
      cases hd : dashB x.2 with
      | true => exact .inr (.inr (by rw [str_of (l := [45]) hd]; rfl))
      | false => rw [hx, hd] at h; cases h
theorem ntGo_v (g : Nat → Int) : ∀ {l : List NetV} (i : Nat), (∀ x ∈ l, entE x = 0) → ∀ y ∈ ntGo g l i, vNet y
  | [], _, _, y, hy => by cases hy
  | x :: l, i, h, y, hy => by
    rcases List.mem_cons.1 hy with rfl | hy
    · exact nvE_v g i (h x (List.mem_cons_self ..))
    · exact ntGo_v g (i + 1) (fun z hz => h z (List.mem_cons_of_mem _ hz)) y hy
theorem atN_v {l : List NetV} (h : ∀ y ∈ l, vNet y) (i : Nat) : vNet (atN l i) := by
  unfold atN
  cases hi : l[i]? with
  | none => exact .inr (.inr rfl)
  | some v => exact h v (List.mem_of_getElem? hi)
/-- Net strokes of a hole, player by player. -/
def colV (n : Nat) (S : Nat → Int) (l : List PlV) (i : Nat) : List NetV := l.map fun x => atN (ntP n S x) i
/-- A value of each hole. -/
def tabN (F : Nat → NetV) : Nat → Nat → List NetV
  | 0, _ => []
  | m + 1, i => F i :: tabN F m (i + 1)
theorem tabN_len (F : Nat → NetV) : ∀ m i, (tabN F m i).length = m
  | 0, _ => rfl
  | m + 1, i => by simp [tabN, tabN_len F m (i + 1)]
theorem tabN_eq {F G : Nat → NetV} (h : ∀ i, F i = G i) : ∀ m i, tabN F m i = tabN G m i
  | 0, _ => rfl
  | m + 1, i => by rw [tabN, tabN, h, tabN_eq h m (i + 1)]
theorem agg2n {γ : Type} (v : NetV) (k : List D → Option γ) : aggK (.agg (netD v)) 2 k = k [.int .i64 v.1, .str v.2] := rfl
theorem write_net (A B : List D) (z v : NetV) {j : Nat} (hj : A.length = j) : writeAt (A ++ (netD z ++ B)) j (netD v) = A ++ (netD v ++ B) := by
  subst hj
  simp [writeAt, netD]
theorem nets_len (l : List NetV) : (l.flatMap netD).length = l.length * 2 := by
  induction l with
  | nil => rfl
  | cons x l ih => rw [List.flatMap_cons, List.length_append, ih]; simp [netD]; omega
/-- A list that is handed on as it was appended. -/
def argN : List NetV → D
  | [] => .nils
  | x :: l => .slc false (l.length + 1) ((x :: l).flatMap netD)
theorem argN_inj : ∀ {a b : List NetV}, argN a = argN b → a = b
  | [], [], _ => rfl
  | [], x :: b, h => by cases h
  | x :: a, [], h => by cases h
  | x :: a, y :: b, h => by
    simp only [argN, D.slc.injEq, true_and] at h
    exact nets_inj h.2
theorem ok101n : ∀ (l : List NetV), l.length ≤ 1000 → OK5 101 [argN l] (.agg (netD (bpV l)))
  | [], _ => CallOK.canon (ok101 (f := true) [] (by simp))
  | x :: l, h => ok101 (f := false) (x :: l) h
def zN : NetV := (0, ByteArray.mk #[])
section
variable {f g : Bool} {n : Nat} {c : List D} {S : Nat → Int} {call : FuncId → List D → Option D} {l : List PlV}
theorem in38 (h89 : ∀ x ∈ l, call 89 [.agg (plC x), .slc f n c] = some (slR netD (ntP n S x))) (h101 : ∀ N : List NetV, N.length ≤ 1000 → call 101 [argN N] = some (.agg (netD (bpV N))))
    (hlen : ∀ x ∈ l, x.2.1.length = n) (hB : l.length ≤ 1000) (hn : n ≤ 1000) {i : Nat} (hi : i < n) {T : List D} (hT : T.length = n * 2) (N : Nat) : ∀ (r pre : List PlV) (fuel : Nat), pre ++ r = l → r.length < fuel →
    F38_256410 call LL C1 N fuel f n c g l.length (l.flatMap plC) n i n T (owR netD (colV n S pre i)) l.length (pre.length : Int) = F38_250 call LL C1 N f n c g l.length (l.flatMap plC) n n ((i + 1 : Nat) : Int) (writeAt T (i * 2) (netD (bpV (colV n S l i)))) := by
  have hin : decide ((0 : Int) ≤ (i : Int) ∧ (i : Int) < (n : Int)) = true := by simp; omega
  have hwi : IntKind.wrap .i64 ((i : Int) + 1) = ((i + 1 : Nat) : Int) := by rw [wrap_id (by omega)]; rfl
  intro r
  induction r with
  | nil =>
    intro pre fuel hp hf
    cases fuel with
    | zero => exact absurd hf (Nat.not_lt_zero _)
    | succ fuel =>
      rw [List.append_nil] at hp
      subst hp
      have h1 : decide ((pre.length : Int) < (pre.length : Int)) = false := by simp
      have hr : decide (Int.toNat (i : Int) * 2 + 2 ≤ T.length) = true := by rw [Int.toNat_natCast, hT]; simp; omega
      have ha := h101 (colV n S pre i) (by unfold colV; simpa using hB)
      cases hcol : colV n S pre i with
      | nil =>
        rw [hcol] at ha
        show F38_256410 call LL C1 N (fuel + 1) f n c g _ _ _ _ _ _ .nil _ _ = _
        rw [F38_256410_eqn, h1, ifK_false, show (D.nils : D) = argN [] from rfl, ha, optK_some, agg2n, cellK_some rfl, intK_int, cellK_some rfl, strK_str, hin, chkK_true, hr, chkK_true, hwi, Int.toNat_natCast]
        rfl
      | cons o os =>
        rw [hcol] at ha
        show F38_256410 call LL C1 N (fuel + 1) f n c g _ _ _ _ _ _ (.own (os.length + 1) ((o :: os).flatMap netD)) _ _ = _
        rw [F38_256410_eqo, h1, ifK_false, show D.slc false (os.length + 1) ((o :: os).flatMap netD) = argN (o :: os) from rfl, ha, optK_some, agg2n, cellK_some rfl, intK_int, cellK_some rfl, strK_str, hin, chkK_true, hr, chkK_true, hwi, Int.toNat_natCast]
        rfl
  | cons x r ih =>
    intro pre fuel hp hf
    cases fuel with
    | zero => exact absurd hf (Nat.not_lt_zero _)
    | succ fuel =>
      have ih := ih (pre ++ [x]) fuel (by rw [app1]; exact hp) (by simp at hf; omega)
      have hx : call 89 [.agg [.str x.1, .slc false x.2.1.length (x.2.1.flatMap netD), .int .i64 x.2.2], .slc f n c] = some (.slc (ntP n S x).isEmpty (ntP n S x).length ((ntP n S x).flatMap netD)) := h89 x (by rw [← hp]; simp)
      have hnl : (ntP n S x).length = n := by rw [ntP_len]; exact hlen x (by rw [← hp]; simp)
      have hin2 : decide ((0 : Int) ≤ (i : Int) ∧ (i : Int) < ((ntP n S x).length : Int)) = true := by rw [hnl]; exact hin
      rw [show colV n S (pre ++ [x]) i = colV n S pre i ++ [atN (ntP n S x) i] by simp [colV], owR_snoc] at ih
      have hcl : (colV n S pre i).length = pre.length := by simp [colV]
      have hpl : pre.length ≤ l.length := by rw [← hp]; simp
      subst hp
      cases hcol : colV n S pre i with
      | nil =>
        rw [hcol] at ih
        show F38_256410 call LL C1 N (fuel + 1) f n c g _ _ _ _ _ _ .nil _ _ = _
        rw [F38_256410_eqn, lt_pre, ifK_true, in_pre, chkK_true, p0, strK_str, p1, slcK_slc, p2, intK_int, hx, optK_some, slcK_slc, hin2, chkK_true, nAt0 (by omega), intK_int, nAt1 (by omega), strK_str, step_pre _ x r (by omega)]
        exact ih
      | cons o os =>
        have hcl : os.length + 1 = pre.length := by rw [hcol] at hcl; simpa using hcl
        rw [hcol] at ih
        show F38_256410 call LL C1 N (fuel + 1) f n c g _ _ _ _ _ _ (.own (os.length + 1) ((o :: os).flatMap netD)) _ _ = _
        rw [F38_256410_eqo, lt_pre, ifK_true, in_pre, chkK_true, p0, strK_str, p1, slcK_slc, p2, intK_int, hx, optK_some, slcK_slc, hin2, chkK_true, nAt0 (by omega), intK_int, nAt1 (by omega), strK_str, step_pre _ x r (by omega), room24 (by omega), chkK_true]
        exact ih
theorem repN_len (z : NetV) : ∀ m, (repD m (netD z)).length = m * 2
  | 0 => rfl
  | m + 1 => by rw [repD, List.length_append, repN_len z m]; simp [netD]; omega
theorem go38 (h89 : ∀ x ∈ l, call 89 [.agg (plC x), .slc f n c] = some (slR netD (ntP n S x))) (h101 : ∀ N : List NetV, N.length ≤ 1000 → call 101 [argN N] = some (.agg (netD (bpV N))))
    (hlen : ∀ x ∈ l, x.2.1.length = n) (hB : l.length ≤ 1000) (hn : n ≤ 1000) : ∀ (m i fuel : Nat) (acc : List NetV), i + m = n → acc.length = i → m < fuel →
    F38_250 call LL C1 fuel f n c g l.length (l.flatMap plC) n n (i : Int) (acc.flatMap netD ++ repD m (netD zN)) = some (.tup [.slc false n ((acc ++ tabN (fun i => bpV (colV n S l i)) m i).flatMap netD), .int .i64 0]) := by
  intro m
  induction m with
  | zero =>
    intro i fuel acc hi ha hf
    cases fuel with
    | zero => exact absurd hf (Nat.not_lt_zero _)
    | succ fuel =>
      have h1 : decide ((i : Int) < (n : Int)) = false := by simp; omega
      rw [F38_250_eq, h1, ifK_false, show repD 0 (netD zN) = [] from rfl, show tabN (fun i => bpV (colV n S l i)) 0 i = [] from rfl, List.append_nil, List.append_nil]
  | succ m ih =>
    intro i fuel acc hi ha hf
    cases fuel with
    | zero => exact absurd hf (Nat.not_lt_zero _)
    | succ fuel =>
      have h1 : decide ((i : Int) < (n : Int)) = true := by simp; omega
      have hT : (acc.flatMap netD ++ repD (m + 1) (netD zN)).length = n * 2 := by rw [List.length_append, nets_len, repN_len zN (m + 1)]; omega
      have hin := in38 (f := f) (g := g) (c := c) h89 h101 hlen hB hn (i := i) (by omega) hT fuel l [] LL rfl (by unfold LL; omega)
      have ih := ih (i + 1) fuel (acc ++ [bpV (colV n S l i)]) (by omega) (by simp [ha]) (by omega)
      rw [F38_250_eq, h1, ifK_true]
      refine hin.trans ?_
      rw [show repD (m + 1) (netD zN) = netD zN ++ repD m (netD zN) from rfl, write_net _ _ zN _ (by rw [nets_len, ha])]
      rw [show (acc ++ [bpV (colV n S l i)]).flatMap netD ++ repD m (netD zN) = acc.flatMap netD ++ (netD (bpV (colV n S l i)) ++ repD m (netD zN)) by simp, List.append_assoc] at ih
      exact ih
theorem in41 (h26 : ∀ x ∈ l, call 26 [.slc f n c, .agg (plC x)] = some (slR netD (ntP n S x))) (hlen : ∀ x ∈ l, x.2.1.length = n) (hB : l.length ≤ 1000) (hn : n ≤ 1000) {i : Nat} (hi : i < n) {acc : List NetV} (ha : acc.length = i) (N : Nat) :
    ∀ (r pre : List PlV) (fuel : Nat) (b : NetV), pre ++ r = l → r.length < fuel →
    F41_14922 call LL C1 N fuel f n c g l.length (l.flatMap plC) i (owR netD acc) (pre.length : Int) b.1 b.2 = F41_58 call LL C1 N f n c g l.length (l.flatMap plC) (.own (acc.length + 1) (acc.flatMap netD ++ netD (bstGo (colV n S r i) b))) ((i + 1 : Nat) : Int) := by
  have hwi : IntKind.wrap .i64 ((i : Int) + 1) = ((i + 1 : Nat) : Int) := by rw [wrap_id (by omega)]; rfl
  intro r
  induction r with
  | nil =>
    intro pre fuel b hp hf
    cases fuel with
    | zero => exact absurd hf (Nat.not_lt_zero _)
    | succ fuel =>
      rw [List.append_nil] at hp
      subst hp
      have h1 : decide ((pre.length : Int) < (pre.length : Int)) = false := by simp
      cases acc with
      | nil =>
        show F41_14922 call LL C1 N (fuel + 1) f n c g _ _ _ .nil _ _ _ = _
        rw [F41_14922_eqn, h1, ifK_false, hwi]
        rfl
      | cons o os =>
        show F41_14922 call LL C1 N (fuel + 1) f n c g _ _ _ (.own (os.length + 1) ((o :: os).flatMap netD)) _ _ _ = _
        rw [F41_14922_eqo, h1, ifK_false, hwi, room24 (by simp at ha; omega), chkK_true]
        rfl
  | cons x r ih =>
    intro pre fuel b hp hf
    cases fuel with
    | zero => exact absurd hf (Nat.not_lt_zero _)
    | succ fuel =>
      have ih := fun b => ih (pre ++ [x]) fuel b (by rw [app1]; exact hp) (by simp at hf; omega)
      have hx : call 26 [.slc f n c, .agg [.str x.1, .slc false x.2.1.length (x.2.1.flatMap netD), .int .i64 x.2.2]] = some (.slc (ntP n S x).isEmpty (ntP n S x).length ((ntP n S x).flatMap netD)) := h26 x (by rw [← hp]; simp)
      have hnl : (ntP n S x).length = n := by rw [ntP_len]; exact hlen x (by rw [← hp]; simp)
      have hin2 : decide ((0 : Int) ≤ (i : Int) ∧ (i : Int) < ((ntP n S x).length : Int)) = true := by rw [hnl]; simp; omega
      have hpl : pre.length ≤ l.length := by rw [← hp]; simp
      rw [show colV n S (x :: r) i = atN (ntP n S x) i :: colV n S r i from rfl, show bstGo (atN (ntP n S x) i :: colV n S r i) b = bstGo (colV n S r i) (ifK ((emptyB (atN (ntP n S x) i).2 && (!emptyB b.2 || decide ((atN (ntP n S x) i).1 < b.1))) || (markX (atN (ntP n S x) i).2 && dashB b.2)) (atN (ntP n S x) i) b) from rfl]
      generalize hv : atN (ntP n S x) i = v at *
      have e1 : (ByteArray.toList v.2 == ByteArray.toList (ByteArray.mk #[])) = emptyB v.2 := rfl
      have e2 : (ByteArray.toList b.2 == ByteArray.toList (ByteArray.mk #[])) = emptyB b.2 := rfl
      have e3 : (ByteArray.toList v.2 == ByteArray.toList (ByteArray.mk #[120])) = markX v.2 := rfl
      have e4 : (ByteArray.toList b.2 == ByteArray.toList (ByteArray.mk #[45])) = dashB b.2 := rfl
      subst hp
      have hst := step_pre pre x r (by omega)
      cases acc with
      | nil =>
        have h119 : ∀ b : NetV, F41_119379 call LL C1 N fuel f n c g (pre ++ x :: r).length ((pre ++ x :: r).flatMap plC) i (pre.length : Int) .nil b.1 b.2 = F41_58 call LL C1 N f n c g (pre ++ x :: r).length ((pre ++ x :: r).flatMap plC) (.own 1 ([] ++ netD (bstGo (colV n S r i) b))) ((i + 1 : Nat) : Int) := fun b => by
          rw [F41_119379_eqn (hC := (fun _ => rfl : ∀ t, C1 t = 1)), hst]
          exact ih b
        show F41_14922 call LL C1 N (fuel + 1) f n c g _ _ _ .nil _ _ _ = _
        rw [F41_14922_eqn, lt_pre, ifK_true, in_pre, chkK_true, p0, strK_str, p1, slcK_slc, p2, intK_int, hx, optK_some, slcK_slc, hin2, chkK_true, nAt0 (by omega), intK_int, nAt1 (by omega), strK_str, hv, e1, e2, e3, e4, h119, h119]
        cases emptyB v.2 <;> cases emptyB b.2 <;> cases markX v.2 <;> cases dashB b.2 <;> cases decide (v.1 < b.1) <;> rfl
      | cons o os =>
        have h119 : ∀ b : NetV, F41_119379 call LL C1 N fuel f n c g (pre ++ x :: r).length ((pre ++ x :: r).flatMap plC) i (pre.length : Int) (.own (os.length + 1) ((o :: os).flatMap netD)) b.1 b.2 = F41_58 call LL C1 N f n c g (pre ++ x :: r).length ((pre ++ x :: r).flatMap plC) (.own ((o :: os).length + 1) ((o :: os).flatMap netD ++ netD (bstGo (colV n S r i) b))) ((i + 1 : Nat) : Int) := fun b => by
          rw [F41_119379_eqo (hC := (fun _ => rfl : ∀ t, C1 t = 1)), hst]
          exact ih b
        show F41_14922 call LL C1 N (fuel + 1) f n c g _ _ _ (.own (os.length + 1) ((o :: os).flatMap netD)) _ _ _ = _
        rw [F41_14922_eqo, lt_pre, ifK_true, in_pre, chkK_true, p0, strK_str, p1, slcK_slc, p2, intK_int, hx, optK_some, slcK_slc, hin2, chkK_true, nAt0 (by omega), intK_int, nAt1 (by omega), strK_str, hv, e1, e2, e3, e4, h119, h119]
        cases emptyB v.2 <;> cases emptyB b.2 <;> cases markX v.2 <;> cases dashB b.2 <;> cases decide (v.1 < b.1) <;> rfl
theorem go41 (h26 : ∀ x ∈ l, call 26 [.slc f n c, .agg (plC x)] = some (slR netD (ntP n S x))) (hlen : ∀ x ∈ l, x.2.1.length = n) (hB : l.length ≤ 1000) (hn : n ≤ 1000) : ∀ (m i fuel : Nat) (acc : List NetV), i + m = n → acc.length = i → m < fuel →
    F41_58 call LL C1 fuel f n c g l.length (l.flatMap plC) (owR netD acc) (i : Int) = some (slR netD (acc ++ tabN (fun i => bstV (colV n S l i)) m i)) := by
  intro m
  induction m with
  | zero =>
    intro i fuel acc hi ha hf
    cases fuel with
    | zero => exact absurd hf (Nat.not_lt_zero _)
    | succ fuel =>
      have h1 : decide ((i : Int) < (n : Int)) = false := by simp; omega
      rw [show tabN (fun i => bstV (colV n S l i)) 0 i = [] from rfl, List.append_nil]
      cases acc with
      | nil =>
        show F41_58 call LL C1 (fuel + 1) f n c g _ _ .nil _ = _
        rw [F41_58_eqn, h1, ifK_false]
        rfl
      | cons o os =>
        show F41_58 call LL C1 (fuel + 1) f n c g _ _ (.own (os.length + 1) ((o :: os).flatMap netD)) _ = _
        rw [F41_58_eqo, h1, ifK_false]
        rfl
  | succ m ih =>
    intro i fuel acc hi ha hf
    cases fuel with
    | zero => exact absurd hf (Nat.not_lt_zero _)
    | succ fuel =>
      have h1 : decide ((i : Int) < (n : Int)) = true := by simp; omega
      have hin := in41 (f := f) (g := g) (c := c) h26 hlen hB hn (i := i) (by omega) ha fuel l [] LL noD rfl (by unfold LL; omega)
      have ih := ih (i + 1) fuel (acc ++ [bstV (colV n S l i)]) (by omega) (by simp [ha]) (by omega)
      rw [owR_snoc, List.append_assoc] at ih
      cases acc with
      | nil =>
        show F41_58 call LL C1 (fuel + 1) f n c g _ _ .nil _ = _
        rw [F41_58_eqn, h1, ifK_true]
        exact hin.trans ih
      | cons o os =>
        show F41_58 call LL C1 (fuel + 1) f n c g _ _ (.own (os.length + 1) ((o :: os).flatMap netD)) _ = _
        rw [F41_58_eqo, h1, ifK_true]
        exact hin.trans ih
end
end Go.Pd
end

section
namespace Go.Pd
open Go Go.Proofs Go.RowKit

/-! ### Aggregates -/
def agP (x y : NetV) : NetV := ifK (emptyB x.2 && emptyB y.2) (IntKind.wrap .i64 (x.1 + y.1), ByteArray.mk #[]) (ifK (dashB x.2 || dashB y.2) noD noX)
def agR (x y : NetV) : NetV := ifK (dashB x.2 || dashB y.2) noD (ifK (markX x.2 || markX y.2) noX (IntKind.wrap .i64 (x.1 + y.1), ByteArray.mk #[]))
theorem ag_eq {x y : NetV} (hx : vNet x) (hy : vNet y) : agR x y = agP x y := by
  unfold agP agR
  rcases hx with hx | rfl | rfl <;> rcases hy with hy | rfl | rfl
  · rw [hx, hy, de, me, ee]; rfl
  · rw [hx, show noX.2 = ByteArray.mk #[120] from rfl, de, me, ee, dx, mx, ex]; rfl
  · rw [hx, show noD.2 = ByteArray.mk #[45] from rfl, de, ee, dd, ed]; rfl
  · rw [hy, show noX.2 = ByteArray.mk #[120] from rfl, de, me, ee, dx, mx, ex]; rfl
  · rw [show noX.2 = ByteArray.mk #[120] from rfl, dx, mx, ex]; rfl
  · rw [show noD.2 = ByteArray.mk #[45] from rfl, show noX.2 = ByteArray.mk #[120] from rfl, dx, ex, dd, ed]; rfl
  · rw [hy, show noD.2 = ByteArray.mk #[45] from rfl, de, ee, dd, ed]; rfl
  · rw [show noD.2 = ByteArray.mk #[45] from rfl, show noX.2 = ByteArray.mk #[120] from rfl, dx, ex, dd, ed]; rfl
  · rw [show noD.2 = ByteArray.mk #[45] from rfl, dd, ed]; rfl
section
variable {f g : Bool} {n : Nat} {c : List D} {call : FuncId → List D → Option D} {a b : List NetV}
theorem go44 (h102 : ∀ x s, call 102 [.agg [.int .i64 x, .str s]] = some (.bool (emptyB s))) (ha : a.length = n) (hb : b.length = n) (hn : n ≤ 1000) : ∀ (m i fuel : Nat) (acc : List NetV), i + m = n → acc.length = i → m < fuel →
    F44_250 call LL C1 fuel f n (b.flatMap netD) (owR netD acc) g n (a.flatMap netD) n (i : Int) = some (.tup [slR netD (acc ++ tabN (fun i => agP (atN a i) (atN b i)) m i), .int .i64 0]) := by
  intro m
  induction m with
  | zero =>
    intro i fuel acc hi hac hf
    cases fuel with
    | zero => exact absurd hf (Nat.not_lt_zero _)
    | succ fuel =>
      have h1 : decide ((i : Int) < (n : Int)) = false := by simp; omega
      rw [show tabN (fun i => agP (atN a i) (atN b i)) 0 i = [] from rfl, List.append_nil]
      cases acc with
      | nil =>
        show F44_250 call LL C1 (fuel + 1) f n _ .nil _ _ _ _ _ = _
        rw [F44_250_eqn, h1, ifK_false]
        rfl
      | cons o os =>
        show F44_250 call LL C1 (fuel + 1) f n _ (.own (os.length + 1) ((o :: os).flatMap netD)) _ _ _ _ _ = _
        rw [F44_250_eqo, h1, ifK_false]
        rfl
  | succ m ih =>
    intro i fuel acc hi hac hf
    cases fuel with
    | zero => exact absurd hf (Nat.not_lt_zero _)
    | succ fuel =>
      have h1 : decide ((i : Int) < (n : Int)) = true := by simp; omega
      have hin : decide ((0 : Int) ≤ (i : Int) ∧ (i : Int) < (n : Int)) = true := by simp; omega
      have hw : IntKind.wrap .i64 ((i : Int) + 1) = ((i + 1 : Nat) : Int) := by rw [wrap_id (by omega)]; rfl
      have ih := ih (i + 1) fuel (acc ++ [agP (atN a i) (atN b i)]) (by omega) (by simp [hac]) (by omega)
      rw [owR_snoc, List.append_assoc] at ih
      rw [show tabN (fun i => agP (atN a i) (atN b i)) (m + 1) i = agP (atN a i) (atN b i) :: tabN (fun i => agP (atN a i) (atN b i)) m (i + 1) from rfl]
      have key : ∀ o : Ow, o = owR netD acc → F44_250 call LL C1 (fuel + 1) f n (b.flatMap netD) o g n (a.flatMap netD) n (i : Int) = F44_250 call LL C1 fuel f n (b.flatMap netD) (.own (acc.length + 1) (acc.flatMap netD ++ netD (agP (atN a i) (atN b i)))) g n (a.flatMap netD) n ((i + 1 : Nat) : Int) := fun o ho => by
        unfold agP
        have ed1 : (ByteArray.toList (atN a i).2 == ByteArray.toList (ByteArray.mk #[45])) = dashB (atN a i).2 := rfl
        have ed2 : (ByteArray.toList (atN b i).2 == ByteArray.toList (ByteArray.mk #[45])) = dashB (atN b i).2 := rfl
        cases acc with
        | nil =>
          subst ho
          show F44_250 call LL C1 (fuel + 1) f n _ .nil _ _ _ _ _ = _
          rw [F44_250_eqn, h1, ifK_true, hin, chkK_true, nAt0 (by omega), intK_int, nAt1 (by omega), strK_str, h102, optK_some, boolK_bool, chkK_true, nAt0 (by omega), intK_int, nAt1 (by omega), strK_str, h102, optK_some, boolK_bool, F44_64101_eqn (hC := (fun _ => rfl : ∀ t, C1 t = 1)), F44_64101_eqn (hC := (fun _ => rfl : ∀ t, C1 t = 1)),
            hin, chkK_true, nAt0 (by omega), intK_int, chkK_true, nAt1 (by omega), strK_str, hw, ed1, ed2]
          cases emptyB (atN a i).2 <;> cases emptyB (atN b i).2 <;> cases dashB (atN a i).2 <;> cases dashB (atN b i).2 <;> rfl
        | cons q os =>
          subst ho
          show F44_250 call LL C1 (fuel + 1) f n _ (.own (os.length + 1) ((q :: os).flatMap netD)) _ _ _ _ _ = _
          rw [F44_250_eqo, h1, ifK_true, hin, chkK_true, nAt0 (by omega), intK_int, nAt1 (by omega), strK_str, h102, optK_some, boolK_bool, chkK_true, nAt0 (by omega), intK_int, nAt1 (by omega), strK_str, h102, optK_some, boolK_bool, F44_64101_eqo (hC := (fun _ => rfl : ∀ t, C1 t = 1)), F44_64101_eqo (hC := (fun _ => rfl : ∀ t, C1 t = 1)),
            hin, chkK_true, nAt0 (by omega), intK_int, chkK_true, nAt1 (by omega), strK_str, hw, ed1, ed2, room24 (by simp at hac; omega), chkK_true, chkK_true, chkK_true]
          cases emptyB (atN a i).2 <;> cases emptyB (atN b i).2 <;> cases dashB (atN a i).2 <;> cases dashB (atN b i).2 <;> rfl
      exact (key _ rfl).trans ih
theorem go45 (ha : a.length = n) (hb : b.length = n) (hn : n ≤ 1000) {fa fb : Bool} : ∀ (m i fuel : Nat) (acc : List NetV), i + m = n → acc.length = i → m < fuel →
    F45_122 call LL C1 fuel f n c fa n (a.flatMap netD) fb n (b.flatMap netD) (owR netD acc) (i : Int) = some (slR netD (acc ++ tabN (fun i => agR (atN a i) (atN b i)) m i)) := by
  intro m
  induction m with
  | zero =>
    intro i fuel acc hi hac hf
    cases fuel with
    | zero => exact absurd hf (Nat.not_lt_zero _)
    | succ fuel =>
      have h1 : decide ((i : Int) < (n : Int)) = false := by simp; omega
      rw [show tabN (fun i => agR (atN a i) (atN b i)) 0 i = [] from rfl, List.append_nil]
      cases acc with
      | nil =>
        show F45_122 call LL C1 (fuel + 1) f n c _ _ _ _ _ _ .nil _ = _
        rw [F45_122_eqn, h1, ifK_false]
        rfl
      | cons o os =>
        show F45_122 call LL C1 (fuel + 1) f n c _ _ _ _ _ _ (.own (os.length + 1) ((o :: os).flatMap netD)) _ = _
        rw [F45_122_eqo, h1, ifK_false]
        rfl
  | succ m ih =>
    intro i fuel acc hi hac hf
    cases fuel with
    | zero => exact absurd hf (Nat.not_lt_zero _)
    | succ fuel =>
      have h1 : decide ((i : Int) < (n : Int)) = true := by simp; omega
      have hin : decide ((0 : Int) ≤ (i : Int) ∧ (i : Int) < (n : Int)) = true := by simp; omega
      have hw : IntKind.wrap .i64 ((i : Int) + 1) = ((i + 1 : Nat) : Int) := by rw [wrap_id (by omega)]; rfl
      have ih := ih (i + 1) fuel (acc ++ [agR (atN a i) (atN b i)]) (by omega) (by simp [hac]) (by omega)
      rw [owR_snoc, List.append_assoc] at ih
      rw [show tabN (fun i => agR (atN a i) (atN b i)) (m + 1) i = agR (atN a i) (atN b i) :: tabN (fun i => agR (atN a i) (atN b i)) m (i + 1) from rfl]
      have ed1 : (ByteArray.toList (atN a i).2 == ByteArray.toList (ByteArray.mk #[45])) = dashB (atN a i).2 := rfl
      have ed2 : (ByteArray.toList (atN b i).2 == ByteArray.toList (ByteArray.mk #[45])) = dashB (atN b i).2 := rfl
      have ex1 : (ByteArray.toList (atN a i).2 == ByteArray.toList (ByteArray.mk #[120])) = markX (atN a i).2 := rfl
      have ex2 : (ByteArray.toList (atN b i).2 == ByteArray.toList (ByteArray.mk #[120])) = markX (atN b i).2 := rfl
      have h78 : ∀ o : Ow, o = owR netD acc → ∀ v : NetV, F45_7827 call LL C1 fuel f n c fa n (a.flatMap netD) fb n (b.flatMap netD) (i : Int) o v.1 v.2 = F45_122 call LL C1 fuel f n c fa n (a.flatMap netD) fb n (b.flatMap netD) (.own (acc.length + 1) (acc.flatMap netD ++ netD v)) ((i + 1 : Nat) : Int) := fun o ho v => by
        subst ho
        cases acc with
        | nil =>
          show F45_7827 call LL C1 fuel f n c _ _ _ _ _ _ _ .nil _ _ = _
          rw [F45_7827_eqn (hC := (fun _ => rfl : ∀ t, C1 t = 1)), F45_979_eq (hC := (fun _ => rfl : ∀ t, C1 t = 1)), hw]
          rfl
        | cons q os =>
          show F45_7827 call LL C1 fuel f n c _ _ _ _ _ _ _ (.own (os.length + 1) ((q :: os).flatMap netD)) _ _ = _
          rw [F45_7827_eqo (hC := (fun _ => rfl : ∀ t, C1 t = 1)), room24 (by simp at hac; omega), chkK_true, F45_979_eq (hC := (fun _ => rfl : ∀ t, C1 t = 1)), hw]
          rfl
      have key : ∀ o : Ow, o = owR netD acc → F45_122 call LL C1 (fuel + 1) f n c fa n (a.flatMap netD) fb n (b.flatMap netD) o (i : Int) = F45_122 call LL C1 fuel f n c fa n (a.flatMap netD) fb n (b.flatMap netD) (.own (acc.length + 1) (acc.flatMap netD ++ netD (agR (atN a i) (atN b i)))) ((i + 1 : Nat) : Int) := fun o ho => by
        have hD := h78 o ho noD
        have hX := h78 o ho noX
        have hN := h78 o ho (IntKind.wrap .i64 ((atN a i).1 + (atN b i).1), ByteArray.mk #[])
        unfold agR
        simp only [noD, noX] at hD hX
        cases acc with
        | nil =>
          subst ho
          simp only [owR] at hD hX hN ⊢
          rw [F45_122_eqn, h1, ifK_true, hin, chkK_true, nAt0 (by omega), intK_int, chkK_true, nAt0 (by omega), intK_int, chkK_true, nAt1 (by omega), strK_str, chkK_true, nAt1 (by omega), strK_str, F45_15653_eqn (hC := (fun _ => rfl : ∀ t, C1 t = 1)), F45_15653_eqn (hC := (fun _ => rfl : ∀ t, C1 t = 1)),
            hin, chkK_true, nAt1 (by omega), strK_str, chkK_true, nAt1 (by omega), strK_str, ed1, ed2, ex1, ex2, hD, hX, hN]
          cases dashB (atN a i).2 <;> cases dashB (atN b i).2 <;> cases markX (atN a i).2 <;> cases markX (atN b i).2 <;> rfl
        | cons q os =>
          subst ho
          simp only [owR] at hD hX hN ⊢
          rw [F45_122_eqo, h1, ifK_true, hin, chkK_true, nAt0 (by omega), intK_int, chkK_true, nAt0 (by omega), intK_int, chkK_true, nAt1 (by omega), strK_str, chkK_true, nAt1 (by omega), strK_str, F45_15653_eqo (hC := (fun _ => rfl : ∀ t, C1 t = 1)), F45_15653_eqo (hC := (fun _ => rfl : ∀ t, C1 t = 1)),
            hin, chkK_true, nAt1 (by omega), strK_str, chkK_true, nAt1 (by omega), strK_str, ed1, ed2, ex1, ex2, hD, hX, hN]
          cases dashB (atN a i).2 <;> cases dashB (atN b i).2 <;> cases markX (atN a i).2 <;> cases markX (atN b i).2 <;> rfl
      exact (key _ rfl).trans ih
end
end Go.Pd
end

section
namespace Go.Pd
open Go Go.Proofs Go.RowKit

def fstL : List Int → Int
  | [] => 0
  | x :: r => ifK (x != 0) x (fstL r)
theorem go22 {call : FuncId → List D → Option D} {f : Bool} : ∀ (r pre : List Int) (fuel : Nat), (pre ++ r).length ≤ 1000 → r.length < fuel → F22_26 call LL C1 fuel f (pre ++ r).length (ints (pre ++ r)) (pre ++ r).length (pre.length : Int) = some (.int .i64 (fstL r)) := by
  intro r
  induction r with
  | nil =>
    intro pre fuel hB hf
    cases fuel with
    | zero => exact absurd hf (Nat.not_lt_zero _)
    | succ fuel =>
      rw [F22_26_eq, end_pre, ifK_false]
      rfl
  | cons x r ih =>
    intro pre fuel hB hf
    cases fuel with
    | zero => exact absurd hf (Nat.not_lt_zero _)
    | succ fuel =>
      have ih := ih (pre ++ [x]) fuel (by rw [app1]; exact hB) (by simp at hf; omega)
      rw [app1] at ih
      rw [F22_26_eq, lt_pre, ifK_true, in_pre, chkK_true, cell_ints, intK_int, step_pre pre x r (by omega), ih, show fstL (x :: r) = ifK (x != 0) x (fstL r) from rfl]
      cases x != 0 <;> rfl
theorem ok22l {f : Bool} (l : List Int) (hl : l.length ≤ 1000) : OK5 22 [.slc f l.length (ints l)] (.int .i64 (fstL l)) := by
  refine fnT none_ok Tryz.func22 (ord := O0) (N := N22) (by kernel_rfl) ((F22_eq _ _ _ _ _ _).trans ?_)
  exact go22 l [] LL hl (by unfold LL; omega)
theorem ints_inj : ∀ {a b : List Int}, ints a = ints b → a = b
  | [], [], _ => rfl
  | [], x :: b, h => by cases h
  | x :: a, [], h => by cases h
  | x :: a, y :: b, h => by
    simp only [ints, List.map_cons, List.cons.injEq, D.int.injEq, true_and] at h
    obtain ⟨h1, h2⟩ := h
    have h3 : a = b := ints_inj h2
    rw [h1, h3]
def fam22 : Fam := ⟨22, {l : List Int // l.length ≤ 1000}, fun l => [.slc true l.1.length (ints l.1)], fun l => .int .i64 (fstL l.1)⟩
theorem fam22_good : fam22.Good := ⟨fun l => ok22l l.1 l.2, fun x y h => by
  simp only [fam22, List.cons.injEq, D.slc.injEq, true_and, and_true] at h
  show D.int .i64 (fstL x.1) = .int .i64 (fstL y.1)
  have h3 : x.1 = y.1 := ints_inj h.2
  rw [h3], fun _ => rfl⟩
def fam24 : Fam := ⟨24, Bool × Int, fun x => [.bool x.1, .int .i64 x.2], fun x => .int .i64 (ifK x.1 x.2 0)⟩
theorem fam24_good : fam24.Good := ⟨fun x => ok24 x.1 x.2, fun x y h => by
  simp only [fam24, List.cons.injEq, D.bool.injEq, D.int.injEq, true_and, and_true] at h
  show D.int .i64 (ifK x.1 x.2 0) = .int .i64 (ifK y.1 y.2 0)
  rw [h.1, h.2], fun _ => rfl⟩
def fam102 : Fam := ⟨102, NetV, fun x => [.agg (netD x)], fun x => .bool (emptyB x.2)⟩
theorem net_inj {x y : NetV} (h : netD x = netD y) : x = y := by
  simp only [netD, List.cons.injEq, D.int.injEq, D.str.injEq, true_and, and_true] at h
  exact Prod.ext h.1 h.2
theorem fam102_good : fam102.Good := ⟨fun _ => b1_ok _ _ _ rfl, fun x y h => by
  simp only [fam102, List.cons.injEq, D.agg.injEq, and_true] at h
  show D.bool (emptyB x.2) = .bool (emptyB y.2)
  rw [net_inj h], fun _ => rfl⟩
/-- Calls of one of some players, ahead of an argument. -/
def famPr (k : FuncId) (d : D) (l : List PlV) (F : PlV → D) : Fam := ⟨k, {x : PlV // x ∈ l}, fun x => [.agg (plC x.1), d], fun x => F x.1⟩
theorem famPr_good {k : FuncId} {d : D} {l : List PlV} {F : PlV → D} (h : ∀ x ∈ l, OK5 k [.agg (plC x), d] (F x)) (hc : ∀ x, cstG k [.agg (plC x), d] = none) : (famPr k d l F).Good :=
  ⟨fun x => h x.1 x.2, fun x y e => by
    simp only [famPr, List.cons.injEq, D.agg.injEq, and_true] at e
    show F x.1 = F y.1
    rw [plC_inj e], fun x => hc x.1⟩
def fam101 : Fam := ⟨101, {l : List NetV // l.length ≤ 1000}, fun l => [argN l.1], fun l => .agg (netD (bpV l.1))⟩
theorem fam101_good : fam101.Good := ⟨fun l => ok101n l.1 l.2, fun x y h => by
  simp only [fam101, List.cons.injEq, and_true] at h
  show D.agg (netD (bpV x.1)) = .agg (netD (bpV y.1))
  rw [argN_inj h], fun x => by
    obtain ⟨x, _⟩ := x
    cases x <;> rfl⟩
theorem slN_inj {a b : List NetV} (h : slR netD a = slR netD b) : a = b := by
  simp only [slR, D.slc.injEq] at h
  exact nets_inj h.2.2
def fam43 : Fam := ⟨43, {l : List NetV // l.length ≤ 1000}, fun l => [slR netD l.1], fun l => slR netD l.1⟩
theorem fam43_good : fam43.Good := ⟨fun l => ok43 l.1 l.2, fun x y h => by
  simp only [fam43, List.cons.injEq, and_true] at h
  show slR netD x.1 = slR netD y.1
  rw [slN_inj h], fun _ => rfl⟩
def fam42 : Fam := ⟨42, {l : List NetV // l.length ≤ 1000}, fun l => [slR netD l.1, argN l.1], fun _ => .bool true⟩
theorem fam42_good : fam42.Good := ⟨fun l => by
  obtain ⟨l, hl⟩ := l
  cases l with
  | nil => exact CallOK.canon (ok42 (f := true) (g := true) [] (by simp))
  | cons x l => exact ok42 (f := false) (g := false) (x :: l) hl, fun _ _ _ => rfl, fun _ => rfl⟩
section
variable {f g : Bool} {n : Nat} {c : List D} {P S : Nat → Int}
theorem ok89p (hc : HolesC n c P S) {x : PlV} (h : plErr n P S x.1 x.2.1 x.2.2 = 0) : OK5 89 [.agg (plC x), .slc f n c] (slR netD (ntP n S x)) := by
  obtain ⟨⟨a1, a2, _⟩, ⟨a4, a5⟩, a6, _⟩ := plErr_zero h
  have := ok89 (f := f) (g := false) hc a1 a2 a4 a5 x.1 x.2.1 a6
  unfold plC
  rw [a6]
  exact this
theorem ok26p (hc : HolesC n c P S) {x : PlV} (h : plErr n P S x.1 x.2.1 x.2.2 = 0) : OK5 26 [.slc f n c, .agg (plC x)] (slR netD (ntP n S x)) := by
  obtain ⟨⟨a1, a2, a3⟩, ⟨a4, a5⟩, a6, a7⟩ := plErr_zero h
  have := ok26 (f := f) (g := false) hc a1 a2 a3 a4 a5 x.1 x.2.1 a6 a7
  unfold plC
  rw [a6]
  exact this
theorem ntP_v {x : PlV} (h : plErr n P S x.1 x.2.1 x.2.2 = 0) : ∀ y ∈ ntP n S x, vNet y := ntGo_v _ 0 (plErr_zero h).2.2.2
/-- The net strokes of a fourball. -/
def fbV (n : Nat) (S : Nat → Int) (l : List PlV) : List NetV := tabN (fun i => bpV (colV n S l i)) n 0
theorem fb_ref {l : List PlV} (hz : ∀ x ∈ l, plErr n P S x.1 x.2.1 x.2.2 = 0) : tabN (fun i => bstV (colV n S l i)) n 0 = fbV n S l := tabN_eq (fun i => bstV_eq fun y hy => by
  obtain ⟨x, hx, rfl⟩ := List.mem_map.1 hy
  exact atN_v (ntP_v (hz x hx)) i) n 0
theorem fbV_len (n : Nat) (S : Nat → Int) (l : List PlV) : (fbV n S l).length = n := tabN_len _ n 0
theorem slN_pos {l : List NetV} {n : Nat} (h : l.length = n) (h0 : 0 < n) : slR netD l = .slc false n (l.flatMap netD) := by
  subst h
  cases l with
  | nil => cases h0
  | cons x l => rfl
theorem arg_pos {l : List NetV} (h0 : 0 < l.length) : argN l = slR netD l := by
  cases l with
  | nil => cases h0
  | cons x l => rfl
def wide (l : List PlV) : Bool := decide ((l.length : Int) < 2) || decide ((l.length : Int) > 4)
/-- What is amiss with the players of a fourball, ahead of their own errors. -/
def fbErr (n : Nat) (P S : Nat → Int) (l : List PlV) : Int := fst2 (holesErr n P S) (ifK (wide l) 2 0)
theorem ok38 (hc : HolesC n c P S) (l : List PlV) (hl : l.length ≤ 1000) (hs : ∀ x ∈ l, x.1.size ≤ 60 ∧ x.2.1.length ≤ 39) : OK5 38 [.slc f n c, .slc g l.length (l.flatMap plC)]
    (ifK (fbErr n P S l != 0) (.tup [.slc true 0 [], .int .i64 (fbErr n P S l)]) (ifK (plsGo n P S [] l != 0) (.tup [.slc true 0 [], .int .i64 (plsGo n P S [] l)]) (.tup [.slc false n ((fbV n S l).flatMap netD), .int .i64 0]))) := by
  have k87 := ok87 (f := f) (g := g) hc l hl hs
  have hwide : ∀ B : FuncId → List D → Option D, (∀ i, callOf B fam83.f (fam83.a i) = some (fam83.r i)) → (∀ i, callOf B fam81.f (fam81.a i) = some (fam81.r i)) → callOf B 82 [.slc f n c] = some (.int .i64 (holesErr n P S)) →
      evFnT (TEf (callOf B) LL C1) O0 N38 FinM.canon Tryz.f38 [.slc f n c, .slc g l.length (l.flatMap plC)] = ifK (fbErr n P S l != 0) (some (.tup [.slc true 0 [], .int .i64 (fbErr n P S l)])) (F38_7 (callOf B) LL C1 f n c g l.length (l.flatMap plC)) := fun B h83 h81 h82 => by
    have t83 : ∀ b e, callOf B 83 [.bool b, .int .i64 e] = some (.int .i64 (ifK b e 0)) := fun b e => h83 (b, e)
    have t81 : ∀ x y, callOf B 81 [.slc true 2 [.int .i64 x, .int .i64 y]] = some (.int .i64 (fst2 x y)) := fun x y => h81 (x, y)
    rw [F38_eq, h82, optK_some, intK_int, t83, optK_some, intK_int, t81, optK_some, intK_int, t83, optK_some, intK_int, t81, optK_some, intK_int]
    unfold fbErr wide
    cases decide ((l.length : Int) < 2) <;> rfl
  cases hz : plsGo n P S [] l != 0 with
  | true =>
    obtain ⟨B, hb, h83, h81, h82, h87, _⟩ := exF [fam83, fam81, one 82 [.slc f n c] (.int .i64 (holesErr n P S)), one 87 [.slc f n c, .slc g l.length (l.flatMap plC)] (.int .i64 (plsGo n P S [] l))]
      ⟨fam83_good, fam81_good, one_good (ok82 hc) rfl, one_good k87 rfl, trivial⟩ rfl
    have t87 : callOf B 87 [.slc f n c, .slc g l.length (l.flatMap plC)] = some (.int .i64 (plsGo n P S [] l)) := h87 ()
    refine fnT hb Tryz.func38 (ord := O0) (N := N38) (by kernel_rfl) ((hwide B h83 h81 (h82 ())).trans ?_)
    rw [F38_7_eq (hC := (fun _ => rfl : ∀ t, C1 t = 1)), t87, optK_some, intK_int, hz, ifK_true, ifK_true]
    cases fbErr n P S l != 0 <;> rfl
  | false =>
    have hz0 : plsGo n P S [] l = 0 := by simpa using hz
    have hv := pls_zero hz0
    obtain ⟨B, hb, h83, h81, h82, h87, h89, h101, _⟩ := exF [fam83, fam81, one 82 [.slc f n c] (.int .i64 (holesErr n P S)), one 87 [.slc f n c, .slc g l.length (l.flatMap plC)] (.int .i64 (plsGo n P S [] l)), famPr 89 (.slc f n c) l (fun x => slR netD (ntP n S x)), fam101]
      ⟨fam83_good, fam81_good, one_good (ok82 hc) rfl, one_good k87 rfl, famPr_good (fun x hx => ok89p hc (hv x hx)) (fun _ => rfl), fam101_good, trivial⟩ rfl
    have t87 : callOf B 87 [.slc f n c, .slc g l.length (l.flatMap plC)] = some (.int .i64 (plsGo n P S [] l)) := h87 ()
    refine fnT hb Tryz.func38 (ord := O0) (N := N38) (by kernel_rfl) ((hwide B h83 h81 (h82 ())).trans ?_)
    cases hf : fbErr n P S l != 0 with
    | true => rfl
    | false =>
      have hf0 : fbErr n P S l = 0 := by simpa using hf
      have hh0 : holesErr n P S = 0 := by
        unfold fbErr fst2 at hf0
        cases hh : holesErr n P S != 0 with
        | true => rw [hh, ifK_true] at hf0; rw [hf0] at hh; cases hh
        | false => simpa using hh
      obtain ⟨_, hn36, _⟩ := holesErr_zero hh0
      have hlim : decide (0 ≤ (n : Int) ∧ (n : Int) ≤ (n : Int) ∧ (n : Int) * (24 : Int) ≤ 140737488355328 ∧ (n : Int) ≤ 9223372036854775807) = true := by simp; omega
      have hgo := go38 (f := f) (g := g) (c := c) (call := callOf B) (fun x hx => h89 ⟨x, hx⟩) (fun N hN => h101 ⟨N, hN⟩) (fun x hx => (plErr_zero (hv x hx)).2.2.1) hl (by omega) n 0 LL [] (by omega) rfl (by unfold LL; omega)
      rw [ifK_false, ifK_false, F38_7_eq (hC := (fun _ => rfl : ∀ t, C1 t = 1)), t87, optK_some, intK_int, hz, ifK_false, ifK_false, hlim, chkK_true, Int.toNat_natCast]
      exact hgo
theorem ok41 (hc : HolesC n c P S) (l : List PlV) (hl : l.length ≤ 1000) (hn : n ≤ 1000) (hv : ∀ x ∈ l, plErr n P S x.1 x.2.1 x.2.2 = 0) : OK5 41 [.slc f n c, .slc g l.length (l.flatMap plC)] (slR netD (fbV n S l)) := by
  obtain ⟨B, hb, h26, _⟩ := exF [famPl 26 (.slc f n c) l fun x => slR netD (ntP n S x)] ⟨famPl_good (fun x hx => ok26p hc (hv x hx)) (fun _ => rfl), trivial⟩ rfl
  refine fnT hb Tryz.func41 (ord := O0) (N := N41) (by kernel_rfl) ((F41_eq _ _ _ _ _ _ _ _ _).trans ?_)
  rw [← fb_ref hv]
  exact go41 (f := f) (g := g) (c := c) (call := callOf B) (fun x hx => h26 ⟨x, hx⟩) (fun x hx => (plErr_zero (hv x hx)).2.2.1) hl hn n 0 LL [] (by omega) rfl (by unfold LL; omega)
/-- The net strokes of an aggregate. -/
def agN (n : Nat) (S : Nat → Int) (a b : PlV) : List NetV := tabN (fun i => agP (atN (ntP n S a) i) (atN (ntP n S b) i)) n 0
theorem agN_len (n : Nat) (S : Nat → Int) (a b : PlV) : (agN n S a b).length = n := tabN_len _ n 0
theorem ok44 (hc : HolesC n c P S) (a b : PlV) (hs : ∀ x ∈ [a, b], x.1.size ≤ 60 ∧ x.2.1.length ≤ 39) : OK5 44 [.slc f n c, .agg (plC a), .agg (plC b)]
    (ifK (plsGo n P S [] [a, b] != 0) (.tup [.slc true 0 [], .int .i64 (plsGo n P S [] [a, b])]) (.tup [slR netD (agN n S a b), .int .i64 0])) := by
  have k87 := ok87 (f := f) (g := true) hc [a, b] (by simp) hs
  cases hz : plsGo n P S [] [a, b] != 0 with
  | true =>
    obtain ⟨B, hb, t87⟩ := ex1 k87 rfl
    refine fnT hb Tryz.func44 (ord := O0) (N := N44) (by kernel_rfl) ((F44_eq _ _ _ _ _ _ _ _ _ _ _ _ _ _ _ _).trans ?_)
    have t87 : callOf B 87 [.slc f n c, .slc true 2 [.str a.1, .slc false a.2.1.length (a.2.1.flatMap netD), .int .i64 a.2.2, .str b.1, .slc false b.2.1.length (b.2.1.flatMap netD), .int .i64 b.2.2]] = _ := t87
    rw [t87, optK_some, intK_int, hz, ifK_true, ifK_true]
  | false =>
    have hz0 : plsGo n P S [] [a, b] = 0 := by simpa using hz
    have hv := pls_zero hz0
    have ha := plErr_zero (hv a (by simp))
    have hb' := plErr_zero (hv b (by simp))
    obtain ⟨B, hb, h87, h89, h102, _⟩ := exF [one 87 [.slc f n c, .slc true 2 ([a, b].flatMap plC)] (.int .i64 (plsGo n P S [] [a, b])), famPr 89 (.slc f n c) [a, b] (fun x => slR netD (ntP n S x)), fam102]
      ⟨one_good k87 rfl, famPr_good (fun x hx => ok89p hc (hv x hx)) (fun _ => rfl), fam102_good, trivial⟩ rfl
    have t87 : callOf B 87 [.slc f n c, .slc true 2 [.str a.1, .slc false a.2.1.length (a.2.1.flatMap netD), .int .i64 a.2.2, .str b.1, .slc false b.2.1.length (b.2.1.flatMap netD), .int .i64 b.2.2]] = some (.int .i64 (plsGo n P S [] [a, b])) := h87 ()
    have ta : callOf B 89 [.agg [.str a.1, .slc false a.2.1.length (a.2.1.flatMap netD), .int .i64 a.2.2], .slc f n c] = some (.slc (ntP n S a).isEmpty n ((ntP n S a).flatMap netD)) := by
      rw [show D.slc (ntP n S a).isEmpty n ((ntP n S a).flatMap netD) = slR netD (ntP n S a) by rw [slR, ntP_len, ha.2.2.1]]
      exact h89 ⟨a, by simp⟩
    have tb : callOf B 89 [.agg [.str b.1, .slc false b.2.1.length (b.2.1.flatMap netD), .int .i64 b.2.2], .slc f n c] = some (.slc (ntP n S b).isEmpty n ((ntP n S b).flatMap netD)) := by
      rw [show D.slc (ntP n S b).isEmpty n ((ntP n S b).flatMap netD) = slR netD (ntP n S b) by rw [slR, ntP_len, hb'.2.2.1]]
      exact h89 ⟨b, by simp⟩
    refine fnT hb Tryz.func44 (ord := O0) (N := N44) (by kernel_rfl) ((F44_eq _ _ _ _ _ _ _ _ _ _ _ _ _ _ _ _).trans ?_)
    rw [t87, optK_some, intK_int, hz, ifK_false, ifK_false, ta, optK_some, slcK_slc, tb, optK_some, slcK_slc]
    exact go44 (fun x s => h102 (x, s)) (by rw [ntP_len]; exact ha.2.2.1) (by rw [ntP_len]; exact hb'.2.2.1) (by omega) n 0 LL [] (by omega) rfl (by unfold LL; omega)
theorem ok45 (hc : HolesC n c P S) (a b : PlV) (hv : ∀ x ∈ [a, b], plErr n P S x.1 x.2.1 x.2.2 = 0) : OK5 45 [.slc f n c, .agg (plC a), .agg (plC b)] (slR netD (agN n S a b)) := by
  have ha := plErr_zero (hv a (by simp))
  have hb' := plErr_zero (hv b (by simp))
  obtain ⟨B, hb, h26, _⟩ := exF [famPl 26 (.slc f n c) [a, b] fun x => slR netD (ntP n S x)] ⟨famPl_good (fun x hx => ok26p hc (hv x hx)) (fun _ => rfl), trivial⟩ rfl
  have ta : callOf B 26 [.slc f n c, .agg [.str a.1, .slc false a.2.1.length (a.2.1.flatMap netD), .int .i64 a.2.2]] = some (.slc (ntP n S a).isEmpty n ((ntP n S a).flatMap netD)) := by
    rw [show D.slc (ntP n S a).isEmpty n ((ntP n S a).flatMap netD) = slR netD (ntP n S a) by rw [slR, ntP_len, ha.2.2.1]]
    exact h26 ⟨a, by simp⟩
  have tb : callOf B 26 [.slc f n c, .agg [.str b.1, .slc false b.2.1.length (b.2.1.flatMap netD), .int .i64 b.2.2]] = some (.slc (ntP n S b).isEmpty n ((ntP n S b).flatMap netD)) := by
    rw [show D.slc (ntP n S b).isEmpty n ((ntP n S b).flatMap netD) = slR netD (ntP n S b) by rw [slR, ntP_len, hb'.2.2.1]]
    exact h26 ⟨b, by simp⟩
  refine fnT hb Tryz.func45 (ord := O45) (N := N45) (by kernel_rfl) ((F45_eq _ _ _ _ _ _ _ _ _ _ _ _ _ _ _ _).trans ?_)
  rw [ta, optK_some, slcK_slc, tb, optK_some, slcK_slc]
  rw [show agN n S a b = tabN (fun i => agR (atN (ntP n S a) i) (atN (ntP n S b) i)) n 0 from tabN_eq (fun i => (ag_eq (atN_v (ntP_v (hv a (by simp))) i) (atN_v (ntP_v (hv b (by simp))) i)).symm) n 0]
  exact go45 (by rw [ntP_len]; exact ha.2.2.1) (by rw [ntP_len]; exact hb'.2.2.1) (by omega) n 0 LL [] (by omega) rfl (by unfold LL; omega)
theorem pls_two (a b : PlV) : fstL [plErr n P S a.1 a.2.1 a.2.2, plErr n P S b.1 b.2.1 b.2.2, ifK (ByteArray.toList a.1 == ByteArray.toList b.1) 9 0] = plsGo n P S [] [a, b] := by
  simp only [plsGo, fstL, namedB, List.nil_append, Bool.or_false]
  generalize plErr n P S a.1 a.2.1 a.2.2 = x
  generalize plErr n P S b.1 b.2.1 b.2.2 = y
  generalize (ByteArray.toList a.1 == ByteArray.toList b.1) = q
  cases x != 0 <;> cases y != 0 <;> cases q <;> rfl
end
end Go.Pd
end

section
namespace Go.Pd
open Go Go.Proofs Go.RowKit

set_option maxRecDepth 100000
section
variable {f g : Bool} {n : Nat} {c : List D} {P S : Nat → Int}
/-- The end of the statement: aggregates. -/
theorem agg6 {call : FuncId → List D → Option D} (l : List PlV) (t16 : call 16 [] = some (.bool true)) (h24 : ∀ b e, call 24 [.bool b, .int .i64 e] = some (.int .i64 (ifK b e 0)))
    (h22 : ∀ q : List Int, q.length ≤ 1000 → call 22 [.slc true q.length (ints q)] = some (.int .i64 (fstL q))) (h43 : ∀ q : List NetV, q.length ≤ 1000 → call 43 [slR netD q] = some (slR netD q)) (h42 : ∀ q : List NetV, q.length ≤ 1000 → call 42 [slR netD q, argN q] = some (.bool true))
    (h23 : ∀ x ∈ l, call 23 [.slc f n c, .agg (plC x)] = some (.int .i64 (plErr n P S x.1 x.2.1 x.2.2)))
    (h44 : ∀ a b r, l = a :: b :: r → call 44 [.slc f n c, .agg (plC a), .agg (plC b)] = some (ifK (plsGo n P S [] [a, b] != 0) (.tup [.slc true 0 [], .int .i64 (plsGo n P S [] [a, b])]) (.tup [slR netD (agN n S a b), .int .i64 0])))
    (h45 : ∀ a b r, l = a :: b :: r → (∀ x ∈ [a, b], plErr n P S x.1 x.2.1 x.2.2 = 0) → call 45 [.slc f n c, .agg (plC a), .agg (plC b)] = some (slR netD (agN n S a b))) (hn : n ≤ 1000) (gx : Bool) :
    F6_1023 call LL C1 f n c g l.length (l.flatMap plC) gx l.length (l.flatMap plC) = some (.bool true) := by
  rw [F6_1023_eq (hC := (fun _ => rfl : ∀ t, C1 t = 1))]
  match l with
  | [] => rw [show decide ((([] : List PlV).length : Int) < 2) = true from rfl, ifK_true, t16, optK_some, boolK_bool]
  | [a] => rw [show decide (((([a] : List PlV).length : Nat) : Int) < 2) = true from rfl, ifK_true, t16, optK_some, boolK_bool]
  | a :: b :: r =>
    have t44 : call 44 [.slc f n c, .agg [.str a.1, .slc false a.2.1.length (a.2.1.flatMap netD), .int .i64 a.2.2], .agg [.str b.1, .slc false b.2.1.length (b.2.1.flatMap netD), .int .i64 b.2.2]] = _ := h44 a b r rfl
    have t45 : _ → call 45 [.slc f n c, .agg [.str a.1, .slc false a.2.1.length (a.2.1.flatMap netD), .int .i64 a.2.2], .agg [.str b.1, .slc false b.2.1.length (b.2.1.flatMap netD), .int .i64 b.2.2]] = _ := h45 a b r rfl
    have ta : call 23 [.slc f n c, .agg [.str a.1, .slc false a.2.1.length (a.2.1.flatMap netD), .int .i64 a.2.2]] = _ := h23 a (by simp)
    have tb : call 23 [.slc f n c, .agg [.str b.1, .slc false b.2.1.length (b.2.1.flatMap netD), .int .i64 b.2.2]] = _ := h23 b (by simp)
    have t22 : ∀ x y z : Int, call 22 [.slc true 3 [.int .i64 x, .int .i64 y, .int .i64 z]] = some (.int .i64 (fstL [x, y, z])) := fun x y z => h22 [x, y, z] (by simp)
    have hp2 := pls_two (n := n) (P := P) (S := S) a b
    have d1 : decide ((((a :: b :: r).length : Nat) : Int) < 2) = false := by simp; omega
    have d2 : decide ((0 : Int) ≤ 0 ∧ (0 : Int) < (((a :: b :: r).length : Nat) : Int)) = true := by simp; omega
    have d3 : decide ((0 : Int) ≤ 1 ∧ (1 : Int) < (((a :: b :: r).length : Nat) : Int)) = true := by simp; omega
    have c0 : ((a :: b :: r).flatMap plC)[0]? = some (.str a.1) := rfl
    have c1 : ((a :: b :: r).flatMap plC)[1]? = some (.slc false a.2.1.length (a.2.1.flatMap netD)) := rfl
    have c2 : ((a :: b :: r).flatMap plC)[2]? = some (.int .i64 a.2.2) := rfl
    have c3 : ((a :: b :: r).flatMap plC)[3]? = some (.str b.1) := rfl
    have c4 : ((a :: b :: r).flatMap plC)[4]? = some (.slc false b.2.1.length (b.2.1.flatMap netD)) := rfl
    have c5 : ((a :: b :: r).flatMap plC)[5]? = some (.int .i64 b.2.2) := rfl
    have hpos : plsGo n P S [] [a, b] = 0 → 0 < n := fun h => (plErr_zero (pls_zero h a (by simp))).1.1
    have hzero : plsGo n P S [] [a, b] = 0 → ∀ x ∈ [a, b], plErr n P S x.1 x.2.1 x.2.2 = 0 := fun h => pls_zero h
    generalize (a :: b :: r).flatMap plC = cs at *
    generalize plErr n P S a.1 a.2.1 a.2.2 = ea at *
    generalize plErr n P S b.1 b.2.1 b.2.2 = eb at *
    generalize plsGo n P S [] [a, b] = e at *
    have hnil43 : call 43 [.slc true 0 []] = some (.slc true 0 []) := h43 [] (by simp)
    have hnil42 : call 42 [.slc true 0 [], .nils] = some (.bool true) := h42 [] (by simp)
    cases he : e != 0 with
    | true =>
      have hez : (e == 0) = false := by simpa using he
      rw [he, ifK_true] at t44
      have g0 : ∀ {γ : Type} (k : D → Option γ), cellK [D.slc true 0 [], D.int .i64 e] 0 k = k (.slc true 0 []) := fun _ => rfl
      have g1 : ∀ {γ : Type} (k : D → Option γ), cellK [D.slc true 0 [], D.int .i64 e] 1 k = k (.int .i64 e) := fun _ => rfl
      simp only [d1, d2, d3, ifK_false, ifK_true, chkK_true, cellK_some c0, cellK_some c1, cellK_some c2, cellK_some c3, cellK_some c4, cellK_some c5, strK_str, slcK_slc, intK_int, optK_some, boolK_bool, t44, ta, tb, h24, t22, hp2, hez, tup2, g0, g1, hnil43, hnil42, t16, beq_self_eq_true]
    | false =>
      have he0 : e = 0 := by simpa using he
      subst he0
      have hN : (agN n S a b).length ≤ 1000 := by rw [agN_len]; exact hn
      have k45 := t45 (hzero rfl)
      have hlen : (agN n S a b).length = n := agN_len ..
      generalize agN n S a b = N at *
      have k43 : call 43 [.slc N.isEmpty N.length (N.flatMap netD)] = some (.slc N.isEmpty N.length (N.flatMap netD)) := h43 N hN
      rw [he, ifK_false, slR] at t44
      have k42 : call 42 [.slc N.isEmpty N.length (N.flatMap netD), .slc N.isEmpty N.length (N.flatMap netD)] = some (.bool true) := by
        have := h42 N hN
        rw [arg_pos (by rw [hlen]; exact hpos rfl)] at this
        exact this
      have g0 : ∀ {γ : Type} (k : D → Option γ), cellK [D.slc N.isEmpty N.length (N.flatMap netD), D.int .i64 0] 0 k = k (.slc N.isEmpty N.length (N.flatMap netD)) := fun _ => rfl
      have g1 : ∀ {γ : Type} (k : D → Option γ), cellK [D.slc N.isEmpty N.length (N.flatMap netD), D.int .i64 0] 1 k = k (.int .i64 0) := fun _ => rfl
      rw [slR] at k45
      simp only [d1, d2, d3, ifK_false, ifK_true, chkK_true, cellK_some c0, cellK_some c1, cellK_some c2, cellK_some c3, cellK_some c4, cellK_some c5, strK_str, slcK_slc, intK_int, optK_some, boolK_bool, t44, k45, ta, tb, h24, t22, hp2, tup2, g0, g1, k43, k42, t16, beq_self_eq_true]
theorem pair_inj {a b a' b' : PlV} (h : [D.slc f n c, .agg (plC a), .agg (plC b)] = [D.slc f n c, .agg (plC a'), .agg (plC b')]) : a = a' ∧ b = b' := by
  simp only [List.cons.injEq, D.agg.injEq, true_and, and_true] at h
  exact ⟨plC_inj h.1, plC_inj h.2⟩
theorem ok6 (hc : HolesC n c P S) (l : List PlV) : OK5 6 [.slc f n c, .slc g l.length (l.flatMap plC)] (.bool true) := by
  cases h6 : decide ((l.length : Int) > 6) with
  | true =>
    obtain ⟨B, hb, t16⟩ := ex1 awake_ok rfl
    refine fnT hb Tryz.func6 (ord := O0) (N := N6) (by kernel_rfl) ((F6_eq _ _ _ _ _ _ _ _ _).trans ?_)
    rw [h6, ifK_true, t16, optK_some, boolK_bool]
  | false =>
    have hl6 : l.length ≤ 6 := by simp only [decide_eq_false_iff_not] at h6; omega
    have k15 := ok15l (f := f) (g := g) (n := n) (c := c) l (by omega)
    cases hfew : ifK (shPs l) (decide ((n : Int) ≤ 39)) false with
    | false =>
      rw [hfew] at k15
      obtain ⟨B, hb, h15, h16, _⟩ := exF [one 15 [.slc f n c, .slc g l.length (l.flatMap plC)] (.bool false), one 16 [] (.bool true)] ⟨one_good k15 rfl, one_good awake_ok rfl, trivial⟩ rfl
      have t15 : callOf B 15 [.slc f n c, .slc g l.length (l.flatMap plC)] = some (.bool false) := h15 ()
      have t16 : callOf B 16 [] = some (.bool true) := h16 ()
      refine fnT hb Tryz.func6 (ord := O0) (N := N6) (by kernel_rfl) ((F6_eq _ _ _ _ _ _ _ _ _).trans ?_)
      rw [h6, ifK_false, t15, optK_some, boolK_bool, show (!false) = true from rfl, ifK_true, t16, optK_some, boolK_bool]
    | true =>
      rw [hfew] at k15
      have hsh : shPs l = true := by
        cases hs : shPs l with
        | true => rfl
        | false => rw [hs] at hfew; cases hfew
      have hn : n ≤ 39 := by
        rw [hsh, ifK_true] at hfew
        simp only [decide_eq_true_eq] at hfew
        omega
      have hs := shPs_mem hsh
      have k38 := ok38 (f := f) (g := g) hc l (by omega) hs
      have k40 := ok40 (f := f) (g := l.isEmpty) hc l (by omega) hs
      obtain ⟨B, hb, h15, h16, h37, h38, h39, h24, h22, h40, h41, h43, h42, h23, h44, h45, _⟩ := exF [one 15 [.slc f n c, .slc g l.length (l.flatMap plC)] (.bool true), one 16 [] (.bool true), one 37 [.slc g l.length (l.flatMap plC)] (slR plC l), one 38 _ _, one 39 [.slc f n c] (.int .i64 (holesErr n P S)), fam24, fam22,
          one 40 [.slc f n c, .slc l.isEmpty l.length (l.flatMap plC)] (.int .i64 (plsGo n P S [] l)), ⟨41, {_u : Unit // ∀ x ∈ l, plErr n P S x.1 x.2.1 x.2.2 = 0}, fun _ => [.slc f n c, .slc l.isEmpty l.length (l.flatMap plC)], fun _ => slR netD (fbV n S l)⟩, fam43, fam42,
          famPl 23 (.slc f n c) l fun x => .int .i64 (plErr n P S x.1 x.2.1 x.2.2), ⟨44, {p : PlV × PlV // ∃ r, l = p.1 :: p.2 :: r}, fun p => [.slc f n c, .agg (plC p.1.1), .agg (plC p.1.2)], fun p => ifK (plsGo n P S [] [p.1.1, p.1.2] != 0) (.tup [.slc true 0 [], .int .i64 (plsGo n P S [] [p.1.1, p.1.2])]) (.tup [slR netD (agN n S p.1.1 p.1.2), .int .i64 0])⟩,
          ⟨45, {p : PlV × PlV // ∀ x ∈ [p.1, p.2], plErr n P S x.1 x.2.1 x.2.2 = 0}, fun p => [.slc f n c, .agg (plC p.1.1), .agg (plC p.1.2)], fun p => slR netD (agN n S p.1.1 p.1.2)⟩]
        ⟨one_good k15 rfl, one_good awake_ok rfl, one_good (ok37 l (by omega)) rfl, one_good k38 rfl, one_good (ok39 hc) rfl, fam24_good, fam22_good, one_good k40 rfl, ⟨fun u => ok41 hc l (by omega) (by omega) u.2, fun _ _ _ => rfl, fun _ => rfl⟩, fam43_good, fam42_good,
          famPl_good (fun x hx => ok23 hc x.1 x.2.1 x.2.2 (by have := (hs x hx).2; omega)) (fun _ => rfl), ⟨fun p => ok44 hc p.1.1 p.1.2 (fun x hx => hs x (by
            obtain ⟨⟨a, b⟩, r, rfl⟩ := p
            simp at hx
            rcases hx with rfl | rfl <;> simp)), fun p q h => by
            obtain ⟨h1, h2⟩ := pair_inj h
            simp only [h1, h2], fun _ => rfl⟩,
          ⟨fun p => ok45 hc p.1.1 p.1.2 p.2, fun p q h => by
            obtain ⟨h1, h2⟩ := pair_inj h
            simp only [h1, h2], fun _ => rfl⟩, trivial⟩ rfl
      have t15 : callOf B 15 [.slc f n c, .slc g l.length (l.flatMap plC)] = some (.bool true) := h15 ()
      have t16 : callOf B 16 [] = some (.bool true) := h16 ()
      have t37 : callOf B 37 [.slc g l.length (l.flatMap plC)] = some (.slc l.isEmpty l.length (l.flatMap plC)) := h37 ()
      have t38 : callOf B 38 [.slc f n c, .slc g l.length (l.flatMap plC)] = some (ifK (fbErr n P S l != 0) (.tup [.slc true 0 [], .int .i64 (fbErr n P S l)]) (ifK (plsGo n P S [] l != 0) (.tup [.slc true 0 [], .int .i64 (plsGo n P S [] l)]) (.tup [.slc false n ((fbV n S l).flatMap netD), .int .i64 0]))) := h38 ()
      have t39 : callOf B 39 [.slc f n c] = some (.int .i64 (holesErr n P S)) := h39 ()
      have t24 : ∀ b e, callOf B 24 [.bool b, .int .i64 e] = some (.int .i64 (ifK b e 0)) := fun b e => h24 (b, e)
      have t22l : ∀ q : List Int, q.length ≤ 1000 → callOf B 22 [.slc true q.length (ints q)] = some (.int .i64 (fstL q)) := fun q hq => h22 ⟨q, hq⟩
      have t22 : ∀ x y : Int, callOf B 22 [.slc true 2 [.int .i64 x, .int .i64 y]] = some (.int .i64 (fst2 x y)) := fun x y => by
        have := t22l [x, y] (by simp)
        rw [show fstL [x, y] = fst2 x y by
          unfold fst2 fstL fstL fstL
          cases hy : y != 0 with
          | true => rfl
          | false =>
            have : y = 0 := by simpa using hy
            rw [this]
            rfl] at this
        exact this
      have t40 : callOf B 40 [.slc f n c, .slc l.isEmpty l.length (l.flatMap plC)] = some (.int .i64 (plsGo n P S [] l)) := h40 ()
      have t41 : (∀ x ∈ l, plErr n P S x.1 x.2.1 x.2.2 = 0) → callOf B 41 [.slc f n c, .slc l.isEmpty l.length (l.flatMap plC)] = some (slR netD (fbV n S l)) := fun h => h41 ⟨(), h⟩
      have t43 : ∀ q : List NetV, q.length ≤ 1000 → callOf B 43 [slR netD q] = some (slR netD q) := fun q hq => h43 ⟨q, hq⟩
      have t42 : ∀ q : List NetV, q.length ≤ 1000 → callOf B 42 [slR netD q, argN q] = some (.bool true) := fun q hq => h42 ⟨q, hq⟩
      have hend := agg6 (f := f) (g := g) (n := n) (c := c) (P := P) (S := S) (call := callOf B) l t16 t24 t22l t43 t42 (fun x hx => h23 ⟨x, hx⟩) (fun a b r h => h44 ⟨(a, b), r, h⟩) (fun a b r h hv => h45 ⟨(a, b), hv⟩) (by omega) l.isEmpty
      have n43 : callOf B 43 [.slc true 0 []] = some (.slc true 0 []) := t43 [] (by simp)
      have n42 : callOf B 42 [.slc true 0 [], .nils] = some (.bool true) := t42 [] (by simp)
      refine fnT hb Tryz.func6 (ord := O0) (N := N6) (by kernel_rfl) ((F6_eq _ _ _ _ _ _ _ _ _).trans ?_)
      rw [h6, ifK_false, t15, optK_some, boolK_bool, show (!true) = false from rfl, ifK_false, F6_7_eq (hC := (fun _ => rfl : ∀ t, C1 t = 1)), t37, optK_some, slcK_slc, t38, optK_some]
      -- both ways to the error of the number of players
      have h63 : ∀ (fe : Bool) (ne : Nat) (ce : List D) (ve : Int), (ifK (decide ((l.length : Int) < 2)) (F6_63 (callOf B) LL C1 f n c g l.length (l.flatMap plC) l.isEmpty l.length (l.flatMap plC) fe ne ce ve (fst2 (holesErr n P S) (ifK true 2 0)))
          (F6_63 (callOf B) LL C1 f n c g l.length (l.flatMap plC) l.isEmpty l.length (l.flatMap plC) fe ne ce ve (fst2 (holesErr n P S) (ifK (decide ((l.length : Int) > 4)) 2 0)))) = F6_63 (callOf B) LL C1 f n c g l.length (l.flatMap plC) l.isEmpty l.length (l.flatMap plC) fe ne ce ve (fbErr n P S l) := fun fe ne ce ve => by
        unfold fbErr wide
        cases decide ((l.length : Int) < 2) with
        | true => rw [ifK_true, Bool.true_or]
        | false => rw [ifK_false, Bool.false_or]
      cases hf : fbErr n P S l != 0 with
      | true =>
        have hfz : (fbErr n P S l == 0) = false := by simpa using hf
        rw [ifK_true, tup2, cellK_some rfl, slcK_slc, cellK_some rfl, intK_int, t39, optK_some, intK_int, t24, optK_some, intK_int, t22, optK_some, intK_int, t24, optK_some, intK_int, t22, optK_some, intK_int, h63, F6_63_eq (hC := (fun _ => rfl : ∀ t, C1 t = 1)), hfz, ifK_false, F6_127_eq (hC := (fun _ => rfl : ∀ t, C1 t = 1)), hfz, ifK_false,
          F6_511_eqn (hC := (fun _ => rfl : ∀ t, C1 t = 1)), show (fbErr n P S l != fbErr n P S l) = false by simp, ifK_false, n43, optK_some, slcK_slc, n42, optK_some, boolK_bool, show (!true) = false from rfl, ifK_false]
        exact hend
      | false =>
        have hf0 : fbErr n P S l = 0 := by simpa using hf
        cases hz : plsGo n P S [] l != 0 with
        | true =>
          have hzz : (plsGo n P S [] l == 0) = false := by simpa using hz
          rw [ifK_false, ifK_true, tup2, cellK_some rfl, slcK_slc, cellK_some rfl, intK_int, t39, optK_some, intK_int, t24, optK_some, intK_int, t22, optK_some, intK_int, t24, optK_some, intK_int, t22, optK_some, intK_int, h63, F6_63_eq (hC := (fun _ => rfl : ∀ t, C1 t = 1)), hf0, show ((0 : Int) == 0) = true from rfl, ifK_true, t40, optK_some, intK_int, F6_127_eq (hC := (fun _ => rfl : ∀ t, C1 t = 1)), hzz, ifK_false,
            F6_511_eqn (hC := (fun _ => rfl : ∀ t, C1 t = 1)), show (plsGo n P S [] l != plsGo n P S [] l) = false by simp, ifK_false, n43, optK_some, slcK_slc, n42, optK_some, boolK_bool, show (!true) = false from rfl, ifK_false]
          exact hend
        | false =>
          have hz0 : plsGo n P S [] l = 0 := by simpa using hz
          have hv := pls_zero hz0
          have hpos : 0 < n := by
            unfold fbErr fst2 at hf0
            cases hh : holesErr n P S != 0 with
            | true => rw [hh, ifK_true] at hf0; rw [hf0] at hh; cases hh
            | false => exact (holesErr_zero (by simpa using hh)).1
          have k41 := t41 hv
          have hlen : (fbV n S l).length = n := fbV_len ..
          have hb43 := t43 (fbV n S l) (by omega)
          have hb42 := t42 (fbV n S l) (by omega)
          rw [arg_pos (by omega)] at hb42
          rw [slN_pos hlen hpos] at k41 hb43 hb42
          rw [ifK_false, ifK_false, tup2, cellK_some rfl, slcK_slc, cellK_some rfl, intK_int, t39, optK_some, intK_int, t24, optK_some, intK_int, t22, optK_some, intK_int, t24, optK_some, intK_int, t22, optK_some, intK_int, h63, F6_63_eq (hC := (fun _ => rfl : ∀ t, C1 t = 1)), hf0, show ((0 : Int) == 0) = true from rfl, ifK_true, t40, optK_some, intK_int, hz0, F6_127_eq (hC := (fun _ => rfl : ∀ t, C1 t = 1)), show ((0 : Int) == 0) = true from rfl, ifK_true, k41, optK_some, slcK_slc,
            F6_511_eqs (hC := (fun _ => rfl : ∀ t, C1 t = 1)), show ((0 : Int) != 0) = false from rfl, ifK_false, hb43, optK_some, slcK_slc, hb42, optK_some, boolK_bool, show (!true) = false from rfl, ifK_false]
          exact hend
end
end Go.Pd
end
