/-
  Chapter 5: the reference: the greatest integer that is at most a fraction, as texts; halves upwards.
  Chapter 5: the reference: floors of fractions as texts, machine integers, halves upwards.
  Chapter 5: sorted lists, weighted sums and floors, in the program and in the reference.
  Chapter 5: the handicap strokes of sides, and teams, in the program and in the reference.
  Chapter 5: Foursome, Scramble and Team of the program and of the reference.
  Chapter 5: FormatHandicaps is true of all lists and counts.
-/
import Derived.Test.YtanpmgfaieekhaaGreatDoorFmH1
import Derived.Test.YtanpmgfaieekhaaGreatDoorFmN2
import Derived.Test.YtanpmgfaieekhaaGreatDoorFmD
import Derived.Test.YtanpmgfaieekhaaGreatDoorFmT
section
namespace Go.Pd
open Go Go.Proofs Go.RowKit
set_option maxRecDepth 100000
/-! ### Texts -/
theorem slN_rat (n : Int) (d : Nat) : slN (ratL n d) = (sgnL n ++ num1 n.natAbs).length := by
  unfold ratL sgnL
  by_cases h : n < 0
  · rw [if_pos h, List.singleton_append, List.singleton_append, slN, if_neg (by decide), slN_body, List.length_cons]
  · rw [if_neg h, List.nil_append, List.nil_append, slN_body]
theorem rat_one (n : Int) : ratL n 1 = sgnL n ++ num1 n.natAbs := by unfold ratL; rw [tail_one (by omega), List.append_nil]
theorem rat_cut (n : Int) {d : Nat} (h : 1 < d) : ratL n d = ratL n 1 ++ 47 :: ratL (d : Int) 1 := by
  rw [rat_one, rat_one]
  unfold ratL
  rw [tail_big h, show sgnL (d : Int) = [] by unfold sgnL; rw [if_neg (by omega)], List.nil_append, Int.natAbs_natCast, List.append_assoc]
theorem rat_len {n : Int} {d : Nat} (hn : n.natAbs < 1000000000) (hd : d < 1000000000) : (ratL n d).length ≤ 20 := by
  have h1 := num1_len (n := n.natAbs) (k := 9) (by omega) (by omega)
  have h2 := num1_len (n := d) (k := 9) (by omega) (by omega)
  have h3 : (sgnL n).length ≤ 1 := by unfold sgnL; split <;> simp
  have h4 : (tailL d).length ≤ 10 := by
    unfold tailL
    split
    · rw [List.length_cons]; omega
    · simp
  unfold ratL
  rw [List.length_append, List.length_append]
  omega
theorem rat1_len {n : Int} (hn : n.natAbs < 1000000000) : (ratL n 1).length ≤ 10 := by
  have h1 := num1_len (n := n.natAbs) (k := 9) (by omega) (by omega)
  have h3 : (sgnL n).length ≤ 1 := by unfold sgnL; split <;> simp
  rw [rat_one, List.length_append]
  omega
theorem ok160 {n : Int} {d : Nat} (hn : n.natAbs < 1000000000) (h1 : 1 ≤ d) (hd : d < 1000000000) : OK2 160 [.str (bs (ratL n d))] (.bool (decide (d = 1))) := by
  have hl := rat_len hn hd
  obtain ⟨B, hB, e9, _⟩ := exF [one 189 [.str (bs (ratL n d))] (.int .i64 (slN (ratL n d) : Int))] ⟨one_good (ok189 _ (by omega)) rfl, trivial⟩ rfl
  refine fnT hB Tryz.func160 (ord := O0) (N := N0) (by kernel_rfl) ((F160_eq _ _ _ _).trans ?_)
  refine opt_step (x := D.int .i64 (slN (ratL n d) : Int)) (e9 ()) (int_step ?_)
  rw [bs_size]
  by_cases h : d = 1
  · subst h
    rw [decide_eq_true rfl, slN_rat, ← rat_one]
    simp
  · have hlen : (ratL n d).length = (ratL n 1).length + ((ratL (d : Int) 1).length + 1) := by rw [rat_cut n (by omega), List.length_append, List.length_cons]
    rw [decide_eq_false h, slN_rat, ← rat_one, show ((((ratL n 1).length : Nat) : Int) == (((ratL n d).length : Nat) : Int)) = false from beq_eq_false_iff_ne.2 (by omega)]
def fam161 : Fam := ⟨161, {z : Int // z.natAbs < 1000000000}, fun z => [.str (bs (ratL z.1 1))], fun z => intZ false z.1⟩
theorem fam161_good : fam161.Good := ⟨fun z => ok161 z.1 (by have := (num1_len (n := z.1.natAbs) (k := 9) (by have := z.2; omega) (by omega)).2; omega), fun (x y : {z : Int // z.natAbs < 1000000000}) e => by
  have e : [D.str (bs (ratL x.1 1))] = [D.str (bs (ratL y.1 1))] := e
  simp only [List.cons.injEq, D.str.injEq, and_true] at e
  show intZ false x.1 = intZ false y.1
  rw [(rat_inj (by omega) (by omega) (bs_inj e)).1], fun _ => rfl⟩
theorem ok162 {n : Int} {d : Nat} (hn : n.natAbs < 1000000000) (h1 : 1 < d) (hd : d < 1000000000) : OK2 162 [.str (bs (ratL n d))] (.tup [intZ false n, intZ false (d : Int)]) := by
  have hl := rat_len hn hd
  obtain ⟨B, hB, e9, e1, _⟩ := exF [one 189 [.str (bs (ratL n d))] (.int .i64 (slN (ratL n d) : Int)), fam161] ⟨one_good (ok189 _ (by omega)) rfl, fam161_good, trivial⟩ rfl
  have h61 : ∀ z : Int, z.natAbs < 1000000000 → callOf B 161 [.str (bs (ratL z 1))] = some (intZ false z) := fun z hz => e1 ⟨z, hz⟩
  refine fnT hB Tryz.func162 (ord := O0) (N := N0) (by kernel_rfl) ((F162_eq _ _ _ _).trans ?_)
  refine opt_step (x := D.int .i64 (slN (ratL n d) : Int)) (e9 ()) (int_step ?_)
  have hlen : (ratL n d).length = (ratL n 1).length + ((ratL (d : Int) 1).length + 1) := by rw [rat_cut n h1, List.length_append, List.length_cons]
  rw [bs_size, slN_rat, ← rat_one, show ((((ratL n 1).length : Nat) : Int) == (((ratL n d).length : Nat) : Int)) = false from beq_eq_false_iff_ne.2 (by omega), ifK_false]
  refine chk_step (decide_eq_true ⟨by omega, by omega, by omega⟩) ?_
  have w1 : IntKind.wrap IntKind.i64 ((((ratL n 1).length : Nat) : Int) + 1) = (((ratL n 1).length + 1 : Nat) : Int) := (wrap_in (by omega)).trans (by omega)
  rw [Int.toNat_natCast, bs_ext, List.drop_zero, show (ratL n d).take (ratL n 1).length = ratL n 1 by rw [rat_cut n h1, List.take_left]]
  refine opt_step (h61 n hn) ((rd_int _ _ _ _ _).trans ?_)
  rw [w1]
  refine chk_step (decide_eq_true ⟨by omega, by omega, by omega⟩) ?_
  rw [Int.toNat_natCast, Int.toNat_natCast, bs_ext, List.take_length, show (ratL n d).drop ((ratL n 1).length + 1) = ratL (d : Int) 1 by
    rw [rat_cut n h1, show ratL n 1 ++ 47 :: ratL (d : Int) 1 = (ratL n 1 ++ [47]) ++ ratL (d : Int) 1 by simp, show (ratL n 1).length + 1 = (ratL n 1 ++ [47]).length by simp, List.drop_left]]
  refine opt_step (h61 (d : Int) (by omega)) ((rd_int _ _ _ _ _).trans rfl)
/-! ### Quotients by one digit -/
theorem big_one {d : Nat} (h : d < 1000000000) (h0 : d ≠ 0) : big d = [(d : Int)] := by
  rw [big_pos h0, show d / 1000000000 = 0 by omega, big_zero, show d % 1000000000 = d by omega]
theorem big_lt9 {d : Nat} (h : d < 1000000000) : (big d).length ≤ 1 := by
  by_cases h0 : d = 0
  · subst h0
    rw [big_zero]
    simp
  · rw [big_one h h0]
    simp
theorem trim_one {r : Nat} (h : r < 1000000000) : trimL [(r : Int)] = big r := by
  have := trim_row r 1 (by unfold atN; omega)
  rw [show rowF 1 (dgF r) = [(r : Int)] by
    show [dgF r 0] = _
    unfold dgF
    rw [atN_zero, show r % 1000000000 = r by omega]] at this
  exact this
theorem trim_big (n : Nat) : trimL (big n) = big n := by
  have h : atN n (big n).length = 0 := by
    have : ¬ atN n (big n).length ≠ 0 := fun hh => absurd (len_lt.2 hh) (by omega)
    omega
  have := trim_row n (big n).length h
  rw [row_big rfl] at this
  exact this
theorem big_lenpos {n : Nat} : decide (0 < (big n).length) = decide (n ≠ 0) := by
  refine decide_eq_decide.2 ⟨fun h h0 => ?_, fun h => ?_⟩
  · rw [h0, big_zero] at h
    simp at h
  · rw [big_pos h]
    simp
abbrev bigD (f : Bool) (n : Nat) : D := .slc f (big n).length (ints (big n))
theorem okf192 : okFn Tryz.prog O0 Tryz.f192 = true := by kernel_rfl
theorem ok192 {f g : Bool} (a : Nat) {d : Nat} (ha : a < 1000000000) (h0 : d ≠ 0) (hd : d < 1000000000) : OK2 192 [bigD f a, .slc g 1 [.int .i64 (d : Int)]] (.tup [bigD (decide (a < d)) (a / d), bigD (if a < d then f else flL true [((a % d : Nat) : Int)]) (a % d)]) := by
  have eb : D.slc g 1 [.int .i64 (d : Int)] = bigD g d := by unfold bigD; rw [big_one hd h0]; rfl
  have hm : a % d < 1000000000 := Nat.lt_of_le_of_lt (Nat.mod_le _ _) ha
  obtain ⟨B, hB, e6, e1, e0, _⟩ := exF [one 196 [bigD f a, .slc g 1 [.int .i64 (d : Int)]] (.int .i64 (cmpN a d)), one 211 [bigD f a, .int .i64 (d : Int)] (.tup [bigD false (a / d), .int .i64 ((a % d : Nat) : Int)]), one 210 [.slc true 1 [.int .i64 ((a % d : Nat) : Int)]] (bigD (flL true [((a % d : Nat) : Int)]) (a % d))]
    ⟨one_good (by rw [eb]; exact ok196 a d (by have := big_lt9 ha; omega) (by have := big_lt9 hd; omega)) rfl, one_good (ok211 a d (by omega) (by omega) (by have := big_lt9 ha; omega)) rfl, one_good (by
      have := ok210 (f := true) [((a % d : Nat) : Int)] (by simp)
      rw [trim_one hm] at this
      exact this) rfl, trivial⟩ rfl
  refine fnT hB Tryz.func192 (ord := O0) (N := N192) okf192 ((F192a_eq _ _ _ _ _ _ _ _).trans ?_)
  refine opt_step (x := D.int .i64 (cmpN a d)) (e6 ()) (int_step ?_)
  by_cases h : a < d
  · rw [show cmpN a d = -1 by unfold cmpN; rw [if_pos h], decide_eq_true (show (-1 : Int) < 0 by omega), ifK_true, decide_eq_true h, if_pos h, Nat.div_eq_of_lt h, Nat.mod_eq_of_lt h]
    unfold bigD
    rw [big_zero]
    rfl
  · rw [decide_eq_false (show ¬ cmpN a d < 0 by unfold cmpN; rw [if_neg h]; split <;> omega), ifK_false, decide_eq_false h, if_neg h]
    refine opt_step (x := D.tup [bigD false (a / d), .int .i64 ((a % d : Nat) : Int)]) (e1 ()) ?_
    refine Eq.trans (b := optK (callOf B 210 [.slc true 1 [.int .i64 ((a % d : Nat) : Int)]]) fun r_2 => slcK r_2 fun f_1 n_1 c_2 => some (D.tup [bigD false (a / d), D.slc f_1 n_1 c_2])) rfl ?_
    exact opt_step (x := bigD (flL true [((a % d : Nat) : Int)]) (a % d)) (e0 ()) rfl
end Go.Pd
end
section
namespace Go.Pd
open Go Go.Proofs Go.RowKit
set_option maxRecDepth 100000
/-! ### The floor of a quotient -/
def flN (n : Int) (d : Nat) : Nat := if n < 0 then (if n.natAbs % d = 0 then n.natAbs / d else n.natAbs / d + 1) else n.natAbs / d
theorem fl_neg {n : Int} {d : Nat} (h : n < 0) (hd : 0 < d) : n / (d : Int) = -((flN n d : Nat) : Int) := by
  have key : n.natAbs = d * (n.natAbs / d) + n.natAbs % d := (Nat.div_add_mod n.natAbs d).symm
  have hlt : n.natAbs % d < d := Nat.mod_lt _ hd
  have hn : n = -((n.natAbs : Nat) : Int) := by omega
  unfold flN
  rw [if_pos h]
  generalize n.natAbs / d = q at *
  generalize n.natAbs % d = r at *
  have hk : ((n.natAbs : Nat) : Int) = (d : Int) * (q : Int) + (r : Int) := by
    rw [key, Int.natCast_add, Int.natCast_mul]
  split
  · rename_i h0
    subst h0
    rw [hn, hk, show -((d : Int) * (q : Int) + ((0 : Nat) : Int)) = (d : Int) * (-(q : Int)) by rw [Int.mul_neg]; omega, Int.mul_ediv_cancel_left _ (by omega)]
  · rename_i h0
    rw [hn, hk, show -((d : Int) * (q : Int) + (r : Int)) = ((d : Int) - (r : Int)) + (d : Int) * (-((q : Int) + 1)) by rw [Int.mul_neg, Int.mul_add]; omega, Int.add_mul_ediv_left _ _ (by omega), Int.ediv_eq_zero_of_lt (by omega) (by omega)]
    omega
theorem fl_pos {n : Int} {d : Nat} (h : ¬ n < 0) : n / (d : Int) = ((flN n d : Nat) : Int) := by
  unfold flN
  rw [if_neg h, Int.natCast_ediv, show ((n.natAbs : Nat) : Int) = n by omega]
theorem fl_abs {n : Int} {d : Nat} (hd : 0 < d) : (n / (d : Int)).natAbs = flN n d := by
  by_cases h : n < 0
  · rw [fl_neg h hd]; omega
  · rw [fl_pos h]; omega
theorem fl_sign {n : Int} {d : Nat} (hd : 0 < d) : (decide (n < 0) && decide (0 < (big (flN n d)).length)) = decide (n / (d : Int) < 0) := by
  rw [big_lenpos]
  by_cases h : n < 0
  · rw [decide_eq_true h, Bool.true_and, fl_neg h hd]
    exact decide_eq_decide.2 (by omega)
  · rw [decide_eq_false h, Bool.false_and, fl_pos h]
    exact (decide_eq_false (by omega)).symm
theorem flN_le {n : Int} {d : Nat} (hd : 1 < d) (hn : n.natAbs < 1000000000) : flN n d < 1000000000 := by
  have h1 : n.natAbs / d ≤ n.natAbs / 2 := Nat.div_le_div_left hd (by omega)
  unfold flN
  split
  · split <;> omega
  · omega
theorem ok164 {f g : Bool} {n : Int} {d : Nat} (hn : n.natAbs < 1000000000) (h1 : 1 < d) (hd : d < 1000000000) : ∃ h, OK2 164 [intZ f n, intZ g (d : Int)] (intZ h (n / (d : Int))) := by
  have eb : D.slc g 1 [.int .i64 (d : Int)] = bigD g d := by unfold bigD; rw [big_one hd (by omega)]; rfl
  have h2 := ok192 (f := f) (g := g) n.natAbs (d := d) hn (by omega) hd
  rw [eb] at h2
  have hq : n.natAbs / d < 1000000000 := Nat.lt_of_le_of_lt (Nat.div_le_self _ _) hn
  have hq1 : (big (n.natAbs / d)).length ≤ 1 := big_lt9 hq
  have hfl := flN_le h1 hn
  -- the quotient's digits, and what is signed
  have fin : ∀ (k : Bool) (B : FuncId → List D → Option D), callOf B 191 [.bool (decide (n < 0)), bigD k (flN n d)] = some (sgnD (decide (n < 0)) (flL k (big (flN n d))) (big (flN n d))) →
      F164_15 (callOf B) LL C1 (decide (n < 0)) f (big n.natAbs).length (ints (big n.natAbs)) k (big (flN n d)).length (ints (big (flN n d))) = some (intZ (flL k (big (flN n d))) (n / (d : Int))) := fun k B hB => by
    rw [F164_15_eq (C := C1) (hC := fun _ => rfl)]
    refine opt_step (x := sgnD (decide (n < 0)) (flL k (big (flN n d))) (big (flN n d))) hB ((rd_int _ _ _ _ _).trans ?_)
    unfold intZ
    rw [fl_sign (by omega), fl_abs (by omega)]
  have ok91 : ∀ k : Bool, OK2 191 [.bool (decide (n < 0)), bigD k (flN n d)] (sgnD (decide (n < 0)) (flL k (big (flN n d))) (big (flN n d))) := fun k => by
    have := ok191 (f := k) (decide (n < 0)) (big (flN n d)) (by have := big_lt9 hfl; omega)
    rw [trim_big] at this
    exact this
  have hda : (d : Int).natAbs = d := Int.natAbs_natCast d
  have pre : ∀ B : FuncId → List D → Option D, callOf B 192 [bigD f n.natAbs, bigD g d] = some (.tup [bigD (decide (n.natAbs < d)) (n.natAbs / d), bigD (if n.natAbs < d then f else flL true [((n.natAbs % d : Nat) : Int)]) (n.natAbs % d)]) → ∀ r,
      (ifK (decide (n < 0)) (ifK (decide ((((big (n.natAbs % d)).length : Nat) : Int) > 0)) (optK (callOf B 193 [bigD (decide (n.natAbs < d)) (n.natAbs / d), .slc true 1 [.int .i64 1]]) fun r_1 => slcK r_1 fun f_2 n_2 c_3 => F164_15 (callOf B) LL C1 (decide (n < 0)) f (big n.natAbs).length (ints (big n.natAbs)) f_2 n_2 c_3)
        (F164_15 (callOf B) LL C1 (decide (n < 0)) f (big n.natAbs).length (ints (big n.natAbs)) (decide (n.natAbs < d)) (big (n.natAbs / d)).length (ints (big (n.natAbs / d)))))
        (F164_15 (callOf B) LL C1 (decide (n < 0)) f (big n.natAbs).length (ints (big n.natAbs)) (decide (n.natAbs < d)) (big (n.natAbs / d)).length (ints (big (n.natAbs / d))))) = some r →
      evFnT (TEf (callOf B) LL C1) O0 N164 FinM.canon Tryz.f164 [intZ f n, intZ g (d : Int)] = some r := fun B hB r hr => by
    unfold intZ
    rw [hda]
    refine (F164_eq _ _ _ _ _ _ _ _ _ _ _).trans ?_
    refine opt_step (x := D.tup [bigD (decide (n.natAbs < d)) (n.natAbs / d), bigD (if n.natAbs < d then f else flL true [((n.natAbs % d : Nat) : Int)]) (n.natAbs % d)]) hB ?_
    exact hr
  by_cases hneg : n < 0
  · by_cases hr : n.natAbs % d = 0
    · -- no rest
      have hfe : flN n d = n.natAbs / d := by unfold flN; rw [if_pos hneg, if_pos hr]
      refine ⟨flL (decide (n.natAbs < d)) (big (flN n d)), ?_⟩
      obtain ⟨B, hB, e2, e1, _⟩ := exF [one 192 [bigD f n.natAbs, bigD g d] (.tup [bigD (decide (n.natAbs < d)) (n.natAbs / d), bigD (if n.natAbs < d then f else flL true [((n.natAbs % d : Nat) : Int)]) (n.natAbs % d)]), one 191 [.bool (decide (n < 0)), bigD (decide (n.natAbs < d)) (flN n d)] (sgnD (decide (n < 0)) (flL (decide (n.natAbs < d)) (big (flN n d))) (big (flN n d)))]
        ⟨one_good h2 rfl, one_good (ok91 _) rfl, trivial⟩ rfl
      refine fnT hB Tryz.func164 (ord := O0) (N := N164) (by kernel_rfl) (pre B (e2 ()) _ ?_)
      rw [hr, big_zero, show decide (((([] : List Int).length : Nat) : Int) > 0) = false from rfl, ifK_false, decide_eq_true hneg, ifK_true]
      have := fin _ B (e1 ())
      rw [decide_eq_true hneg] at this
      rw [← hfe]
      exact this
    · have hfe : flN n d = n.natAbs / d + 1 := by unfold flN; rw [if_pos hneg, if_neg hr]
      have hs : sliD (big (n.natAbs / d + 1)) = bigD (big (flN n d)).isEmpty (flN n d) := by rw [hfe]; rfl
      refine ⟨flL (big (flN n d)).isEmpty (big (flN n d)), ?_⟩
      obtain ⟨B, hB, e2, e3, e1, _⟩ := exF [one 192 [bigD f n.natAbs, bigD g d] (.tup [bigD (decide (n.natAbs < d)) (n.natAbs / d), bigD (if n.natAbs < d then f else flL true [((n.natAbs % d : Nat) : Int)]) (n.natAbs % d)]), one 193 [bigD (decide (n.natAbs < d)) (n.natAbs / d), .slc true 1 [.int .i64 1]] (bigD (big (flN n d)).isEmpty (flN n d)), one 191 [.bool (decide (n < 0)), bigD (big (flN n d)).isEmpty (flN n d)] (sgnD (decide (n < 0)) (flL (big (flN n d)).isEmpty (big (flN n d))) (big (flN n d)))]
        ⟨one_good h2 rfl, one_good (by
          have e1 : D.slc true 1 [.int .i64 1] = bigD true 1 := by unfold bigD; rw [big_one (by omega) (by omega)]; rfl
          rw [e1, ← hs]
          exact ok193 _ _ (by omega) (by have := big_lt9 (d := 1) (by omega); omega)) rfl, one_good (ok91 _) rfl, trivial⟩ rfl
      refine fnT hB Tryz.func164 (ord := O0) (N := N164) (by kernel_rfl) (pre B (e2 ()) _ ?_)
      rw [decide_eq_true (show (((big (n.natAbs % d)).length : Nat) : Int) > 0 by rw [big_pos hr, List.length_cons]; omega), ifK_true, decide_eq_true hneg, ifK_true]
      have := fin _ B (e1 ())
      rw [decide_eq_true hneg] at this
      refine opt_step (x := bigD (big (flN n d)).isEmpty (flN n d)) (e3 ()) ?_
      exact this
  · have hfe : flN n d = n.natAbs / d := by unfold flN; rw [if_neg hneg]
    refine ⟨flL (decide (n.natAbs < d)) (big (flN n d)), ?_⟩
    obtain ⟨B, hB, e2, e1, _⟩ := exF [one 192 [bigD f n.natAbs, bigD g d] (.tup [bigD (decide (n.natAbs < d)) (n.natAbs / d), bigD (if n.natAbs < d then f else flL true [((n.natAbs % d : Nat) : Int)]) (n.natAbs % d)]), one 191 [.bool (decide (n < 0)), bigD (decide (n.natAbs < d)) (flN n d)] (sgnD (decide (n < 0)) (flL (decide (n.natAbs < d)) (big (flN n d))) (big (flN n d)))]
      ⟨one_good h2 rfl, one_good (ok91 _) rfl, trivial⟩ rfl
    refine fnT hB Tryz.func164 (ord := O0) (N := N164) (by kernel_rfl) (pre B (e2 ()) _ ?_)
    have := fin _ B (e1 ())
    rw [decide_eq_false hneg] at this
    rw [decide_eq_false hneg, ifK_false, ← hfe]
    exact this
theorem ok139 {n : Int} {d : Nat} (hn : n.natAbs < 1000000000) (h1 : 1 ≤ d) (hd : d < 1000000000) : OK2 139 [.str (bs (ratL n d))] (.str (bs (ratL (n / (d : Int)) 1))) := by
  by_cases h : d = 1
  · subst h
    obtain ⟨B, hB, e0, _⟩ := exF [one 160 [.str (bs (ratL n 1))] (.bool (decide ((1 : Nat) = 1)))] ⟨one_good (ok160 hn h1 hd) rfl, trivial⟩ rfl
    refine fnT hB Tryz.func139 (ord := O0) (N := N0) (by kernel_rfl) ((F139_eq _ _ _ _).trans ?_)
    refine opt_step (x := D.bool true) (e0 ()) ?_
    rw [show n / ((1 : Nat) : Int) = n from Int.ediv_one n]
    rfl
  · obtain ⟨g, h4⟩ := ok164 (f := false) (g := false) hn (by omega : 1 < d) hd
    have hz : (n / (d : Int)).natAbs < 1000000000 := by rw [fl_abs (by omega)]; exact flN_le (by omega) hn
    obtain ⟨B, hB, e0, e2, e4, e3, _⟩ := exF [one 160 [.str (bs (ratL n d))] (.bool (decide (d = 1))), one 162 [.str (bs (ratL n d))] (.tup [intZ false n, intZ false (d : Int)]), one 164 [intZ false n, intZ false (d : Int)] (intZ g (n / (d : Int))), one 163 [intZ g (n / (d : Int))] (.str (bs (ratL (n / (d : Int)) 1)))]
      ⟨one_good (ok160 hn h1 hd) rfl, one_good (ok162 hn (by omega) hd) rfl, one_good h4 rfl, one_good (ok163 _ (by have := big_lt9 hz; omega)) rfl, trivial⟩ rfl
    refine fnT hB Tryz.func139 (ord := O0) (N := N0) (by kernel_rfl) ((F139_eq _ _ _ _).trans ?_)
    refine opt_step (x := D.bool (decide (d = 1))) (e0 ()) ?_
    rw [decide_eq_false h, boolK_bool, ifK_false]
    refine opt_step (x := D.tup [intZ false n, intZ false (d : Int)]) (e2 ()) ?_
    refine Eq.trans (b := optK (callOf B 164 [intZ false n, intZ false (d : Int)]) fun r_2 => aggK r_2 2 fun c_5 => cellK c_5 0 fun d_6 => boolK d_6 fun b_3 => cellK c_5 1 fun d_7 => slcK d_7 fun f_2 n_2 c_6 => optK (callOf B 163 [D.agg [D.bool b_3, D.slc f_2 n_2 c_6]]) fun r_3 => strK r_3 fun s => some (D.str s)) rfl ?_
    refine opt_step (x := intZ g (n / (d : Int))) (e4 ()) ((rd_int _ _ _ _ _).trans ?_)
    exact opt_step (x := D.str (bs (ratL (n / (d : Int)) 1))) (e3 ()) rfl
/-! ### Machine integers -/
theorem run138 {call : CL} {neg f : Bool} {cs : List D} {len : Nat} {out : Int} (fuel : Nat) : F138_250 call LL C1 (fuel + 1) out (-1) neg f len cs = some (.tup [.int .i64 out, .bool true]) := by
  rw [F138_250_eq, decide_eq_false (by omega), ifK_false]
theorem ok138 {z : Int} (hz : z.natAbs < 1000000000) : OK2 138 [.str (bs (ratL z 1))] (.tup [.int .i64 z, .bool true]) := by
  obtain ⟨B, hB, e0, e1, _⟩ := exF [one 160 [.str (bs (ratL z 1))] (.bool (decide ((1 : Nat) = 1))), fam161] ⟨one_good (ok160 hz (by omega) (by omega)) rfl, fam161_good, trivial⟩ rfl
  refine fnT hB Tryz.func138 (ord := O0) (N := N138) (by kernel_rfl) ((F138_eq _ _ _ _).trans ?_)
  refine opt_step (x := D.bool true) (e0 ()) ?_
  have hl := rat1_len hz
  rw [boolK_bool, Bool.not_true, ifK_false, bs_size, decide_eq_false (by omega), ifK_false, F138_7_eq (C := C1) (hC := fun _ => rfl)]
  refine opt_step (x := intZ false z) (e1 ⟨z, hz⟩) ((rd_int _ _ _ _ _).trans ?_)
  by_cases h0 : z = 0
  · subst h0
    rw [show (0 : Int).natAbs = 0 from rfl, big_zero]
    exact run138 (4611686018427387903)
  · rw [big_one hz (by omega), show LL = 4611686018427387903 + 1 from rfl]
    show F138_250 (callOf B) LL C1 (4611686018427387903 + 1) 0 (IntKind.wrap .i64 (((1 : Nat) : Int) - 1)) (decide (z < 0)) false 1 [.int .i64 ((z.natAbs : Nat) : Int)] = _
    rw [wrap_in (by omega), show ((1 : Nat) : Int) - 1 = 0 from rfl, F138_250_eq, decide_eq_true (show (0 : Int) ≥ 0 by omega), ifK_true]
    refine chk_step (decide_eq_true ⟨by omega, by omega⟩) ?_
    refine cell_step (d := .int .i64 ((z.natAbs : Nat) : Int)) rfl (int_step ?_)
    have key : ∀ x : Int, -1000000000 < x → x < 1000000000 → F138_16019 (callOf B) LL C1 4611686018427387903 0 0 (decide (z < 0)) false 1 [.int .i64 ((z.natAbs : Nat) : Int)] x = some (.tup [.int .i64 x, .bool true]) := fun x hx1 hx2 => by
      rw [F138_16019_eq (C := C1) (hC := fun _ => rfl), show decide ((0 : Int) > 9223372036) = false from rfl, ifK_false, show decide ((0 : Int) < -9223372036) = false from rfl, ifK_false, show ((0 : Int) == 9223372036) = false from rfl, ifK_false, show ((0 : Int) == -9223372036) = false from rfl, ifK_false,
        F138_32039_eq (C := C1) (hC := fun _ => rfl), F138_2003_eq (C := C1) (hC := fun _ => rfl), show (0 : Int) * 1000000000 = 0 from rfl, wrap_in (y := 0) (by omega), Int.zero_add, wrap_in (y := x) (by omega), wrap_in (y := 0 - 1) (by omega)]
      exact run138 _
    by_cases h : z < 0
    · rw [decide_eq_true h, ifK_true, wrap_in (by omega), show (0 : Int) - ((z.natAbs : Nat) : Int) = z by omega]
      rw [decide_eq_true h] at key
      exact key z (by omega) (by omega)
    · rw [decide_eq_false h, ifK_false, show ((z.natAbs : Nat) : Int) = z by omega]
      rw [decide_eq_false h] at key
      rw [show ((z.natAbs : Nat) : Int) = z by omega] at key
      exact key z (by omega) (by omega)
/-! ### Halves upwards -/
theorem half_txt : ByteArray.mk #[49, 47, 50] = ratB (1, 2) := by
  have d1 : dgs 1 = [49] := by rw [dgs_pos (by omega), show 1 / 10 = 0 from rfl, dgs_zero]; rfl
  have d2 : dgs 2 = [50] := by rw [dgs_pos (by omega), show 2 / 10 = 0 from rfl, dgs_zero]; rfl
  unfold ratB ratL
  rw [tail_big (by decide), show ((1 : Int), (2 : Nat)).1.natAbs = 1 from rfl, num1_pos (by omega), num1_pos (by decide), d1]
  show _ = bs (sgnL 1 ++ ([49] ++ 47 :: dgs 2))
  rw [d2]
  rfl
theorem ok98 {n : Int} {d : Nat} (hn : n.natAbs ≤ 100000) (h1 : 1 ≤ d) (hd : d ≤ 1000) : OK2 98 [.int .i64 n, .int .i64 (d : Int)] (.int .i64 ((2 * n + (d : Int)) / (2 * (d : Int)))) := by
  obtain ⟨g, a, b, hg, hb, ea, eb, ta, tb⟩ := gcd_cut (n := n) (d := d) (by omega)
  have hA : a.natAbs ≤ 100000 := by
    have : n.natAbs = g.natAbs * a.natAbs := by rw [ea, Int.natAbs_mul]
    have h2 : 1 * a.natAbs ≤ g.natAbs * a.natAbs := Nat.mul_le_mul_right _ (by omega)
    omega
  have hBb : b ≤ 1000 := by
    have : d = g.natAbs * b := by
      have := congrArg Int.natAbs eb
      rw [Int.natAbs_mul, Int.natAbs_natCast, Int.natAbs_natCast] at this
      exact this
    have h2 : 1 * b ≤ g.natAbs * b := Nat.mul_le_mul_right _ (by omega)
    omega
  have e1 : bs (ofL n d) = ratB (a, b) := by unfold ofL ratB; rw [ta, tb]
  have hS : Sm (a, b) := ⟨by show a.natAbs < _; omega, hb, by show b < _; omega⟩
  have hS2 : Sm ((1 : Int), (2 : Nat)) := ⟨by decide, by decide, by decide⟩
  have hadd : addN (a, b) (1, 2) = a * ((2 : Nat) : Int) + 1 * (b : Int) := rfl
  have hb2 : (addN (a, b) (1, 2)).natAbs ≤ 201000 := by rw [hadd]; omega
  obtain ⟨g', m, e, hg', he, em, ee, tm, te⟩ := gcd_cut (n := addN (a, b) (1, 2)) (d := b * 2) (by omega)
  have hM : m.natAbs ≤ 201000 := by
    have : (addN (a, b) (1, 2)).natAbs = g'.natAbs * m.natAbs := by rw [em, Int.natAbs_mul]
    have h2 : 1 * m.natAbs ≤ g'.natAbs * m.natAbs := Nat.mul_le_mul_right _ (by omega)
    omega
  have hE : e ≤ 2000 := by
    have : b * 2 = g'.natAbs * e := by
      have := congrArg Int.natAbs ee
      rw [Int.natAbs_mul, Int.natAbs_natCast, Int.natAbs_natCast] at this
      exact this
    have h2 : 1 * e ≤ g'.natAbs * e := Nat.mul_le_mul_right _ (by omega)
    omega
  have e2 : bs (ofL (addN (a, b) (1, 2)) (b * 2)) = bs (ratL m e) := by unfold ofL; rw [tm, te]
  have hv : m / (e : Int) = (2 * n + (d : Int)) / (2 * (d : Int)) := by
    have h3 := fl_of (n := addN (a, b) (1, 2)) (d := b * 2) (by omega)
    rw [tm, te] at h3
    have h4 := half_of (n := n) (d := d) (by omega)
    rw [ta, tb] at h4
    rw [h3, hadd, h4]
  have hz : (m / (e : Int)).natAbs < 1000000000 := by
    rw [fl_abs (by omega)]
    have : m.natAbs / e ≤ m.natAbs := Nat.div_le_self _ _
    unfold flN
    split
    · split <;> omega
    · omega
  obtain ⟨B, hB, c1, c2, c3, c4, _⟩ := exF [one 141 [.int .i64 n, .int .i64 (d : Int)] (.str (bs (ofL n d))), one 140 [.str (ratB (a, b)), .str (ratB (1, 2))] (.str (bs (ofL (addN (a, b) (1, 2)) (b * 2)))), one 139 [.str (bs (ratL m e))] (.str (bs (ratL (m / (e : Int)) 1))), one 138 [.str (bs (ratL (m / (e : Int)) 1))] (.tup [.int .i64 (m / (e : Int)), .bool true])]
    ⟨one_good (ok141 n d (by omega) (by omega) (by omega)) rfl, one_good (ok140 hS hS2 (by omega)) rfl, one_good (ok139 (by omega) he (by omega)) rfl, one_good (ok138 hz) rfl, trivial⟩ rfl
  refine fnT hB Tryz.func98 (ord := O0) (N := N0) (by kernel_rfl) ((F98_eq _ _ _ _ _).trans ?_)
  refine opt_step (x := D.str (bs (ofL n d))) (c1 ()) ?_
  rw [strK_str, half_txt, e1]
  refine opt_step (x := D.str (bs (ofL (addN (a, b) (1, 2)) (b * 2)))) (c2 ()) ?_
  rw [strK_str, e2]
  refine opt_step (x := D.str (bs (ratL (m / (e : Int)) 1))) (c3 ()) ?_
  rw [strK_str]
  refine opt_step (x := D.tup [.int .i64 (m / (e : Int)), .bool true]) (c4 ()) ?_
  rw [← hv]
  rfl
end Go.Pd
end
section
namespace Go.Pd
open Go Go.Proofs Go.RowKit
set_option maxRecDepth 100000
/-! ### The reference's insertion sort -/
theorem in99 {call : CL} {fuel : Nat} {i : Int} : ∀ (ra : List Int) (x : Int) (b c : List Int) (N k : Nat), N = (ra.reverse ++ x :: (b ++ c)).length → N ≤ 1000 → ra.length < k →
    F99_3730 call LL C1 fuel k i (.own N (ints (ra.reverse ++ x :: (b ++ c)))) (ra.length : Int) = F99_58 call LL C1 fuel (.own N (ints (insR ra x b ++ c))) (IntKind.wrap .i64 (i + 1)) := by
  intro ra
  induction ra with
  | nil =>
    intro x b c N k hN hl hk
    obtain ⟨k, rfl⟩ : ∃ n, k = n + 1 := ⟨k - 1, by omega⟩
    rw [F99_3730_eqo, decide_eq_false (by simp), ifK_false]
    rfl
  | cons y ra ih =>
    intro x b c N k hN hl hk
    obtain ⟨k, rfl⟩ : ∃ n, k = n + 1 := ⟨k - 1, by omega⟩
    have hlen : N = ra.length + (b.length + c.length) + 2 := by rw [hN]; simp; omega
    have e1 : (y :: ra).reverse ++ x :: (b ++ c) = ra.reverse ++ y :: x :: (b ++ c) := by simp
    have gx : (ra.reverse ++ y :: x :: (b ++ c))[ra.length + 1]? = some x := by
      rw [List.getElem?_append_right (by simp)]
      simp
    have gy : (ra.reverse ++ y :: x :: (b ++ c))[ra.length]? = some y := by
      rw [List.getElem?_append_right (by simp)]
      simp
    have w1 : IntKind.wrap .i64 (((ra.length + 1 : Nat) : Int) - 1) = ((ra.length : Nat) : Int) := (wrap_in (by omega)).trans (by omega)
    have d1 : decide ((0 : Int) ≤ ((ra.length + 1 : Nat) : Int) ∧ ((ra.length + 1 : Nat) : Int) < (N : Int)) = true := decide_eq_true ⟨by omega, by omega⟩
    have d2 : decide ((0 : Int) ≤ ((ra.length : Nat) : Int) ∧ ((ra.length : Nat) : Int) < (N : Int)) = true := decide_eq_true ⟨by omega, by omega⟩
    have hlc : (ints (ra.reverse ++ y :: x :: (b ++ c))).length = N := by rw [ints_len, ← e1, hN]
    rw [e1, F99_3730_eqo, show ((y :: ra).length : Int) = ((ra.length + 1 : Nat) : Int) from rfl, decide_eq_true (show ((ra.length + 1 : Nat) : Int) > 0 by omega), ifK_true, w1, d1, d2, chkK_true, cell_at gx, intK_int, chkK_true, cell_at gy, intK_int]
    by_cases h : x < y
    · rw [decide_eq_true h, ifK_true, chkK_true, cell_at gy, intK_int, chkK_true, cell_at gx, intK_int, chkK_true, hlc, decide_eq_true (show Int.toNat ((ra.length + 1 : Nat) : Int) * 1 + 1 ≤ N by rw [Int.toNat_natCast]; omega), chkK_true, chkK_true, Int.toNat_natCast, Int.toNat_natCast, ints_set, ints_set, show (ints ((ra.reverse ++ y :: x :: (b ++ c)).set (ra.length + 1) y)).length = N by rw [ints_len, List.length_set, ← ints_len, hlc],
        decide_eq_true (show ra.length * 1 + 1 ≤ N by omega), chkK_true]
      have e2 : ((ra.reverse ++ y :: x :: (b ++ c)).set (ra.length + 1) y).set ra.length x = ra.reverse ++ x :: ((y :: b) ++ c) := by
        rw [List.set_append_right _ _ (by simp), List.set_append_right _ _ (by simp), List.length_reverse, show ra.length + 1 - ra.length = 1 by omega, Nat.sub_self]
        rfl
      rw [e2, ih x (y :: b) c N k (by rw [hlen]; simp; omega) hl (by simp at hk; omega)]
      rw [show insR (y :: ra) x b = insR ra x (y :: b) by rw [insR, if_pos h]]
    · rw [decide_eq_false h, ifK_false, show insR (y :: ra) x b = (y :: ra).reverse ++ x :: b by rw [insR, if_neg h]]
      simp
theorem out99 {call : CL} : ∀ (r p : List Int) (N fuel : Nat), N = (p ++ r).length → N ≤ 1000 → r.length < fuel → F99_58 call LL C1 fuel (.own N (ints (p ++ r))) (p.length : Int) = some (.slc false N (ints (insAll p r))) := by
  intro r
  induction r with
  | nil =>
    intro p N fuel hN hl hf
    obtain ⟨fuel, rfl⟩ : ∃ n, fuel = n + 1 := ⟨fuel - 1, by omega⟩
    rw [F99_58_eqo, decide_eq_false (by rw [hN]; simp), ifK_false, List.append_nil]
    rfl
  | cons x r ih =>
    intro p N fuel hN hl hf
    obtain ⟨fuel, rfl⟩ : ∃ n, fuel = n + 1 := ⟨fuel - 1, by omega⟩
    have hlen : N = p.length + r.length + 1 := by rw [hN]; simp; omega
    rw [F99_58_eqo, decide_eq_true (by omega), ifK_true]
    have h1 := in99 (call := call) (fuel := fuel) (i := (p.length : Int)) p.reverse x [] r N LL (by rw [List.reverse_reverse]; exact hN) hl (by rw [List.length_reverse]; unfold LL; omega)
    rw [List.reverse_reverse, List.nil_append, List.length_reverse] at h1
    have hp : (insR p.reverse x []).length = p.length + 1 := by rw [insR_len, List.length_reverse]; rfl
    rw [h1, wrap_in (by omega), show (p.length : Int) + 1 = ((insR p.reverse x []).length : Int) by rw [hp]; rfl]
    exact ih _ N fuel (by rw [List.length_append, hp, hlen]; omega) hl (by simp at hf; omega)
theorem ints_one : ∀ l : List Int, (ints l).all D.one = true
  | [] => rfl
  | _ :: l => ints_one l
theorem ok99 {f : Bool} (l : List Int) (h0 : 0 < l.length) (hl : l.length ≤ 1000) : OK5 99 [.slc f l.length (ints l)] (.slc false l.length (ints (sortI l))) := by
  refine fnT none_ok Tryz.func99 (ord := O0) (N := N99) (by kernel_rfl) ((F99_eq _ _ _ _ _ _).trans ?_)
  refine chk_step (decide_eq_true (by rw [ints_len]; omega)) (chk_step (ints_one l) ?_)
  rw [decide_eq_false (by omega), ifK_false]
  refine chk_step (decide_eq_true ⟨h0, rfl, by rw [show limit = 140737488355328 from rfl]; omega, by omega⟩) ?_
  match l, h0, hl with
  | x :: r, _, hl =>
    have := out99 (call := callOf fun _ _ => none) r [x] (0 + (x :: r).length) LL (by simp) (by omega) (by unfold LL; simp at hl; omega)
    rw [show (x :: r : List Int) = [x] ++ r from rfl]
    refine Eq.trans this ?_
    rw [← insAll_sort, Nat.zero_add]
    rfl
theorem ok95 {f : Bool} (l : List Int) (h0 : 0 < l.length) (hl : l.length < 100) : OK5 95 [.fn (.func 137) [] [.snap [.slc f l.length (ints l)] 0]] (.slc false l.length (ints (sortI l))) := by
  refine sorted_ok _ _ ?_
  have hi : ∀ z : List Int, intsOf (ints z) = some z := by
    intro z
    induction z with
    | nil => rfl
    | cons x z ih => show (match intsOf (ints z) with | some r => some (x :: r) | none => none) = _; rw [ih]
  show (match intsOf (ints l) with
    | some zs => match decide (zs.length = l.length ∧ l.length < 100) with
      | true => match zs with
        | [] => some (D.slc true 0 [])
        | z :: zs => some (D.slc false l.length ((sortI (z :: zs)).map (D.int .i64)))
      | false => none
    | none => none) = _
  rw [hi]
  dsimp only
  rw [decide_eq_true ⟨rfl, hl⟩]
  match l, h0 with
  | x :: r, _ => rfl
/-! ### Weighted sums -/
def wS : List Int → List Int → Int → Int
  | x :: l, w :: ws, acc => wS l ws (acc + x * w)
  | _, _, acc => acc
def Sml (l : List Int) : Prop := ∀ x ∈ l, -99 ≤ x ∧ x ≤ 99
theorem mul_sml {x w : Int} (hx : -99 ≤ x ∧ x ≤ 99) (hw : 0 ≤ w ∧ w ≤ 50) : -4950 ≤ x * w ∧ x * w ≤ 4950 := by
  have h1 : x * w ≤ 99 * w := Int.mul_le_mul_of_nonneg_right hx.2 hw.1
  have h2 : -99 * w ≤ x * w := Int.mul_le_mul_of_nonneg_right hx.1 hw.1
  omega
theorem wS_b : ∀ (l ws : List Int) (acc B : Int), Sml l → (∀ w ∈ ws, 0 ≤ w ∧ w ≤ 50) → -B ≤ acc ∧ acc ≤ B → -(B + 4950 * (l.length : Int)) ≤ wS l ws acc ∧ wS l ws acc ≤ B + 4950 * (l.length : Int)
  | [], ws, acc, B, _, _, h => by
    rw [show wS [] ws acc = acc by cases ws <;> rfl]
    simp only [List.length_nil]
    omega
  | x :: l, [], acc, B, _, _, h => by
    show -(B + 4950 * ((x :: l).length : Int)) ≤ acc ∧ acc ≤ B + 4950 * ((x :: l).length : Int)
    omega
  | x :: l, w :: ws, acc, B, h1, h2, h => by
    have hm := mul_sml (h1 x (List.mem_cons_self ..)) (h2 w (List.mem_cons_self ..))
    have := wS_b l ws (acc + x * w) (B + 4950) (fun y hy => h1 y (List.mem_cons_of_mem _ hy)) (fun y hy => h2 y (List.mem_cons_of_mem _ hy)) (by omega)
    show -(B + 4950 * ((x :: l).length : Int)) ≤ wS l ws (acc + x * w) ∧ wS l ws (acc + x * w) ≤ B + 4950 * ((x :: l).length : Int)
    rw [List.length_cons]
    omega
theorem go155 {call : CL} {f g : Bool} : ∀ (r wr pre wpre : List Int) (fuel : Nat) (acc : Int), pre.length = wpre.length → r.length ≤ wr.length → (pre ++ r).length ≤ 100 → Sml r → (∀ w ∈ wr, 0 ≤ w ∧ w ≤ 50) → -(5000 * (pre.length : Int)) ≤ acc ∧ acc ≤ 5000 * (pre.length : Int) → r.length < fuel →
    F155_58 call LL C1 fuel g (wpre ++ wr).length (ints (wpre ++ wr)) f (pre ++ r).length (ints (pre ++ r)) acc ((pre ++ r).length : Int) (pre.length : Int) = some (.int .i64 (wS r wr acc)) := by
  intro r
  induction r with
  | nil =>
    intro wr pre wpre fuel acc _ _ _ _ _ _ hf
    obtain ⟨fuel, rfl⟩ : ∃ n, fuel = n + 1 := ⟨fuel - 1, by omega⟩
    rw [F155_58_eq, end_pre, ifK_false]
    cases wr <;> rfl
  | cons x r ih =>
    intro wr pre wpre fuel acc hp hw hl hs hws hacc hf
    obtain ⟨fuel, rfl⟩ : ∃ n, fuel = n + 1 := ⟨fuel - 1, by omega⟩
    obtain ⟨w, wr, rfl⟩ : ∃ w t, wr = w :: t := by cases wr with | nil => simp at hw | cons w t => exact ⟨w, t, rfl⟩
    have hm := mul_sml (hs x (List.mem_cons_self ..)) (hws w (List.mem_cons_self ..))
    have hpl : pre.length ≤ 100 := by simp at hl; omega
    have ih := ih wr (pre ++ [x]) (wpre ++ [w]) fuel (acc + x * w) (by simp [hp]) (by simp at hw; omega) (by rw [app1]; exact hl) (fun y hy => hs y (List.mem_cons_of_mem _ hy)) (fun y hy => hws y (List.mem_cons_of_mem _ hy)) (by simp; omega) (by simp at hf; omega)
    rw [app1, app1] at ih
    rw [F155_58_eq, lt_pre, ifK_true, in_pre, chkK_true, cell_ints, intK_int]
    refine chk_step (decide_eq_true ⟨by omega, by simp; omega⟩) ?_
    have hc : ∀ c : D → Option D, cellK (ints (wpre ++ w :: wr)) (Int.toNat (pre.length : Int) * 1) c = c (.int .i64 w) := fun c => by rw [hp]; exact cell_ints wpre w wr c
    rw [hc, intK_int, step_pre pre x r (by omega), wrap_in (y := x * w) (by omega), wrap_in (by omega), ih]
    rfl
theorem ok155 {f g : Bool} (l ws : List Int) (h : l.length ≤ ws.length) (hl : l.length ≤ 100) (hs : Sml l) (hw : ∀ w ∈ ws, 0 ≤ w ∧ w ≤ 50) : OK5 155 [.slc f l.length (ints l), .slc g ws.length (ints ws)] (.int .i64 (wS l ws 0)) := by
  refine fnT none_ok Tryz.func155 (ord := O0) (N := N155) (by kernel_rfl) ((F155_eq _ _ _ _ _ _ _ _ _).trans ?_)
  exact go155 l ws [] [] LL 0 rfl h (by simpa using hl) hs hw (by simp) (by unfold LL; omega)
end Go.Pd
end
section
namespace Go.Pd
open Go Go.Proofs Go.RowKit
set_option maxRecDepth 100000
/-! ### The table of kinds -/
theorem ok132 : OK5 132 [] kindsD :=
  fnT none_ok Tryz.func132 (ord := O0) (N := N0) (by kernel_rfl) ((F132_eq _ _ _).trans rfl)
def callH (base : FuncId → List D → Option D) : FuncId → List D → Option D := fun k ds => match cstH k ds with
  | some r => some r
  | none => base k ds
theorem callH_ok {base : FuncId → List D → Option D} (hb : CallsT base) : CallsT (callH base) := by
  intro k ds r h
  unfold callH at h
  split at h
  · rename_i d hd
    cases h
    unfold cstH at hd
    split at hd
    · cases hd; exact ok132
    · exact cst_ok _ _ _ hd
  · exact hb _ _ _ h
theorem callH_cst {base : FuncId → List D → Option D} : ∀ k ds r, cstH k ds = some r → callH base k ds = some r := fun k ds r h => by
  unfold callH
  rw [h]
theorem fnH {base : FuncId → List D → Option D} (hb : CallsT base) {f : FuncId} {fn : Func} (hf : Tryz.prog.funcs[f]? = some fn) {ord : Ord} {N : NTab} (hok : okFn Tryz.prog ord fn = true) {ds : List D} {r : D}
    (he : evFnT (TEv (callH base) LL C1) ord N .canon fn ds = some r) : OK5 f ds r :=
  evFnT_ok (Te := TEv (callH base) LL C1) mixedT ⟨callH_ok hb, m1_ok, m1_ow⟩ callH_cst rfl sqT_ok hf (by simp) hok he
/-! ### Floors by 100 -/
theorem ok128h {h : Int} (hb : -100000 ≤ h ∧ h ≤ 100000) : OK5 128 [.int .i64 h, .int .i64 100] (.int .i64 (h / 100)) := by
  refine fnT none_ok Tryz.func128 (ord := O0) (N := N0) (by kernel_rfl) ((F128_eq _ _ _ _ _).trans ?_)
  rw [show (!decide ((100 : Int) = 0)) = true from rfl, chkK_true, chkK_true]
  have hd := Int.mul_tdiv_add_tmod h 100
  have hml : h.tmod 100 < 100 := Int.tmod_lt_of_pos h (by omega)
  have hmg : -100 < h.tmod 100 := by
    have := Int.tmod_lt_of_pos (-h) (b := 100) (by omega)
    rw [Int.neg_tmod] at this
    omega
  have hs : (0 ≤ h → 0 ≤ h.tmod 100) ∧ (h ≤ 0 → h.tmod 100 ≤ 0) := ⟨fun hh => Int.tmod_nonneg _ hh, fun hh => by
    have := Int.tmod_nonneg 100 (show 0 ≤ -h by omega)
    rw [Int.neg_tmod] at this
    omega⟩
  generalize h.tmod 100 = m at *
  generalize h.tdiv 100 = q at *
  cases hc : decide (m < 0) with
  | true =>
    simp only [decide_eq_true_eq] at hc
    rw [ifK_true, wrap_in (y := q) (by omega), wrap_in (by omega), show h / 100 = q - 1 by omega]
  | false =>
    simp only [decide_eq_false_iff_not] at hc
    rw [ifK_false, wrap_in (by omega), show h / 100 = q by omega]
/-! ### Handicaps out of range -/
theorem ok133 (x : Int) : OK5 133 [.int .i64 x] (.bool (outB x)) := by
  obtain ⟨B, hB, e, _⟩ := exF [one 84 [.int .i64 x, .int .i64 99] (.bool (outB x))] ⟨one_good (ok84 x) rfl, trivial⟩ rfl
  refine fnT hB Tryz.func133 (ord := O0) (N := N0) (by kernel_rfl) ((F133_eq _ _ _ x).trans ?_)
  exact opt_step (x := D.bool (outB x)) (e ()) rfl
def fam133 : Fam := ⟨133, Int, fun x => [.int .i64 x], fun x => .bool (outB x)⟩
theorem fam133_good : fam133.Good := ⟨fun x => ok133 x, fun (x y : Int) e => by
  have e : [D.int .i64 x] = [D.int .i64 y] := e
  simp only [List.cons.injEq, D.int.injEq, and_true, true_and] at e
  show D.bool (outB x) = .bool (outB y)
  rw [e], fun _ => rfl⟩
def fam86 : Fam := ⟨86, Int, fun x => [.int .i64 x], fun x => .bool (outB x)⟩
theorem fam86_good : fam86.Good := ⟨fun x => ok86 x, fun (x y : Int) e => by
  have e : [D.int .i64 x] = [D.int .i64 y] := e
  simp only [List.cons.injEq, D.int.injEq, and_true, true_and] at e
  show D.bool (outB x) = .bool (outB y)
  rw [e], fun _ => rfl⟩
def fhGo : List Int → Int → Int
  | [], _ => -1
  | x :: r, i => ifK (outB x) i (fhGo r (i + 1))
theorem fh_any : ∀ (l : List Int) (i : Int), 0 ≤ i → decide (fhGo l i ≥ 0) = l.any outB
  | [], i, _ => rfl
  | x :: r, i, hi => by
    unfold fhGo
    rw [List.any_cons]
    cases outB x with
    | true => rw [ifK_true, decide_eq_true (by omega), Bool.true_or]
    | false => rw [ifK_false, fh_any r (i + 1) (by omega), Bool.false_or]
theorem go150h {B : FuncId → List D → Option D} (h : ∀ x : Int, callOf B 133 [.int .i64 x] = some (.bool (outB x))) {f : Bool} : ∀ (r pre : List Int) (fuel : Nat), (pre ++ r).length ≤ 4611686018427387904 → r.length < fuel → F150h_26 (callOf B) LL C1 fuel f (pre ++ r).length (ints (pre ++ r)) (pre ++ r).length (pre.length : Int) = some (.int .i64 (fhGo r pre.length))
  | [], pre, fuel + 1, _, _ => by rw [F150h_26_eq, end_pre, ifK_false]; rfl
  | x :: r, pre, fuel + 1, hB, hf => by
    have ih := go150h h (f := f) r (pre ++ [x]) fuel (by rw [app1]; exact hB) (by simp at hf; omega)
    rw [app1] at ih
    rw [F150h_26_eq, lt_pre, ifK_true, in_pre, chkK_true, cell_ints, intK_int, h, optK_some, boolK_bool, step_pre _ _ _ hB, ih]
    rw [show ((pre ++ [x]).length : Int) = (pre.length : Int) + 1 by simp, show fhGo (x :: r) pre.length = ifK (outB x) (pre.length : Int) (fhGo r ((pre.length : Int) + 1)) from rfl]
    cases outB x <;> rfl
theorem ok122h {f : Bool} (l : List Int) (hl : l.length < 4611686018427387904) : OK5 122 [.slc f l.length (ints l), .fn (.func 133) [] []] (.bool (l.any outB)) := by
  have h150 : OK5 150 [.slc f l.length (ints l), .fn (.func 133) [] []] (.int .i64 (fhGo l 0)) := by
    obtain ⟨B, hB, e, _⟩ := exF [fam133] ⟨fam133_good, trivial⟩ rfl
    refine fnT hB Tryz.func150 (ord := O0) (N := N150) (by kernel_rfl) ((F150h_eq _ _ _ _ _ _).trans ?_)
    exact go150h (fun x => e x) (f := f) l [] LL (by simp; omega) (by unfold LL; omega)
  obtain ⟨B, hB, e, _⟩ := exF [one 150 [.slc f l.length (ints l), .fn (.func 133) [] []] (.int .i64 (fhGo l 0))] ⟨one_good h150 rfl, trivial⟩ rfl
  refine fnT hB Tryz.func122 (ord := O0) (N := N0) (by kernel_rfl) ((F122h_eq _ _ _ _ _ _).trans ?_)
  refine opt_step (x := D.int .i64 (fhGo l 0)) (e ()) (int_step ?_)
  rw [fh_any l 0 (by omega)]
def hErr (l : List Int) (least most : Int) : Int := ifK (decide ((l.length : Int) < least) || decide ((l.length : Int) > most)) 2 (ifK (l.any outB) 3 0)
theorem go32 {B : FuncId → List D → Option D} (h : ∀ x : Int, callOf B 86 [.int .i64 x] = some (.bool (outB x))) {f : Bool} : ∀ (r pre : List Int) (fuel : Nat), (pre ++ r).length ≤ 4611686018427387904 → r.length < fuel → F32_58 (callOf B) LL C1 fuel f (pre ++ r).length (ints (pre ++ r)) (pre.length : Int) = some (.int .i64 (ifK (r.any outB) 3 0))
  | [], pre, fuel + 1, _, _ => by rw [F32_58_eq, end_pre, ifK_false]; rfl
  | x :: r, pre, fuel + 1, hB, hf => by
    have ih := go32 h (f := f) r (pre ++ [x]) fuel (by rw [app1]; exact hB) (by simp at hf; omega)
    rw [app1] at ih
    rw [F32_58_eq, lt_pre, ifK_true, in_pre, chkK_true, cell_ints, intK_int, h, optK_some, boolK_bool, step_pre _ _ _ hB, ih, List.any_cons]
    cases outB x <;> rfl
theorem ok32 {f : Bool} (l : List Int) (least most : Int) (hl : l.length < 4611686018427387904) : OK5 32 [.slc f l.length (ints l), .int .i64 least, .int .i64 most] (.int .i64 (hErr l least most)) := by
  obtain ⟨B, hB, e, _⟩ := exF [fam86] ⟨fam86_good, trivial⟩ rfl
  refine fnT hB Tryz.func32 (ord := O0) (N := N32) (by kernel_rfl) ((F32_eq _ _ _ _ _ _ _ _).trans ?_)
  have := go32 (B := B) (fun x => e x) (f := f) l [] LL (by simp; omega) (by unfold LL; omega)
  unfold hErr
  cases decide ((l.length : Int) < least) with
  | true => rfl
  | false =>
    rw [ifK_false, Bool.false_or]
    cases decide ((l.length : Int) > most) with
    | true => rfl
    | false => rw [ifK_false, ifK_false]; exact this
theorem hErr_zero {l : List Int} {least most : Int} (h : hErr l least most = 0) : least ≤ (l.length : Int) ∧ (l.length : Int) ≤ most ∧ Sml l := by
  unfold hErr at h
  cases h1 : decide ((l.length : Int) < least) with
  | true => rw [h1, Bool.true_or, ifK_true] at h; cases h
  | false =>
    cases h2 : decide ((l.length : Int) > most) with
    | true => rw [h1, h2, Bool.false_or, ifK_true] at h; cases h
    | false =>
      rw [h1, h2, Bool.false_or, ifK_false] at h
      cases h3 : l.any outB with
      | true => rw [h3, ifK_true] at h; cases h
      | false =>
        simp only [decide_eq_false_iff_not] at h1 h2
        refine ⟨by omega, by omega, fun x hx => ?_⟩
        rw [List.any_eq_false] at h3
        have := h3 x hx
        unfold outB at this
        simp only [Bool.or_eq_true, decide_eq_true_eq] at this
        omega
theorem sml_sort {l : List Int} (h : Sml l) : Sml (sortI l) := fun x hx => h x ((sortI_perm l).mem_iff.1 hx)
/-! ### The sides -/
def wts (n : Nat) : List Int := if n = 2 then [35, 15] else if n = 3 then [30, 20, 10] else [25, 20, 15, 10]
theorem wts_b (n : Nat) : ∀ w ∈ wts n, 0 ≤ w ∧ w ≤ 50 := by
  unfold wts
  split
  · decide
  · split <;> decide
theorem wts_len {n : Nat} (h1 : 2 ≤ n) (h2 : n ≤ 4) : (wts n).length = n := by
  unfold wts
  split
  · rename_i h; rw [h]; rfl
  · split
    · rename_i h; rw [h]; rfl
    · rw [show n = 4 by omega]; rfl
theorem wts_cell {n : Nat} (h1 : 2 ≤ n) (h2 : n ≤ 4) {k : D → Option D} : cellK [D.slc true 2 [.int .i64 35, .int .i64 15], D.slc true 3 [.int .i64 30, .int .i64 20, .int .i64 10], D.slc true 4 [.int .i64 25, .int .i64 20, .int .i64 15, .int .i64 10]] (Int.toNat (IntKind.wrap .i64 ((n : Int) - 2)) * 1) k = k (.slc true (wts n).length (ints (wts n))) := by
  rw [wrap_in (by omega)]
  rcases (by omega : n = 2 ∨ n = 3 ∨ n = 4) with rfl | rfl | rfl <;> rfl
theorem ok154 {f : Bool} (l : List Int) (hl : l.length = 2) (hs : Sml l) : OK5 154 [.slc f l.length (ints l)] (.int .i64 (wS l [50, 50] 0)) := by
  obtain ⟨B, hB, e, _⟩ := exF [one 155 [.slc f l.length (ints l), .slc true [50, 50].length (ints [50, 50])] (.int .i64 (wS l [50, 50] 0))] ⟨one_good (ok155 l [50, 50] (by rw [hl]; decide) (by omega) hs (by decide)) rfl, trivial⟩ rfl
  refine fnT hB Tryz.func154 (ord := O0) (N := N0) (by kernel_rfl) ((F154_eq _ _ _ _ _ _).trans ?_)
  exact opt_step (x := D.int .i64 (wS l [50, 50] 0)) (e ()) rfl
theorem ok156 {f : Bool} (l : List Int) (h1 : 2 ≤ l.length) (h2 : l.length ≤ 4) (hs : Sml l) : OK5 156 [.slc f l.length (ints l)] (.int .i64 (wS l (wts l.length) 0)) := by
  obtain ⟨B, hB, e, _⟩ := exF [one 155 [.slc f l.length (ints l), .slc true (wts l.length).length (ints (wts l.length))] (.int .i64 (wS l (wts l.length) 0))] ⟨one_good (ok155 l _ (by rw [wts_len h1 h2]; omega) (by omega) hs (wts_b _)) rfl, trivial⟩ rfl
  refine fnT hB Tryz.func156 (ord := O0) (N := N0) (by kernel_rfl) ((F156_eq _ _ _ _ _ _).trans ?_)
  refine chk_step (by rw [wrap_in (by omega)]; exact decide_eq_true ⟨by omega, by omega⟩) ?_
  rw [wts_cell h1 h2, slcK_slc]
  exact opt_step (x := D.int .i64 (wS l (wts l.length) 0)) (e ()) rfl
def sideR (e v : Int) : D := .tup [.int .i64 (ifK (e != 0) 0 v), .int .i64 e]
theorem sideR_err {e v : Int} (h : (e != 0) = true) : sideR e v = .tup [.int .i64 0, .int .i64 e] := by unfold sideR; rw [h, ifK_true]
theorem sideR_ok (v : Int) : sideR 0 v = .tup [.int .i64 v, .int .i64 0] := rfl
def fV (l : List Int) : Int := (wS (sortI l) [50, 50] 0 + 50) / 100
def sV (l : List Int) : Int := (wS (sortI l) (wts l.length) 0 + 50) / 100
end Go.Pd
end
section
namespace Go.Pd
open Go Go.Proofs Go.RowKit
set_option maxRecDepth 100000
def famH83 : Fam := ⟨83, Bool × Int, fun x => [.bool x.1, .int .i64 x.2], fun x => .int .i64 (ifK x.1 x.2 0)⟩
theorem famH83_good : famH83.Good := ⟨fun x => ok83 x.1 x.2, fun (x y : Bool × Int) e => by
  have e : [D.bool x.1, D.int .i64 x.2] = [D.bool y.1, D.int .i64 y.2] := e
  simp only [List.cons.injEq, D.int.injEq, D.bool.injEq, and_true, true_and] at e
  show D.int .i64 (ifK x.1 x.2 0) = .int .i64 (ifK y.1 y.2 0)
  rw [e.1, e.2], fun _ => rfl⟩
def famH24 : Fam := ⟨24, Bool × Int, fun x => [.bool x.1, .int .i64 x.2], fun x => .int .i64 (ifK x.1 x.2 0)⟩
theorem famH24_good : famH24.Good := ⟨fun x => ok24 x.1 x.2, fun (x y : Bool × Int) e => by
  have e : [D.bool x.1, D.int .i64 x.2] = [D.bool y.1, D.int .i64 y.2] := e
  simp only [List.cons.injEq, D.int.injEq, D.bool.injEq, and_true, true_and] at e
  show D.int .i64 (ifK x.1 x.2 0) = .int .i64 (ifK y.1 y.2 0)
  rw [e.1, e.2], fun _ => rfl⟩
def famH81 : Fam := ⟨81, Int × Int, fun x => [.slc true 2 [.int .i64 x.1, .int .i64 x.2]], fun x => .int .i64 (fst2 x.1 x.2)⟩
theorem famH81_good : famH81.Good := ⟨fun x => ok81 x.1 x.2, fun (x y : Int × Int) e => by
  have e : [D.slc true 2 [.int .i64 x.1, .int .i64 x.2]] = [D.slc true 2 [.int .i64 y.1, .int .i64 y.2]] := e
  simp only [List.cons.injEq, D.slc.injEq, D.int.injEq, and_true, true_and] at e
  show D.int .i64 (fst2 x.1 x.2) = .int .i64 (fst2 y.1 y.2)
  rw [e.1, e.2], fun _ => rfl⟩
theorem ok22p (x y : Int) : OK5 22 [.slc true 2 [.int .i64 x, .int .i64 y]] (.int .i64 (fst2 x y)) := by
  refine fnT none_ok Tryz.func22 (ord := O0) (N := N22) (by kernel_rfl) ((F22_eq _ _ _ _ _ _).trans ?_)
  rw [show LL = (4611686018427387901 + 1) + 1 + 1 from rfl, F22_26_eq, F22_26_eq, F22_26_eq]
  have h1 : IntKind.wrap .i64 ((0 : Int) + 1) = 1 := wrap_id (by omega)
  have h2 : IntKind.wrap .i64 ((1 : Int) + 1) = 2 := wrap_id (by omega)
  simp only [h1, h2]
  unfold fst2
  cases hx : (x != 0) with
  | true => simp [cellK, hx]
  | false =>
    cases hy : (y != 0) with
    | true => simp [cellK, hx, hy]
    | false =>
      have : y = 0 := by simpa using hy
      simp [cellK, hx, this]
def famH22 : Fam := ⟨22, Int × Int, fun x => [.slc true 2 [.int .i64 x.1, .int .i64 x.2]], fun x => .int .i64 (fst2 x.1 x.2)⟩
theorem famH22_good : famH22.Good := ⟨fun x => ok22p x.1 x.2, fun (x y : Int × Int) e => by
  have e : [D.slc true 2 [.int .i64 x.1, .int .i64 x.2]] = [D.slc true 2 [.int .i64 y.1, .int .i64 y.2]] := e
  simp only [List.cons.injEq, D.slc.injEq, D.int.injEq, and_true, true_and] at e
  show D.int .i64 (fst2 x.1 x.2) = .int .i64 (fst2 y.1 y.2)
  rw [e.1, e.2], fun _ => rfl⟩
/-! ### The program's sides -/
theorem fst2_when (p q : Bool) (r : Bool) : fst2 (ifK (p || q) 2 0) (ifK r 3 0) = ifK (p || q) 2 (ifK r 3 0) := by cases p <;> cases q <;> cases r <;> rfl
section
variable {B : FuncId → List D → Option D} {f : Bool} {l : List Int} (h2 : callOf B 122 [.slc f l.length (ints l), .fn (.func 133) [] []] = some (.bool (l.any outB)))
  (h3 : ∀ (b : Bool) (e : Int), callOf B 83 [.bool b, .int .i64 e] = some (.int .i64 (ifK b e 0))) (h1 : ∀ x y : Int, callOf B 81 [.slc true 2 [.int .i64 x, .int .i64 y]] = some (.int .i64 (fst2 x y)))
include h2 h3 h1
theorem go92a : F92a_7 (callH B) LL C1 f l.length (ints l) = ifK (hErr l 2 2 != 0) (some (.tup [.int .i64 0, .int .i64 (hErr l 2 2)])) (F92a_31 (callH B) LL C1 f l.length (ints l)) := by
  rw [F92a_7_eq (C := C1) (hC := fun _ => rfl)]
  refine opt_step (x := D.bool (l.any outB)) h2 ?_
  rw [boolK_bool]
  unfold hErr
  cases hc : decide ((l.length : Int) < 2) with
  | true =>
    rw [ifK_true]
    refine opt_step (x := D.int .i64 (ifK true 2 0)) (h3 _ _) (int_step (opt_step (x := D.int .i64 (ifK (l.any outB) 3 0)) (h3 _ _) (int_step (opt_step (x := D.int .i64 (fst2 (ifK true 2 0) (ifK (l.any outB) 3 0))) (h1 _ _) (int_step ?_)))))
    rw [show fst2 (ifK true 2 0) (ifK (l.any outB) 3 0) = ifK (true || decide ((l.length : Int) > 2)) 2 (ifK (l.any outB) 3 0) from rfl]
  | false =>
    rw [ifK_false]
    refine opt_step (x := D.int .i64 (ifK (decide ((l.length : Int) > 2)) 2 0)) (h3 _ _) (int_step (opt_step (x := D.int .i64 (ifK (l.any outB) 3 0)) (h3 _ _) (int_step (opt_step (x := D.int .i64 (fst2 (ifK (decide ((l.length : Int) > 2)) 2 0) (ifK (l.any outB) 3 0))) (h1 _ _) (int_step ?_)))))
    rw [show fst2 (ifK (decide ((l.length : Int) > 2)) 2 0) (ifK (l.any outB) 3 0) = ifK (false || decide ((l.length : Int) > 2)) 2 (ifK (l.any outB) 3 0) from fst2_when false _ _]
theorem go92b : F92b_7 (callH B) LL C1 f l.length (ints l) = ifK (hErr l 2 4 != 0) (some (.tup [.int .i64 0, .int .i64 (hErr l 2 4)])) (F92b_31 (callH B) LL C1 f l.length (ints l)) := by
  rw [F92b_7_eq (C := C1) (hC := fun _ => rfl)]
  refine opt_step (x := D.bool (l.any outB)) h2 ?_
  rw [boolK_bool]
  unfold hErr
  cases hc : decide ((l.length : Int) < 2) with
  | true =>
    rw [ifK_true]
    refine opt_step (x := D.int .i64 (ifK true 2 0)) (h3 _ _) (int_step (opt_step (x := D.int .i64 (ifK (l.any outB) 3 0)) (h3 _ _) (int_step (opt_step (x := D.int .i64 (fst2 (ifK true 2 0) (ifK (l.any outB) 3 0))) (h1 _ _) (int_step ?_)))))
    rw [show fst2 (ifK true 2 0) (ifK (l.any outB) 3 0) = ifK (true || decide ((l.length : Int) > 4)) 2 (ifK (l.any outB) 3 0) from rfl]
  | false =>
    rw [ifK_false]
    refine opt_step (x := D.int .i64 (ifK (decide ((l.length : Int) > 4)) 2 0)) (h3 _ _) (int_step (opt_step (x := D.int .i64 (ifK (l.any outB) 3 0)) (h3 _ _) (int_step (opt_step (x := D.int .i64 (fst2 (ifK (decide ((l.length : Int) > 4)) 2 0) (ifK (l.any outB) 3 0))) (h1 _ _) (int_step ?_)))))
    rw [show fst2 (ifK (decide ((l.length : Int) > 4)) 2 0) (ifK (l.any outB) 3 0) = ifK (false || decide ((l.length : Int) > 4)) 2 (ifK (l.any outB) 3 0) from fst2_when false _ _]
end
def fourS : D := .str (ByteArray.mk #[102, 111, 117, 114, 115, 111, 109, 101])
def scraS : D := .str (ByteArray.mk #[115, 99, 114, 97, 109, 98, 108, 101])
theorem ws_wrap {l ws : List Int} (hs : Sml l) (hw : ∀ w ∈ ws, 0 ≤ w ∧ w ≤ 50) (hl : l.length ≤ 4) : -19800 ≤ wS l ws 0 ∧ wS l ws 0 ≤ 19800 := by
  have := wS_b l ws 0 0 hs hw (by omega)
  omega
theorem okf92 : okFn Tryz.prog O0 Tryz.f92 = true := by kernel_rfl
theorem ok92a {f : Bool} (l : List Int) (hl : l.length < 4611686018427387904) : OK5 92 [fourS, .slc f l.length (ints l)] (sideR (hErr l 2 2) (fV l)) := by
  cases he : hErr l 2 2 != 0 with
  | true =>
    obtain ⟨B, hB, e2, e3, e1, _⟩ := exF [one 122 [.slc f l.length (ints l), .fn (.func 133) [] []] (.bool (l.any outB)), famH83, famH81] ⟨one_good (ok122h l hl) rfl, famH83_good, famH81_good, trivial⟩ rfl
    refine fnH hB Tryz.func92 (ord := O0) (N := N92) okf92 ((F92a_eq _ _ _ _ _ _).trans ?_)
    rw [go92a (e2 ()) (fun b e => e3 (b, e)) (fun x y => e1 (x, y)), he, ifK_true, sideR_err he]
  | false =>
    have h0 : hErr l 2 2 = 0 := by simpa using he
    obtain ⟨l1, l2, hs⟩ := hErr_zero h0
    have hss := sml_sort hs
    have hwb := ws_wrap (ws := [50, 50]) hss (by decide) (by rw [sortI_len]; omega)
    obtain ⟨B, hB, e2, e3, e1, e5, e4, e8, _⟩ := exF [one 122 [.slc f l.length (ints l), .fn (.func 133) [] []] (.bool (l.any outB)), famH83, famH81, one 95 [.fn (.func 137) [] [.snap [.slc f l.length (ints l)] 0]] (.slc false l.length (ints (sortI l))), one 154 [.slc false l.length (ints (sortI l))] (.int .i64 (wS (sortI l) [50, 50] 0)), one 128 [.int .i64 (wS (sortI l) [50, 50] 0 + 50), .int .i64 100] (.int .i64 (fV l))]
      ⟨one_good (ok122h l hl) rfl, famH83_good, famH81_good, one_good (ok95 l (by omega) (by omega)) rfl, one_good (by
        have := ok154 (f := false) (sortI l) (by rw [sortI_len]; omega) hss
        rw [sortI_len] at this
        exact this) rfl, one_good (ok128h (by omega)) rfl, trivial⟩ rfl
    refine fnH hB Tryz.func92 (ord := O0) (N := N92) okf92 ((F92a_eq _ _ _ _ _ _).trans ?_)
    rw [go92a (e2 ()) (fun b e => e3 (b, e)) (fun x y => e1 (x, y)), he, ifK_false, h0, sideR_ok, F92a_31_eq (C := C1) (hC := fun _ => rfl)]
    refine opt_step (x := D.slc false l.length (ints (sortI l))) (e5 ()) (slc_step (opt_step (x := D.int .i64 (wS (sortI l) [50, 50] 0)) (e4 ()) (int_step ?_)))
    rw [wrap_in (by omega)]
    exact opt_step (x := D.int .i64 (fV l)) (e8 ()) rfl
theorem ok92b {f : Bool} (l : List Int) (hl : l.length < 4611686018427387904) : OK5 92 [scraS, .slc f l.length (ints l)] (sideR (hErr l 2 4) (sV l)) := by
  cases he : hErr l 2 4 != 0 with
  | true =>
    obtain ⟨B, hB, e2, e3, e1, _⟩ := exF [one 122 [.slc f l.length (ints l), .fn (.func 133) [] []] (.bool (l.any outB)), famH83, famH81] ⟨one_good (ok122h l hl) rfl, famH83_good, famH81_good, trivial⟩ rfl
    refine fnH hB Tryz.func92 (ord := O0) (N := N92) okf92 ((F92b_eq _ _ _ _ _ _).trans ?_)
    rw [go92b (e2 ()) (fun b e => e3 (b, e)) (fun x y => e1 (x, y)), he, ifK_true, sideR_err he]
  | false =>
    have h0 : hErr l 2 4 = 0 := by simpa using he
    obtain ⟨l1, l2, hs⟩ := hErr_zero h0
    have hss := sml_sort hs
    have hwb := ws_wrap (ws := wts l.length) hss (wts_b _) (by rw [sortI_len]; omega)
    obtain ⟨B, hB, e2, e3, e1, e5, e4, e8, _⟩ := exF [one 122 [.slc f l.length (ints l), .fn (.func 133) [] []] (.bool (l.any outB)), famH83, famH81, one 95 [.fn (.func 137) [] [.snap [.slc f l.length (ints l)] 0]] (.slc false l.length (ints (sortI l))), one 156 [.slc false l.length (ints (sortI l))] (.int .i64 (wS (sortI l) (wts l.length) 0)), one 128 [.int .i64 (wS (sortI l) (wts l.length) 0 + 50), .int .i64 100] (.int .i64 (sV l))]
      ⟨one_good (ok122h l hl) rfl, famH83_good, famH81_good, one_good (ok95 l (by omega) (by omega)) rfl, one_good (by
        have := ok156 (f := false) (sortI l) (by rw [sortI_len]; omega) (by rw [sortI_len]; omega) hss
        rw [sortI_len] at this
        exact this) rfl, one_good (ok128h (by omega)) rfl, trivial⟩ rfl
    refine fnH hB Tryz.func92 (ord := O0) (N := N92) okf92 ((F92b_eq _ _ _ _ _ _).trans ?_)
    rw [go92b (e2 ()) (fun b e => e3 (b, e)) (fun x y => e1 (x, y)), he, ifK_false, h0, sideR_ok, F92b_31_eq (C := C1) (hC := fun _ => rfl)]
    refine opt_step (x := D.slc false l.length (ints (sortI l))) (e5 ()) (slc_step (opt_step (x := D.int .i64 (wS (sortI l) (wts l.length) 0)) (e4 ()) (int_step ?_)))
    rw [wrap_in (by omega)]
    exact opt_step (x := D.int .i64 (sV l)) (e8 ()) rfl
theorem ok29 {f : Bool} (l : List Int) (hl : l.length < 4611686018427387904) : OK5 29 [.slc f l.length (ints l)] (sideR (hErr l 2 2) (fV l)) := by
  obtain ⟨B, hB, e, _⟩ := exF [one 92 [fourS, .slc f l.length (ints l)] (sideR (hErr l 2 2) (fV l))] ⟨one_good (ok92a l hl) rfl, trivial⟩ rfl
  refine fnT hB Tryz.func29 (ord := O0) (N := N0) (by kernel_rfl) ((F29_eq _ _ _ _ _ _).trans ?_)
  exact opt_step (x := sideR (hErr l 2 2) (fV l)) (e ()) rfl
theorem ok30 {f : Bool} (l : List Int) (hl : l.length < 4611686018427387904) : OK5 30 [.slc f l.length (ints l)] (sideR (hErr l 2 4) (sV l)) := by
  obtain ⟨B, hB, e, _⟩ := exF [one 92 [scraS, .slc f l.length (ints l)] (sideR (hErr l 2 4) (sV l))] ⟨one_good (ok92b l hl) rfl, trivial⟩ rfl
  refine fnT hB Tryz.func30 (ord := O0) (N := N0) (by kernel_rfl) ((F30_eq _ _ _ _ _ _).trans ?_)
  exact opt_step (x := sideR (hErr l 2 4) (sV l)) (e ()) rfl
/-! ### The reference's sides -/
theorem ok34 {f : Bool} (l : List Int) (hl : l.length = 2) (hs : Sml l) : OK5 34 [.slc f l.length (ints l)] (.int .i64 (fV l)) := by
  match l, hl, hs with
  | [a, b], _, hs =>
    have ha := hs a (by simp)
    have hb := hs b (by simp)
    have hv : (2 * (a + b) + ((2 : Nat) : Int)) / (2 * ((2 : Nat) : Int)) = fV [a, b] := by
      have hsort : sortI [a, b] = (match decide (a ≤ b) with | true => [a, b] | false => [b, a]) := rfl
      unfold fV
      rw [hsort]
      cases decide (a ≤ b) with
      | true =>
        rw [show wS (match true with | true => [a, b] | false => [b, a]) [50, 50] 0 = (0 + a * 50) + b * 50 from rfl]
        omega
      | false =>
        rw [show wS (match false with | true => [a, b] | false => [b, a]) [50, 50] 0 = (0 + b * 50) + a * 50 from rfl]
        omega
    have h98 := ok98 (n := a + b) (d := 2) (by omega) (by omega) (by omega)
    rw [hv] at h98
    obtain ⟨B, hB, e, _⟩ := exF [one 98 [.int .i64 (a + b), .int .i64 ((2 : Nat) : Int)] (.int .i64 (fV [a, b]))] ⟨one_good h98 rfl, trivial⟩ rfl
    refine fnT hB Tryz.func34 (ord := O0) (N := N0) (by kernel_rfl) ((F34_eq _ _ _ _ _ _).trans ?_)
    refine chk_step (decide_eq_true ⟨by omega, by simp⟩) (cell_step (d := .int .i64 a) rfl (int_step (chk_step (decide_eq_true ⟨by omega, by simp⟩) (cell_step (d := .int .i64 b) rfl (int_step ?_)))))
    rw [wrap_in (by omega)]
    exact opt_step (x := D.int .i64 (fV [a, b])) (e ()) rfl
theorem go35 {B : FuncId → List D → Option D} {f g : Bool} {v : Int} : ∀ (r wr pre wpre : List Int) (fuel : Nat) (acc : Int), callOf B 98 [.int .i64 (wS r wr acc), .int .i64 100] = some (.int .i64 v) → pre.length = wpre.length → r.length ≤ wr.length → (pre ++ r).length ≤ 100 → Sml r → (∀ w ∈ wr, 0 ≤ w ∧ w ≤ 50) → -(5000 * (pre.length : Int)) ≤ acc ∧ acc ≤ 5000 * (pre.length : Int) → r.length < fuel →
    F35_250 (callOf B) LL C1 fuel g (wpre ++ wr).length (ints (wpre ++ wr)) f (pre ++ r).length (ints (pre ++ r)) acc (pre.length : Int) = some (.int .i64 v) := by
  intro r
  induction r with
  | nil =>
    intro wr pre wpre fuel acc hv _ _ _ _ _ _ hf
    obtain ⟨fuel, rfl⟩ : ∃ n, fuel = n + 1 := ⟨fuel - 1, by omega⟩
    rw [F35_250_eq, end_pre, ifK_false]
    rw [show wS [] wr acc = acc by cases wr <;> rfl] at hv
    exact opt_step (x := D.int .i64 v) hv rfl
  | cons x r ih =>
    intro wr pre wpre fuel acc hv hp hw hl hs hws hacc hf
    obtain ⟨fuel, rfl⟩ : ∃ n, fuel = n + 1 := ⟨fuel - 1, by omega⟩
    obtain ⟨w, wr, rfl⟩ : ∃ w t, wr = w :: t := by cases wr with | nil => simp at hw | cons w t => exact ⟨w, t, rfl⟩
    have hm := mul_sml (hs x (List.mem_cons_self ..)) (hws w (List.mem_cons_self ..))
    have hpl : pre.length ≤ 100 := by simp at hl; omega
    have ih := ih wr (pre ++ [x]) (wpre ++ [w]) fuel (acc + x * w) hv (by simp [hp]) (by simp at hw; omega) (by rw [app1]; exact hl) (fun y hy => hs y (List.mem_cons_of_mem _ hy)) (fun y hy => hws y (List.mem_cons_of_mem _ hy)) (by simp; omega) (by simp at hf; omega)
    rw [app1, app1] at ih
    rw [F35_250_eq, lt_pre, ifK_true, in_pre, chkK_true, cell_ints, intK_int]
    refine chk_step (decide_eq_true ⟨by omega, by simp; omega⟩) ?_
    have hc : ∀ c : D → Option D, cellK (ints (wpre ++ w :: wr)) (Int.toNat (pre.length : Int) * 1) c = c (.int .i64 w) := fun c => by rw [hp]; exact cell_ints wpre w wr c
    rw [hc, intK_int, step_pre pre x r (by omega), wrap_in (y := x * w) (by omega), wrap_in (by omega), ih]
theorem ok35 {f : Bool} (l : List Int) (h1 : 2 ≤ l.length) (h2 : l.length ≤ 4) (hs : Sml l) : OK5 35 [.slc f l.length (ints l)] (.int .i64 (sV l)) := by
  have hss := sml_sort hs
  have hwb := ws_wrap (ws := wts l.length) hss (wts_b _) (by rw [sortI_len]; omega)
  have hv : (2 * wS (sortI l) (wts l.length) 0 + ((100 : Nat) : Int)) / (2 * ((100 : Nat) : Int)) = sV l := by unfold sV; omega
  have h98 := ok98 (n := wS (sortI l) (wts l.length) 0) (d := 100) (by omega) (by omega) (by omega)
  rw [hv] at h98
  obtain ⟨B, hB, e9, e, _⟩ := exF [one 99 [.slc f l.length (ints l)] (.slc false l.length (ints (sortI l))), one 98 [.int .i64 (wS (sortI l) (wts l.length) 0), .int .i64 100] (.int .i64 (sV l))] ⟨one_good (ok99 l (by omega) (by omega)) rfl, one_good h98 rfl, trivial⟩ rfl
  refine fnT hB Tryz.func35 (ord := O0) (N := N35) (by kernel_rfl) ((F35_eq _ _ _ _ _ _).trans ?_)
  refine chk_step (by rw [wrap_in (by omega)]; exact decide_eq_true ⟨by omega, by omega⟩) ?_
  rw [wts_cell h1 h2, slcK_slc]
  refine opt_step (x := D.slc false l.length (ints (sortI l))) (e9 ()) (slc_step ?_)
  have := go35 (B := B) (f := false) (g := true) (v := sV l) (sortI l) (wts l.length) [] [] LL 0 (e ()) rfl (by rw [sortI_len, wts_len h1 h2]; omega) (by rw [List.nil_append, sortI_len]; omega) hss (wts_b _) (by simp) (by rw [sortI_len]; unfold LL; omega)
  rw [List.nil_append, List.nil_append, sortI_len] at this
  exact this
/-! ### Teams -/
def tV (l : List Int) (k : Nat) : Int := sumL ((sortI l).take k)
theorem bnd_sort {l : List Int} (h : BndL l) : BndL (sortI l) := fun x hx => h x ((sortI_perm l).mem_iff.1 hx)
theorem bnd_take {l : List Int} (h : BndL l) (k : Nat) : BndL (l.take k) := fun x hx => h x (List.mem_of_mem_take hx)
theorem ints_takeN (l : List Int) (k : Nat) : List.take (k * 1) (ints l) = ints (l.take k) := by rw [Nat.mul_one]; simp [ints]
theorem ok36 {f : Bool} (l : List Int) (k : Nat) (h0 : 0 < l.length) (hl : l.length ≤ 200) (hb : BndL l) (hk : k ≤ l.length) : OK5 36 [.slc f l.length (ints l), .int .i64 (k : Int)] (.int .i64 (tV l k)) := by
  have htl : ((sortI l).take k).length = k := by rw [List.length_take, sortI_len]; omega
  have h100 := ok100 (f := false && decide ((k : Int) = (l.length : Int))) ((sortI l).take k) (by omega) (bnd_take (bnd_sort hb) k) k (by omega)
  rw [htl, Nat.sub_self, List.drop_zero] at h100
  obtain ⟨B, hB, e9, e, _⟩ := exF [one 99 [.slc f l.length (ints l)] (.slc false l.length (ints (sortI l))), one 100 [.slc (false && decide ((k : Int) = (l.length : Int))) k (ints ((sortI l).take k)), .int .i64 (k : Int)] (.int .i64 (tV l k))] ⟨one_good (ok99 l h0 (by omega)) rfl, one_good h100 rfl, trivial⟩ rfl
  refine fnT hB Tryz.func36 (ord := O0) (N := N0) (by kernel_rfl) ((F36_eq _ _ _ _ _ _ _).trans ?_)
  refine opt_step (x := D.slc false l.length (ints (sortI l))) (e9 ()) (slc_step ?_)
  refine chk_step (decide_eq_true ⟨by omega, by omega, by omega⟩) ?_
  rw [Int.sub_zero, Int.toNat_natCast, ints_takeN]
  exact opt_step (x := D.int .i64 (tV l k)) (e ()) rfl
def tErr (l : List Int) (c : Int) : Int := fst2 (numErr l 200) (ifK (decide (c < 1) || decide (c > (l.length : Int))) 3 0)
theorem tErr_zero {l : List Int} {c : Int} (h : tErr l c = 0) : numErr l 200 = 0 ∧ 1 ≤ c ∧ c ≤ (l.length : Int) := by
  unfold tErr fst2 at h
  cases h1 : numErr l 200 != 0 with
  | true => rw [h1, ifK_true] at h; rw [h] at h1; cases h1
  | false =>
    rw [h1, ifK_false] at h
    refine ⟨by simpa using h1, ?_⟩
    cases h2 : decide (c < 1) with
    | true => rw [h2, Bool.true_or, ifK_true] at h; cases h
    | false =>
      cases h3 : decide (c > (l.length : Int)) with
      | true => rw [h2, h3, Bool.false_or, ifK_true] at h; cases h
      | false =>
        simp only [decide_eq_false_iff_not] at h2 h3
        omega
theorem ok31 {f : Bool} (l : List Int) (c : Int) (hl : l.length < 100 ∨ 200 < l.length) (hl2 : l.length < 4611686018427387904) : OK5 31 [.slc f l.length (ints l), .int .i64 c] (sideR (tErr l c) (tV l c.toNat)) := by
  cases he : tErr l c != 0 with
  | true =>
    obtain ⟨B, hB, e9, e3, e1, _⟩ := exF [one 93 [.slc f l.length (ints l), .int .i64 200] (.int .i64 (numErr l 200)), famH83, famH81] ⟨one_good (ok93 l hl2) rfl, famH83_good, famH81_good, trivial⟩ rfl
    refine fnT hB Tryz.func31 (ord := O0) (N := N0) (by kernel_rfl) ((F31_eq _ _ _ _ _ _ _).trans ?_)
    refine opt_step (x := D.int .i64 (numErr l 200)) (e9 ()) (int_step ?_)
    rw [sideR_err he]
    cases hc : decide (c < 1) with
    | true =>
      have ht : tErr l c = fst2 (numErr l 200) (ifK true 3 0) := by unfold tErr; rw [hc, Bool.true_or]
      rw [ifK_true]
      refine opt_step (x := D.int .i64 (ifK true 3 0)) (e3 (true, 3)) (int_step (opt_step (x := D.int .i64 (fst2 (numErr l 200) (ifK true 3 0))) (e1 (_, _)) (int_step ?_)))
      rw [← ht, he, ifK_true]
    | false =>
      have ht : tErr l c = fst2 (numErr l 200) (ifK (decide (c > (l.length : Int))) 3 0) := by unfold tErr; rw [hc, Bool.false_or]
      rw [ifK_false]
      refine opt_step (x := D.int .i64 (ifK (decide (c > (l.length : Int))) 3 0)) (e3 (_, 3)) (int_step (opt_step (x := D.int .i64 (fst2 (numErr l 200) (ifK (decide (c > (l.length : Int))) 3 0))) (e1 (_, _)) (int_step ?_)))
      rw [← ht, he, ifK_true]
  | false =>
    have h0 : tErr l c = 0 := by simpa using he
    obtain ⟨z1, z2, z3⟩ := tErr_zero h0
    obtain ⟨n1, n2, hb⟩ := numErr_zero z1
    obtain ⟨k, rfl⟩ : ∃ k : Nat, c = (k : Int) := ⟨c.toNat, by omega⟩
    have htl : ((sortI l).take k).length = k := by rw [List.length_take, sortI_len]; omega
    have h94 := ok94 (f := false && decide ((k : Int) = (l.length : Int))) ((sortI l).take k) (by omega) (bnd_take (bnd_sort hb) k)
    rw [htl] at h94
    obtain ⟨B, hB, e9, e3, e1, e5, e4, _⟩ := exF [one 93 [.slc f l.length (ints l), .int .i64 200] (.int .i64 (numErr l 200)), famH83, famH81, one 95 [.fn (.func 137) [] [.snap [.slc f l.length (ints l)] 0]] (.slc false l.length (ints (sortI l))), one 94 [.slc (false && decide ((k : Int) = (l.length : Int))) k (ints ((sortI l).take k)), .fn (.func 97) [] []] (.int .i64 (tV l k))]
      ⟨one_good (ok93 l hl2) rfl, famH83_good, famH81_good, one_good (ok95 l n1 (by omega)) rfl, one_good h94 rfl, trivial⟩ rfl
    refine fnT hB Tryz.func31 (ord := O0) (N := N0) (by kernel_rfl) ((F31_eq _ _ _ _ _ _ _).trans ?_)
    refine opt_step (x := D.int .i64 (numErr l 200)) (e9 ()) (int_step ?_)
    have hc : decide ((k : Int) < 1) = false := decide_eq_false (by omega)
    have ht : tErr l k = fst2 (numErr l 200) (ifK (decide ((k : Int) > (l.length : Int))) 3 0) := by unfold tErr; rw [hc, Bool.false_or]
    rw [hc, ifK_false, h0, sideR_ok, Int.toNat_natCast]
    refine opt_step (x := D.int .i64 (ifK (decide ((k : Int) > (l.length : Int))) 3 0)) (e3 (_, 3)) (int_step (opt_step (x := D.int .i64 (fst2 (numErr l 200) (ifK (decide ((k : Int) > (l.length : Int))) 3 0))) (e1 (_, _)) (int_step ?_)))
    rw [← ht, he, ifK_false]
    refine opt_step (x := D.slc false l.length (ints (sortI l))) (e5 ()) (slc_step ?_)
    refine chk_step (decide_eq_true ⟨by omega, by omega, by omega⟩) ?_
    rw [Int.sub_zero, Int.toNat_natCast, ints_takeN]
    exact opt_step (x := D.int .i64 (tV l k)) (e4 ()) rfl
end Go.Pd
end
section
namespace Go.Pd
open Go Go.Proofs Go.RowKit
set_option maxRecDepth 100000
def oneIf (p : Prop) (f : FuncId) (ds : List D) (r : D) : Fam := ⟨f, {_u : Unit // p}, fun _ => ds, fun _ => r⟩
theorem oneIf_good {p : Prop} {f : FuncId} {ds : List D} {r : D} (h : p → OK5 f ds r) (hc : cstG f ds = none) : (oneIf p f ds r).Good := ⟨fun i => h i.2, fun _ _ _ => rfl, fun _ => hc⟩
def fam32 (f : Bool) (l : List Int) : Fam := ⟨32, Int × Int, fun x => [.slc f l.length (ints l), .int .i64 x.1, .int .i64 x.2], fun x => .int .i64 (hErr l x.1 x.2)⟩
theorem fam32_good {f : Bool} {l : List Int} (hl : l.length < 4611686018427387904) : (fam32 f l).Good := ⟨fun x => ok32 l x.1 x.2 hl, fun (x y : Int × Int) e => by
  have e : [D.slc f l.length (ints l), D.int .i64 x.1, .int .i64 x.2] = [D.slc f l.length (ints l), D.int .i64 y.1, .int .i64 y.2] := e
  simp only [List.cons.injEq, D.int.injEq, and_true, true_and] at e
  show D.int .i64 (hErr l x.1 x.2) = .int .i64 (hErr l y.1 y.2)
  rw [e.1, e.2], fun _ => rfl⟩
theorem sideR_rd {γ : Type} (e v : Int) (k : Int → Int → Option γ) : (tupK (sideR e v) 2 fun c => cellK c 0 fun d => intK .i64 d fun x => cellK c 1 fun d => intK .i64 d fun y => k x y) = k (ifK (e != 0) 0 v) e := rfl
theorem ok5 (l : List Int) (c : Int) : OK5 5 [.slc false l.length (ints l), .int .i64 c] (.bool true) := by
  by_cases hbig : (12 < l.length ∧ l.length ≤ 200) ∨ 203 < l.length
  · obtain ⟨B, hB, e16, _⟩ := exF [one 16 [] (.bool true)] ⟨one_good awake_ok rfl, trivial⟩ rfl
    refine fnT hB Tryz.func5 (ord := O0) (N := N5) (by kernel_rfl) ((F5_eq _ _ _ _ _ _ _).trans ?_)
    have h16 : ∀ k : Bool → Option D, optK (callOf B 16 []) (fun r => boolK r k) = k true := fun k => opt_step (x := D.bool true) (e16 ()) rfl
    rcases hbig with ⟨h1, h2⟩ | h3
    · rw [decide_eq_true (show (l.length : Int) > 12 by omega), ifK_true, decide_eq_true (show (l.length : Int) ≤ 200 by omega), ifK_true, h16]
    · rw [decide_eq_true (show (l.length : Int) > 12 by omega), ifK_true, decide_eq_false (show ¬ (l.length : Int) ≤ 200 by omega), ifK_false, decide_eq_true (show (l.length : Int) > 203 by omega), ifK_true, h16]
  have hl : l.length < 4611686018427387904 := by omega
  obtain ⟨B, hB, e16, e29, e30, e31, e32, e33, e24, e22, e34, e35, e36, _⟩ := exF [one 16 [] (.bool true), one 29 [.slc false l.length (ints l)] (sideR (hErr l 2 2) (fV l)), one 30 [.slc false l.length (ints l)] (sideR (hErr l 2 4) (sV l)), one 31 [.slc false l.length (ints l), .int .i64 c] (sideR (tErr l c) (tV l c.toNat)), fam32 false l, one 33 [.slc false l.length (ints l), .int .i64 200] (.int .i64 (numErr l 200)), famH24, famH22,
      oneIf (hErr l 2 2 = 0) 34 [.slc false l.length (ints l)] (.int .i64 (fV l)), oneIf (hErr l 2 4 = 0) 35 [.slc false l.length (ints l)] (.int .i64 (sV l)), oneIf (tErr l c = 0) 36 [.slc false l.length (ints l), .int .i64 c] (.int .i64 (tV l c.toNat))]
    ⟨one_good awake_ok rfl, one_good (ok29 l hl) rfl, one_good (ok30 l hl) rfl, one_good (ok31 l c (by omega) hl) rfl, fam32_good hl, one_good (ok33 l (by omega)) rfl, famH24_good, famH22_good,
      oneIf_good (fun h => by obtain ⟨h1, h2, h3⟩ := hErr_zero h; exact ok34 l (by omega) h3) rfl, oneIf_good (fun h => by obtain ⟨h1, h2, h3⟩ := hErr_zero h; exact ok35 l (by omega) (by omega) h3) rfl,
      oneIf_good (fun h => by
        obtain ⟨z1, z2, z3⟩ := tErr_zero h
        obtain ⟨n1, n2, hb⟩ := numErr_zero z1
        obtain ⟨k, rfl⟩ : ∃ k : Nat, c = (k : Int) := ⟨c.toNat, by omega⟩
        rw [Int.toNat_natCast]
        exact ok36 l k n1 (by omega) hb (by omega)) rfl, trivial⟩ rfl
  refine fnT hB Tryz.func5 (ord := O0) (N := N5) (by kernel_rfl) ((F5_eq _ _ _ _ _ _ _).trans ?_)
  have h4095 : ∀ a b t : Int, F5_4095 (callOf B) LL C1 a (hErr l 2 2) b (hErr l 2 4) t (tErr l c) (hErr l 2 2) (hErr l 2 4) (tErr l c) a b t = some (.bool true) := fun a b t => by
    rw [F5_4095_eq (C := C1) (hC := fun _ => rfl)]
    simp only [beq_self_eq_true, ifK_true]
    exact opt_step (x := D.bool true) (e16 ()) rfl
  have h2047 : ∀ a b : Int, F5_2047 (callOf B) LL C1 false l.length (ints l) c a (hErr l 2 2) b (hErr l 2 4) (ifK (tErr l c != 0) 0 (tV l c.toNat)) (tErr l c) (hErr l 2 2) (hErr l 2 4) (tErr l c) a b = some (.bool true) := fun a b => by
    rw [F5_2047_eq (C := C1) (hC := fun _ => rfl)]
    by_cases h : tErr l c = 0
    · rw [show (tErr l c == 0) = true from beq_iff_eq.2 h, ifK_true, show (tErr l c != 0) = false by rw [h]; rfl, ifK_false]
      exact opt_step (x := D.int .i64 (tV l c.toNat)) (e36 ⟨(), h⟩) (int_step (h4095 _ _ _))
    · rw [show (tErr l c == 0) = false from beq_eq_false_iff_ne.2 h, ifK_false, show (tErr l c != 0) = true from bne_iff_ne.2 h, ifK_true]
      exact h4095 _ _ _
  have h1023 : ∀ a : Int, F5_1023 (callOf B) LL C1 false l.length (ints l) c a (hErr l 2 2) (ifK (hErr l 2 4 != 0) 0 (sV l)) (hErr l 2 4) (ifK (tErr l c != 0) 0 (tV l c.toNat)) (tErr l c) (hErr l 2 2) (hErr l 2 4) (tErr l c) a = some (.bool true) := fun a => by
    rw [F5_1023_eq (C := C1) (hC := fun _ => rfl)]
    by_cases h : hErr l 2 4 = 0
    · rw [show (hErr l 2 4 == 0) = true from beq_iff_eq.2 h, ifK_true, show (hErr l 2 4 != 0) = false by rw [h]; rfl, ifK_false]
      exact opt_step (x := D.int .i64 (sV l)) (e35 ⟨(), h⟩) (int_step (h2047 _ _))
    · rw [show (hErr l 2 4 == 0) = false from beq_eq_false_iff_ne.2 h, ifK_false, show (hErr l 2 4 != 0) = true from bne_iff_ne.2 h, ifK_true]
      exact h2047 _ _
  have h255 : F5_255 (callOf B) LL C1 false l.length (ints l) c (ifK (hErr l 2 2 != 0) 0 (fV l)) (hErr l 2 2) (ifK (hErr l 2 4 != 0) 0 (sV l)) (hErr l 2 4) (ifK (tErr l c != 0) 0 (tV l c.toNat)) (tErr l c) (hErr l 2 2) (hErr l 2 4) (tErr l c) = some (.bool true) := by
    rw [F5_255_eq (C := C1) (hC := fun _ => rfl)]
    by_cases h : hErr l 2 2 = 0
    · rw [show (hErr l 2 2 == 0) = true from beq_iff_eq.2 h, ifK_true, show (hErr l 2 2 != 0) = false by rw [h]; rfl, ifK_false]
      exact opt_step (x := D.int .i64 (fV l)) (e34 ⟨(), h⟩) (int_step (h1023 _))
    · rw [show (hErr l 2 2 == 0) = false from beq_eq_false_iff_ne.2 h, ifK_false, show (hErr l 2 2 != 0) = true from bne_iff_ne.2 h, ifK_true]
      exact h1023 _
  have h7 : F5_7 (callOf B) LL C1 false l.length (ints l) c = some (.bool true) := by
    rw [F5_7_eq (C := C1) (hC := fun _ => rfl)]
    refine opt_step (x := sideR (hErr l 2 2) (fV l)) (e29 ()) ((sideR_rd _ _ _).trans ?_)
    refine opt_step (x := sideR (hErr l 2 4) (sV l)) (e30 ()) ((sideR_rd _ _ _).trans ?_)
    refine opt_step (x := sideR (tErr l c) (tV l c.toNat)) (e31 ()) ((sideR_rd _ _ _).trans ?_)
    refine opt_step (x := D.int .i64 (hErr l 2 2)) (e32 (2, 2)) (int_step ?_)
    refine opt_step (x := D.int .i64 (hErr l 2 4)) (e32 (2, 4)) (int_step ?_)
    refine opt_step (x := D.int .i64 (numErr l 200)) (e33 ()) (int_step ?_)
    cases hc : decide (c < 1) with
    | true =>
      have ht : fst2 (numErr l 200) (ifK true 3 0) = tErr l c := by unfold tErr; rw [hc, Bool.true_or]
      rw [ifK_true]
      refine opt_step (x := D.int .i64 (ifK true 3 0)) (e24 (true, 3)) (int_step (opt_step (x := D.int .i64 (fst2 (numErr l 200) (ifK true 3 0))) (e22 (_, _)) (int_step ?_)))
      rw [ht]
      exact h255
    | false =>
      have ht : fst2 (numErr l 200) (ifK (decide (c > (l.length : Int))) 3 0) = tErr l c := by unfold tErr; rw [hc, Bool.false_or]
      rw [ifK_false]
      refine opt_step (x := D.int .i64 (ifK (decide (c > (l.length : Int))) 3 0)) (e24 (_, 3)) (int_step (opt_step (x := D.int .i64 (fst2 (numErr l 200) (ifK (decide (c > (l.length : Int))) 3 0))) (e22 (_, _)) (int_step ?_)))
      rw [ht]
      exact h255
  by_cases h12 : 12 < l.length
  · rw [decide_eq_true (show (l.length : Int) > 12 by omega), ifK_true, decide_eq_false (show ¬ (l.length : Int) ≤ 200 by omega), ifK_false, decide_eq_false (show ¬ (l.length : Int) > 203 by omega), ifK_false, h7]
  · rw [decide_eq_false (show ¬ (l.length : Int) > 12 by omega), ifK_false, decide_eq_false (show ¬ (l.length : Int) > 203 by omega), ifK_false, h7]
end Go.Pd
end
