/-
  The equations of FormatMatches' functions (printed).
  FormatMatches is true of all holes and players.
-/
import Derived.Test.YtanpmgfaieekhaaGreatDoorFmA
import Derived.KernelRfl
import Derived.Test.YtanpmgfaieekhaaGreatDoorFmBl
import Derived.Test.YtanpmgfaieekhaaGreatDoorFmS
section
namespace Go.Pd
open Go Go.Proofs
set_option maxRecDepth 100000
def O4 : Ord := fun id => match id with
  | 3 => some { fs := [(7, 7), (8, 8)] }
  | _ => none
theorem F4_eq (call : FuncId → List D → Option D) (L : Nat) (C : Nat → Nat) (vh_f : Bool) (vh_n : Nat) (vh_c : List D) (va0 : ByteArray) (va1_f : Bool) (va1_n : Nat) (va1_c : List D) (va2 : Int) (vb0 : ByteArray) (vb1_f : Bool) (vb1_n : Nat) (vb1_c : List D) (vb2 : Int) : evFnT (TEf call L C) O4 N0 FinM.canon Tryz.f4 [D.slc vh_f vh_n vh_c, D.agg [D.str va0, D.slc va1_f va1_n va1_c, D.int IntKind.i64 va2], D.agg [D.str vb0, D.slc vb1_f vb1_n vb1_c, D.int IntKind.i64 vb2]] =
  (optK (call 15 [D.slc vh_f vh_n vh_c, D.slc true 2 [D.str va0, D.slc va1_f va1_n va1_c, D.int IntKind.i64 va2, D.str vb0, D.slc vb1_f vb1_n vb1_c, D.int IntKind.i64 vb2]]) fun r =>
    (boolK (r) fun b =>
    (ifK (!b)
      (optK (call 16 []) fun r_1 =>
        (boolK (r_1) fun b_1 =>
        (some (D.bool b_1))))
      (optK (call 21 [D.slc vh_f vh_n vh_c, D.agg [D.str va0, D.slc va1_f va1_n va1_c, D.int IntKind.i64 va2], D.agg [D.str vb0, D.slc vb1_f vb1_n vb1_c, D.int IntKind.i64 vb2]]) fun r_2 =>
        (tupK (r_2) 2 fun c =>
        (cellK (c) (0) fun d =>
        (slcK (d) fun f n c_1 =>
        (cellK (c) (1) fun d_1 =>
        (intK IntKind.i64 (d_1) fun x =>
        (optK (call 23 [D.slc vh_f vh_n vh_c, D.agg [D.str va0, D.slc va1_f va1_n va1_c, D.int IntKind.i64 va2]]) fun r_3 =>
          (intK IntKind.i64 (r_3) fun x_1 =>
          (optK (call 23 [D.slc vh_f vh_n vh_c, D.agg [D.str vb0, D.slc vb1_f vb1_n vb1_c, D.int IntKind.i64 vb2]]) fun r_4 =>
            (intK IntKind.i64 (r_4) fun x_2 =>
            (optK (call 24 [D.bool (ByteArray.toList va0 == ByteArray.toList vb0), D.int IntKind.i64 9]) fun r_5 =>
              (intK IntKind.i64 (r_5) fun x_3 =>
              (optK (call 22 [D.slc true 3 [D.int IntKind.i64 x_1, D.int IntKind.i64 x_2, D.int IntKind.i64 x_3]]) fun r_6 =>
                (intK IntKind.i64 (r_6) fun x_4 =>
                (ifK (x_4 == 0)
                  (optK (call 26 [D.slc vh_f vh_n vh_c, D.agg [D.str va0, D.slc va1_f va1_n va1_c, D.int IntKind.i64 va2]]) fun r_7 =>
                    (slcK (r_7) fun f_1 n_1 c_2 =>
                    (optK (call 26 [D.slc vh_f vh_n vh_c, D.agg [D.str vb0, D.slc vb1_f vb1_n vb1_c, D.int IntKind.i64 vb2]]) fun r_8 =>
                      (slcK (r_8) fun f_2 n_2 c_3 =>
                      (optK (call 25 [D.slc f_1 n_1 c_2, D.slc f_2 n_2 c_3]) fun r_9 =>
                        (slcK (r_9) fun f_3 n_3 c_4 =>
                        (ifK (x == x_4)
                          (optK (call 28 [D.slc f n c_1]) fun r_10 =>
                            (slcK (r_10) fun f_4 n_4 c_5 =>
                            (optK (call 27 [D.slc f_4 n_4 c_5, D.slc f_3 n_3 c_4]) fun r_11 =>
                              (boolK (r_11) fun b_2 =>
                              (ifK (b_2)
                                (optK (call 16 []) fun r_12 =>
                                  (boolK (r_12) fun b_3 =>
                                  (some (D.bool b_3))))
                                (some (D.bool false)))))))
                          (some (D.bool false)))))))))
                  (ifK (x == x_4)
                    (optK (call 28 [D.slc f n c_1]) fun r_13 =>
                      (slcK (r_13) fun f_5 n_5 c_6 =>
                      (optK (call 27 [D.slc f_5 n_5 c_6, D.nils]) fun r_14 =>
                        (boolK (r_14) fun b_4 =>
                        (ifK (b_4)
                          (optK (call 16 []) fun r_15 =>
                            (boolK (r_15) fun b_5 =>
                            (some (D.bool b_5))))
                          (some (D.bool false)))))))
                    (some (D.bool false))))))))))))))))))))) := by kernel_rfl
-- 3318 ms
theorem F21_eq (call : FuncId → List D → Option D) (L : Nat) (C : Nat → Nat) (vh_f : Bool) (vh_n : Nat) (vh_c : List D) (va0 : ByteArray) (va1_f : Bool) (va1_n : Nat) (va1_c : List D) (va2 : Int) (vb0 : ByteArray) (vb1_f : Bool) (vb1_n : Nat) (vb1_c : List D) (vb2 : Int) : evFnT (TEf call L C) O0 N0 FinM.canon Tryz.f21 [D.slc vh_f vh_n vh_c, D.agg [D.str va0, D.slc va1_f va1_n va1_c, D.int IntKind.i64 va2], D.agg [D.str vb0, D.slc vb1_f vb1_n vb1_c, D.int IntKind.i64 vb2]] =
  (optK (call 87 [D.slc vh_f vh_n vh_c, D.slc true 2 [D.str va0, D.slc va1_f va1_n va1_c, D.int IntKind.i64 va2, D.str vb0, D.slc vb1_f vb1_n vb1_c, D.int IntKind.i64 vb2]]) fun r =>
    (intK IntKind.i64 (r) fun x =>
    (ifK (x != 0)
      (some (D.tup [D.slc true 0 [], D.int IntKind.i64 x]))
      (optK (call 89 [D.agg [D.str va0, D.slc va1_f va1_n va1_c, D.int IntKind.i64 va2], D.slc vh_f vh_n vh_c]) fun r_1 =>
        (slcK (r_1) fun f n c =>
        (optK (call 89 [D.agg [D.str vb0, D.slc vb1_f vb1_n vb1_c, D.int IntKind.i64 vb2], D.slc vh_f vh_n vh_c]) fun r_2 =>
          (slcK (r_2) fun f_1 n_1 c_1 =>
          (optK (call 88 [D.slc f n c, D.slc f_1 n_1 c_1]) fun r_3 =>
            (slcK (r_3) fun f_2 n_2 c_2 =>
            (some (D.tup [D.slc f_2 n_2 c_2, D.int IntKind.i64 0]))))))))))) := by kernel_rfl
-- 734 ms
end Go.Pd
end

section
namespace Go.Pd
open Go Go.Proofs Go.RowKit
set_option maxRecDepth 100000
section
variable {f : Bool} {n : Nat} {c : List D} {P S : Nat → Int}
/-- The states of a match of two players. -/
def stP (n : Nat) (S : Nat → Int) (a b : PlV) : List StV := sidesV (ntP n S a) (ntP n S b)
theorem stP_len (n : Nat) (S : Nat → Int) (a b : PlV) : (stP n S a b).length ≤ a.2.1.length := by
  have := sdGo_len (ntP n S a) (ntP n S b) 0 (ntP n S a).length
  rw [ntP_len] at this
  unfold stP sidesV
  rw [ntP_len]
  exact this
theorem ok21 (hc : HolesC n c P S) (a b : PlV) (hs : ∀ x ∈ [a, b], x.1.size ≤ 60 ∧ x.2.1.length ≤ 39) : OK5 21 [.slc f n c, .agg (plC a), .agg (plC b)]
    (ifK (plsGo n P S [] [a, b] != 0) (.tup [.slc true 0 [], .int .i64 (plsGo n P S [] [a, b])]) (.tup [slR stD (stP n S a b), .int .i64 0])) := by
  have k87 := ok87 (f := f) (g := true) hc [a, b] (by simp) hs
  cases hz : plsGo n P S [] [a, b] != 0 with
  | true =>
    obtain ⟨B, hb, t87⟩ := ex1 k87 rfl
    refine fnT hb Tryz.func21 (ord := O0) (N := N0) (by kernel_rfl) ((F21_eq _ _ _ _ _ _ _ _ _ _ _ _ _ _ _ _).trans ?_)
    have t87 : callOf B 87 [.slc f n c, .slc true 2 [.str a.1, .slc false a.2.1.length (a.2.1.flatMap netD), .int .i64 a.2.2, .str b.1, .slc false b.2.1.length (b.2.1.flatMap netD), .int .i64 b.2.2]] = _ := t87
    rw [t87, optK_some, intK_int, hz, ifK_true, ifK_true]
  | false =>
    have hz0 : plsGo n P S [] [a, b] = 0 := by simpa using hz
    have hv := pls_zero hz0
    have ha := plErr_zero (hv a (by simp))
    have hb' := plErr_zero (hv b (by simp))
    have hl : (ntP n S a).length = (ntP n S b).length := by rw [ntP_len, ntP_len, ha.2.2.1, hb'.2.2.1]
    have hla : (ntP n S a).length < 100 := by rw [ntP_len]; have := (hs a (by simp)).2; omega
    obtain ⟨B, hb, h87, h89, h88, _⟩ := exF [one 87 [.slc f n c, .slc true 2 ([a, b].flatMap plC)] (.int .i64 (plsGo n P S [] [a, b])), famPr 89 (.slc f n c) [a, b] (fun x => slR netD (ntP n S x)), one 88 [slR netD (ntP n S a), slR netD (ntP n S b)] (slR stD (stP n S a b))]
      ⟨one_good k87 rfl, famPr_good (fun x hx => ok89p hc (hv x hx)) (fun _ => rfl), one_good (ok88 (f := (ntP n S a).isEmpty) (g := (ntP n S b).isEmpty) _ _ hl hla) rfl, trivial⟩ rfl
    have t87 : callOf B 87 [.slc f n c, .slc true 2 [.str a.1, .slc false a.2.1.length (a.2.1.flatMap netD), .int .i64 a.2.2, .str b.1, .slc false b.2.1.length (b.2.1.flatMap netD), .int .i64 b.2.2]] = some (.int .i64 (plsGo n P S [] [a, b])) := h87 ()
    have ta : callOf B 89 [.agg [.str a.1, .slc false a.2.1.length (a.2.1.flatMap netD), .int .i64 a.2.2], .slc f n c] = some (.slc (ntP n S a).isEmpty (ntP n S a).length ((ntP n S a).flatMap netD)) := h89 ⟨a, by simp⟩
    have tb : callOf B 89 [.agg [.str b.1, .slc false b.2.1.length (b.2.1.flatMap netD), .int .i64 b.2.2], .slc f n c] = some (.slc (ntP n S b).isEmpty (ntP n S b).length ((ntP n S b).flatMap netD)) := h89 ⟨b, by simp⟩
    have t88 : callOf B 88 [.slc (ntP n S a).isEmpty (ntP n S a).length ((ntP n S a).flatMap netD), .slc (ntP n S b).isEmpty (ntP n S b).length ((ntP n S b).flatMap netD)] = some (.slc (stP n S a b).isEmpty (stP n S a b).length ((stP n S a b).flatMap stD)) := h88 ()
    refine fnT hb Tryz.func21 (ord := O0) (N := N0) (by kernel_rfl) ((F21_eq _ _ _ _ _ _ _ _ _ _ _ _ _ _ _ _).trans ?_)
    rw [t87, optK_some, intK_int, hz, ifK_false, ifK_false, ta, optK_some, slcK_slc, tb, optK_some, slcK_slc, t88, optK_some, slcK_slc]
    rfl
theorem ok4 (hc : HolesC n c P S) (a b : PlV) : OK5 4 [.slc f n c, .agg (plC a), .agg (plC b)] (.bool true) := by
  have k15 := ok15l (f := f) (g := true) (n := n) (c := c) [a, b] (by simp)
  cases hfew : ifK (shPs [a, b]) (decide ((n : Int) ≤ 39)) false with
  | false =>
    rw [hfew] at k15
    obtain ⟨B, hb, h15, h16, _⟩ := exF [one 15 [.slc f n c, .slc true 2 ([a, b].flatMap plC)] (.bool false), one 16 [] (.bool true)] ⟨one_good k15 rfl, one_good awake_ok rfl, trivial⟩ rfl
    have t15 : callOf B 15 [.slc f n c, .slc true 2 [.str a.1, .slc false a.2.1.length (a.2.1.flatMap netD), .int .i64 a.2.2, .str b.1, .slc false b.2.1.length (b.2.1.flatMap netD), .int .i64 b.2.2]] = some (.bool false) := h15 ()
    have t16 : callOf B 16 [] = some (.bool true) := h16 ()
    refine fnT hb Tryz.func4 (ord := O4) (N := N0) (by kernel_rfl) ((F4_eq _ _ _ _ _ _ _ _ _ _ _ _ _ _ _ _).trans ?_)
    rw [t15, optK_some, boolK_bool, show (!false) = true from rfl, ifK_true, t16, optK_some, boolK_bool]
  | true =>
    rw [hfew] at k15
    have hsh : shPs [a, b] = true := by
      cases hs : shPs [a, b] with
      | true => rfl
      | false => rw [hs] at hfew; cases hfew
    have hs := shPs_mem hsh
    have hsa := hs a (by simp)
    have hsb := hs b (by simp)
    have k21 := ok21 (f := f) hc a b hs
    have k23 : ∀ x ∈ [a, b], OK5 23 [.slc f n c, .agg (plC x)] (.int .i64 (plErr n P S x.1 x.2.1 x.2.2)) := fun x hx => ok23 hc x.1 x.2.1 x.2.2 (by have := (hs x hx).2; omega)
    cases hz : plsGo n P S [] [a, b] != 0 with
    | true =>
      rw [hz, ifK_true] at k21
      obtain ⟨B, hb, h15, h16, h21, h23, h24, h22, h28, h27, _⟩ := exF [one 15 [.slc f n c, .slc true 2 ([a, b].flatMap plC)] (.bool true), one 16 [] (.bool true), one 21 [.slc f n c, .agg (plC a), .agg (plC b)] (.tup [.slc true 0 [], .int .i64 (plsGo n P S [] [a, b])]), famPl 23 (.slc f n c) [a, b] fun x => .int .i64 (plErr n P S x.1 x.2.1 x.2.2), fam24, fam22, one 28 [.slc true 0 []] (.slc true 0 []), one 27 [.slc true 0 [], .nils] (.bool true)]
        ⟨one_good k15 rfl, one_good awake_ok rfl, one_good k21 rfl, famPl_good k23 (fun _ => rfl), fam24_good, fam22_good, one_good (ok28 (f := true) [] (by simp)) rfl, one_good ok27n rfl, trivial⟩ rfl
      have t15 : callOf B 15 [.slc f n c, .slc true 2 [.str a.1, .slc false a.2.1.length (a.2.1.flatMap netD), .int .i64 a.2.2, .str b.1, .slc false b.2.1.length (b.2.1.flatMap netD), .int .i64 b.2.2]] = some (.bool true) := h15 ()
      have t16 : callOf B 16 [] = some (.bool true) := h16 ()
      have t21 : callOf B 21 [.slc f n c, .agg [.str a.1, .slc false a.2.1.length (a.2.1.flatMap netD), .int .i64 a.2.2], .agg [.str b.1, .slc false b.2.1.length (b.2.1.flatMap netD), .int .i64 b.2.2]] = some (.tup [.slc true 0 [], .int .i64 (plsGo n P S [] [a, b])]) := h21 ()
      have ta : callOf B 23 [.slc f n c, .agg [.str a.1, .slc false a.2.1.length (a.2.1.flatMap netD), .int .i64 a.2.2]] = some (.int .i64 (plErr n P S a.1 a.2.1 a.2.2)) := h23 ⟨a, by simp⟩
      have tb : callOf B 23 [.slc f n c, .agg [.str b.1, .slc false b.2.1.length (b.2.1.flatMap netD), .int .i64 b.2.2]] = some (.int .i64 (plErr n P S b.1 b.2.1 b.2.2)) := h23 ⟨b, by simp⟩
      have t24 : ∀ q e, callOf B 24 [.bool q, .int .i64 e] = some (.int .i64 (ifK q e 0)) := fun q e => h24 (q, e)
      have t22 : callOf B 22 [.slc true 3 [.int .i64 (plErr n P S a.1 a.2.1 a.2.2), .int .i64 (plErr n P S b.1 b.2.1 b.2.2), .int .i64 (ifK (ByteArray.toList a.1 == ByteArray.toList b.1) 9 0)]] = some (.int .i64 (plsGo n P S [] [a, b])) := by
        rw [← pls_two]
        exact h22 ⟨[_, _, _], by simp⟩
      have t28 : callOf B 28 [.slc true 0 []] = some (.slc true 0 []) := h28 ()
      have t27 : callOf B 27 [.slc true 0 [], .nils] = some (.bool true) := h27 ()
      have hzz : (plsGo n P S [] [a, b] == 0) = false := by simpa using hz
      refine fnT hb Tryz.func4 (ord := O4) (N := N0) (by kernel_rfl) ((F4_eq _ _ _ _ _ _ _ _ _ _ _ _ _ _ _ _).trans ?_)
      rw [t15, optK_some, boolK_bool, show (!true) = false from rfl, ifK_false, t21, optK_some, tup2, cellK_some rfl, slcK_slc, cellK_some rfl, intK_int, ta, optK_some, intK_int, tb, optK_some, intK_int, t24, optK_some, intK_int, t22, optK_some, intK_int, hzz, ifK_false, beq_self_eq_true, ifK_true, t28, optK_some, slcK_slc, t27, optK_some, boolK_bool, ifK_true, t16, optK_some, boolK_bool]
    | false =>
      rw [hz, ifK_false] at k21
      have hz0 : plsGo n P S [] [a, b] = 0 := by simpa using hz
      have hv := pls_zero hz0
      have ha := plErr_zero (hv a (by simp))
      have hb' := plErr_zero (hv b (by simp))
      have hl : (ntP n S a).length = (ntP n S b).length := by rw [ntP_len, ntP_len, ha.2.2.1, hb'.2.2.1]
      have hla : (ntP n S a).length ≤ 1000 := by rw [ntP_len]; omega
      have hst : (stP n S a b).length ≤ 1000 := by have := stP_len n S a b; omega
      obtain ⟨B, hb, h15, h16, h21, h23, h24, h22, h26, h25, h28, h27, _⟩ := exF [one 15 [.slc f n c, .slc true 2 ([a, b].flatMap plC)] (.bool true), one 16 [] (.bool true), one 21 [.slc f n c, .agg (plC a), .agg (plC b)] (.tup [slR stD (stP n S a b), .int .i64 0]), famPl 23 (.slc f n c) [a, b] fun x => .int .i64 (plErr n P S x.1 x.2.1 x.2.2), fam24, fam22, famPl 26 (.slc f n c) [a, b] fun x => slR netD (ntP n S x), one 25 [slR netD (ntP n S a), slR netD (ntP n S b)] (slR stD (stP n S a b)), one 28 [slR stD (stP n S a b)] (slR stD (stP n S a b)), one 27 [slR stD (stP n S a b), slR stD (stP n S a b)] (.bool true)]
        ⟨one_good k15 rfl, one_good awake_ok rfl, one_good k21 rfl, famPl_good k23 (fun _ => rfl), fam24_good, fam22_good, famPl_good (fun x hx => ok26p hc (hv x hx)) (fun _ => rfl), one_good (ok25 (f := (ntP n S a).isEmpty) (g := (ntP n S b).isEmpty) _ _ hl hla) rfl, one_good (ok28 (f := (stP n S a b).isEmpty) _ hst) rfl, one_good (ok27 (f := (stP n S a b).isEmpty) (g := (stP n S a b).isEmpty) _ hst) rfl, trivial⟩ rfl
      have t15 : callOf B 15 [.slc f n c, .slc true 2 [.str a.1, .slc false a.2.1.length (a.2.1.flatMap netD), .int .i64 a.2.2, .str b.1, .slc false b.2.1.length (b.2.1.flatMap netD), .int .i64 b.2.2]] = some (.bool true) := h15 ()
      have t16 : callOf B 16 [] = some (.bool true) := h16 ()
      have t21 : callOf B 21 [.slc f n c, .agg [.str a.1, .slc false a.2.1.length (a.2.1.flatMap netD), .int .i64 a.2.2], .agg [.str b.1, .slc false b.2.1.length (b.2.1.flatMap netD), .int .i64 b.2.2]] = some (.tup [.slc (stP n S a b).isEmpty (stP n S a b).length ((stP n S a b).flatMap stD), .int .i64 0]) := h21 ()
      have ta : callOf B 23 [.slc f n c, .agg [.str a.1, .slc false a.2.1.length (a.2.1.flatMap netD), .int .i64 a.2.2]] = some (.int .i64 (plErr n P S a.1 a.2.1 a.2.2)) := h23 ⟨a, by simp⟩
      have tb : callOf B 23 [.slc f n c, .agg [.str b.1, .slc false b.2.1.length (b.2.1.flatMap netD), .int .i64 b.2.2]] = some (.int .i64 (plErr n P S b.1 b.2.1 b.2.2)) := h23 ⟨b, by simp⟩
      have t24 : ∀ q e, callOf B 24 [.bool q, .int .i64 e] = some (.int .i64 (ifK q e 0)) := fun q e => h24 (q, e)
      have t22 : callOf B 22 [.slc true 3 [.int .i64 (plErr n P S a.1 a.2.1 a.2.2), .int .i64 (plErr n P S b.1 b.2.1 b.2.2), .int .i64 (ifK (ByteArray.toList a.1 == ByteArray.toList b.1) 9 0)]] = some (.int .i64 0) := by
        have h : callOf B 22 [.slc true 3 [.int .i64 (plErr n P S a.1 a.2.1 a.2.2), .int .i64 (plErr n P S b.1 b.2.1 b.2.2), .int .i64 (ifK (ByteArray.toList a.1 == ByteArray.toList b.1) 9 0)]] = some (.int .i64 (plsGo n P S [] [a, b])) := by
          rw [← pls_two]
          exact h22 ⟨[_, _, _], by simp⟩
        rwa [hz0] at h
      have t26a : callOf B 26 [.slc f n c, .agg [.str a.1, .slc false a.2.1.length (a.2.1.flatMap netD), .int .i64 a.2.2]] = some (.slc (ntP n S a).isEmpty (ntP n S a).length ((ntP n S a).flatMap netD)) := h26 ⟨a, by simp⟩
      have t26b : callOf B 26 [.slc f n c, .agg [.str b.1, .slc false b.2.1.length (b.2.1.flatMap netD), .int .i64 b.2.2]] = some (.slc (ntP n S b).isEmpty (ntP n S b).length ((ntP n S b).flatMap netD)) := h26 ⟨b, by simp⟩
      have t25 : callOf B 25 [.slc (ntP n S a).isEmpty (ntP n S a).length ((ntP n S a).flatMap netD), .slc (ntP n S b).isEmpty (ntP n S b).length ((ntP n S b).flatMap netD)] = some (.slc (stP n S a b).isEmpty (stP n S a b).length ((stP n S a b).flatMap stD)) := h25 ()
      have t28 : callOf B 28 [.slc (stP n S a b).isEmpty (stP n S a b).length ((stP n S a b).flatMap stD)] = some (.slc (stP n S a b).isEmpty (stP n S a b).length ((stP n S a b).flatMap stD)) := h28 ()
      have t27 : callOf B 27 [.slc (stP n S a b).isEmpty (stP n S a b).length ((stP n S a b).flatMap stD), .slc (stP n S a b).isEmpty (stP n S a b).length ((stP n S a b).flatMap stD)] = some (.bool true) := h27 ()
      refine fnT hb Tryz.func4 (ord := O4) (N := N0) (by kernel_rfl) ((F4_eq _ _ _ _ _ _ _ _ _ _ _ _ _ _ _ _).trans ?_)
      rw [t15, optK_some, boolK_bool, show (!true) = false from rfl, ifK_false, t21, optK_some, tup2, cellK_some rfl, slcK_slc, cellK_some rfl, intK_int, ta, optK_some, intK_int, tb, optK_some, intK_int, t24, optK_some, intK_int, t22, optK_some, intK_int, show ((0 : Int) == 0) = true from rfl, ifK_true, t26a, optK_some, slcK_slc, t26b, optK_some, slcK_slc, t25, optK_some, slcK_slc, ifK_true, t28, optK_some, slcK_slc, t27, optK_some, boolK_bool, ifK_true, t16, optK_some, boolK_bool]
end
end Go.Pd
end
