/-
  Chapter 5: what FormatPreorder makes of open arguments (printed by the desk's tool, each equation proved by the kernel).
  Chapter 5: count-back of lists of one length is an order; ranks by it.
  Chapter 5: FormatPreorder is true of all lists.
-/
import Derived.Test.YtanpmgfaieekhaaGreatDoorFmA
import Derived.KernelRfl
import Derived.Test.YtanpmgfaieekhaaGreatDoorFmT
section
namespace Go.Pd
open Go Go.Proofs
set_option maxRecDepth 100000
def N9 : NTab := fun p => match p with
  | 7 => nm [0] [44,91,94] [44,91,94]
  | 31 => nm [0,3] [44,91,94] [44,91,94]
  | 506 => nm [0,3,5,46,47] [91] [44,91,94]
  | 1018 => some { keep := [0, 3, 5, 99, 100], kl := [91], ren := [(44, 44), (91, 91), (94, 94)], cl := [44] }
  | 129638 => nm [0,3,5,6,46,47,51,52] [91] [44,91,94]
  | 1042842 => nm [0,3,5,10,11,99,100,104,105] [91] [44,91,94]
  | 33187431 => nm [0,3,5,6,8,46,47,51,52] [91] [44,91,94]
  | 133483827 => nm [0,3,5,10,11,12,99,100,104,105] [91] [44,91,94]
  | 266967655 => nm [0,3,5,10,11,12,99,100,104,105] [91] [44,91,94]
  | 1067870622 => nm [0,3,5,10,11,12,99,100,104,105,156,157] [91] [44,91,94]
  | _ => none
noncomputable def F9_33187431 (call : CL) (L : Nat) (C : Nat → Nat) (h i : Nat) (M : Bool) (O : Nat) (K : List D) (V : Bool) (W : Nat) (U : List D) (B : Nat) (e q r z : Int) (j : List D) (S : Int) : Option D :=
 cutAt (TEn call L C) O0 N9 FinM.canon Tryz.f9 (bt 24 15099487) [h, i]  (C 33187431) (St.mk (D.slc M O K :: J :: J :: D.slc V W U :: J :: D.own 44 0 B :: D.int .i64 e :: J :: D.int .i64 S :: jn 37 (D.int .i64 q :: D.int .i64 e :: J :: J :: J :: D.int .i64 r :: D.int .i64 z :: jn 145 [])) (zn 44 ((1, some (Ob.nst 25 3 1 j)) :: zn 153 [])))
noncomputable def F9_129638 (call : CL) (L : Nat) (C : Nat → Nat) (h i : Nat) (M : Bool) (O : Nat) (K : List D) (U : Bool) (V : Nat) (S : List D) (B : Nat) (e q r z : Int) (j : List D) : Option D :=
 loopAt (TEn call L C) O0 N9 FinM.canon Tryz.f9 (bt 16 26207) [h]  i (St.mk (D.slc M O K :: J :: J :: D.slc U V S :: J :: D.own 44 0 B :: D.int .i64 e :: jn 39 (D.int .i64 q :: D.int .i64 e :: J :: J :: J :: D.int .i64 r :: D.int .i64 z :: jn 145 [])) (zn 44 ((1, some (Ob.nst 25 3 1 j)) :: zn 153 [])))
noncomputable def F9_1067870622 (call : CL) (L : Nat) (C : Nat → Nat) (q i j : Nat) (U : Bool) (V : Nat) (S : List D) (Y : Bool) (Z : Nat) (X : List D) (O : Nat) (e W h M r : Int) (K : List D) (z B : Int) : Option D :=
 loopAt (TEn call L C) O0 N9 FinM.canon Tryz.f9 (bt 29 254987455) [q, i]  j (St.mk (D.slc U V S :: J :: J :: D.slc Y Z X :: J :: D.own 44 0 O :: J :: J :: J :: J :: D.int .i64 e :: D.int .i64 W :: D.int .i64 h :: jn 86 (D.int .i64 M :: D.int .i64 e :: J :: J :: J :: D.int .i64 r :: D.int .i64 h :: jn 50 (D.int .i64 z :: D.int .i64 B :: jn 40 []))) (zn 44 ((1, some (Ob.arr 25 1 K false)) :: zn 153 [])))
noncomputable def F9_266967655 (call : CL) (L : Nat) (C : Nat → Nat) (j i : Nat) (M : Bool) (O : Nat) (K : List D) (V : Bool) (W : Nat) (U : List D) (B : Nat) (e h z q : Int) (r : List D) (S : Int) : Option D :=
 cutAt (TEn call L C) O0 N9 FinM.canon Tryz.f9 (bt 27 120769727) [j, i]  (C 266967655) (St.mk (D.slc M O K :: J :: J :: D.slc V W U :: J :: D.own 44 0 B :: J :: J :: J :: J :: D.int .i64 e :: D.int .i64 S :: D.int .i64 h :: jn 86 (D.int .i64 z :: D.int .i64 e :: J :: J :: J :: D.int .i64 q :: D.int .i64 h :: jn 92 [])) (zn 44 ((1, some (Ob.arr 25 1 r false)) :: zn 153 [])))
noncomputable def F9_133483827 (call : CL) (L : Nat) (C : Nat → Nat) (j i : Nat) (M : Bool) (O : Nat) (K : List D) (V : Bool) (W : Nat) (U : List D) (B : Nat) (e S h z q : Int) (r : List D) : Option D :=
 cutAt (TEn call L C) O0 N9 FinM.canon Tryz.f9 (bt 26 53660863) [j, i]  (C 133483827) (St.mk (D.slc M O K :: J :: J :: D.slc V W U :: J :: D.own 44 0 B :: J :: J :: J :: J :: D.int .i64 e :: D.int .i64 S :: D.int .i64 h :: jn 86 (D.int .i64 z :: D.int .i64 e :: J :: J :: J :: D.int .i64 q :: D.int .i64 h :: jn 92 [])) (zn 44 ((1, some (Ob.arr 25 1 r false)) :: zn 153 [])))
noncomputable def F9_1042842 (call : CL) (L : Nat) (C : Nat → Nat) (i h : Nat) (M : Bool) (O : Nat) (K : List D) (V : Bool) (W : Nat) (U : List D) (B : Nat) (e z : Int) (r : List D) (S j q : Int) : Option D :=
 loopAt (TEn call L C) O0 N9 FinM.canon Tryz.f9 (bt 19 183487) [i]  h (St.mk (D.slc M O K :: J :: J :: D.slc V W U :: J :: D.own 44 0 B :: J :: J :: J :: J :: D.int .i64 e :: D.int .i64 S :: jn 87 (D.int .i64 z :: D.int .i64 e :: J :: J :: J :: D.int .i64 j :: D.int .i64 q :: jn 92 [])) (zn 44 ((1, some (Ob.arr 25 1 r false)) :: zn 153 [])))
noncomputable def F9_1018 (call : CL) (L : Nat) (C : Nat → Nat) (e : Nat) (z : Bool) (B : Nat) (r : List D) (M : Bool) (O : Nat) (K : List D) (q : Nat) (i : List D) (j h : Int) : Option D :=
 loopAt (TEn call L C) O0 N9 FinM.canon Tryz.f9 (bt 9 191) []  e (St.mk (D.slc z B r :: J :: J :: D.slc M O K :: J :: D.own 44 0 q :: jn 93 (D.int .i64 j :: D.int .i64 h :: jn 97 [])) (zn 44 ((1, some (Ob.arr 25 1 i false)) :: zn 153 [])))
noncomputable def F9_506 (call : CL) (L : Nat) (C : Nat → Nat) (e : Nat) (z : Bool) (B : Nat) (r : List D) (M : Bool) (O : Nat) (K : List D) (q : Nat) (i j : Int) (h : List D) : Option D :=
 loopAt (TEn call L C) O0 N9 FinM.canon Tryz.f9 (bt 8 95) []  e (St.mk (D.slc z B r :: J :: J :: D.slc M O K :: J :: D.own 44 0 q :: jn 40 (D.int .i64 i :: D.int .i64 j :: jn 150 [])) (zn 44 ((1, some (Ob.nst 25 3 1 h)) :: zn 153 [])))
noncomputable def F9_31 (call : CL) (L : Nat) (C : Nat → Nat) (h : Bool) (i : Nat) (e : List D) (q : Bool) (r : Nat) (j : List D) : Option D :=
 cutAt (TEn call L C) O0 N9 FinM.canon Tryz.f9 [true, true, true, true] []  (C 31) (St.mk (D.slc h i e :: J :: J :: D.slc q r j :: jn 194 []) (zn 198 []))
noncomputable def F9_7 (call : CL) (L : Nat) (C : Nat → Nat) (h : Bool) (i : Nat) (e : List D) : Option D :=
 cutAt (TEn call L C) O0 N9 FinM.canon Tryz.f9 [true, true] []  (C 7) (St.mk (D.slc h i e :: jn 197 []) (zn 198 []))
theorem F9_33187431_eq (call : CL) (L : Nat) (C : Nat → Nat) (j q : Nat) (O : Bool) (S : Nat) (M : List D) (W : Bool) (X : Nat) (V : List D) (i : Nat) (e z B K : Int) (h : List D) (U : Int) (hC : ∀ t, C t = 1) : F9_33187431 call L C j q O S M W X V i e z B K h U =
 (chkK (decide (0 ≤ e ∧ e < (i : Int)))
 (cellK h (Int.toNat e * 1) fun Z =>
 (nilK Z
 (chkK (decide (0 ≤ e ∧ e < (i : Int)))
 (chkK (decide (Int.toNat e * 1 < List.length h))
 (F9_129638 call L C j q O S M W X V i e z B (IntKind.wrap .i64 (K + 1)) (List.set h (Int.toNat e * 1) (D.slc false 1 [D.int .i64 U]))))) fun a0 r Y => chkK (!a0)
 (chkK (decide ((r + 1) * 8 ≤ limit ∧ r + 1 ≤ 9223372036854775807))
 (chkK (decide (0 ≤ e ∧ e < (i : Int)))
 (chkK (decide (Int.toNat e * 1 < List.length (List.set h (Int.toNat e * 1) J)))
 (F9_129638 call L C j q O S M W X V i e z B (IntKind.wrap .i64 (K + 1)) (List.set (List.set h (Int.toNat e * 1) J) (Int.toNat e * 1) (D.slc false (r + 1) (Y ++ [D.int .i64 U])))))))))) := by
  unfold F9_33187431
  rw [hC]
  kernel_rfl
theorem F9_129638_eq (call : CL) (L : Nat) (C : Nat → Nat) (r V : Nat) (M : Bool) (j : Nat) (i : List D) (S : Bool) (U : Nat) (O : List D) (K : Nat) (e B J h : Int) (z : List D) : F9_129638 call L C r (V + 1) M j i S U O K e B J h z =
 (ifK (decide (h < J))
 (chkK (decide (0 ≤ e ∧ e < (j : Int)))
 (cellK i (Int.toNat e * 1) fun Z => slcK Z fun a3 a5 X => chkK (decide (0 ≤ h ∧ h < (j : Int)))
 (cellK i (Int.toNat h * 1) fun a0 => slcK a0 fun a4 a6 Y => optK (call 47 [D.slc a3 a5 X, D.slc a4 a6 Y]) fun a7 => tupK a7 2 fun W => cellK W 0 fun a1 => intK .i64 a1 fun q => cellK W 1 fun a2 => intK .i64 a2 fun a8 => ifK (a8 != 0)
 (some (D.bool false))
 (ifK (decide (q < -1))
 (some (D.bool false))
 (ifK (decide (q > 1))
 (some (D.bool false))
 (ifK (e == h)
 (ifK (q != 0)
 (some (D.bool false))
 (F9_33187431 call L C r V M j i S U O K e B J h z q))
 (F9_33187431 call L C r V M j i S U O K e B J h z q)))))))
 (F9_506 call L C r M j i S U O K B (IntKind.wrap .i64 (e + 1)) z)) := by kernel_rfl
theorem F9_1067870622_eq (call : CL) (L : Nat) (C : Nat → Nat) (z r Y : Nat) (O : Bool) (S : Nat) (M : List D) (W : Bool) (X : Nat) (V : List D) (q : Nat) (e U h K B : Int) (j : List D) (J i : Int) : F9_1067870622 call L C z r (Y + 1) O S M W X V q e U h K B j J i =
 (ifK (decide (i < J))
 (chkK (decide (0 ≤ e ∧ e < (q : Int)))
 (cellK j (Int.toNat e * 1) fun a2 => slcK a2 fun _f_7 a8 a1 => chkK (decide (0 ≤ h ∧ h < (a8 : Int)))
 (cellK a1 (Int.toNat h * 1) fun a3 => intK .i64 a3 fun ab => ifK (decide (ab ≤ 0))
 (chkK (decide (0 ≤ h ∧ h < (q : Int)))
 (cellK j (Int.toNat h * 1) fun a4 => slcK a4 fun _f_8 a9 Z => chkK (decide (0 ≤ i ∧ i < (a9 : Int)))
 (cellK Z (Int.toNat i * 1) fun a5 => intK .i64 a5 fun ac => ifK (decide (ac ≤ 0))
 (chkK (decide (0 ≤ e ∧ e < (q : Int)))
 (cellK j (Int.toNat e * 1) fun a6 => slcK a6 fun _f_9 aa a0 => chkK (decide (0 ≤ i ∧ i < (aa : Int)))
 (cellK a0 (Int.toNat i * 1) fun a7 => intK .i64 a7 fun ad => ifK (decide (ad > 0))
 (some (D.bool false))
 (F9_1067870622 call L C z r Y O S M W X V q e U h K B j J (IntKind.wrap .i64 (i + 1))))))
 (F9_1067870622 call L C z r Y O S M W X V q e U h K B j J (IntKind.wrap .i64 (i + 1))))))
 (F9_1067870622 call L C z r Y O S M W X V q e U h K B j J (IntKind.wrap .i64 (i + 1))))))
 (F9_1042842 call L C z r O S M W X V q e K j U B (IntKind.wrap .i64 (h + 1)))) := by kernel_rfl
theorem F9_266967655_eq (call : CL) (L : Nat) (C : Nat → Nat) (i h : Nat) (M : Bool) (e : Nat) (K : List D) (U : Bool) (V : Nat) (S : List D) (J : Nat) (j r B q : Int) (z : List D) (O : Int) (W : ∀ t, C t = 1) : F9_266967655 call L C i h M e K U V S J j r B q z O =
 (F9_1067870622 call L C i h L M e K U V S J j O r B q z ((e : Int)) 0) := by
  unfold F9_266967655
  rw [W]
  kernel_rfl
theorem F9_133483827_eq (call : CL) (L : Nat) (C : Nat → Nat) (r q : Nat) (O : Bool) (S : Nat) (M : List D) (V : Bool) (j : Nat) (i : List D) (K : Nat) (e U h J z : Int) (B : List D) (Y : ∀ t, C t = 1) : F9_133483827 call L C r q O S M V j i K e U h J z B  =
 (chkK (decide (0 ≤ h ∧ h < (j : Int)))
 (cellK i (Int.toNat h * 1) fun W => intK .i64 W fun a0 => chkK (decide (0 ≤ e ∧ e < (j : Int)))
 (cellK i (Int.toNat e * 1) fun X => intK .i64 X fun Z => ifK (decide (a0 < Z))
 (F9_266967655 call L C r q O S M V j i K e h J z B (IntKind.wrap .i64 (U + 1)))
 (F9_266967655 call L C r q O S M V j i K e h J z B U)))) := by
  unfold F9_133483827
  rw [Y]
  kernel_rfl
theorem F9_1042842_eq (call : CL) (L : Nat) (C : Nat → Nat) (z V : Nat) (M : Bool) (O : Nat) (K : List D) (U : Bool) (r : Nat) (q : List D) (j : Nat) (e J : Int) (i : List D) (S B h : Int) : F9_1042842 call L C z (V + 1) M O K U r q j e J i S B h =
 (ifK (decide (h < B))
 (chkK (decide (0 ≤ e ∧ e < (j : Int)))
 (cellK i (Int.toNat e * 1) fun a5 => slcK a5 fun _f_4 a8 W => chkK (decide (0 ≤ h ∧ h < (a8 : Int)))
 (cellK W (Int.toNat h * 1) fun a6 => intK .i64 a6 fun ac => chkK (decide (0 ≤ h ∧ h < (j : Int)))
 (cellK i (Int.toNat h * 1) fun a7 => slcK a7 fun _f_5 a9 X => chkK (decide (0 ≤ e ∧ e < (a9 : Int)))
 (cellK X (Int.toNat e * 1) fun Z => intK .i64 Z fun ad => ifK (ac != IntKind.wrap .i64 (0 - ad))
 (some (D.bool false))
 (chkK (decide (0 ≤ e ∧ e < (r : Int)))
 (cellK q (Int.toNat e * 1) fun a0 => intK .i64 a0 fun ae => chkK (decide (0 ≤ h ∧ h < (r : Int)))
 (cellK q (Int.toNat h * 1) fun a1 => intK .i64 a1 fun af => chkK (decide (0 ≤ e ∧ e < (j : Int)))
 (cellK i (Int.toNat e * 1) fun a2 => slcK a2 fun _f_6 aa Y => chkK (decide (0 ≤ h ∧ h < (aa : Int)))
 (cellK Y (Int.toNat h * 1) fun a3 => intK .i64 a3 fun ag => ifK (!decide (ae < af) == decide (ag < 0))
 (some (D.bool false))
 (F9_133483827 call L C z V M O K U r q j e S h J B i)))))))))))
 (chkK (decide (0 ≤ e ∧ e < (r : Int)))
 (cellK q (Int.toNat e * 1) fun a4 => intK .i64 a4 fun ab => ifK (ab != S)
 (some (D.bool false))
 (F9_1018 call L C z M O K U r q j i J (IntKind.wrap .i64 (e + 1)))))) := by kernel_rfl
theorem F9_1018_eq (call : CL) (L : Nat) (C : Nat → Nat) (j : Nat) (B : Bool) (i : Nat) (z : List D) (K : Bool) (M : Nat) (J : List D) (r : Nat) (q : List D) (h e : Int) : F9_1018 call L C  (j + 1) B i z K M J r q h e =
 (ifK (decide (e < h))
 (F9_1042842 call L C j L B i z K M J r e h q 1 ((i : Int)) 0)
 (optK (call 16 []) fun S => boolK S fun O => some (D.bool O))) := by kernel_rfl
theorem F9_506_eq (call : CL) (L : Nat) (C : Nat → Nat) (M : Nat) (z : Bool) (e : Nat) (r : List D) (J : Bool) (K : Nat) (B : List D) (q : Nat) (i j : Int) (h : List D) : F9_506 call L C  (M + 1) z e r J K B q i j h =
 (ifK (decide (j < i))
 (F9_129638 call L C M L z e r J K B q j i ((e : Int)) 0 h)
 (F9_1018 call L C L z e r J K B q h ((e : Int)) 0)) := by kernel_rfl
theorem F9_31_eq (call : CL) (L : Nat) (C : Nat → Nat) (i : Bool) (e : Nat) (h : List D) (q : Bool) (r : Nat) (j : List D) (z : ∀ t, C t = 1) : F9_31 call L C  i e h q r j =
 (chkK (decide (0 ≤ (e : Int) ∧ (e : Int) ≤ (e : Int) ∧ (e : Int) * (24 : Int) ≤ 140737488355328 ∧ (e : Int) ≤ 9223372036854775807))
 (F9_506 call L C L i e h q r j (Int.toNat (e : Int)) ((e : Int)) 0 (repD (Int.toNat (e : Int)) [D.nils]))) := by
  unfold F9_31
  rw [z]
  kernel_rfl
theorem F9_7_eq (call : CL) (L : Nat) (C : Nat → Nat) (i : Bool) (e : Nat) (h : List D) (z : ∀ t, C t = 1) : F9_7 call L C  i e h  =
 (optK (call 48 [D.slc i e h]) fun B => tupK B 2 fun c => cellK c 0 fun d => slcK d fun f j q => cellK c 1 fun r => intK .i64 r fun J => ifK (J != 0)
 (some (D.bool false))
 (ifK ((j : Int) != (e : Int))
 (some (D.bool false))
 (F9_31 call L C i e h f j q))) := by
  unfold F9_7
  rw [z]
  kernel_rfl
theorem F9_eq (call : CL) (L : Nat) (C : Nat → Nat) (i : Bool) (e : Nat) (h : List D) : evFnT (TEn call L C) O0 N9 FinM.canon Tryz.f9 [D.slc i e h] =
 (ifK (decide ((e : Int) > 6))
 (optK (call 16 []) fun r => boolK r fun b => some (D.bool b))
 (optK (call 46 [D.slc i e h]) fun B => boolK B fun j => ifK (!j)
 (optK (call 16 []) fun J => boolK J fun q => some (D.bool q))
 (optK (call 50 [D.slc i e h]) fun K => intK .i64 K fun x => ifK (x != 0)
 (optK (call 16 []) fun M => boolK M fun z => some (D.bool z))
 (F9_7 call L C i e h)))) := by kernel_rfl
end Go.Pd
end
section
namespace Go.Pd
open Go
def cb1 (x y r : Int) : Int := ifK (decide (x < y)) (-1) (ifK (decide (x > y)) 1 r)
theorem cb1_le {x y r : Int} : cb1 x y r ≤ 0 ↔ x < y ∨ (x = y ∧ r ≤ 0) := by
  unfold cb1
  by_cases h1 : x < y
  · simp [h1, ifK]
  · by_cases h2 : x > y
    · simp [h1, h2, ifK]; omega
    · simp [h1, h2, ifK]; omega
theorem cb1_neg {x y r : Int} : cb1 y x (-r) = -(cb1 x y r) := by
  unfold cb1
  by_cases h1 : x < y
  · have h2 : ¬ y < x := by omega
    simp [h1, h2, ifK]
  · by_cases h2 : y < x
    · simp [h1, h2, ifK]
    · simp [h1, h2, ifK]
theorem cbGo_cons (a b : List Int) (c : Nat) (cs : List Nat) : cbGo a b (c :: cs) = ifK (decide (c > a.length)) (cbGo a b cs) (cb1 (sumL (a.drop (a.length - c))) (sumL (b.drop (a.length - c))) (cbGo a b cs)) := rfl
theorem cbGo_anti {a b : List Int} (h : a.length = b.length) : ∀ cs, cbGo b a cs = -(cbGo a b cs)
  | [] => rfl
  | c :: cs => by
    rw [cbGo_cons, cbGo_cons, ← h, cbGo_anti h cs]
    cases decide (c > a.length) with
    | true => rfl
    | false => exact cb1_neg
theorem cbGo_rng (a b : List Int) : ∀ cs, -1 ≤ cbGo a b cs ∧ cbGo a b cs ≤ 1
  | [] => ⟨by simp [cbGo], by simp [cbGo]⟩
  | c :: cs => by
    have ih := cbGo_rng a b cs
    rw [cbGo_cons]
    unfold cb1
    cases decide (c > a.length) with
    | true => exact ih
    | false =>
      rw [ifK_false]
      cases decide (sumL (a.drop (a.length - c)) < sumL (b.drop (a.length - c))) with
      | true => simp [ifK]
      | false =>
        rw [ifK_false]
        cases decide (sumL (a.drop (a.length - c)) > sumL (b.drop (a.length - c))) with
        | true => simp [ifK]
        | false => exact ih
theorem cbGo_trans {a b c : List Int} (h1 : a.length = b.length) : ∀ cs, cbGo a b cs ≤ 0 → cbGo b c cs ≤ 0 → cbGo a c cs ≤ 0
  | [], _, _ => by simp [cbGo]
  | k :: cs, h2, h3 => by
    have ih := cbGo_trans (c := c) h1 cs
    rw [cbGo_cons] at h2 h3 ⊢
    rw [← h1] at h3
    cases hd : decide (k > a.length) with
    | true =>
      rw [hd] at h2 h3
      exact ih h2 h3
    | false =>
      rw [hd, ifK_false] at h2 h3
      rw [ifK_false]
      rw [cb1_le] at h2 h3 ⊢
      rcases h2 with h2 | ⟨h2, q2⟩ <;> rcases h3 with h3 | ⟨h3, q3⟩
      · exact .inl (by omega)
      · exact .inl (by omega)
      · exact .inl (by omega)
      · exact .inr ⟨by omega, ih q2 q3⟩
theorem cb_anti {a b : List Int} (h : a.length = b.length) : cbV b a = -(cbV a b) := by
  unfold cbV
  rw [← h]
  exact cbGo_anti h _
theorem cb_rng (a b : List Int) : -1 ≤ cbV a b ∧ cbV a b ≤ 1 := cbGo_rng a b _
theorem cb_self (a : List Int) : cbV a a = 0 := by
  have := cb_anti (a := a) (b := a) rfl
  omega
theorem cb_trans {a b c : List Int} (h1 : a.length = b.length) (h2 : cbV a b ≤ 0) (h3 : cbV b c ≤ 0) : cbV a c ≤ 0 := by
  unfold cbV at *
  rw [← h1] at h3
  exact cbGo_trans h1 _ h2 h3
theorem cb_lt {a b c : List Int} (h1 : a.length = b.length) (h2 : b.length = c.length) (h3 : cbV a b < 0) (h4 : cbV b c ≤ 0) : cbV a c < 0 := by
  have h5 := cb_trans h1 (by omega) h4
  have e1 := cb_anti h1
  have e2 := cb_anti (h1.trans h2)
  by_cases h : cbV a c = 0
  · have := cb_trans h2 h4 (c := a) (by omega)
    omega
  · omega
/-! ### Ranks -/
def cntB (a : List Int) : List (List Int) → Int
  | [] => 0
  | b :: r => (if cbV b a < 0 then 1 else 0) + cntB a r
theorem rkGo_cnt (a : List Int) : ∀ (r : List (List Int)) (n : Int), rkGo a r n = n + cntB a r
  | [], n => by simp [rkGo, cntB]
  | b :: r, n => by
    unfold rkGo cntB
    rw [rkGo_cnt a r]
    by_cases h : cbV b a < 0
    · simp [h, ifK]; omega
    · simp [h, ifK]
theorem cnt_mono {a b : List Int} : ∀ r : List (List Int), (∀ x ∈ r, cbV x a < 0 → cbV x b < 0) → cntB a r ≤ cntB b r
  | [], _ => by simp [cntB]
  | x :: r, h => by
    have ih := cnt_mono r fun y hy => h y (List.mem_cons_of_mem _ hy)
    have h0 := h x (List.mem_cons_self ..)
    unfold cntB
    by_cases h1 : cbV x a < 0
    · simp [h1, h0 h1]; exact ih
    · by_cases h2 : cbV x b < 0
      · simp [h1, h2]; omega
      · simp [h1, h2]; exact ih
theorem cnt_lt {a b : List Int} : ∀ r : List (List Int), (∀ x ∈ r, cbV x a < 0 → cbV x b < 0) → (∃ x ∈ r, cbV x b < 0 ∧ ¬ cbV x a < 0) → cntB a r < cntB b r
  | [], _, ⟨x, hx, _⟩ => by cases hx
  | x :: r, h, ⟨y, hy, h3, h4⟩ => by
    have hm := cnt_mono r fun y hy => h y (List.mem_cons_of_mem _ hy)
    rcases List.mem_cons.1 hy with rfl | hy
    · unfold cntB; simp [h3, h4]; omega
    · have ih := cnt_lt r (fun y hy => h y (List.mem_cons_of_mem _ hy)) ⟨y, hy, h3, h4⟩
      have h0 := h x (List.mem_cons_self ..)
      unfold cntB
      by_cases h1 : cbV x a < 0
      · simp [h1, h0 h1]; exact ih
      · by_cases h2 : cbV x b < 0
        · simp [h1, h2]; omega
        · simp [h1, h2]; exact ih
theorem rank_lt {l : List (List Int)} {k : Nat} (hs : ∀ x ∈ l, x.length = k) {a b : List Int} (ha : a ∈ l) (hb : b ∈ l) : rkGo a l 1 < rkGo b l 1 ↔ cbV a b < 0 := by
  rw [rkGo_cnt, rkGo_cnt]
  have hab : a.length = b.length := by rw [hs a ha, hs b hb]
  constructor
  · intro h
    by_cases hc : cbV a b < 0
    · exact hc
    · exfalso
      have e := cb_anti hab
      have := cnt_mono (a := b) (b := a) l fun x hx hxb => cb_lt (by rw [hs x hx, hs b hb]) hab.symm hxb (by omega)
      omega
  · intro h
    have := cnt_lt (a := a) (b := b) l (fun x hx hxa => cb_lt (by rw [hs x hx, hs a ha]) hab hxa (by omega)) ⟨a, ha, h, by rw [cb_self]; omega⟩
    omega
end Go.Pd
end
section
namespace Go.Pd
open Go Go.Proofs Go.RowKit
theorem fnN {base : FuncId → List D → Option D} (hb : CallsT base) {f : FuncId} {fn : Func} (hf : Tryz.prog.funcs[f]? = some fn) {ord : Ord} {N : NTab} (hok : okFn Tryz.prog ord fn = true) {ds : List D} {r : D}
    (he : evFnT (TEn (callOf base) LL C1) ord N .canon fn ds = some r) : OK5 f ds r :=
  evFnT_ok (Te := TEn (callOf base) LL C1) mixedT ⟨inlC (callOf_ok hb), m1_ok, m1_ow⟩ callOf_cst rfl sqT_ok hf (by simp) hok he
theorem liGo_num {k : Nat} : ∀ {l : List (List Int)}, liGo k l = 0 → ∀ x ∈ l, numErr x 36 = 0
  | [], _, x, hx => by cases hx
  | y :: r, h, x, hx => by
    unfold liGo at h
    cases h1 : numErr y 36 != 0 with
    | true => rw [h1, ifK_true] at h; rw [h] at h1; cases h1
    | false =>
      rw [h1, ifK_false] at h
      have h0 : numErr y 36 = 0 := by simpa using h1
      cases h2 : ((y.length : Int) != k) with
      | true => rw [h2, ifK_true] at h; cases h
      | false =>
        rw [h2, ifK_false] at h
        rcases List.mem_cons.1 hx with rfl | hx
        · exact h0
        · exact liGo_num h x hx
theorem lists_num {l : List (List Int)} (h : listsErr l = 0) : ∀ x ∈ l, numErr x 36 = 0 := by
  unfold listsErr at h
  cases h1 : ((l.length : Int) == 0) with
  | true => rw [h1, ifK_true] at h; cases h
  | false =>
    rw [h1, ifK_false] at h
    cases h2 : decide ((l.length : Int) > 200) with
    | true => rw [h2, ifK_true] at h; cases h
    | false =>
      rw [h2, ifK_false] at h
      exact liGo_num h
/-! ### The table of comparisons grows -/
def curD : List Int → D
  | [] => .nils
  | x :: c => .slc false (x :: c).length (ints (x :: c))
def nC (done : List (List Int)) (cur : List Int) (rest : Nat) : List D := rows done ++ curD cur :: List.replicate rest .nils
def outC (done : List (List Int)) (rest : Nat) : List D := rows done ++ List.replicate rest .nils
theorem nC_nil (done : List (List Int)) (rest : Nat) : outC done (rest + 1) = nC done [] rest := rfl
theorem nC_full (done : List (List Int)) {cur : List Int} (h : 0 < cur.length) (rest : Nat) : nC done cur rest = outC (done ++ [cur]) rest := by
  cases cur with
  | nil => cases h
  | cons x c => simp [nC, outC, rows, curD]
theorem nC_len (done : List (List Int)) (cur : List Int) (rest : Nat) : (nC done cur rest).length = done.length + 1 + rest := by
  simp [nC, rows]; omega
theorem nC_get (done : List (List Int)) (cur : List Int) (rest : Nat) {γ : Type} (c : D → Option γ) : cellK (nC done cur rest) (Int.toNat (done.length : Int) * 1) c = c (curD cur) := by
  refine cellK_some ?_ c
  simp [nC, rows]
theorem nC_set (done : List (List Int)) (cur : List Int) (rest : Nat) (d d' : D) : List.set (List.set (nC done cur rest) (Int.toNat (done.length : Int) * 1) d) (Int.toNat (done.length : Int) * 1) d' = rows done ++ d' :: List.replicate rest .nils := by
  rw [List.set_set]
  simp [nC, rows]
theorem nC_set1 (done : List (List Int)) (cur : List Int) (rest : Nat) (d' : D) : List.set (nC done cur rest) (Int.toNat (done.length : Int) * 1) d' = rows done ++ d' :: List.replicate rest .nils := by
  simp [nC, rows]
section
variable {call : CL} {f rf : Bool} {n rn : Nat} {cs rc : List D}
theorem put9 (n3 n4 : Nat) (done : List (List Int)) (cur : List Int) (rest : Nat) (hn : done.length + 1 + rest = n) (hc : cur.length ≤ 1000) (t46 t51 t52 x : Int) :
    F9_33187431 call LL C1 n3 n4 f n cs rf rn rc n (done.length : Int) t46 t51 t52 (nC done cur rest) x = F9_129638 call LL C1 n3 n4 f n cs rf rn rc n (done.length : Int) t46 t51 (IntKind.wrap .i64 (t52 + 1)) (nC done (cur ++ [x]) rest) := by
  have e1 : decide ((0 : Int) ≤ (done.length : Int) ∧ (done.length : Int) < (n : Int)) = true := by simp; omega
  rw [F9_33187431_eq _ _ _ _ _ _ _ _ _ _ _ _ _ _ _ _ _ _ (fun _ => rfl : ∀ t, C1 t = 1), e1, chkK_true, nC_get]
  cases cur with
  | nil =>
    have e2 : decide (Int.toNat (done.length : Int) * 1 < (nC done [] rest).length) = true := by rw [nC_len]; simp; omega
    show chkK true (chkK (decide (Int.toNat (done.length : Int) * 1 < (nC done [] rest).length)) _) = _
    rw [chkK_true, e2, chkK_true, nC_set1]
    rfl
  | cons y c =>
    have e2 : decide (Int.toNat (done.length : Int) * 1 < (List.set (nC done (y :: c) rest) (Int.toNat (done.length : Int) * 1) J).length) = true := by rw [List.length_set, nC_len]; simp; omega
    have e3 : decide (((y :: c).length + 1) * 8 ≤ limit ∧ (y :: c).length + 1 ≤ 9223372036854775807) = true := roomK (by omega)
    show chkK (!false) (chkK (decide (((y :: c).length + 1) * 8 ≤ limit ∧ (y :: c).length + 1 ≤ 9223372036854775807)) (chkK true (chkK (decide (Int.toNat (done.length : Int) * 1 < (List.set (nC done (y :: c) rest) (Int.toNat (done.length : Int) * 1) J).length)) _))) = _
    rw [Bool.not_false, chkK_true, e3, chkK_true, chkK_true, e2, chkK_true, nC_set]
    have e4 : D.slc false ((y :: c).length + 1) (ints (y :: c) ++ [D.int .i64 x]) = curD ((y :: c) ++ [x]) := by
      simp [curD, ints]
    rw [e4]
    rfl
end
section
variable {l : List (List Int)} {rf : Bool} {rn : Nat} {rc : List D}
theorem at47 (h0 : listsErr l = 0) {a b : List Int} (ha : a ∈ l) (hb : b ∈ l) : callOf (b7 l) 47 [.slc false a.length (ints a), .slc false b.length (ints b)] = some (.tup [.int .i64 (cbV a b), .int .i64 0]) := by
  obtain ⟨_, _, k, hk, hs⟩ := listsErr_zero h0
  have h1 := lists_num h0 a ha
  have h2 := lists_num h0 b hb
  have h3 := (hs a ha).1
  have h4 := (hs b hb).1
  have hz : cbErr a b = 0 := by
    unfold cbErr
    rw [h1, h2, h3, h4]
    simp [fst3, ifK]
  rw [t47 (by omega) (by omega), hz]
  rfl
theorem inner9 (h0 : listsErr l = 0) (hl : l.length ≤ 6) (n3 : Nat) {pre0 r0 : List (List Int)} {a : List Int} (hl0 : l = pre0 ++ a :: r0) (done : List (List Int)) (hd : done.length = pre0.length) : ∀ (r pre : List (List Int)) (fuel : Nat), l = pre ++ r → r.length < fuel →
    F9_129638 (callOf (b7 l)) LL C1 n3 fuel false l.length (rows l) rf rn rc l.length (done.length : Int) l.length l.length (pre.length : Int) (nC done (pre.map (cbV a)) r0.length) =
      F9_506 (callOf (b7 l)) LL C1 n3 false l.length (rows l) rf rn rc l.length l.length (IntKind.wrap .i64 ((done.length : Int) + 1)) (nC done (l.map (cbV a)) r0.length)
  | [], pre, fuel + 1, hl1, _ => by
    rw [List.append_nil] at hl1
    subst hl1
    rw [F9_129638_eq]
    have : decide ((l.length : Int) < (l.length : Int)) = false := by simp
    rw [this, ifK_false]
  | x :: r, pre, fuel + 1, hl1, hf => by
    have ih := inner9 h0 hl n3 hl0 done hd r (pre ++ [x]) fuel (by rw [hl1]; simp) (by simp at hf; omega)
    have hlen := congrArg List.length hl1
    have hlen0 := congrArg List.length hl0
    simp only [List.length_append, List.length_cons] at hlen hlen0
    have ha : a ∈ l := by rw [hl0]; simp
    have hx : x ∈ l := by rw [hl1]; simp
    have e1 : decide ((pre.length : Int) < (l.length : Int)) = true := by simp; omega
    have e2 : decide ((0 : Int) ≤ (pre.length : Int) ∧ (pre.length : Int) < (l.length : Int)) = true := by simp; omega
    have e3 : decide ((0 : Int) ≤ (done.length : Int) ∧ (done.length : Int) < (l.length : Int)) = true := by simp; omega
    have c1 : ∀ {γ : Type} (c : D → Option γ), cellK (rows l) (Int.toNat (done.length : Int) * 1) c = c (.slc false a.length (ints a)) := fun c => by
      rw [hd, hl0]; exact cell_rows pre0 a r0 c
    have c2 : ∀ {γ : Type} (c : D → Option γ), cellK (rows l) (Int.toNat (pre.length : Int) * 1) c = c (.slc false x.length (ints x)) := fun c => by
      rw [hl1]; exact cell_rows pre x r c
    have hr := cb_rng a x
    have p1 : ((0 : Int) != 0) = false := rfl
    have p2 : decide (cbV a x < -1) = false := by simp; omega
    have p3 : decide (cbV a x > 1) = false := by simp; omega
    have hput := put9 (call := callOf (b7 l)) (f := false) (rf := rf) (rn := rn) (cs := rows l) (rc := rc) n3 fuel done (pre.map (cbV a)) r0.length (n := l.length) (by omega) (by simp; omega) l.length l.length pre.length (cbV a x)
    have hw : IntKind.wrap .i64 ((pre.length : Int) + 1) = (((pre ++ [x]).length : Nat) : Int) := by
      rw [wrap_in (by omega)]; simp
    have hm : pre.map (cbV a) ++ [cbV a x] = (pre ++ [x]).map (cbV a) := by simp
    rw [hw, hm] at hput
    rw [F9_129638_eq, e1, ifK_true, e3, chkK_true, c1, slcK_slc, e2, chkK_true, c2, slcK_slc, at47 h0 ha hx, optK_some, tup2, cellK_some rfl, intK_int, cellK_some rfl, intK_int, p1, ifK_false, p2, ifK_false, p3, ifK_false, hput, ih]
    cases hq : ((done.length : Int) == (pre.length : Int)) with
    | false => rfl
    | true =>
      have hq : done.length = pre.length := by simp at hq; omega
      have hxa : x = a := by
        have g1 : l[pre.length]? = some x := by rw [hl1]; simp
        have g2 : l[pre.length]? = some a := by rw [← hq, hd, hl0]; simp
        rw [g1] at g2
        exact Option.some.inj g2
      have : (cbV a x != 0) = false := by rw [hxa, cb_self]; rfl
      rw [ifK_true, this, ifK_false]
theorem outer9 (h0 : listsErr l = 0) (hl : l.length ≤ 6) : ∀ (r pre : List (List Int)) (fuel : Nat), l = pre ++ r → r.length < fuel →
    F9_506 (callOf (b7 l)) LL C1 fuel false l.length (rows l) rf rn rc l.length l.length (pre.length : Int) (outC (pre.map fun a => l.map (cbV a)) r.length) =
      F9_1018 (callOf (b7 l)) LL C1 LL false l.length (rows l) rf rn rc l.length (rows (l.map fun a => l.map (cbV a))) l.length 0
  | [], pre, fuel + 1, hl1, _ => by
    rw [List.append_nil] at hl1
    subst hl1
    rw [F9_506_eq]
    have : decide ((l.length : Int) < (l.length : Int)) = false := by simp
    rw [this, ifK_false]
    simp [outC]
  | x :: r, pre, fuel + 1, hl1, hf => by
    have ih := outer9 h0 hl r (pre ++ [x]) fuel (by rw [hl1]; simp) (by simp at hf; omega)
    have hlen := congrArg List.length hl1
    simp only [List.length_append, List.length_cons] at hlen
    have e1 : decide ((pre.length : Int) < (l.length : Int)) = true := by simp; omega
    have hin := inner9 (rf := rf) (rn := rn) (rc := rc) h0 hl fuel hl1 (pre.map fun a => l.map (cbV a)) (by simp) l [] LL rfl (by unfold LL; omega)
    rw [List.length_map] at hin
    have hw : IntKind.wrap .i64 ((pre.length : Int) + 1) = (((pre ++ [x]).length : Nat) : Int) := by
      rw [wrap_in (by omega)]; simp
    rw [F9_506_eq, e1, ifK_true, List.length_cons, nC_nil]
    refine hin.trans ?_
    rw [hw, nC_full _ (by simp; omega)]
    rw [show (pre.map fun a => l.map (cbV a)) ++ [l.map (cbV x)] = (pre ++ [x]).map fun a => l.map (cbV a) by simp]
    exact ih
/-! ### .. and is read -/
def atL (l : List (List Int)) (i : Nat) : List Int := (l[i]?).getD []
theorem atL_get {i : Nat} (hi : i < l.length) : l[i]? = some (atL l i) := by
  unfold atL
  rw [List.getElem?_eq_getElem hi]
  rfl
theorem atL_mem {i : Nat} (hi : i < l.length) : atL l i ∈ l := List.mem_of_getElem? (atL_get hi)
theorem in9 {i : Nat} (hi : i < l.length) : decide ((0 : Int) ≤ (i : Int) ∧ (i : Int) < (l.length : Int)) = true := by simp; omega
theorem cM {i : Nat} (hi : i < l.length) {γ : Type} (c : D → Option γ) : cellK (rows (l.map fun a => l.map (cbV a))) (Int.toNat (i : Int) * 1) c = c (.slc false l.length (ints (l.map (cbV (atL l i))))) := by
  refine cellK_some ?_ c
  simp [rows, atL_get hi]
theorem cV (a : List Int) {k : Nat} (hk : k < l.length) {γ : Type} (c : D → Option γ) : cellK (ints (l.map (cbV a))) (Int.toNat (k : Int) * 1) c = c (.int .i64 (cbV a (atL l k))) := by
  refine cellK_some ?_ c
  simp [ints, atL_get hk]
theorem cR {k : Nat} (hk : k < l.length) {γ : Type} (c : D → Option γ) : cellK (ints (ranksV l)) (Int.toNat (k : Int) * 1) c = c (.int .i64 (rkGo (atL l k) l 1)) := by
  refine cellK_some ?_ c
  simp [ints, ranksV, atL_get hk]
theorem loop3 {kk : Nat} (hs : ∀ x ∈ l, x.length = kk) (hl : l.length ≤ 6) (n9 n10 : Nat) {i k : Nat} (hi : i < l.length) (hk : k < l.length) (less t99 t104 : Int) : ∀ (j m fuel : Nat), m + j = l.length → j < fuel →
    F9_1067870622 (callOf (b7 l)) LL C1 n9 n10 fuel false l.length (rows l) false l.length (ints (ranksV l)) l.length (i : Int) less (k : Int) t99 t104 (rows (l.map fun a => l.map (cbV a))) l.length (m : Int) =
      F9_1042842 (callOf (b7 l)) LL C1 n9 n10 false l.length (rows l) false l.length (ints (ranksV l)) l.length (i : Int) t99 (rows (l.map fun a => l.map (cbV a))) less t104 (IntKind.wrap .i64 ((k : Int) + 1))
  | 0, m, fuel + 1, h, _ => by
    rw [F9_1067870622_eq]
    have : decide ((m : Int) < (l.length : Int)) = false := by simp; omega
    rw [this, ifK_false]
  | j + 1, m, fuel + 1, h, hf => by
    have ih := loop3 hs hl n9 n10 hi hk less t99 t104 j (m + 1) fuel (by omega) (by omega)
    have hm : m < l.length := by omega
    have e1 : decide ((m : Int) < (l.length : Int)) = true := by simp; omega
    have hw : IntKind.wrap .i64 ((m : Int) + 1) = ((m + 1 : Nat) : Int) := by rw [wrap_in (by omega)]; rfl
    rw [F9_1067870622_eq, e1, ifK_true, in9 hi, chkK_true, cM hi, slcK_slc, in9 hk, chkK_true, cV _ hk, intK_int, hw, ih]
    cases h1 : decide (cbV (atL l i) (atL l k) ≤ 0) with
    | false => rfl
    | true =>
      rw [ifK_true, chkK_true, cM hk, slcK_slc, in9 hm, chkK_true, cV _ hm, intK_int]
      cases h2 : decide (cbV (atL l k) (atL l m) ≤ 0) with
      | false => rfl
      | true =>
        rw [decide_eq_true_eq] at h1 h2
        have h3 := cb_trans (by rw [hs _ (atL_mem hi), hs _ (atL_mem hk)]) h1 h2
        have h4 : decide (cbV (atL l i) (atL l m) > 0) = false := by simp; omega
        rw [ifK_true, chkK_true, cM hi, slcK_slc, in9 hm, chkK_true, cV _ hm, intK_int, h4, ifK_false]
theorem loop2 {kk : Nat} (hs : ∀ x ∈ l, x.length = kk) (hl : l.length ≤ 6) (n9 : Nat) {i : Nat} (hi : i < l.length) (t99 : Int) : ∀ (j k fuel : Nat) (less : Int), k + j = l.length → j < fuel → 0 ≤ less → less ≤ k + 1 → rkGo (atL l i) (l.drop k) less = rkGo (atL l i) l 1 →
    F9_1042842 (callOf (b7 l)) LL C1 n9 fuel false l.length (rows l) false l.length (ints (ranksV l)) l.length (i : Int) t99 (rows (l.map fun a => l.map (cbV a))) less l.length (k : Int) =
      F9_1018 (callOf (b7 l)) LL C1 n9 false l.length (rows l) false l.length (ints (ranksV l)) l.length (rows (l.map fun a => l.map (cbV a))) t99 (IntKind.wrap .i64 ((i : Int) + 1))
  | 0, k, fuel + 1, less, h, _, _, _, hr => by
    have hk : k = l.length := by omega
    subst hk
    rw [List.drop_length] at hr
    have hr : less = rkGo (atL l i) l 1 := hr
    rw [F9_1042842_eq]
    have : decide ((l.length : Int) < (l.length : Int)) = false := by simp
    have h2 : (rkGo (atL l i) l 1 != less) = false := by rw [hr]; simp
    rw [this, ifK_false, in9 hi, chkK_true, cR hi, intK_int, h2, ifK_false]
  | j + 1, k, fuel + 1, less, h, hf, hlo, hhi, hr => by
    have hk : k < l.length := by omega
    have e1 : decide ((k : Int) < (l.length : Int)) = true := by simp; omega
    have hw : IntKind.wrap .i64 ((k : Int) + 1) = ((k + 1 : Nat) : Int) := by rw [wrap_in (by omega)]; rfl
    have hik : (atL l i).length = (atL l k).length := by rw [hs _ (atL_mem hi), hs _ (atL_mem hk)]
    have han := cb_anti hik
    have hrg := cb_rng (atL l i) (atL l k)
    have p1 : (cbV (atL l i) (atL l k) != IntKind.wrap .i64 (0 - cbV (atL l k) (atL l i))) = false := by
      rw [wrap_in (by omega)]
      have : cbV (atL l i) (atL l k) = 0 - cbV (atL l k) (atL l i) := by omega
      rw [← this]
      simp
    have p2 : (!decide (rkGo (atL l i) l 1 < rkGo (atL l k) l 1) == decide (cbV (atL l i) (atL l k) < 0)) = false := by
      have := rank_lt hs (atL_mem hi) (atL_mem hk)
      simp [this]
    have p3 : decide (rkGo (atL l k) l 1 < rkGo (atL l i) l 1) = decide (cbV (atL l k) (atL l i) < 0) := by
      have := rank_lt hs (atL_mem hk) (atL_mem hi)
      simp [this]
    have hdr : l.drop k = atL l k :: l.drop (k + 1) := by
      rw [List.drop_eq_getElem_cons hk]
      congr 1
      have := atL_get hk
      rw [List.getElem?_eq_getElem hk] at this
      exact Option.some.inj this
    rw [hdr] at hr
    have hr : rkGo (atL l i) (l.drop (k + 1)) (ifK (decide (cbV (atL l k) (atL l i) < 0)) (less + 1) less) = rkGo (atL l i) l 1 := hr
    have hc : ∀ t, C1 t = 1 := fun _ => rfl
    rw [F9_1042842_eq, e1, ifK_true, in9 hi, chkK_true, cM hi, slcK_slc, in9 hk, chkK_true, cV _ hk, intK_int, chkK_true, cM hk, slcK_slc, chkK_true, cV _ hi, intK_int, p1, ifK_false, in9 hi, chkK_true, cR hi, intK_int, chkK_true, cR hk, intK_int,
      chkK_true, cM hi, slcK_slc, in9 hk, chkK_true, cV _ hk, intK_int, p2, ifK_false, F9_133483827_eq _ _ _ _ _ _ _ _ _ _ _ _ _ _ _ _ _ _ hc, in9 hk, chkK_true, cR hk, intK_int, in9 hi, chkK_true, cR hi, intK_int, p3]
    cases hd : decide (cbV (atL l k) (atL l i) < 0) with
    | true =>
      rw [hd, ifK_true] at hr
      rw [ifK_true, wrap_in (by omega), F9_266967655_eq _ _ _ _ _ _ _ _ _ _ _ _ _ _ _ _ _ _ hc]
      refine (loop3 hs hl n9 fuel hi hk (less + 1) t99 l.length l.length 0 LL (by omega) (by unfold LL; omega)).trans ?_
      rw [hw]
      exact loop2 hs hl n9 hi t99 j (k + 1) fuel (less + 1) (by omega) (by omega) (by omega) (by omega) hr
    | false =>
      rw [hd, ifK_false] at hr
      rw [ifK_false, F9_266967655_eq _ _ _ _ _ _ _ _ _ _ _ _ _ _ _ _ _ _ hc]
      refine (loop3 hs hl n9 fuel hi hk less t99 l.length l.length 0 LL (by omega) (by unfold LL; omega)).trans ?_
      rw [hw]
      exact loop2 hs hl n9 hi t99 j (k + 1) fuel less (by omega) (by omega) (by omega) (by omega) hr
theorem loop1 {kk : Nat} (hs : ∀ x ∈ l, x.length = kk) (hl : l.length ≤ 6) : ∀ (j i fuel : Nat), i + j = l.length → j < fuel →
    F9_1018 (callOf (b7 l)) LL C1 fuel false l.length (rows l) false l.length (ints (ranksV l)) l.length (rows (l.map fun a => l.map (cbV a))) l.length (i : Int) = some (.bool true)
  | 0, i, fuel + 1, h, _ => by
    rw [F9_1018_eq]
    have : decide ((i : Int) < (l.length : Int)) = false := by simp; omega
    rw [this, ifK_false, t16, optK_some, boolK_bool]
  | j + 1, i, fuel + 1, h, hf => by
    have hi : i < l.length := by omega
    have e1 : decide ((i : Int) < (l.length : Int)) = true := by simp; omega
    have hw : IntKind.wrap .i64 ((i : Int) + 1) = ((i + 1 : Nat) : Int) := by rw [wrap_in (by omega)]; rfl
    rw [F9_1018_eq, e1, ifK_true]
    refine (loop2 hs hl fuel hi l.length l.length 0 LL 1 (by omega) (by unfold LL; omega) (by omega) (by omega) (by rw [List.drop_zero])).trans ?_
    rw [hw]
    exact loop1 hs hl j (i + 1) fuel (by omega) (by omega)
end
theorem ok9 (l : List (List Int)) : OK5 9 [.slc false l.length (rows l)] (.bool true) := by
  refine fnN (b7_ok l) Tryz.func9 (ord := O0) (N := N9) (by kernel_rfl) ((F9_eq _ _ _ _ _ _).trans ?_)
  rw [t16, optK_some, boolK_bool]
  cases h1 : decide ((l.length : Int) > 6) with
  | true => rw [ifK_true]
  | false =>
    rw [ifK_false, t46, optK_some, boolK_bool]
    cases h2 : shortV l with
    | false => rfl
    | true =>
      rw [show (!true) = false from rfl, ifK_false, t50, optK_some, intK_int]
      cases h3 : listsErr l != 0 with
      | true => rw [ifK_true]
      | false =>
        have h0 : listsErr l = 0 := by simpa using h3
        simp only [decide_eq_false_iff_not] at h1
        have hx := shortV_true h2
        obtain ⟨hp, _, k, hk, hs⟩ := listsErr_zero h0
        have hl : l.length ≤ 6 := by omega
        have hr : ranksR l = .tup [.slc false l.length (ints (ranksV l)), .int .i64 0] := by
          unfold ranksR
          rw [h3, ifK_false]
        have e2 : ((l.length : Int) != (l.length : Int)) = false := by simp
        have e3 : decide ((0 : Int) ≤ (l.length : Int) ∧ (l.length : Int) ≤ (l.length : Int) ∧ (l.length : Int) * (24 : Int) ≤ 140737488355328 ∧ (l.length : Int) ≤ 9223372036854775807) = true := by
          rw [decide_eq_true_eq]; omega
        have hrep : ∀ m : Nat, repD m [D.nils] = List.replicate m D.nils := fun m => by
          induction m with
          | zero => rfl
          | succ m ih => show [D.nils] ++ repD m [D.nils] = _; rw [ih]; rfl
        rw [ifK_false, F9_7_eq _ _ _ _ _ _ (fun _ => rfl : ∀ t, C1 t = 1), t48 (fun x hm => by have := hx x hm; omega), optK_some, hr, tup2, cellK_some rfl, slcK_slc, cellK_some rfl, intK_int, show ((0 : Int) != 0) = false from rfl, ifK_false, e2, ifK_false,
          F9_31_eq _ _ _ _ _ _ _ _ _ (fun _ => rfl : ∀ t, C1 t = 1), e3, chkK_true, Int.toNat_natCast, hrep]
        have := outer9 (rf := false) (rn := l.length) (rc := ints (ranksV l)) h0 hl l [] LL rfl (by unfold LL; omega)
        refine Eq.trans this ?_
        exact loop1 (fun x hx => (hs x hx).1) hl l.length 0 LL (by omega) (by unfold LL; omega)
end Go.Pd
end
