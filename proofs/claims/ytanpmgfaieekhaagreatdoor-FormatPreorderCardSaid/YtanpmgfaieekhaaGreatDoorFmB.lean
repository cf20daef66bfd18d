/-
  Chapter 5: what functions make of open arguments (printed by the desk's tool, each proved by the kernel): the match's.
  Chapter 5: the contracts of what a match makes.
  Chapter 5: the contracts of what the interpreter is told of.
  Chapter 5: slices.Sorted of the values of a slice of integers.
-/
import Derived.Test.YtanpmgfaieekhaaGreatDoorFmA
import Derived.KernelRfl
import Derived.Test.YtanpmgfaieekhaaGreatDoorPdFf
import Derived.IntWalk
import Derived.Shelf.SortM.SortNone
import Derived.Lib.SliceRun
section
namespace Go.Pd
open Go Go.Proofs
set_option maxRecDepth 100000
theorem F102_eq (call : CL) (L : Nat) (C : Nat → Nat) (h : FuncId → List D → Option (List (List D))) (i : Int) (e : ByteArray) : evFnT (TEs call L C h) O0 N0 FinM.canon Tryz.f102 [D.agg [D.int .i64 i, D.str e]] =
 (some (D.bool (ByteArray.toList e == ByteArray.toList (ByteArray.mk #[])))) := by kernel_rfl
theorem F113_eq (call : CL) (L : Nat) (C : Nat → Nat) (i : FuncId → List D → Option (List (List D))) (vx vy : Int) : evFnT (TEs call L C i) O0 N0 FinM.canon Tryz.f113 [D.int .i64 vx, D.int .i64 vy] =
 (optK (call 142 [D.int .i64 vx]) fun r => boolK r fun b => optK (call 142 [D.int .i64 vy]) fun h => boolK h fun e => ifK b
 (ifK e
 (some (D.int .i64 0))
 (some (D.int .i64 (-1))))
 (ifK e
 (some (D.int .i64 1))
 (ifK (decide (vx < vy))
 (some (D.int .i64 (-1)))
 (ifK (decide (vx > vy))
 (some (D.int .i64 1))
 (some (D.int .i64 0)))))) := by kernel_rfl
theorem F116_eq (call : CL) (L : Nat) (C : Nat → Nat) (i : FuncId → List D → Option (List (List D))) (e h : Int) : evFnT (TEs call L C i) O0 N0 FinM.canon Tryz.f116 [D.int .i64 e, D.int .i64 h] =
 (ifK (decide ((if IntKind.wrap .i64 (0 - e) > e then IntKind.wrap .i64 (0 - e) else e) > h))
 (some (D.bool true))
 (some (D.bool (h == 0)))) := by kernel_rfl
theorem F142_eq (call : CL) (L : Nat) (C : Nat → Nat) (e : FuncId → List D → Option (List (List D))) (vx : Int) : evFnT (TEs call L C e) O0 N0 FinM.canon Tryz.f142 [D.int .i64 vx] =
 (some (D.bool (vx != vx))) := by kernel_rfl
def N152 : NTab := fun p => match p with
  | 25 => nm [2,3,5] [] [2,3]
  | _ => none
noncomputable def F152_25 (call : CL) (L : Nat) (C : Nat → Nat) (e : FuncId → List D → Option (List (List D))) (i : Int) (j : ByteArray) (q : Int) (r : ByteArray) (h : Bool) : Option D :=
 cutAt (TEs call L C e) O0 N152 FinM.canon Tryz.f152 [true, false, false, true] []  (C 25) (St.mk (J :: J :: D.loc 2 0 0 :: D.loc 3 0 0 :: J :: D.bool h :: jn 17 []) (Z :: Z :: (1, some (Ob.box [D.int .i64 i, D.str j] false)) :: (1, some (Ob.box [D.int .i64 q, D.str r] false)) :: zn 19 []))
theorem F152_25_eq (call : CL) (L : Nat) (C : Nat → Nat) (O : FuncId → List D → Option (List (List D))) (e : Int) (j : ByteArray) (h : Int) (q : ByteArray) (i : Bool) (B : ∀ t, C t = 1) : F152_25 call L C O  e j h q i =
 (ifK i
 (optK (call 113 [D.int .i64 h, D.int .i64 e]) fun J => intK .i64 J fun x => some (D.int .i64 x))
 (optK (call 102 [D.agg [D.int .i64 e, D.str j]]) fun K => boolK K fun r => ifK r
 (some (D.int .i64 1))
 (optK (call 102 [D.agg [D.int .i64 h, D.str q]]) fun M => boolK M fun z => ifK z
 (some (D.int .i64 (-1)))
 (some (D.int .i64 0))))) := by
  unfold F152_25
  rw [B]
  kernel_rfl
theorem F152_eq (call : CL) (L : Nat) (C : Nat → Nat) (q : FuncId → List D → Option (List (List D))) (e : Int) (h : ByteArray) (i : Int) (j : ByteArray) : evFnT (TEs call L C q) O0 N152 FinM.canon Tryz.f152 [D.agg [D.int .i64 e, D.str h], D.agg [D.int .i64 i, D.str j]] =
 (optK (call 102 [D.agg [D.int .i64 e, D.str h]]) fun r => boolK r fun b => ifK b
 (optK (call 102 [D.agg [D.int .i64 i, D.str j]]) fun B => boolK B fun z => F152_25 call L C q e h i j z)
 (F152_25 call L C q e h i j false)) := by kernel_rfl
theorem F96_eq (call : CL) (L : Nat) (C : Nat → Nat) (h : Bool) (i : Nat) (e : List D) : evFnT (TE0 call L C) O0 N0 FinM.canon Tryz.f96 [D.slc h i e] =
 (some (D.fn (Fn.func 137) [] [D.snap [D.slc h i e] 0])) := by kernel_rfl
theorem F129_eq (call : CL) (L : Nat) (C : Nat → Nat) (h : Bool) (i : Nat) (e : List D) (q : Bool) (r : Nat) (j : List D) : evFnT (TE0 call L C) O0 N0 FinM.canon Tryz.f129 [D.slc h i e, D.slc q r j] =
 (some (D.fn (Fn.func 151) [] [D.snap [D.slc h i e] 0, D.snap [D.slc q r j] 0])) := by kernel_rfl
def N137 : NTab := fun p => match p with
  | 6 => nm [0,5,6,7] [] []
  | _ => none
noncomputable def F137_6 (call : CL) (L : Nat) (C : Nat → Nat) (l n : Nat) (j : Bool) (q : Nat) (i : List D) (e h : Int) : Option (List (List D)) :=
 loopIAt (TEi call L C l) O0 N137 FinM.raw Tryz.f137 [true, false] []  n (St.mk (D.fn (Fn.yield l) [] [] :: J :: J :: J :: J :: D.slc j q i :: D.int .i64 e :: D.int .i64 h :: jn 8 []) (zn 16 []))
theorem F137_6_eq (call : CL) (L : Nat) (C : Nat → Nat) (l n : Nat) (q : Bool) (j : Nat) (i : List D) (h e : Int) : F137_6 call L C l  (n + 1) q j i h e =
 (ifK (decide (e < h))
 (chkK (decide (0 ≤ e ∧ e < (j : Int)))
 (cellK i (Int.toNat e * 1) fun d => intK .i64 d fun x => chkK (decide (l = l))
 (emitK [D.int .i64 x]
 (F137_6 call L C l n q j i h (IntKind.wrap .i64 (e + 1)))
 (some []))))
 (some [])) := by kernel_rfl
theorem F137_eq (call : CL) (L : Nat) (C : Nat → Nat) (l : Nat) (i : Bool) (e : Nat) (h : List D) : runI (evT (TEi call L C l) O0 N137 (bodyOf Tryz.f137) 1 (startSt Tryz.f137 [D.fn (Fn.yield l) [] [], D.snap [D.slc i e h] 0]) (finK (TEi call L C l).E FinM.raw Tryz.f137)) =
 (F137_6 call L C l L i e h ((e : Int)) 0) := by kernel_rfl
def N151 : NTab := fun p => match p with
  | 14 => nm [0,1,2,4,10,11] [] [4]
  | 1843 => nm [0,1,2,4,5,10,11] [] [4]
  | _ => none
noncomputable def F151_1843 (call : CL) (L : Nat) (C : Nat → Nat) (l n : Nat) (K : Bool) (M : Nat) (B : List D) (j : Bool) (q : Nat) (i : List D) (e h vs r : Int) (z : Bool) : Option (List (List D)) :=
 cutIAt (TEi call L C l) O0 N151 FinM.raw Tryz.f151 (bt 10 819) [n]  (C 1843) (St.mk (D.fn (Fn.yield l) [] [] :: D.snap [D.slc K M B] 0 :: D.snap [D.slc j q i] 0 :: J :: D.loc 4 0 0 :: D.int .i64 e :: J :: J :: J :: J :: D.int .i64 h :: D.int .i64 e :: jn 44 []) (Z :: Z :: Z :: Z :: (1, some (Ob.box [D.int .i64 vs, D.int .i64 r, D.bool z] false)) :: zn 51 []))
noncomputable def F151_14 (call : CL) (L : Nat) (C : Nat → Nat) (l n : Nat) (K : Bool) (M : Nat) (B : List D) (i : Bool) (j : Nat) (h : List D) (e q vs r : Int) (z : Bool) : Option (List (List D)) :=
 loopIAt (TEi call L C l) O0 N151 FinM.raw Tryz.f151 [true, true, false] []  n (St.mk (D.fn (Fn.yield l) [] [] :: D.snap [D.slc K M B] 0 :: D.snap [D.slc i j h] 0 :: J :: D.loc 4 0 0 :: jn 5 (D.int .i64 e :: D.int .i64 q :: jn 44 [])) (Z :: Z :: Z :: Z :: (1, some (Ob.box [D.int .i64 vs, D.int .i64 r, D.bool z] false)) :: zn 51 []))
theorem F151_1843_eq (call : CL) (L : Nat) (C : Nat → Nat) (l n : Nat) (M : Bool) (z : Nat) (j : List D) (K : Bool) (q : Nat) (h : List D) (e J vs i : Int) (a0 : Bool) (W : ∀ t, C t = 1) : F151_1843 call L C l n M z j K q h e J vs i a0  =
 (chkK (decide (0 ≤ e ∧ e < (z : Int)))
 (cellK j (Int.toNat e * 2 + 0) fun O => intK .i64 O fun x => cellK j (Int.toNat e * 2 + 1) fun S => strK S fun Y => chkK (decide (0 ≤ e ∧ e < (q : Int)))
 (cellK h (Int.toNat e * 2 + 0) fun U => intK .i64 U fun a1 => cellK h (Int.toNat e * 2 + 1) fun V => strK V fun Z => optK (call 152 [D.agg [D.int .i64 x, D.str Y], D.agg [D.int .i64 a1, D.str Z]]) fun r => intK .i64 r fun B => optK (call 116 [D.int .i64 (IntKind.wrap .i64 (vs + B)), D.int .i64 (IntKind.wrap .i64 (i - 1))]) fun X => boolK X fun b => chkK (decide (l = l))
 (emitK [D.agg [D.int .i64 (IntKind.wrap .i64 (vs + B)), D.int .i64 (IntKind.wrap .i64 (i - 1)), D.bool b]]
 (F151_14 call L C l n M z j K q h J (IntKind.wrap .i64 (e + 1)) (IntKind.wrap .i64 (vs + B)) (IntKind.wrap .i64 (i - 1)) b)
 (some []))))) := by
  unfold F151_1843
  rw [W]
  kernel_rfl
theorem F151_14_eq (call : CL) (L : Nat) (C : Nat → Nat) (l n : Nat) (K : Bool) (r : Nat) (q : List D) (z : Bool) (j : Nat) (i : List D) (h e vs B : Int) (J : Bool) : F151_14 call L C l  (n + 1) K r q z j i h e vs B J =
 (ifK (decide (e < h))
 (chkK (decide (0 ≤ e ∧ e < (r : Int)))
 (cellK q (Int.toNat e * 2 + 1) fun d => strK d fun s => ifK (ByteArray.toList s == ByteArray.toList (ByteArray.mk #[45]))
 (some [])
 (chkK (decide (0 ≤ e ∧ e < (j : Int)))
 (cellK i (Int.toNat e * 2 + 1) fun M => strK M fun O => ifK (ByteArray.toList O == ByteArray.toList (ByteArray.mk #[45]))
 (some [])
 (F151_1843 call L C l n K r q z j i e h vs B J)))))
 (some [])) := by kernel_rfl
theorem F151_eq (call : CL) (L : Nat) (C : Nat → Nat) (l : Nat) (r : Bool) (e : Nat) (q : List D) (i : Bool) (j : Nat) (h : List D) : runI (evT (TEi call L C l) O0 N151 (bodyOf Tryz.f151) 1 (startSt Tryz.f151 [D.fn (Fn.yield l) [] [], D.snap [D.slc r e q] 0, D.snap [D.slc i j h] 0]) (finK (TEi call L C l).E FinM.raw Tryz.f151)) =
 (F151_14 call L C l L r e q i j h ((e : Int)) 0 0 ((e : Int)) false) := by kernel_rfl
def N88 : NTab := fun p => match p with
  | 218 => nm [5] [6] [5,6,14]
  | _ => none
noncomputable def F88_218 (call : CL) (L : Nat) (C : Nat → Nat) (h : FuncId → List D → Option (List (List D))) (i : List (List D)) (e : Ow) : Option D :=
 listAt (TEs call L C h) O0 N88 FinM.canon Tryz.f88 (bt 7 45) [] 151 i (St.mk (jn 5 (D.loc 5 0 0 :: jn 12 [])) (zn 5 ((1, some (Ob.box [ownD 14 e] false)) :: zn 8 [ownO 95 3 e, Z, Z, Z])))
theorem F88_218_niln (call : CL) (L : Nat) (C : Nat → Nat) (e : FuncId → List D → Option (List (List D))) : F88_218 call L C e  []  (Ow.nil) =
 (some (D.slc true 0 [])) := by kernel_rfl
theorem F88_218_consn (call : CL) (L : Nat) (C : Nat → Nat) (e : FuncId → List D → Option (List (List D))) (y : List D) (i : List (List D)) : F88_218 call L C e  (y :: i)  (Ow.nil) =
 (chkK (decide (List.length y = 1))
 (cellK y 0 fun d => aggK d 3 fun c => cellK c 0 fun j => intK .i64 j fun x => cellK c 1 fun q => intK .i64 q fun h => cellK c 2 fun r => boolK r fun b => ifK b
 (some (D.slc false 1 [D.int .i64 x, D.int .i64 h, D.bool b]))
 (F88_218 call L C e i (Ow.own 1 [D.int .i64 x, D.int .i64 h, D.bool b])))) := by kernel_rfl
theorem F88_218_nilo (call : CL) (L : Nat) (C : Nat → Nat) (i : FuncId → List D → Option (List (List D))) (h : Nat) (e : List D) : F88_218 call L C i  []  (Ow.own h e) =
 (some (D.slc false h e)) := by kernel_rfl
theorem F88_218_conso (call : CL) (L : Nat) (C : Nat → Nat) (r : FuncId → List D → Option (List (List D))) (q : List D) (J : List (List D)) (e : Nat) (j : List D) : F88_218 call L C r  (q :: J)  (Ow.own e j) =
 (chkK (decide (List.length q = 1))
 (cellK q 0 fun K => aggK K 3 fun i => cellK i 0 fun M => intK .i64 M fun z => cellK i 1 fun O => intK .i64 O fun B => cellK i 2 fun S => boolK S fun h => chkK (decide ((e + 1) * 24 ≤ limit ∧ e + 1 ≤ 9223372036854775807))
 (ifK h
 (some (D.slc false (e + 1) (j ++ [D.int .i64 z, D.int .i64 B, D.bool h])))
 (F88_218 call L C r J (Ow.own (e + 1) (j ++ [D.int .i64 z, D.int .i64 B, D.bool h])))))) := by kernel_rfl
theorem F88_eq (call : CL) (L : Nat) (C : Nat → Nat) (e : FuncId → List D → Option (List (List D))) (i : Bool) (j : Nat) (h : List D) (r : Bool) (z : Nat) (q : List D) : evFnT (TEs call L C e) O0 N88 FinM.canon Tryz.f88 [D.slc i j h, D.slc r z q] =
 (optK (e 151 [D.snap [D.slc i j h] 0, D.snap [D.slc r z q] 0]) fun B => F88_218 call L C e B (Ow.nil)) := by kernel_rfl
def N157 : NTab := fun p => match p with
  | 26 => nm [2] [] [2,11]
  | _ => none
noncomputable def F157o_26 (call : CL) (L : Nat) (C : Nat → Nat) (e : FuncId → List D → Option (List (List D))) (h : List (List D)) (vs : Ow) : Option D :=
 listAt (TEs call L C e) O0 N157 FinM.own Tryz.f157 [true, false, true, false] [] 137 h (St.mk (J :: J :: D.loc 2 0 0 :: jn 10 []) (Z :: Z :: (1, some (Ob.box [ownD 11 vs] false)) :: zn 8 [ownO 3 1 vs, Z]))
theorem F157o_26_niln (call : CL) (L : Nat) (C : Nat → Nat) (e : FuncId → List D → Option (List (List D))) : F157o_26 call L C e  []  (Ow.nil) =
 (some (D.nils)) := by kernel_rfl
theorem F157o_26_consn (call : CL) (L : Nat) (C : Nat → Nat) (e : FuncId → List D → Option (List (List D))) (y : List D) (h : List (List D)) : F157o_26 call L C e  (y :: h)  (Ow.nil) =
 (chkK (decide (List.length y = 1))
 (cellK y 0 fun d => intK .i64 d fun x => F157o_26 call L C e h (Ow.own 1 [D.int .i64 x]))) := by kernel_rfl
theorem F157o_26_nilo (call : CL) (L : Nat) (C : Nat → Nat) (i : FuncId → List D → Option (List (List D))) (h : Nat) (e : List D) : F157o_26 call L C i  []  (Ow.own h e) =
 (chkK (decide (List.length e = h * 1))
 (chkK (List.all e D.plain)
 (some (D.tup [D.int IntKind.u64 3, D.int IntKind.u64 1, D.slc false h e])))) := by kernel_rfl
theorem F157o_26_conso (call : CL) (L : Nat) (C : Nat → Nat) (i : FuncId → List D → Option (List (List D))) (h : List D) (q : List (List D)) (e : Nat) (j : List D) : F157o_26 call L C i  (h :: q)  (Ow.own e j) =
 (chkK (decide (List.length h = 1))
 (cellK h 0 fun r => intK .i64 r fun z => chkK (decide ((e + 1) * 8 ≤ limit ∧ e + 1 ≤ 9223372036854775807))
 (F157o_26 call L C i q (Ow.own (e + 1) (j ++ [D.int .i64 z]))))) := by kernel_rfl
theorem F157o_eq (call : CL) (L : Nat) (C : Nat → Nat) (e : FuncId → List D → Option (List (List D))) (i : Bool) (j : Nat) (h : List D) : evFnT (TEs call L C e) O0 N157 FinM.own Tryz.f157 [D.nils, D.fn (Fn.func 137) [] [D.snap [D.slc i j h] 0]] =
 (optK (e 137 [D.snap [D.slc i j h] 0]) fun q => F157o_26 call L C e q (Ow.nil)) := by kernel_rfl
end Go.Pd
end
section
namespace Go.Pd
open Go Go.Proofs Go.RowKit Go.Shelf
theorem mixedT : Tryz.prog.follows .mixedOrders = true := by kernel_rfl
theorem m1_ok : ∀ k g, M1 k = some g → MuOK Tryz.prog (fun _ => none) k g := by
  intro k g h
  unfold M1 at h
  split at h
  · rename_i hk
    simp only [decide_eq_true_eq] at hk
    subst hk
    cases h
    exact del_mut
  · split at h
    · rename_i hk
      simp only [decide_eq_true_eq] at hk
      subst hk
      cases h
      exact sort_mut (enters_of Tryz.func136 (by kernel_rfl) rfl) (fun blk off cap zs w hH hb hs => AnyM.slices_Sort_int Tryz.lsort blk off cap zs w hH hb hs)
    · cases h
theorem m1_no (k : FuncId) (e : TypeId) (n : Nat) : M1 k ≠ some (.own e n) := by
  intro h
  unfold M1 at h
  split at h
  · cases h
  · split at h <;> cases h
theorem m1_ow {Q : FuncId → TypeId → Nat → Prop} : ∀ k e n, M1 k = some (.own e n) → Q k e n := fun k e n h => absurd h (m1_no k e n)
abbrev CallsT (c : FuncId → List D → Option D) : Prop := ∀ k ds r, c k ds = some r → CallOK Tryz.prog (fun _ => none) k ds r
def callOf (base : FuncId → List D → Option D) : FuncId → List D → Option D := fun k ds => match cstG k ds with
  | some r => some r
  | none => base k ds
def C1 : Nat → Nat := fun _ => 1
theorem cst_ok : CallsT cstG := by
  have h0 : EnvOK (TE0 (fun _ _ => none) LL C1).E := ⟨fun _ _ _ h => (by cases h), m1_ok, m1_ow⟩
  intro k ds r h
  unfold cstG at h
  split at h
  · cases h
    exact evFnT_ok (Te := TE0 (fun _ _ => none) LL C1) mixedT h0 (fun _ _ _ h => by cases h) rfl (fun _ _ _ h => by cases h) Tryz.func129 (ord := O0) (N := N0) (keep := .canon) (by simp) (by kernel_rfl) (F129_eq _ _ _ _ _ _ _ _ _)
  · cases h
    exact evFnT_ok (Te := TE0 (fun _ _ => none) LL C1) mixedT h0 (fun _ _ _ h => by cases h) rfl (fun _ _ _ h => by cases h) Tryz.func96 (ord := O0) (N := N0) (keep := .canon) (by simp) (by kernel_rfl) (F96_eq _ _ _ _ _ _)
  · cases h
theorem callOf_ok {base : FuncId → List D → Option D} (hb : CallsT base) : CallsT (callOf base) := by
  intro k ds r h
  unfold callOf at h
  split at h
  · rename_i x hx
    cases h
    exact cst_ok k ds _ hx
  · exact hb k ds r h
theorem callOf_cst {base : FuncId → List D → Option D} : ∀ k ds r, cstG k ds = some r → callOf base k ds = some r := fun k ds r h => by
  unfold callOf
  rw [h]
theorem fnS {base : FuncId → List D → Option D} (hb : CallsT base) {sq : FuncId → List D → Option (List (List D))} (hs : ∀ g cs ys, sq g cs = some ys → SeqOK Tryz.prog (fun _ => none) g cs ys) {f : FuncId} {fn : Func} (hf : Tryz.prog.funcs[f]? = some fn) {ord : Ord} {N : NTab} (hok : okFn Tryz.prog ord fn = true) {ds : List D} {r : D}
    (he : evFnT (TEs (callOf base) LL C1 sq) ord N .canon fn ds = some r) : CallOK Tryz.prog (fun _ => none) f ds r :=
  evFnT_ok (Te := TEs (callOf base) LL C1 sq) mixedT ⟨inlC (callOf_ok hb), m1_ok, m1_ow⟩ callOf_cst rfl hs hf (by simp) hok he
def b1 : FuncId → List D → Option D := fun k ds => match k, ds with
  | 102, [.agg [.int .i64 _, .str s]] => some (.bool (emptyB s))
  | 116, [.int .i64 up, .int .i64 to] => some (.bool (overV up to))
  | 142, [.int .i64 _] => some (.bool false)
  | _, _ => none
def b2 : FuncId → List D → Option D := fun k ds => match k, ds with
  | 113, [.int .i64 x, .int .i64 y] => some (.int .i64 (cmpV x y))
  | _, _ => b1 k ds
def b3 : FuncId → List D → Option D := fun k ds => match k, ds with
  | 152, [.agg [.int .i64 x, .str s], .agg [.int .i64 y, .str s']] => some (.int .i64 (holeV x s y s'))
  | _, _ => b2 k ds
def noSq : FuncId → List D → Option (List (List D)) := fun _ _ => none
theorem noSq_ok : ∀ g cs ys, noSq g cs = some ys → SeqOK Tryz.prog (fun _ => none) g cs ys := fun _ _ _ h => by cases h
theorem none_ok : CallsT (fun _ _ => none) := fun _ _ _ h => by cases h
theorem b1_ok : CallsT b1 := by
  intro k ds r h
  unfold b1 at h
  split at h
  · cases h
    exact fnS none_ok noSq_ok Tryz.func102 (ord := O0) (N := N0) (by kernel_rfl) (F102_eq _ _ _ _ _ _)
  · rename_i up to
    cases h
    refine fnS none_ok noSq_ok Tryz.func116 (ord := O0) (N := N0) (by kernel_rfl) ((F116_eq _ _ _ _ up to).trans ?_)
    unfold overV
    generalize decide ((if IntKind.wrap .i64 (0 - up) > up then IntKind.wrap .i64 (0 - up) else up) > to) = b
    cases b <;> rfl
  · rename_i x
    cases h
    refine fnS none_ok noSq_ok Tryz.func142 (ord := O0) (N := N0) (by kernel_rfl) ((F142_eq _ _ _ _ x).trans ?_)
    simp
  · cases h
theorem b2_ok : CallsT b2 := by
  intro k ds r h
  unfold b2 at h
  split at h
  · rename_i x y
    cases h
    refine fnS b1_ok noSq_ok Tryz.func113 (ord := O0) (N := N0) (by kernel_rfl) ((F113_eq _ _ _ _ x y).trans ?_)
    have h1 : ∀ z : Int, callOf b1 142 [.int .i64 z] = some (.bool false) := fun _ => rfl
    simp only [h1, optK_some, boolK_bool, ifK_false]
    unfold cmpV
    generalize decide (x < y) = b
    generalize decide (x > y) = b'
    cases b <;> cases b' <;> rfl
  · exact b1_ok k ds r h
theorem b3_ok : CallsT b3 := by
  intro k ds r h
  unfold b3 at h
  split at h
  · rename_i x s y s'
    cases h
    refine fnS b2_ok noSq_ok Tryz.func152 (ord := O0) (N := N152) (by kernel_rfl) ((F152_eq _ _ _ _ x s y s').trans ?_)
    have h1 : ∀ (z : Int) (t : ByteArray), callOf b2 102 [.agg [.int .i64 z, .str t]] = some (.bool (emptyB t)) := fun _ _ => rfl
    have h2 : ∀ z z' : Int, callOf b2 113 [.int .i64 z, .int .i64 z'] = some (.int .i64 (cmpV z z')) := fun _ _ => rfl
    simp only [F152_25_eq _ _ _ _ _ _ _ _ _ (fun _ => rfl : ∀ t, C1 t = 1), h1, h2, optK_some, boolK_bool, intK_int]
    unfold holeV
    cases emptyB s <;> cases emptyB s' <;> simp
  · exact b2_ok k ds r h
/-! ### Iterators -/
theorem itOK {f : FuncId} {fn : Func} (hf : Tryz.prog.funcs[f]? = some fn) {ord : Ord} {N : NTab} (hok : okFn Tryz.prog ord fn = true) (hres : fn.results.toList = []) {c : Code} (hb : fn.body = some c) {caps : List D} {ys : List (List D)}
    (he : ∀ l, runI (evT (TEi (callOf b3) LL C1 l) ord N (bodyOf fn) 1 (startSt fn (.fn (.yield l) [] [] :: caps)) (finK (TEi (callOf b3) LL C1 l).E .raw fn)) = some ys) : SeqOK Tryz.prog (fun _ => none) f caps ys := by
  refine evItT_ok (Te := TEf (callOf b3) LL C1) mixedT ⟨inlC (callOf_ok b3_ok), m1_ok, m1_ow⟩ callOf_cst hf (N := N) hok hres ?_
  unfold evItT
  have hbo : bodyOf fn = c := by unfold bodyOf; rw [hb]; rfl
  rw [hbo] at he
  rw [hb]
  dsimp only
  have : (fun l => runI (evT { TEf (callOf b3) LL C1 with it := some l } ord N c 1 (startSt fn (.fn (.yield l) [] [] :: caps)) (finK (TEf (callOf b3) LL C1).E .raw fn))) = fun _ => some ys := funext he
  rw [this]
  exact sqOf_const _
theorem vals_eq (l : Nat) (f : Bool) (n : Nat) (c : List D) (hn : n < 4611686018427387904) : ∀ (k i fuel : Nat), i + k = n → k < fuel → F137_6 (callOf b3) LL C1 l fuel f n c n i = valsGo c k i
  | 0, i, fuel + 1, h, _ => by
    rw [F137_6_eq]
    have : decide ((i : Int) < n) = false := by simp; omega
    rw [this]
    rfl
  | k + 1, i, fuel + 1, h, hf => by
    rw [F137_6_eq]
    have h1 : decide ((i : Int) < n) = true := by simp; omega
    have h2 : decide ((0 : Int) ≤ i ∧ (i : Int) < n) = true := by simp; omega
    have h3 : IntKind.wrap .i64 ((i : Int) + 1) = ((i + 1 : Nat) : Int) := by rw [IntWalk.i64_in _ (by omega)]; rfl
    rw [h1, h2, h3, vals_eq l f n c hn k (i + 1) fuel (by omega) (by omega)]
    simp [valsGo]
theorem vals_ok {f : Bool} {n : Nat} {c : List D} {ys : List (List D)} (h : chkK (decide (n < 4611686018427387904)) (valsGo c n 0) = some ys) : SeqOK Tryz.prog (fun _ => none) 137 [.snap [.slc f n c] 0] ys := by
  obtain ⟨hn, h⟩ := chkK_inv h
  simp only [decide_eq_true_eq] at hn
  refine itOK Tryz.func137 (ord := O0) (N := N137) (by kernel_rfl) (by kernel_rfl) rfl fun l => ?_
  rw [F137_eq]
  exact (vals_eq l f n c hn n 0 LL (by omega) hn).trans h
theorem states_eq (l : Nat) (f : Bool) (n : Nat) (a : List D) (g : Bool) (m : Nat) (b : List D) (hn : n < 4611686018427387904) : ∀ (k i fuel : Nat) (up to : Int) (ov : Bool), i + k = n → k < fuel → F151_14 (callOf b3) LL C1 l fuel f n a g m b n i up to ov = stGo m a b k i up to
  | 0, i, fuel + 1, up, to, ov, h, _ => by
    rw [F151_14_eq]
    have : decide ((i : Int) < n) = false := by simp; omega
    rw [this]
    rfl
  | k + 1, i, fuel + 1, up, to, ov, h, hf => by
    rw [F151_14_eq]
    have h1 : decide ((i : Int) < n) = true := by simp; omega
    have h2 : decide ((0 : Int) ≤ i ∧ (i : Int) < n) = true := by simp; omega
    have h3 : IntKind.wrap .i64 ((i : Int) + 1) = ((i + 1 : Nat) : Int) := by rw [IntWalk.i64_in _ (by omega)]; rfl
    have h4 : decide ((0 : Int) ≤ i ∧ (i : Int) < m) = decide (i < m) := by simp
    have c1 : ∀ (x : Int) (s : ByteArray) (y : Int) (s' : ByteArray), callOf b3 152 [.agg [.int .i64 x, .str s], .agg [.int .i64 y, .str s']] = some (.int .i64 (holeV x s y s')) := fun _ _ _ _ => rfl
    have c2 : ∀ (x y : Int), callOf b3 116 [.int .i64 x, .int .i64 y] = some (.bool (overV x y)) := fun _ _ => rfl
    rw [h1, h2, ifK_true, chkK_true]
    unfold stGo
    refine cellK_congr (by simp) fun d hd => strK_congr fun s hs => ifK_congr (fun _ => rfl) fun _ => chkK_congr h4 fun hm => cellK_congr (by simp) fun d1 hd1 => strK_congr fun s1 hs1 => ifK_congr (fun _ => rfl) fun _ => ?_
    subst hs hs1
    rw [F151_1843_eq _ _ _ _ _ _ _ _ _ _ _ _ _ _ _ _ (fun _ => rfl : ∀ t, C1 t = 1)]
    rw [h2, h4]
    rw [h4] at hm
    rw [hm, chkK_true]
    refine cellK_congr (by simp) fun d2 hd2 => intK_congr fun x hx => ?_
    rw [cellK_some (by simpa using hd), strK_str, chkK_true]
    refine cellK_congr (by simp) fun d3 hd3 => intK_congr fun y hy => ?_
    rw [cellK_some (by simpa using hd1), strK_str, c1, optK_some, intK_int, c2, optK_some, boolK_bool, h3]
    rw [states_eq l f n a g m b hn k (i + 1) fuel _ _ _ (by omega) (by omega)]
    simp
theorem states_ok {f : Bool} {n : Nat} {a : List D} {g : Bool} {m : Nat} {b : List D} {ys : List (List D)} (h : chkK (decide (n < 4611686018427387904)) (stGo m a b n 0 0 n) = some ys) : SeqOK Tryz.prog (fun _ => none) 151 [.snap [.slc f n a] 0, .snap [.slc g m b] 0] ys := by
  obtain ⟨hn, h⟩ := chkK_inv h
  simp only [decide_eq_true_eq] at hn
  refine itOK Tryz.func151 (ord := O0) (N := N151) (by kernel_rfl) (by kernel_rfl) rfl fun l => ?_
  rw [F151_eq]
  exact (states_eq l f n a g m b hn n 0 LL _ _ _ (by omega) hn).trans h
theorem sqT_ok : ∀ g cs ys, sqT g cs = some ys → SeqOK Tryz.prog (fun _ => none) g cs ys := by
  intro g cs ys h
  unfold sqT at h
  split at h
  · exact vals_ok h
  · exact states_ok h
  · cases h
end Go.Pd
end
section
namespace Go.Pd
open Go Go.Proofs Go.RowKit Go.Shelf
theorem digs2_eq : ∀ i, i < 100 → Lib.decDigits i = digs2 i := by
  have : (List.range 100).all (fun i => Lib.decDigits i == digs2 i) = true := by kernel_rfl
  intro i hi
  have := List.all_eq_true.1 this i (by simpa using hi)
  simpa using this
theorem itoa_ok : ∀ ds r, itoaX ds = some r → CallOK Tryz.prog (fun _ => none) 117 ds r := by
  intro ds r h
  unfold itoaX at h
  split at h
  · rename_i n
    split at h
    · rename_i hn
      simp only [decide_eq_true_eq] at hn
      cases h
      refine ⟨enters_of Tryz.func117 (by kernel_rfl) rfl, fun I w vs hI hgl hl hr => ?_⟩
      obtain ⟨l⟩ := vs
      match l, hl with
      | [v], _ =>
        have hv := int_inv (hr 0 _ v rfl rfl)
        subst hv
        have := Tryz.strconv_Itoa_small n.toNat (by omega) w
        rw [digs2_eq _ (by omega), show ((n.toNat : Nat) : Int) = n by omega] at this
        refine this.mono ?_
        rintro e w' ⟨rfl, rfl⟩
        exact ⟨_, rfl, .str _, .refl _ _⟩
    · cases h
  · cases h
/-! ### match -/
theorem stGo_len {m : Nat} {a b : List D} : ∀ (k i : Nat) (up to : Int) (ys : List (List D)), stGo m a b k i up to = some ys → ys.length ≤ k
  | 0, _, _, _, _, h => by cases h; simp
  | k + 1, i, up, to, ys, h => by
    unfold stGo at h
    obtain ⟨d, _, h⟩ := cellK_inv h
    obtain ⟨s, _, h⟩ := strK_inv h
    rw [ifK_eq] at h
    split at h
    · cases h; simp
    · obtain ⟨_, h⟩ := chkK_inv h
      obtain ⟨d1, _, h⟩ := cellK_inv h
      obtain ⟨s1, _, h⟩ := strK_inv h
      rw [ifK_eq] at h
      split at h
      · cases h; simp
      · obtain ⟨d2, _, h⟩ := cellK_inv h
        obtain ⟨x, _, h⟩ := intK_inv h
        obtain ⟨d3, _, h⟩ := cellK_inv h
        obtain ⟨y, _, h⟩ := intK_inv h
        obtain ⟨_, ys', h1, h2⟩ := emitK_inv h
        subst h2
        have := stGo_len k _ _ _ _ h1
        simp; omega
def owOf (k : Nat) (acc : List D) : Ow := match k with
  | 0 => .nil
  | k + 1 => .own (k + 1) acc
theorem join_inv {y : List D} {l : List (List D)} {k : Nat} {acc : List D} {r : D} (h : joinGo (y :: l) k acc = some r) : ∃ x z b, y = [.agg [.int .i64 x, .int .i64 z, .bool b]] ∧ ifK b (some (.slc false (k + 1) (acc ++ [.int .i64 x, .int .i64 z, .bool true]))) (joinGo l (k + 1) (acc ++ [.int .i64 x, .int .i64 z, .bool false])) = some r := by
  unfold joinGo at h
  split at h
  · rename_i e; cases e
  · rename_i e; cases e
  · rename_i e
    cases e
    refine ⟨_, _, _, rfl, ?_⟩
    split at h
    · exact h
    · exact h
  · cases h
theorem join_eq (sq : FuncId → List D → Option (List (List D))) : ∀ (ys : List (List D)) (k : Nat) (acc : List D) (r : D), k + ys.length ≤ 1000 → (k = 0 → acc = []) → joinGo ys k acc = some r → F88_218 (callOf b3) LL C1 sq ys (owOf k acc) = some r
  | [], 0, acc, r, _, _, h => by
    rw [show owOf 0 acc = .nil from rfl, F88_218_niln]
    simpa [joinGo] using h
  | [], k + 1, acc, r, _, _, h => by
    rw [show owOf (k + 1) acc = .own (k + 1) acc from rfl, F88_218_nilo]
    simpa [joinGo] using h
  | y :: l, k, acc, r, hk, h0, h => by
    obtain ⟨x, z, b, rfl, h2⟩ := join_inv h
    have hacc : F88_218 (callOf b3) LL C1 sq ([.agg [.int .i64 x, .int .i64 z, .bool b]] :: l) (owOf k acc) = ifK b (some (.slc false (k + 1) (acc ++ [.int .i64 x, .int .i64 z, .bool b]))) (F88_218 (callOf b3) LL C1 sq l (.own (k + 1) (acc ++ [.int .i64 x, .int .i64 z, .bool b]))) := by
      cases k with
      | zero =>
        have := h0 rfl
        subst this
        rw [show owOf 0 [] = .nil from rfl, F88_218_consn]
        simp [cellK]
      | succ k =>
        rw [show owOf (k + 1) acc = .own (k + 1) acc from rfl, F88_218_conso]
        have hl : decide ((k + 1 + 1) * 24 ≤ limit ∧ k + 1 + 1 ≤ 9223372036854775807) = true := by
          simp at hk
          refine decide_eq_true ?_
          rw [show limit = 140737488355328 from rfl]
          omega
        rw [hl]
        simp [cellK]
    rw [hacc]
    cases b with
    | true => rw [ifK_true] at h2 ⊢; exact h2
    | false =>
      rw [ifK_false] at h2 ⊢
      exact join_eq sq l (k + 1) _ r (by simp at hk; omega) (by simp) h2
theorem match_ok : ∀ ds r, matchX ds = some r → CallOK Tryz.prog (fun _ => none) 88 ds r := by
  intro ds r h
  unfold matchX at h
  split at h
  · rename_i f n a g m b
    split at h
    · rename_i hn
      simp only [decide_eq_true_eq] at hn
      obtain ⟨ys, hys, h⟩ := optK_inv h
      refine fnS b3_ok sqT_ok Tryz.func88 (ord := O0) (N := N88) (by kernel_rfl) ((F88_eq _ _ _ _ _ _ _ _ _ _).trans ?_)
      rw [hys, optK_some]
      obtain ⟨_, hst⟩ := chkK_inv (show chkK (decide (n < 4611686018427387904)) (stGo m a b n 0 0 n) = some ys from hys)
      have hlen := stGo_len _ _ _ _ _ hst
      exact join_eq sqT ys 0 [] r (by omega) (fun _ => rfl) h
    · cases h
  · cases h
end Go.Pd
end
section
namespace Go.Pd
open Go Go.Proofs Go.RowKit Go.Shelf Go.Sort Go.Lib
theorem vals_map (zs : List Int) : ∀ (k i : Nat), i + k = zs.length → valsGo (zs.map (D.int .i64)) k i = some ((zs.drop i).map fun z => [.int .i64 z])
  | 0, i, h => by
    rw [List.drop_of_length_le (by omega)]
    rfl
  | k + 1, i, h => by
    have hi : i < zs.length := by omega
    unfold valsGo
    rw [cellK_some (d := .int .i64 zs[i]) (by simp [hi]), intK_int, vals_map zs k (i + 1) (by omega), List.drop_eq_getElem_cons hi]
    rfl
def ownRes5 : List Int → D
  | [] => .nils
  | z :: zs => .tup [.int .u64 3, .int .u64 1, .slc false (zs.length + 1) ((z :: zs).map (D.int .i64))]
theorem app_own (sq : FuncId → List D → Option (List (List D))) : ∀ (zs xs : List Int), 0 < xs.length → xs.length + zs.length ≤ 1000 → F157o_26 (callOf b3) LL C1 sq (zs.map fun z => [.int .i64 z]) (.own xs.length (xs.map (D.int .i64))) = some (.tup [.int .u64 3, .int .u64 1, .slc false (xs.length + zs.length) ((xs ++ zs).map (D.int .i64))])
  | [], xs, h0, h => by
    rw [List.map_nil, F157o_26_nilo]
    have h1 : decide ((xs.map (D.int .i64)).length = xs.length * 1) = true := by simp
    have h2 : (xs.map (D.int .i64)).all D.plain = true := by
      rw [List.all_eq_true]
      intro d hd
      obtain ⟨z, _, rfl⟩ := List.mem_map.1 hd
      rfl
    rw [h1, h2]
    simp
  | z :: zs, xs, h0, h => by
    rw [List.map_cons, F157o_26_conso]
    have h1 : decide ((xs.length + 1) * 8 ≤ limit ∧ xs.length + 1 ≤ 9223372036854775807) = true := by
      simp at h
      refine decide_eq_true ?_
      rw [show limit = 140737488355328 from rfl]
      omega
    rw [cellK_some (d := .int .i64 z) rfl, intK_int, h1]
    have := app_own sq zs (xs ++ [z]) (by simp) (by simp at h ⊢; omega)
    rw [List.length_append, List.map_append] at this
    simp only [List.length_cons, List.length_nil, List.map_cons, List.map_nil, Nat.zero_add] at this
    simp only [List.length_cons, List.length_nil, decide_true, chkK_true]
    rw [this]
    simp
    omega
theorem app_own0 (sq : FuncId → List D → Option (List (List D))) (zs : List Int) (h : zs.length ≤ 999) : F157o_26 (callOf b3) LL C1 sq (zs.map fun z => [.int .i64 z]) .nil = some (ownRes5 zs) := by
  cases zs with
  | nil => rw [List.map_nil, F157o_26_niln]; rfl
  | cons z zs =>
    rw [List.map_cons, F157o_26_consn]
    rw [cellK_some (d := .int .i64 z) rfl, intK_int]
    have := app_own sq zs [z] (by simp) (by simp at h ⊢; omega)
    simp only [List.length_cons, List.length_nil, List.map_cons, List.map_nil, Nat.zero_add] at this
    simp only [List.length_cons, List.length_nil, decide_true, chkK_true]
    rw [this]
    simp [ownRes5, Nat.add_comm]
section
variable {I : Nat → Prop} {w : World} {zs : List Int} {f : Bool} {fv : Value}
def HasNew (w : World) (zs : List Int) (en : Ending) (w' : World) : Prop := ∃ v, en = .returned v ∧ Blw (· < w.heap.size) w w' ∧ ((zs = [] ∧ v = .slice none 0 0) ∨ ∃ (b cap : Nat) (c : Array Value), zs ≠ [] ∧ v = .slice (some ⟨b, 0, none⟩) zs.length cap ∧
  w.heap.size ≤ b ∧ w'.heap[b]? = some (.cells c 3 (0, 0)) ∧ c.size = cap ∧ zs.length ≤ cap ∧ ∀ (j : Nat) (d : D) (v : Value), (zs.map (D.int .i64))[j]? = some d → c[j]? = some v → d.toV = some v)
theorem app_calls (hI : ∀ b, I b → b < w.heap.size) (hn : zs.length < 100) (hrel : RelC I w (.fn (.func 137) [] [.snap [.slc f zs.length (zs.map (D.int .i64))] 0]) fv) : Calls Tryz.prog 157 #[.slice none 0 0, fv] w (HasNew w zs) := by
  have hown : OwnOK Tryz.prog (fun _ => none) 157 [.nils, .fn (.func 137) [] [.snap [.slc f zs.length (zs.map (D.int .i64))] 0]] (ownRes5 zs) := by
    refine evFnT_own (Te := TEs (callOf b3) LL C1 sqT) mixedT ⟨inlC (callOf_ok b3_ok), m1_ok, m1_ow⟩ callOf_cst rfl sqT_ok Tryz.func157 (ord := O0) (N := N157) (by kernel_rfl) ((F157o_eq _ _ _ _ _ _ _).trans ?_)
    have : sqT 137 [.snap [.slc f zs.length (zs.map (D.int .i64))] 0] = some (zs.map fun z => [.int .i64 z]) := by
      show chkK (decide (zs.length < 4611686018427387904)) (valsGo _ _ 0) = _
      rw [decide_eq_true (show zs.length < 4611686018427387904 by omega), chkK_true, vals_map zs _ 0 (by omega)]
      rfl
    rw [this, optK_some, app_own0 _ _ (by omega)]
  refine (hown.2 I w #[.slice none 0 0, fv] hI (fun _ _ h => by cases h) rfl (fun j d v hd hv => ?_)).mono ?_
  · match j with
    | 0 => simp at hd hv; subst hd hv; exact .nils
    | 1 => simp at hd hv; subst hd hv; exact hrel
    | j + 2 => simp at hd
  · rintro en w' ⟨hb, h⟩
    rcases h with ⟨h1, h2⟩ | ⟨e, n, len, cs, b, cap, c, h1, h2, h3, h4, h5, h6, h7, h8, h9⟩
    · cases zs with
      | nil => exact ⟨_, h2, hb, .inl ⟨rfl, rfl⟩⟩
      | cons z zs => cases h1
    · cases zs with
      | nil => cases h1
      | cons z zs =>
        have he : (3 : Int) = (e : Int) ∧ (1 : Int) = (n : Int) ∧ zs.length + 1 = len ∧ (z :: zs).map (D.int .i64) = cs := by
          simp only [ownRes5, D.tup.injEq, List.cons.injEq, D.int.injEq, D.slc.injEq, true_and, and_true] at h1
          exact h1
        obtain ⟨he1, he2, he3, he4⟩ := he
        have e1 : e = 3 := by omega
        have e2 : n = 1 := by omega
        subst e1 e2 he3 he4
        exact ⟨_, h2, hb, .inr ⟨b, cap, c, by simp, rfl, h3, h4, by omega, h7, h9⟩⟩
theorem col_calls (hI : ∀ b, I b → b < w.heap.size) (hn : zs.length < 100) (hrel : RelC I w (.fn (.func 137) [] [.snap [.slc f zs.length (zs.map (D.int .i64))] 0]) fv) : Calls Tryz.prog 135 #[fv] w (HasNew w zs) := by
  have happ := app_calls hI hn hrel
  clear hrel hI
  go_enter Tryz.func135, Tryz.ntmps135
  go_wp2_with (go_at_call 157; refine happ.mono ?_; rintro e w' ⟨v, rfl, hb, h⟩)
  go_ret
  exact ⟨v, rfl, hb, h⟩
def SortedPost (I : Nat → Prop) (w : World) (zs : List Int) (en : Ending) (w' : World) : Prop := ∃ v, en = .returned v ∧ Blw (· < w.heap.size) w w' ∧ RelC (fun b => I b ∨ (w.heap.size ≤ b ∧ b < w'.heap.size)) w' (match zs with | [] => .slc true 0 [] | z :: l => .slc false (l.length + 1) ((sortI (z :: l)).map (D.int .i64))) v
theorem new_rel {c' : Array Value} {w' : World} {b cap : Nat} (hb : w.heap.size ≤ b) (hb' : w'.heap[b]? = some (.cells c' 3 (0, 0))) {xs : List Int} (hl : xs.length ≤ cap) (hcap : c'.size = cap) (hc : ∀ (j : Nat) (d : D) (v : Value), (xs.map (D.int .i64))[j]? = some d → c'[j]? = some v → d.toV = some v) :
    RelC (fun b => I b ∨ (w.heap.size ≤ b ∧ b < w'.heap.size)) w' (.slc false xs.length (xs.map (D.int .i64))) (.slice (some ⟨b, 0, none⟩) xs.length cap) := by
  have hlt : b < w'.heap.size := (Array.getElem?_eq_some_iff.1 hb').1
  have key : ∀ (j : Nat) (d : D), (xs.map (D.int .i64))[j]? = some d → w'.cell? ((⟨b, 0, none⟩ : Addr).add j) = some (.int .i64 xs[j]!) ∧ d = .int .i64 xs[j]! := fun j d hd => by
    rw [List.getElem?_map] at hd
    have hj : j < xs.length := by
      by_cases h : j < xs.length
      · exact h
      · rw [List.getElem?_eq_none (by omega)] at hd; simp at hd
    rw [List.getElem?_eq_getElem hj] at hd
    simp at hd
    subst hd
    have hjc : j < c'.size := by omega
    have h1 := hc j (.int .i64 xs[j]) c'[j] (by simp [hj]) (Array.getElem?_eq_getElem hjc)
    have h2 : c'[j] = .int .i64 xs[j] := by
      have : D.toV (.int .i64 xs[j]) = some (.int .i64 xs[j]) := rfl
      rw [this] at h1
      exact (Option.some.inj h1).symm
    rw [getElem!_pos xs j hj]
    refine ⟨?_, rfl⟩
    rw [cell_cells hb' 0 j, Nat.zero_add, Array.getElem?_eq_getElem hjc, h2]
  exact .slc false _ _ _ cap (fun j => .int .i64 xs[j]!) (fun _ => .inr ⟨hb, hlt⟩) (by simp) hl (fun j d hd => (key j d hd).1) (fun j d hd => by rw [(key j d hd).2]; exact .int _ _)
theorem sorted_calls (hI : ∀ b, I b → b < w.heap.size) (hn : zs.length < 100) (hrel : RelC I w (.fn (.func 137) [] [.snap [.slc f zs.length (zs.map (D.int .i64))] 0]) fv) : Calls Tryz.prog 95 #[fv] w (SortedPost I w zs) := by
  have hcol := col_calls hI hn hrel
  clear hrel hI
  go_enter Tryz.func95, Tryz.ntmps95
  go_wp2_with (go_at_call 135; refine hcol.mono ?_; rintro e w' ⟨v, rfl, hb, h⟩)
  rcases h with ⟨rfl, rfl⟩ | ⟨b, cap, c, hne, rfl, h3, h4, h5, h6, h7⟩
  · have hs : Calls Tryz.prog 136 #[.slice none 0 0] w' fun e w'' => e = .returned (.tuple #[]) ∧ w'' = w' := AnyM.slices_Sort_int_none Tryz.lsort none 0 w'
    go_wp2_with (go_at_call 136; refine hs.mono ?_; rintro e w'' ⟨rfl, rfl⟩)
    go_ret
    exact ⟨_, rfl, hb, .slcn true⟩
  · have hH := row_holds h4 (by omega) h7
    have hlt : b < w'.heap.size := (Array.getElem?_eq_some_iff.1 h4).1
    have hs : Calls Tryz.prog 136 #[.slice (some ⟨b, 0, none⟩) zs.length cap] w' _ := AnyM.slices_Sort_int Tryz.lsort b 0 cap zs w' hH hlt (by omega)
    have hend := fun q os => row_end h4 q os (zs.mergeSort fun x y => decide (x ≤ y)).toArray (sortI zs) (fun j x hx => by rw [sortI_eq]; simpa using hx)
    have HH : Aside _ := hend
    clear hend hH h7
    go_wp2_with (go_at_call 136; refine hs.mono ?_; rintro e w'' ⟨rfl, q, os, rfl⟩)
    go_ret
    obtain ⟨c', e1, e2, e3, e4, e5, e6, e7, e8⟩ := HH.out q os
    refine ⟨_, rfl, ⟨e6.trans hb.os, e7.trans hb.tape, ⟨e8.1.trans hb.output.1, Nat.le_trans hb.output.2 e8.2⟩, Nat.le_trans hb.size e4, fun k hk => (e5 k (by have := hb.size; omega) (by omega)).trans (hb.block k hk)⟩, ?_⟩
    cases zs with
    | nil => exact absurd rfl hne
    | cons z l =>
      have := new_rel (I := I) (w := w) h3 e1 (xs := sortI (z :: l)) (cap := cap) (by rw [sortI_len]; exact h6) (by omega) e3
      rw [sortI_len] at this
      exact this
end
end Go.Pd
end
