/-
  Chapter 2: the rounds of stations by the program, as equations.
  Chapter 2: stations put into rounds, by the program.
  Chapter 2: relief by the program, as equations.
  Chapter 2: relief by the program.
  Chapter 2: rounds of stations by the program, as equations.
  Chapter 2: rounds of stations by the program.
  Chapter 2: the least days of jobs by the program, as equations.
-/
import Derived.Test.YtmhbhlbnlmbhlaaGreatDoorCrA
import Derived.KernelRfl
import Derived.Test.YtmhbhlbnlmbhlaaGreatDoorCrE
import Derived.Test.YtmhbhlbnlmbhlaaGreatDoorPdFf
section
namespace Go.Pd
open Go Go.Proofs
set_option maxRecDepth 100000
def N104 : NTab := fun p => match p with
  | 122 => some { keep := [0, 1, 2, 3, 10, 26, 27], kl := [50, 53], ren := [(50, 50), (53, 53)] }
  | _ => none
noncomputable def F104_122 (call : CL) (K : FuncId → List D → Option D) (L : Nat) (C : Nat → Nat) (z : TypeId) (J n : Nat) (U : Bool) (V : Nat) (S : List D) (a0 : Int) (a3 : Nat) (X : Bool) (Y : Nat) (W : List D) (vn M O : Int) (a2 : List D) : Option D :=
 loopAt (TEP call K L C z J) O0 N104 (FinM.plc 2 z J) Tryz.f104 [true, true, true, false, true, false] []  n (St.mk (D.slc U V S :: D.int .i64 a0 :: D.own 2 0 a3 :: D.slc X Y W :: jn 6 (D.int .i64 vn :: jn 15 (D.int .i64 M :: D.int .i64 O :: jn 39 []))) (Z :: Z :: (1, some (Ob.arr z J a2 false)) :: zn 64 []))
theorem F104_122_eq (call : CL) (Y : FuncId → List D → Option D) (L : Nat) (C : Nat → Nat) (S : TypeId) (M n : Nat) (a0 : Bool) (a1 : Nat) (Z : List D) (X : Int) (J : Nat) (a5 : Bool) (a6 : Nat) (a4 : List D) (O a3 z : Int) (K : List D) : F104_122 call Y L C S M  (n + 1) a0 a1 Z X J a5 a6 a4 O a3 z K =
 (ifK (decide (z < a3))
 (chkK (decide (0 ≤ z ∧ z < (J : Int)))
 (cellK K (Int.toNat z * 1) fun ae =>
 (intK .i64 ae fun ay =>
 (ifK (decide (IntKind.wrap .i64 (ay + O) > X))
 (F104_122 call Y L C S M n a0 a1 Z X J a5 a6 a4 O a3 (IntKind.wrap .i64 (z + 1)) K)
 (chkK (decide (0 ≤ z ∧ z < (J : Int)))
 (cellK K (Int.toNat z * 1) fun ai =>
 (intK .i64 ai fun a2 =>
 (chkK (decide (0 ≤ z ∧ z < (J : Int)))
 (chkK (decide (Int.toNat z * 1 + 1 ≤ List.length K))
 (optK (call 173 [D.slc a5 a6 a4]) fun r =>
 (slcK r fun f W c =>
 (ifK f
 (chkK (decide (0 < 1 ∧ List.length c = W * 1 ∧ (W + 1) * 8 ≤ limit ∧ W + 1 ≤ 4611686018427387903))
 (chkK (List.all (writeAt K (Int.toNat z * 1) [D.int .i64 (IntKind.wrap .i64 (a2 + O))]) D.plain)
 (optK (Y 104 [D.slc a0 a1 Z, D.int .i64 X, D.slc false J (writeAt K (Int.toNat z * 1) [D.int .i64 (IntKind.wrap .i64 (a2 + O))]), D.slc false (W + 1) (c ++ [D.int .i64 z])]) fun aw =>
 (tupK aw 2 fun a7 =>
 (cellK a7 0 fun aj =>
 (slcK aj fun _f_1 _n_2 U =>
 (cellK a7 1 fun ak =>
 (tupK ak 2 fun a8 =>
 (cellK a8 0 fun al =>
 (slcK al fun aq au ac =>
 (cellK a8 1 fun am =>
 (boolK am fun b =>
 (chkK (decide (List.length U = List.length (writeAt K (Int.toNat z * 1) [D.int .i64 (IntKind.wrap .i64 (a2 + O))])))
 (chkK (List.all U D.plain)
 (ifK b
 (chkK (decide (S = S))
 (chkK (decide (M = M))
 (chkK (decide (List.length U = J * M))
 (chkK (List.all U D.plain)
 (some (D.tup [D.slc false J U, D.tup [D.slc aq au ac, D.bool true]]))))))
 (chkK (decide (0 ≤ z ∧ z < (J : Int)))
 (cellK U (Int.toNat z * 1) fun an =>
 (intK .i64 an fun az =>
 (chkK (decide (0 ≤ z ∧ z < (J : Int)))
 (chkK (decide (Int.toNat z * 1 + 1 ≤ List.length U))
 (F104_122 call Y L C S M n a0 a1 Z X J a5 a6 a4 O a3 (IntKind.wrap .i64 (z + 1)) (writeAt U (Int.toNat z * 1) [D.int .i64 (IntKind.wrap .i64 (az - O))]))))))))))))))))))))))
 (chkK (List.all c D.plain)
 (chkK (decide (List.length c = W * 1))
 (chkK (decide ((W + 1) * 8 ≤ limit ∧ W + 1 ≤ 9223372036854775807))
 (chkK (List.all (writeAt K (Int.toNat z * 1) [D.int .i64 (IntKind.wrap .i64 (a2 + O))]) D.plain)
 (optK (Y 104 [D.slc a0 a1 Z, D.int .i64 X, D.slc false J (writeAt K (Int.toNat z * 1) [D.int .i64 (IntKind.wrap .i64 (a2 + O))]), D.slc false (W + 1) (c ++ [D.int .i64 z])]) fun ax =>
 (tupK ax 2 fun a9 =>
 (cellK a9 0 fun ao =>
 (slcK ao fun _f_3 _n_4 V =>
 (cellK a9 1 fun ap =>
 (tupK ap 2 fun aa =>
 (cellK aa 0 fun af =>
 (slcK af fun ar av ad =>
 (cellK aa 1 fun ag =>
 (boolK ag fun ab =>
 (chkK (decide (List.length V = List.length (writeAt K (Int.toNat z * 1) [D.int .i64 (IntKind.wrap .i64 (a2 + O))])))
 (chkK (List.all V D.plain)
 (ifK ab
 (chkK (decide (S = S))
 (chkK (decide (M = M))
 (chkK (decide (List.length V = J * M))
 (chkK (List.all V D.plain)
 (some (D.tup [D.slc false J V, D.tup [D.slc ar av ad, D.bool true]]))))))
 (chkK (decide (0 ≤ z ∧ z < (J : Int)))
 (cellK V (Int.toNat z * 1) fun ah =>
 (intK .i64 ah fun aA =>
 (chkK (decide (0 ≤ z ∧ z < (J : Int)))
 (chkK (decide (Int.toNat z * 1 + 1 ≤ List.length V))
 (F104_122 call Y L C S M n a0 a1 Z X J a5 a6 a4 O a3 (IntKind.wrap .i64 (z + 1)) (writeAt V (Int.toNat z * 1) [D.int .i64 (IntKind.wrap .i64 (aA - O))]))))))))))))))))))))))))))))))))))))
 (chkK (decide (S = S))
 (chkK (decide (M = M))
 (chkK (decide (List.length K = J * M))
 (chkK (List.all K D.plain)
 (some (D.tup [D.slc false J K, D.tup [D.slc true 0 [], D.bool false]]))))))) := by kernel_rfl
theorem F104_eq (call : CL) (X : FuncId → List D → Option D) (L : Nat) (C : Nat → Nat) (K : TypeId) (J O : Nat) (M : List D) (Y : Bool) (S : Nat) (U : List D) (Z : Int) (W : Bool) (z : Nat) (V : List D) : evFnTA (TEP call X L C K J) O0 N104 2 K J Tryz.f104 O M [D.slc Y S U, D.int .i64 Z, D.nils, D.slc W z V] =
 (ifK ((z : Int) == (S : Int))
 (chkK (decide (K = K))
 (chkK (decide (J = J))
 (chkK (decide (List.length M = O * J))
 (chkK (List.all M D.plain)
 (some (D.tup [D.slc false O M, D.tup [D.slc W z V, D.bool true]]))))))
 (chkK (decide (0 ≤ (z : Int) ∧ (z : Int) < (S : Int)))
 (cellK U (Int.toNat (z : Int) * 1) fun d =>
 (intK .i64 d fun x =>
 (F104_122 call X L C K J L Y S U Z O W z V x ((O : Int)) 0 M))))) := by kernel_rfl
def N37 : NTab := fun p => match p with
  | 15 => some { keep := [0, 3], kl := [39], ren := [(3, 3), (39, 39)] }
  | 62 => some { keep := [0, 3, 8], kl := [39], ren := [(3, 3), (39, 39)] }
  | _ => none
def O37 : Ord := fun id => match id with
  | 7 => some { bar := true, ks := [39] }
  | _ => none
noncomputable def F37_62 (call : CL) (z : FuncId → List D → Option D) (L : Nat) (C : Nat → Nat) (K : Nat) (O : Bool) (S : Nat) (M : List D) (U V : Int) : Option D :=
 loopAt (TEq call z L C) O37 N37 FinM.canon Tryz.f37 [true, true, true, true, false] []  K (St.mk (D.slc O S M :: J :: J :: D.loc 3 0 0 :: J :: J :: J :: J :: D.int .i64 V :: jn 36 []) (Z :: Z :: Z :: (1, some (Ob.box [D.int .i64 U] false)) :: zn 41 []))
noncomputable def F37_15 (call : CL) (z : FuncId → List D → Option D) (L : Nat) (C : Nat → Nat) (M : Bool) (O : Nat) (K : List D) (S : Int) : Option D :=
 cutAt (TEq call z L C) O37 N37 FinM.canon Tryz.f37 [true, true, true] []  (C 15) (St.mk (D.slc M O K :: J :: J :: D.loc 3 0 0 :: jn 41 []) (Z :: Z :: Z :: (1, some (Ob.box [D.int .i64 S] false)) :: zn 41 []))
theorem F37_62_eq (call : CL) (J : FuncId → List D → Option D) (L : Nat) (C : Nat → Nat) (W : Nat) (M : Bool) (O : Nat) (K : List D) (S z : Int) : F37_62 call J L C  (W + 1) M O K S z =
 (chkK (decide (0 ≤ z ∧ z ≤ z ∧ z * (8 : Int) ≤ 140737488355328 ∧ z ≤ 9223372036854775807))
 (chkK (List.all (repD (Int.toNat z) [D.int .i64 0]) D.plain)
 (optK (J 104 [D.slc M O K, D.int .i64 S, D.slc false (Int.toNat z) (repD (Int.toNat z) [D.int .i64 0]), D.nils]) fun a4 =>
 (tupK a4 2 fun c =>
 (cellK c 0 fun d =>
 (slcK d fun _f _n_2 U =>
 (cellK c 1 fun Z =>
 (tupK Z 2 fun V =>
 (cellK V 0 fun a0 =>
 (slcK a0 fun a2 a3 Y =>
 (cellK V 1 fun a1 =>
 (boolK a1 fun X =>
 (chkK (decide (List.length U = List.length (repD (Int.toNat z) [D.int .i64 0])))
 (chkK (List.all U D.plain)
 (ifK X
 (some (D.tup [D.slc a2 a3 Y, D.int .i64 0]))
 (F37_62 call J L C W M O K S (IntKind.wrap .i64 (z + 1)))))))))))))))))) := by kernel_rfl
theorem F37_15_eq (call : CL) (z : FuncId → List D → Option D) (L : Nat) (C : Nat → Nat) (K : Bool) (M : Nat) (J : List D) (O : Int) (hC : ∀ t, C t = 1) : F37_15 call z L C  K M J O  =
 (F37_62 call z L C L K M J O 1) := by
  unfold F37_15
  rw [hC]
  kernel_rfl
theorem F37_eq (call : CL) (O : FuncId → List D → Option D) (L : Nat) (C : Nat → Nat) (M : Bool) (z : Nat) (K : List D) (J : Int) : evFnT (TEq call O L C) O37 N37 FinM.canon Tryz.f37 [D.slc M z K, D.int .i64 J] =
 (optK (call 102 [D.slc M z K, D.fn (Fn.func 103) [] [D.snap [D.int .i64 J] 0]]) fun r =>
 (boolK r fun b =>
 (optK (call 84 [D.bool ((z : Int) == 0), D.int .i64 12]) fun X =>
 (intK .i64 X fun x =>
 (optK (call 84 [D.bool (decide ((z : Int) > 8)), D.int .i64 22]) fun Y =>
 (intK .i64 Y fun S =>
 (optK (call 100 [D.int .i64 J, D.int .i64 1, D.int .i64 999999999]) fun Z =>
 (boolK Z fun W =>
 (ifK W
 (optK (call 84 [D.bool true, D.int .i64 3]) fun a0 =>
 (intK .i64 a0 fun a4 =>
 (optK (call 76 [D.slc true 3 [D.int .i64 x, D.int .i64 S, D.int .i64 a4]]) fun a1 =>
 (intK .i64 a1 fun U =>
 (ifK (U != 0)
 (some (D.tup [D.slc true 0 [], D.int .i64 U]))
 (F37_15 call O L C M z K J))))))
 (optK (call 84 [D.bool b, D.int .i64 3]) fun a2 =>
 (intK .i64 a2 fun a5 =>
 (optK (call 76 [D.slc true 3 [D.int .i64 x, D.int .i64 S, D.int .i64 a5]]) fun a3 =>
 (intK .i64 a3 fun V =>
 (ifK (V != 0)
 (some (D.tup [D.slc true 0 [], D.int .i64 V]))
 (F37_15 call O L C M z K J))))))))))))))) := by kernel_rfl
end Go.Pd
end
section
namespace Go.Pd
open Go Go.Proofs Go.RowKit
set_option maxRecDepth 100000
/-! ### What is computed -/
def tryS (limit n : Int) (rec : List Int → Nat → Option (List Int × List Int)) (used : List Int) : Nat → Nat → Option (List Int × List Int)
  | 0, _ => none
  | k + 1, i => match used[i]? with
    | none => none
    | some u => if u + n > limit then tryS limit n rec used k (i + 1) else match rec (used.set i (u + n)) i with
      | some r => some r
      | none => tryS limit n rec used k (i + 1)
def fillS (limit : Int) : List Int → List Int → List Int → Option (List Int × List Int)
  | [], used, l => some (l, used)
  | n :: rest, used, l => tryS limit n (fun used' i => fillS limit rest used' (l ++ [(i : Int)])) used used.length 0
def fillR (lf : Bool) (len : Nat) (used : List Int) : Option (List Int × List Int) → D
  | some (l, u) => .tup [.slc false len (ints u), .tup [.slc lf l.length (ints l), .bool true]]
  | none => .tup [.slc false len (ints used), .tup [.slc true 0 [], .bool false]]
def Fit (limit : Int) (used : List Int) : Prop := ∀ u ∈ used, 0 ≤ u ∧ u ≤ limit
theorem fit_set {limit : Int} {used : List Int} (h : Fit limit used) {i : Nat} {v : Int} (h1 : 0 ≤ v) (h2 : v ≤ limit) : Fit limit (used.set i v) := fun u hu => by
  rcases List.mem_or_eq_of_mem_set hu with h' | rfl
  · exact h u h'
  · exact ⟨h1, h2⟩
theorem tryS_len {limit n : Int} {rec : List Int → Nat → Option (List Int × List Int)} {used : List Int} (hr : ∀ u i r, u.length = used.length → rec u i = some r → r.2.length = used.length) : ∀ (k i : Nat) (r : List Int × List Int), tryS limit n rec used k i = some r → r.2.length = used.length
  | 0, _, _, h => by cases h
  | k + 1, i, r, h => by
    unfold tryS at h
    split at h
    · cases h
    · rename_i u hu
      split at h
      · exact tryS_len hr k (i + 1) r h
      · split at h
        · rename_i r' hr'
          cases h
          exact hr _ i _ (by simp) hr'
        · exact tryS_len hr k (i + 1) r h
theorem fillS_len (limit : Int) : ∀ (rest used l : List Int) (r : List Int × List Int), fillS limit rest used l = some r → r.2.length = used.length
  | [], _, _, r, h => by cases h; rfl
  | n :: rest, used, l, r, h => tryS_len (fun u i r' hu hr' => by rw [fillS_len limit rest _ _ r' hr', hu]) _ _ r h
/-! ### Cells -/
theorem ints_plain : ∀ l : List Int, (ints l).all D.plain = true
  | [] => rfl
  | _ :: l => ints_plain l
theorem ints_one : ∀ l : List Int, (ints l).all D.one = true
  | [] => rfl
  | _ :: l => ints_one l
theorem ints_set (l : List Int) (i : Nat) (v : Int) : writeAt (ints l) (i * 1) [D.int .i64 v] = ints (l.set i v) := by
  simp [writeAt, ints, List.map_set]
theorem cell_at {l : List Int} {i : Nat} {u : Int} (h : l[i]? = some u) (k : D → Option D) : cellK (ints l) (Int.toNat (i : Int) * 1) k = k (.int .i64 u) := cellK_some (by simp [ints, h]) k
/-! ### Calls that write into their third argument -/
theorem PlcC.congr {P : Program} {gl : Nat → Option D} {k : FuncId} {p : Nat} {ds ds' cs : List D} {len : Nat} {cs' : List D} {r x : D} (h : PlcC P gl k p ds' cs len cs' r) (he : ds'.set p x = ds.set p x) : PlcC P gl k p ds cs len cs' r := by
  have hl : ds'.length = ds.length := by have := congrArg List.length he; simpa using this
  intro I w b cap n e c vs h1 h2 h3 h4 h5 h6 h7 h8 h9 h10 h11 h12 h13 h14 h15 h16
  refine h I w b cap n e c vs h1 h2 h3 h4 h5 h6 h7 h8 h9 h10 (by omega) (by omega) h13 (fun j d v hj hd hv => ?_) h15 h16
  refine h14 j d v hj ?_ hv
  have := congrArg (fun l : List D => l[j]?) he
  simp only [List.getElem?_set_ne (Ne.symm hj)] at this
  rw [← this]
  exact hd
theorem en104 : ∀ vs w, (callFunc 104 vs).run Tryz.prog w = .ok (.enter 104 vs) w := enters_of Tryz.func104 (by kernel_rfl) rfl
abbrev PlcT (mu : FuncId → List D → Option D) : Prop := PlcOK Tryz.prog glO 104 2 (mu 104)
abbrev OwnI (base : FuncId → List D → Option D) : Prop := ∀ ds len cs, callOf base 173 ds = some (.slc false len cs) → OwnC Tryz.prog glO 173 3 1 ds len cs
theorem envP {base mu : FuncId → List D → Option D} (hb : CallsT base) (hm : PlcT mu) (ho : OwnI base) {e : TypeId} {n : Nat} : EnvOK (TEP (callOf base) mu LL C1 e n).E := by
  refine ⟨callOf_ok hb, fun k g hg => ?_, fun k e n hg => ?_⟩
  · have hg : wrP mu k = some g := hg
    unfold wrP at hg
    split at hg
    · cases hg; exact ⟨en173, by intros; rename_i h _ _; cases h⟩
    · cases hg; exact hm
    · cases hg
  · have hg : wrP mu k = some (.own e n) := hg
    unfold wrP at hg
    split at hg
    · cases hg; exact ho
    · cases hg
    · cases hg
theorem fnA {base mu : FuncId → List D → Option D} (hb : CallsT base) (hm : PlcT mu) (ho : OwnI base) {f : FuncId} {fn : Func} (hf : Tryz.prog.funcs[f]? = some fn) {ord : Ord} {N : NTab} (hok : okFn Tryz.prog ord fn = true) {p : Nat} (h0 : keepsAt p fn = true) {ds cs cs' : List D} {len : Nat} {r : D}
    (he : ∀ e n, cs.length = len * n → evFnTA (TEP (callOf base) mu LL C1 e n) ord N p e n fn len cs ds = some (.tup [.slc false len cs', r])) : PlcC Tryz.prog glO f p ds cs len cs' r :=
  evFnTA_ok (Te := TEP (callOf base) mu LL C1 0 0) mixedT (envP hb hm ho) callOf_cst rfl sqT_ok hf hok h0 he
theorem fnQ {base mu : FuncId → List D → Option D} (hb : CallsT base) (hm : PlcT mu) (ho : OwnI base) {f : FuncId} {fn : Func} (hf : Tryz.prog.funcs[f]? = some fn) {ord : Ord} {N : NTab} (hok : okFn Tryz.prog ord fn = true) {ds : List D} {r : D} (he : evFnT (TEq (callOf base) mu LL C1) ord N .canon fn ds = some r) : OK2 f ds r :=
  evFnT_ok (Te := TEq (callOf base) mu LL C1) mixedT (envP (e := 0) (n := 0) hb hm ho) callOf_cst rfl sqT_ok hf (by simp) hok he
def famCp : Fam := ⟨173, {x : Bool × List Int // x.2.length ≤ 1000}, fun x => [.slc x.1.1 x.1.2.length (ints x.1.2)], fun x => cpD x.1.2.length (ints x.1.2)⟩
theorem famCp_good : famCp.Good := ⟨fun x => ok173 (by have := x.2; omega) (by rw [ints_len]; omega) (ints_plain _) (ints_one _), fun x y e => by
    have e : [D.slc x.1.1 x.1.2.length (ints x.1.2)] = [D.slc y.1.1 y.1.2.length (ints y.1.2)] := e
    simp only [List.cons.injEq, D.slc.injEq, and_true] at e
    show cpD _ _ = cpD _ _
    rw [e.2.1, e.2.2], fun _ => rfl⟩
theorem famCp_own (x : {x : Bool × List Int // x.2.length ≤ 1000}) {ds : List D} {len : Nat} {cs : List D} (h1 : famCp.a x = ds) (h2 : famCp.r x = .slc false len cs) : OwnC Tryz.prog glO 173 3 1 ds len cs := by
  obtain ⟨⟨f, l⟩, hl⟩ := x
  have h1 : [D.slc f l.length (ints l)] = ds := h1
  have h2 : cpD l.length (ints l) = .slc false len cs := h2
  subst h1
  cases l with
  | nil => cases h2
  | cons y l =>
    have h2 : D.slc false (l.length + 1) (ints (y :: l)) = .slc false len cs := h2
    cases h2
    simp only [List.length_cons] at hl
    exact cloneI_own (by simp) (by simp only [List.length_cons]; unfold maxLen; omega) (by rw [ints_len]; simp) (by simp only [List.length_cons]; omega) (ints_plain _) (ints_one _)
theorem cp_base : ∃ B, CallsT B ∧ (∀ (f : Bool) (l : List Int), l.length ≤ 1000 → callOf B 173 [.slc f l.length (ints l)] = some (cpD l.length (ints l))) ∧ OwnI B := by
  obtain ⟨B, hb, ⟨e, _⟩, hB⟩ := exFo [famCp] ⟨famCp_good, trivial⟩ rfl
  refine ⟨B, hb, fun f l hl => e ⟨(f, l), hl⟩, fun ds len cs hc => ?_⟩
  rcases hB _ _ _ hc with h1 | ⟨F, hF, i, q1, q2, q3⟩
  · cases h1
  · rw [List.mem_singleton] at hF
    subst hF
    exact famCp_own i q2 q3
structure FI (flows : List Int) (limit : Int) (rest : List Int) where
  used : List Int
  l : List Int
  h1 : flows.drop l.length = rest
  h2 : l.length ≤ flows.length
  h3 : used.length ≤ 1000
  h4 : Fit limit used
def famFill (ff : Bool) (flows : List Int) (limit : Int) (rest : List Int) : Fam := ⟨104, FI flows limit rest, fun x => [.slc ff flows.length (ints flows), .int .i64 limit, .slc false x.used.length (ints x.used), .slc false x.l.length (ints x.l)], fun x => fillR false x.used.length x.used (fillS limit rest x.used x.l)⟩
theorem fillR_shape (lf : Bool) (len : Nat) (used : List Int) (o : Option (List Int × List Int)) : ∃ u r, fillR lf len used o = .tup [.slc false len (ints u), r] ∧ (∀ l u', o = some (l, u') → u = u' ∧ r = .tup [.slc lf l.length (ints l), .bool true]) ∧ (o = none → u = used ∧ r = .tup [.slc true 0 [], .bool false]) := by
  cases o with
  | none => exact ⟨used, _, rfl, (fun _ _ h => by cases h), fun _ => ⟨rfl, rfl⟩⟩
  | some x => exact ⟨x.2, _, rfl, (fun l u' h => by cases h; exact ⟨rfl, rfl⟩), (fun h => by cases h)⟩
def FillC (ff : Bool) (flows : List Int) (limit : Int) (rest : List Int) : Prop := ∀ (x : FI flows limit rest) (u : List Int) (r : D), fillR false x.used.length x.used (fillS limit rest x.used x.l) = .tup [.slc false x.used.length (ints u), r] →
  PlcC Tryz.prog glO 104 2 [.slc ff flows.length (ints flows), .int .i64 limit, .nils, .slc false x.l.length (ints x.l)] (ints x.used) x.used.length (ints u) r
theorem famFill_plc {ff : Bool} {flows : List Int} {limit : Int} {rest : List Int} (h : FillC ff flows limit rest) : ∃ mu, PlcT mu ∧ ∀ x : FI flows limit rest, mu 104 [.slc ff flows.length (ints flows), .int .i64 limit, .slc false x.used.length (ints x.used), .slc false x.l.length (ints x.l)] = some (fillR false x.used.length x.used (fillS limit rest x.used x.l)) := by
  classical
  refine ⟨fun k ds => if h : ∃ r, ∃ x : FI flows limit rest, (famFill ff flows limit rest).a x = ds ∧ (famFill ff flows limit rest).r x = r then some h.choose else none, plcOK_of en104 fun ds cs len f m cs' r hp hg => ?_, fun x => ?_⟩
  · dsimp only at hg
    split at hg
    · rename_i hx
      obtain ⟨x, q1, q2⟩ := hx.choose_spec
      have hg : hx.choose = .tup [.slc f m cs', r] := Option.some.inj hg
      rw [hg] at q2
      have q1 : [.slc ff flows.length (ints flows), .int .i64 limit, .slc false x.used.length (ints x.used), .slc false x.l.length (ints x.l)] = ds.set 2 (.slc false len cs) := q1
      have q2 : fillR false x.used.length x.used (fillS limit rest x.used x.l) = .tup [.slc f m cs', r] := q2
      have g2 := congrArg (fun l : List D => l[2]?) q1
      rw [List.getElem?_set_self hp] at g2
      have g2 : D.slc false x.used.length (ints x.used) = .slc false len cs := Option.some.inj g2
      cases g2
      obtain ⟨u, r', e1, _, _⟩ := fillR_shape false x.used.length x.used (fillS limit rest x.used x.l)
      have e2 := e1
      rw [q2] at e1
      cases e1
      refine (h x u r e2).congr (x := .slc false x.used.length (ints x.used)) ?_
      rw [← q1]
      rfl
    · cases hg
  · have hx : ∃ r, ∃ y : FI flows limit rest, (famFill ff flows limit rest).a y = [.slc ff flows.length (ints flows), .int .i64 limit, .slc false x.used.length (ints x.used), .slc false x.l.length (ints x.l)] ∧ (famFill ff flows limit rest).r y = r := ⟨_, x, rfl, rfl⟩
    show dite _ _ _ = _
    rw [dif_pos hx]
    obtain ⟨y, q1, q2⟩ := hx.choose_spec
    have q1 : [D.slc ff flows.length (ints flows), .int .i64 limit, .slc false y.used.length (ints y.used), .slc false y.l.length (ints y.l)] = [.slc ff flows.length (ints flows), .int .i64 limit, .slc false x.used.length (ints x.used), .slc false x.l.length (ints x.l)] := q1
    simp only [List.cons.injEq, D.slc.injEq, true_and, and_true] at q1
    have a1 := ints_inj q1.1.2
    have a2 := ints_inj q1.2.2
    rw [← q2]
    show some (fillR false y.used.length y.used (fillS limit rest y.used y.l)) = _
    rw [a1, a2]
/-! ### The walk -/
def afterF (te tn : Nat) (len i : Nat) (w : List D) (n : Int) (next : List D → Option D) (o : Option D) : Option D :=
  optK o fun r_1 => (tupK (r_1) 2 fun c_1 => (cellK (c_1) (0) fun d_3 => (slcK (d_3) fun _ _ c_2 => (cellK (c_1) (1) fun d_4 => (tupK (d_4) 2 fun c_3 => (cellK (c_3) (0) fun d_5 => (slcK (d_5) fun f_2 n_3 c_4 => (cellK (c_3) (1) fun d_6 => (boolK (d_6) fun b =>
    (chkK (decide (List.length c_2 = List.length w)) (chkK (List.all c_2 D.plain)
      (ifK (b) (chkK (decide (te = te)) (chkK (decide (tn = tn)) (chkK (decide (List.length c_2 = len * tn)) (chkK (List.all c_2 D.plain) (some (D.tup [D.slc false len c_2, D.tup [D.slc f_2 n_3 c_4, D.bool true]]))))))
        (chkK (decide (0 ≤ (i : Int) ∧ (i : Int) < (len : Int))) (cellK (c_2) (Int.toNat (i : Int) * 1) fun d_7 => (intK IntKind.i64 (d_7) fun x_3 => (chkK (decide (0 ≤ (i : Int) ∧ (i : Int) < (len : Int))) (chkK (decide (Int.toNat (i : Int) * 1 + 1 ≤ List.length c_2))
          (next (writeAt c_2 (Int.toNat (i : Int) * 1) [D.int IntKind.i64 (IntKind.wrap IntKind.i64 (x_3 - n))])))))))))))))))))))
theorem afterF_some {te tn len i : Nat} {w : List D} {n : Int} {next : List D → Option D} {used u2 l2 : List Int} (h1 : u2.length = w.length) (h2 : u2.length = len * tn) : afterF te tn len i w n next (some (fillR false len used (some (l2, u2)))) = some (fillR false len used (some (l2, u2))) := by
  have e1 : decide ((ints u2).length = w.length) = true := by simpa [ints_len] using h1
  have e2 : decide ((ints u2).length = len * tn) = true := by simpa [ints_len] using h2
  show (chkK (decide ((ints u2).length = w.length)) (chkK ((ints u2).all D.plain) (ifK true (chkK (decide (te = te)) (chkK (decide (tn = tn)) (chkK (decide ((ints u2).length = len * tn)) (chkK ((ints u2).all D.plain) (some (D.tup [D.slc false len (ints u2), D.tup [D.slc false l2.length (ints l2), D.bool true]])))))) _))) = _
  rw [e1, e2, ints_plain, decide_eq_true (rfl : te = te), decide_eq_true (rfl : tn = tn)]
  rfl
theorem afterF_none {te tn i : Nat} {n u : Int} {next : List D → Option D} {used : List Int} {w : List D} (hw : w.length = used.length) (hi : used[i]? = some u) (hu : 0 ≤ u ∧ u ≤ 999999999) : afterF te tn used.length i w n next (some (fillR false used.length (used.set i (u + n)) none)) = next (ints used) := by
  have hlt : i < used.length := (List.getElem?_eq_some_iff.1 hi).1
  have e1 : decide ((ints (used.set i (u + n))).length = w.length) = true := by simp [ints_len, hw]
  have e2 : decide ((0 : Int) ≤ (i : Int) ∧ (i : Int) < (used.length : Int)) = true := decide_eq_true ⟨by omega, by omega⟩
  have e3 : decide (Int.toNat (i : Int) * 1 + 1 ≤ (ints (used.set i (u + n))).length) = true := by simp [ints_len]; omega
  have e4 : (used.set i (u + n))[i]? = some (u + n) := by simp [hlt]
  show (chkK (decide ((ints (used.set i (u + n))).length = w.length)) (chkK ((ints (used.set i (u + n))).all D.plain) (ifK false _ (chkK (decide ((0 : Int) ≤ (i : Int) ∧ (i : Int) < (used.length : Int))) (cellK (ints (used.set i (u + n))) (Int.toNat (i : Int) * 1) fun d_7 => (intK IntKind.i64 (d_7) fun x_3 => (chkK (decide ((0 : Int) ≤ (i : Int) ∧ (i : Int) < (used.length : Int))) (chkK (decide (Int.toNat (i : Int) * 1 + 1 ≤ List.length (ints (used.set i (u + n)))))
          (next (writeAt (ints (used.set i (u + n))) (Int.toNat (i : Int) * 1) [D.int IntKind.i64 (IntKind.wrap IntKind.i64 (x_3 - n))])))))))))) = _
  rw [e1, chkK_true, ints_plain, chkK_true, ifK_false, e2, chkK_true, cell_at e4, intK_int, chkK_true, e3, chkK_true, show u + n - n = u by omega, wrap_in (by omega), Int.toNat_natCast, ints_set]
  congr 2
  rw [List.set_set]
  apply List.ext_getElem?
  intro j
  by_cases hj : i = j
  · subst hj
    rw [List.getElem?_set_self hlt, hi]
  · rw [List.getElem?_set_ne hj]
theorem go104 {B mu : FuncId → List D → Option D} {ff : Bool} {flows l used : List Int} {limit n : Int} {rest : List Int} {te tn : Nat} {lf : Bool}
    (h173 : ∀ (f : Bool) (l : List Int), l.length ≤ 1000 → callOf B 173 [.slc f l.length (ints l)] = some (cpD l.length (ints l)))
    (hmu : ∀ x : FI flows limit rest, mu 104 [.slc ff flows.length (ints flows), .int .i64 limit, .slc false x.used.length (ints x.used), .slc false x.l.length (ints x.l)] = some (fillR false x.used.length x.used (fillS limit rest x.used x.l)))
    (hd : flows.drop l.length = n :: rest) (hfl : flows.length ≤ 1000) (hul : used.length ≤ 1000) (hfit : Fit limit used) (hlim : limit ≤ 999999999) (hn : 1 ≤ n ∧ n ≤ limit) (htn : used.length = used.length * tn) :
    ∀ (k i fuel : Nat), i + k = used.length → k < fuel → F104_122 (callOf B) mu LL C1 te tn fuel ff flows.length (ints flows) limit used.length lf l.length (ints l) n (used.length : Int) (i : Int) (ints used) = some (fillR false used.length used (tryS limit n (fun u' j => fillS limit rest u' (l ++ [(j : Int)])) used k i)) := by
  have hll : l.length < flows.length := by
    have := congrArg List.length hd
    simp at this
    omega
  intro k
  induction k with
  | zero =>
    intro i fuel hi hf
    cases fuel with
    | zero => exact absurd hf (Nat.not_lt_zero _)
    | succ fuel =>
      have e1 : decide ((i : Int) < (used.length : Int)) = false := by simp; omega
      have e2 : decide ((ints used).length = used.length * tn) = true := by simpa [ints_len] using htn
      rw [F104_122_eq, e1, ifK_false, decide_eq_true (rfl : te = te), decide_eq_true (rfl : tn = tn), e2, ints_plain]
      rfl
  | succ k ih =>
    intro i fuel hi hf
    cases fuel with
    | zero => exact absurd hf (Nat.not_lt_zero _)
    | succ fuel =>
      have hlt : i < used.length := by omega
      have hu : used[i]? = some used[i] := List.getElem?_eq_getElem hlt
      obtain ⟨u, hue⟩ : ∃ u, u = used[i] := ⟨_, rfl⟩
      rw [← hue] at hu
      obtain ⟨hu0, hu1⟩ := hfit u (List.mem_of_getElem? hu)
      have e1 : decide ((i : Int) < (used.length : Int)) = true := by simp; omega
      have e2 : decide ((0 : Int) ≤ (i : Int) ∧ (i : Int) < (used.length : Int)) = true := decide_eq_true ⟨by omega, by omega⟩
      have e3 : IntKind.wrap .i64 ((i : Int) + 1) = ((i + 1 : Nat) : Int) := (wrap_in (by omega)).trans (by omega)
      have e4 : IntKind.wrap .i64 (u + n) = u + n := wrap_in (by omega)
      have ih := ih (i + 1) fuel (by omega) (by omega)
      rw [F104_122_eq, e1, ifK_true, e2, chkK_true, cell_at hu, intK_int, e4, e3, ih]
      have htry : tryS limit n (fun u' j => fillS limit rest u' (l ++ [(j : Int)])) used (k + 1) i = if u + n > limit then tryS limit n (fun u' j => fillS limit rest u' (l ++ [(j : Int)])) used k (i + 1) else match fillS limit rest (used.set i (u + n)) (l ++ [(i : Int)]) with
          | some r => some r
          | none => tryS limit n (fun u' j => fillS limit rest u' (l ++ [(j : Int)])) used k (i + 1) := by simp only [tryS, hu]
      rw [htry]
      by_cases hgt : u + n > limit
      · rw [show decide (u + n > limit) = true by simpa using hgt, ifK_true, if_pos hgt]
      · rw [show decide (u + n > limit) = false by simpa using hgt, ifK_false, if_neg hgt, chkK_true, cell_at hu, intK_int, e4, chkK_true, show decide (Int.toNat (i : Int) * 1 + 1 ≤ (ints used).length) = true by simp [ints_len]; omega, chkK_true, h173 _ _ (by omega), optK_some]
        rw [Int.toNat_natCast, ints_set, ints_plain]
        have hm := hmu ⟨used.set i (u + n), l ++ [(i : Int)], by rw [List.length_append, List.length_singleton, ← List.drop_drop, hd]; rfl, by simp; omega, by simpa using hul, fit_set hfit (by omega) (by omega)⟩
        simp only [List.length_set, List.length_append, List.length_singleton] at hm
        have hi2 : ints (l ++ [(i : Int)]) = ints l ++ [D.int .i64 (i : Int)] := by simp [ints]
        rw [hi2] at hm
        have fin : afterF te tn used.length i (ints (used.set i (u + n))) n (fun c => F104_122 (callOf B) mu LL C1 te tn fuel ff flows.length (ints flows) limit used.length lf l.length (ints l) n (used.length : Int) ((i + 1 : Nat) : Int) c) (mu 104 [.slc ff flows.length (ints flows), .int .i64 limit, .slc false used.length (ints (used.set i (u + n))), .slc false (l.length + 1) (ints l ++ [D.int .i64 (i : Int)])]) =
            some (fillR false used.length used (match fillS limit rest (used.set i (u + n)) (l ++ [(i : Int)]) with
              | some r => some r
              | none => tryS limit n (fun u' j => fillS limit rest u' (l ++ [(j : Int)])) used k (i + 1))) := by
          rw [hm]
          cases hS : fillS limit rest (used.set i (u + n)) (l ++ [(i : Int)]) with
          | some r =>
            obtain ⟨l2, u2⟩ := r
            have hlen := fillS_len limit rest _ _ _ hS
            simp only [List.length_set] at hlen
            exact afterF_some (by rw [ints_len, List.length_set]; exact hlen) (by rw [hlen]; exact htn)
          | none =>
            exact (afterF_none (by rw [ints_len, List.length_set]) hu (by omega)).trans ih
        have hfin := fin
        unfold afterF at hfin
        rw [Int.toNat_natCast, e2] at hfin
        rcases Nat.eq_zero_or_pos l.length with hl0 | hl0
        · have hl1 : ints l = [] := by rw [List.eq_nil_of_length_eq_zero hl0]; rfl
          rw [show cpD l.length (ints l) = .slc true 0 [] by rw [hl0]; rfl, slcK_slc, ifK_true, show decide (0 < 1 ∧ ([] : List D).length = 0 * 1 ∧ (0 + 1) * 8 ≤ Go.Pd.limit ∧ 0 + 1 ≤ 4611686018427387903) = true from rfl, chkK_true]
          rw [hl1, hl0] at hfin
          rw [hl1, hl0, chkK_true]
          exact hfin
        · rw [show cpD l.length (ints l) = .slc false l.length (ints l) by
            obtain ⟨m, hm⟩ : ∃ m, l.length = m + 1 := ⟨l.length - 1, by omega⟩
            rw [hm]
            rfl, slcK_slc, ifK_false, ints_plain, chkK_true, show decide ((ints l).length = l.length * 1) = true by simp [ints_len], chkK_true, show decide ((l.length + 1) * 8 ≤ Go.Pd.limit ∧ l.length + 1 ≤ 9223372036854775807) = true by simp [Go.Pd.limit]; omega, chkK_true, chkK_true]
          exact hfin
theorem okf104 : okFn Tryz.prog O0 Tryz.f104 = true := by kernel_rfl
theorem okFill (ff : Bool) (flows : List Int) (limit : Int) (hfl : flows.length ≤ 1000) (hlim : limit ≤ 999999999) (hr : ∀ n ∈ flows, 1 ≤ n ∧ n ≤ limit) : ∀ rest, FillC ff flows limit rest := by
  obtain ⟨B, hb, h173, ho⟩ := cp_base
  intro rest
  induction rest with
  | nil =>
    intro x u r hx
    obtain ⟨mu, hmu⟩ : ∃ mu : FuncId → List D → Option D, PlcT mu := ⟨fun _ _ => none, en104, by intros; rename_i h _ _; cases h⟩
    have hll : x.l.length = flows.length := by
      have h1 := congrArg List.length x.h1
      have h2 := x.h2
      simp at h1
      omega
    have hx : (D.tup [.slc false x.used.length (ints x.used), .tup [.slc false x.l.length (ints x.l), .bool true]]) = .tup [.slc false x.used.length (ints u), r] := hx
    simp only [D.tup.injEq, List.cons.injEq, D.slc.injEq, true_and, and_true] at hx
    rw [← hx.1, ← hx.2]
    refine fnA hb hmu ho Tryz.func104 (ord := O0) (N := N104) okf104 (by kernel_rfl) fun e n h => (F104_eq _ _ _ _ _ _ _ _ _ _ _ _ _ _ _).trans ?_
    rw [show ((x.l.length : Int) == (flows.length : Int)) = true by simp [hll], ifK_true, decide_eq_true (rfl : e = e), decide_eq_true (rfl : n = n), decide_eq_true h, ints_plain]
    rfl
  | cons n rest ih =>
    intro x u r hx
    obtain ⟨mu, hmu, hmt⟩ := famFill_plc ih
    have hll : x.l.length < flows.length := by
      have := congrArg List.length x.h1
      simp at this
      omega
    have hnf : flows[x.l.length]? = some n := by
      have := congrArg (fun l : List Int => l[0]?) x.h1
      simpa using this
    have hn := hr n (List.mem_of_getElem? hnf)
    refine fnA hb hmu ho Tryz.func104 (ord := O0) (N := N104) okf104 (by kernel_rfl) fun e tn h => (F104_eq _ _ _ _ _ _ _ _ _ _ _ _ _ _ _).trans ?_
    rw [ints_len] at h
    rw [show ((x.l.length : Int) == (flows.length : Int)) = false by simp; omega, ifK_false, show decide ((0 : Int) ≤ (x.l.length : Int) ∧ (x.l.length : Int) < (flows.length : Int)) = true from decide_eq_true ⟨by omega, by omega⟩, chkK_true, cell_at hnf, intK_int]
    have := go104 (lf := false) (te := e) h173 hmt x.h1 hfl x.h3 x.h4 hlim hn h x.used.length 0 LL (Nat.zero_add _) (by have := x.h3; unfold LL; omega)
    refine this.trans ?_
    rw [← hx]
    rfl
end Go.Pd
end
section
namespace Go.Pd
open Go Go.Proofs
set_option maxRecDepth 100000
def N34 : NTab := fun p => match p with
  | 122 => some { keep := [2, 3, 4, 5, 8, 11, 12, 13], kl := [15], ren := [(4, 4), (5, 5), (8, 8), (11, 11), (15, 15)] }
  | 7826 => some { keep := [2, 3, 4, 5, 8, 11, 12, 13, 14], kl := [15], ren := [(4, 4), (5, 5), (8, 8), (11, 11), (15, 15)] }
  | 62611 => some { keep := [2, 3, 4, 5, 8, 11, 12, 13, 14], kl := [15], ren := [(4, 4), (5, 5), (8, 8), (11, 11), (15, 15)] }
  | 500883 => some { keep := [2, 3, 4, 5, 8, 11, 12, 13, 14, 15], kl := [], ren := [(4, 4), (5, 5), (8, 8), (11, 11), (15, 15)] }
  | _ => none
noncomputable def F34_62611 (call : CL) (L : Nat) (C : Nat → Nat) (n z : Nat) (a5 : ByteArray) (a8 vx vy : Int) (S : ByteArray) (U V W X : Int) (a0 : Bool) (a1 : Nat) (Y : List D) (a3 : Bool) (a4 : Nat) (a2 : List D) (a6 a7 : Int) (O : Bool) (M K : Int) : Option D :=
 cutAt (TEf call L C) O0 N34 FinM.canon Tryz.f34 [true, true, true, false, true, false, false, true, false, false, true, false, false, true, true] [n, z]  (C 62611) (St.mk (J :: J :: D.str a5 :: D.int .i64 a8 :: D.loc 4 0 0 :: D.loc 5 0 0 :: J :: J :: D.loc 8 0 0 :: J :: J :: D.loc 11 0 0 :: D.bool O :: D.int .i64 vx :: D.int .i64 vy :: jn 101 []) (Z :: Z :: Z :: Z :: (1, some (Ob.box [D.str S, D.int .i64 U, D.int .i64 V, D.int .i64 W, D.int .i64 X, D.slc a0 a1 Y, D.slc a3 a4 a2] false)) :: (1, some (Ob.box [D.int .i64 a6, D.int .i64 a7] false)) :: Z :: Z :: (1, some (Ob.box [D.int .i64 0, D.int .i64 0] false)) :: Z :: Z :: (1, some (Ob.box [D.int .i64 M, D.int .i64 K] false)) :: zn 104 []))
noncomputable def F34_500883 (call : CL) (L : Nat) (C : Nat → Nat) (n z : Nat) (a5 : ByteArray) (a8 : Int) (O : Bool) (vx vy : Int) (S : ByteArray) (U V W X : Int) (a0 : Bool) (a1 : Nat) (Y : List D) (a3 : Bool) (a4 : Nat) (a2 : List D) (a6 a7 M K : Int) : Option D :=
 cutAt (TEf call L C) O0 N34 FinM.canon Tryz.f34 [true, true, true, false, true, false, false, true, false, false, true, false, false, true, false, false, true, true] [n, z]  (C 500883) (St.mk (J :: J :: D.str a5 :: D.int .i64 a8 :: D.loc 4 0 0 :: D.loc 5 0 0 :: J :: J :: D.loc 8 0 0 :: J :: J :: D.loc 11 0 0 :: D.bool O :: D.int .i64 vx :: D.int .i64 vy :: D.loc 15 0 0 :: jn 100 []) (Z :: Z :: Z :: Z :: (1, some (Ob.box [D.str S, D.int .i64 U, D.int .i64 V, D.int .i64 W, D.int .i64 X, D.slc a0 a1 Y, D.slc a3 a4 a2] false)) :: (1, some (Ob.box [D.int .i64 a6, D.int .i64 a7] false)) :: Z :: Z :: (1, some (Ob.box [D.int .i64 0, D.int .i64 0] false)) :: Z :: Z :: (1, some (Ob.box [D.int .i64 M, D.int .i64 K] false)) :: Z :: Z :: Z :: (1, some (Ob.box [D.int .i64 vx, D.int .i64 vy] false)) :: zn 100 []))
noncomputable def F34_7826 (call : CL) (L : Nat) (C : Nat → Nat) (n z : Nat) (a5 : ByteArray) (a8 vx : Int) (S : ByteArray) (U V W X : Int) (a0 : Bool) (a1 : Nat) (Y : List D) (a3 : Bool) (a4 : Nat) (a2 : List D) (a6 a7 : Int) (O : Bool) (vy M K : Int) : Option D :=
 loopAt (TEf call L C) O0 N34 FinM.canon Tryz.f34 [true, true, true, false, true, false, false, true, false, false, true, false] [n]  z (St.mk (J :: J :: D.str a5 :: D.int .i64 a8 :: D.loc 4 0 0 :: D.loc 5 0 0 :: J :: J :: D.loc 8 0 0 :: J :: J :: D.loc 11 0 0 :: D.bool O :: D.int .i64 vx :: D.int .i64 vy :: jn 101 []) (Z :: Z :: Z :: Z :: (1, some (Ob.box [D.str S, D.int .i64 U, D.int .i64 V, D.int .i64 W, D.int .i64 X, D.slc a0 a1 Y, D.slc a3 a4 a2] false)) :: (1, some (Ob.box [D.int .i64 a6, D.int .i64 a7] false)) :: Z :: Z :: (1, some (Ob.box [D.int .i64 0, D.int .i64 0] false)) :: Z :: Z :: (1, some (Ob.box [D.int .i64 M, D.int .i64 K] false)) :: zn 104 []))
noncomputable def F34_122 (call : CL) (L : Nat) (C : Nat → Nat) (n : Nat) (a4 : ByteArray) (a7 : Int) (O : ByteArray) (S U V W : Int) (Y : Bool) (a0 : Nat) (X : List D) (a2 : Bool) (a3 : Nat) (a1 : List D) (a5 a6 : Int) (M : Bool) (vx z K : Int) : Option D :=
 loopAt (TEf call L C) O0 N34 FinM.canon Tryz.f34 [true, true, true, false, true, false] []  n (St.mk (J :: J :: D.str a4 :: D.int .i64 a7 :: D.loc 4 0 0 :: D.loc 5 0 0 :: J :: J :: D.loc 8 0 0 :: J :: J :: D.loc 11 0 0 :: D.bool M :: D.int .i64 vx :: jn 102 []) (Z :: Z :: Z :: Z :: (1, some (Ob.box [D.str O, D.int .i64 S, D.int .i64 U, D.int .i64 V, D.int .i64 W, D.slc Y a0 X, D.slc a2 a3 a1] false)) :: (1, some (Ob.box [D.int .i64 a5, D.int .i64 a6] false)) :: Z :: Z :: (1, some (Ob.box [D.int .i64 0, D.int .i64 0] false)) :: Z :: Z :: (1, some (Ob.box [D.int .i64 z, D.int .i64 K] false)) :: zn 104 []))
theorem F34_62611_eq (call : CL) (L : Nat) (C : Nat → Nat) (n z : Nat) (a3 : ByteArray) (a6 vx vy : Int) (O : ByteArray) (S U V W : Int) (Y : Bool) (Z : Nat) (X : List D) (a1 : Bool) (a2 : Nat) (a0 : List D) (a4 a5 : Int) (M : Bool) (K J : Int) (hC : ∀ t, C t = 1) : F34_62611 call L C n z a3 a6 vx vy O S U V W Y Z X a1 a2 a0 a4 a5 M K J =
 (F34_7826 call L C n z a3 a6 vx O S U V W Y Z X a1 a2 a0 a4 a5 M (IntKind.wrap .i64 (vy + 1)) K J) := by
  unfold F34_62611
  rw [hC]
  kernel_rfl
theorem F34_500883_eq (call : CL) (L : Nat) (C : Nat → Nat) (n a0 : Nat) (Z : ByteArray) (a3 : Int) (a6 : Bool) (vx vy : Int) (z : ByteArray) (J K M O : Int) (U : Bool) (V : Nat) (S : List D) (X : Bool) (Y : Nat) (W : List D) (a1 a2 a5 a4 : Int) (hC : ∀ t, C t = 1) : F34_500883 call L C n a0 Z a3 a6 vx vy z J K M O U V S X Y W a1 a2 a5 a4  =
 (optK (call 78 [D.agg [D.str z, D.int .i64 J, D.int .i64 K, D.int .i64 M, D.int .i64 O, D.slc U V S, D.slc X Y W], D.fn (Fn.func 101) [] [D.snap [D.int .i64 vx, D.int .i64 vy] 0]]) fun a8 =>
 (tupK a8 2 fun c =>
 (cellK c 0 fun d =>
 (strK d fun s =>
 (cellK c 1 fun a7 =>
 (intK .i64 a7 fun _x_11 =>
 (ifK (!ByteArray.toList s == ByteArray.toList Z)
 (ifK (!ByteArray.toList s == ByteArray.toList (ByteArray.mk #[111, 117, 116]))
 (F34_62611 call L C n a0 Z a3 vx vy z J K M O U V S X Y W a1 a2 true vx vy)
 (F34_62611 call L C n a0 Z a3 vx vy z J K M O U V S X Y W a1 a2 a6 a5 a4))
 (F34_62611 call L C n a0 Z a3 vx vy z J K M O U V S X Y W a1 a2 a6 a5 a4)))))))) := by
  unfold F34_500883
  rw [hC]
  kernel_rfl
theorem F34_7826_eq (call : CL) (L : Nat) (C : Nat → Nat) (n a6 : Nat) (a5 : ByteArray) (K vx : Int) (W : ByteArray) (X Y M O : Int) (a0 : Bool) (a1 : Nat) (Z : List D) (a3 : Bool) (a4 : Nat) (a2 : List D) (J z : Int) (V : Bool) (vy U S : Int) : F34_7826 call L C n (a6 + 1) a5 K vx W X Y M O a0 a1 Z a3 a4 a2 J z V vy U S =
 (ifK (decide (vy ≤ IntKind.wrap .i64 (z + K)))
 (optK (call 83 [D.agg [D.int .i64 vx, D.int .i64 vy], D.agg [D.int .i64 J, D.int .i64 z]]) fun a9 =>
 (intK .i64 a9 fun ae =>
 (ifK (decide (ae > IntKind.wrap .i64 (K * K)))
 (F34_62611 call L C n a6 a5 K vx vy W X Y M O a0 a1 Z a3 a4 a2 J z V U S)
 (optK (call 77 [D.slc true 1 [D.int .i64 vx, D.int .i64 vy]]) fun aa =>
 (intK .i64 aa fun af =>
 (ifK (af != 0)
 (F34_62611 call L C n a6 a5 K vx vy W X Y M O a0 a1 Z a3 a4 a2 J z V U S)
 (optK (call 83 [D.agg [D.int .i64 vx, D.int .i64 vy], D.agg [D.int .i64 M, D.int .i64 O]]) fun ab =>
 (intK .i64 ab fun ag =>
 (optK (call 83 [D.agg [D.int .i64 J, D.int .i64 z], D.agg [D.int .i64 M, D.int .i64 O]]) fun ac =>
 (intK .i64 ac fun ah =>
 (ifK (decide (ag < ah))
 (F34_62611 call L C n a6 a5 K vx vy W X Y M O a0 a1 Z a3 a4 a2 J z V U S)
 (ifK V
 (optK (call 83 [D.agg [D.int .i64 vx, D.int .i64 vy], D.agg [D.int .i64 J, D.int .i64 z]]) fun a7 =>
 (intK .i64 a7 fun ai =>
 (optK (call 83 [D.agg [D.int .i64 U, D.int .i64 S], D.agg [D.int .i64 J, D.int .i64 z]]) fun a8 =>
 (intK .i64 a8 fun ad =>
 (ifK (decide (ai ≥ ad))
 (F34_62611 call L C n a6 a5 K vx vy W X Y M O a0 a1 Z a3 a4 a2 J z V U S)
 (F34_500883 call L C n a6 a5 K V vx vy W X Y M O a0 a1 Z a3 a4 a2 J z U S))))))
 (F34_500883 call L C n a6 a5 K V vx vy W X Y M O a0 a1 Z a3 a4 a2 J z U S)))))))))))))
 (F34_122 call L C n a5 K W X Y M O a0 a1 Z a3 a4 a2 J z V (IntKind.wrap .i64 (vx + 1)) U S)) := by kernel_rfl
theorem F34_122_eq (call : CL) (L : Nat) (C : Nat → Nat) (n : Nat) (a5 : ByteArray) (z : Int) (U : ByteArray) (V W X Y : Int) (a0 : Bool) (a1 : Nat) (Z : List D) (a3 : Bool) (a4 : Nat) (a2 : List D) (O S : Int) (M : Bool) (vx J K : Int) : F34_122 call L C  (n + 1) a5 z U V W X Y a0 a1 Z a3 a4 a2 O S M vx J K =
 (ifK (decide (vx ≤ IntKind.wrap .i64 (O + z)))
 (F34_7826 call L C n L a5 z vx U V W X Y a0 a1 Z a3 a4 a2 O S M (IntKind.wrap .i64 (S - z)) J K)
 (optK (call 84 [D.bool !M, D.int .i64 7]) fun a6 =>
 (intK .i64 a6 fun a7 =>
 (some (D.tup [D.agg [D.int .i64 J, D.int .i64 K], D.int .i64 a7]))))) := by kernel_rfl
theorem F34_eq (call : CL) (L : Nat) (C : Nat → Nat) (K : ByteArray) (M O S U : Int) (W : Bool) (X : Nat) (V : List D) (Z : Bool) (a0 : Nat) (Y : List D) (z a2 : Int) (a1 : ByteArray) (J : Int) : evFnT (TEf call L C) O0 N34 FinM.canon Tryz.f34 [D.agg [D.str K, D.int .i64 M, D.int .i64 O, D.int .i64 S, D.int .i64 U, D.slc W X V, D.slc Z a0 Y], D.agg [D.int .i64 z, D.int .i64 a2], D.str a1, D.int .i64 J] =
 (optK (call 21 [D.agg [D.str K, D.int .i64 M, D.int .i64 O, D.int .i64 S, D.int .i64 U, D.slc W X V, D.slc Z a0 Y]]) fun r =>
 (intK .i64 r fun x =>
 (optK (call 77 [D.slc true 1 [D.int .i64 z, D.int .i64 a2]]) fun a4 =>
 (intK .i64 a4 fun a9 =>
 (optK (call 93 [D.str a1]) fun a5 =>
 (intK .i64 a5 fun aa =>
 (optK (call 100 [D.int .i64 J, D.int .i64 0, D.int .i64 20]) fun a6 =>
 (boolK a6 fun b =>
 (optK (call 84 [D.bool b, D.int .i64 3]) fun a7 =>
 (intK .i64 a7 fun ab =>
 (optK (call 76 [D.slc true 4 [D.int .i64 x, D.int .i64 a9, D.int .i64 aa, D.int .i64 ab]]) fun a8 =>
 (intK .i64 a8 fun a3 =>
 (ifK (a3 != 0)
 (some (D.tup [D.agg [D.int .i64 0, D.int .i64 0], D.int .i64 a3]))
 (F34_122 call L C L a1 J K M O S U W X V Z a0 Y z a2 false (IntKind.wrap .i64 (z - J)) 0 0)))))))))))))) := by kernel_rfl
end Go.Pd
end
section
namespace Go.Pd
open Go Go.Proofs Go.RowKit
set_option maxRecDepth 100000
def kindE (v : ByteArray) : Int := ifK (!seqB v outS) (ifK (!kindB v) 13 0) 0
theorem ok93 (v : ByteArray) : OK2 93 [.str v] (.int .i64 (kindE v)) := by
  obtain ⟨B, hb, e86, e84, _⟩ := exF [fam86, famBE 84] ⟨fam86_good, famBE_good ok84 (fun _ _ => rfl), trivial⟩ rfl
  refine fnT hb Tryz.func93 (ord := O0) (N := N0) (by kernel_rfl) ((F93_eq _ _ _ v).trans ?_)
  have f86 : callOf B 86 [.slc true 6 (strsC kinds6), .str v] = some (.bool (kindB v)) := e86 v
  have f84 : ∀ b e, callOf B 84 [.bool b, .int .i64 e] = some (.int .i64 (ifK b e 0)) := fun b e => e84 (b, e)
  rw [show (ByteArray.toList v == ByteArray.toList (ByteArray.mk #[111, 117, 116])) = seqB v outS from rfl]
  unfold kindE
  cases seqB v outS
  · rw [show (!false) = true from rfl, ifK_true, ifK_true]
    rw [show D.slc true 6 [D.str (ByteArray.mk #[103, 114, 101, 101, 110]), D.str (ByteArray.mk #[116, 101, 101]), D.str (ByteArray.mk #[98, 117, 110, 107, 101, 114]), D.str (ByteArray.mk #[119, 97, 116, 101, 114]), D.str (ByteArray.mk #[102, 97, 105, 114, 119, 97, 121]), D.str (ByteArray.mk #[114, 111, 117, 103, 104])] = .slc true 6 (strsC kinds6) from rfl, f86, optK_some, boolK_bool, f84, optK_some, intK_int]
  · rw [show (!true) = false from rfl, ifK_false, ifK_false, f84, optK_some, intK_int]
    rfl
def relP (h : Hl) (p : Pt) (kind : ByteArray) (reach : Int) (q : Pt) (S : Bool × Pt) : Bool × Pt :=
  ifK (decide (sqW q p > w64 (reach * reach))) S (ifK (outP q) S (ifK (decide (sqW q h.cup < sqW p h.cup)) S
    (ifK (S.1 && decide (sqW q p ≥ sqW S.2 p)) S (ifK (!seqB (locP h q).1 kind) (ifK (!seqB (locP h q).1 outS) (true, q) S) S))))
def relY (h : Hl) (p : Pt) (kind : ByteArray) (reach x : Int) : Nat → Int → Bool × Pt → Bool × Pt
  | 0, _, S => S
  | n + 1, y, S => relY h p kind reach x n (y + 1) (relP h p kind reach (x, y) S)
def relX (h : Hl) (p : Pt) (kind : ByteArray) (reach : Int) : Nat → Int → Bool × Pt → Bool × Pt
  | 0, _, S => S
  | n + 1, x, S => relX h p kind reach n (x + 1) (relY h p kind reach x (2 * reach + 1).toNat (p.2 - reach) S)
def relS (h : Hl) (p : Pt) (kind : ByteArray) (reach : Int) : Bool × Pt := relX h p kind reach (2 * reach + 1).toNat (p.1 - reach) (false, (0, 0))
def relE (h : Hl) (p : Pt) (kind : ByteArray) (reach : Int) : Int := firstZ [holeE h, ifK (outP p) 3 0, kindE kind, ifK (outLM (reach, 0, 20)) 3 0]
def relD (h : Hl) (p : Pt) (kind : ByteArray) (reach : Int) : D :=
  ifK (relE h p kind reach != 0) (.tup [ptD (0, 0), .int .i64 (relE h p kind reach)]) (.tup [ptD (relS h p kind reach).2, .int .i64 (ifK (!(relS h p kind reach).1) 7 0)])
section
variable {call : CL} {h : Hl} {p : Pt} {kind : ByteArray} {reach : Int}
structure RelC34 (call : CL) (h : Hl) : Prop where
  h83 : ∀ a b : Pt, call 83 [ptD a, ptD b] = some (.int .i64 (sqW a b))
  h77 : ∀ a : Pt, call 77 [.slc true 1 [.int .i64 a.1, .int .i64 a.2]] = some (.int .i64 (ifK (outP a) 3 0))
  h78 : ∀ q : Pt, call 78 [holeD h, .fn (.func 101) [] [.snap [.int .i64 q.1, .int .i64 q.2] 0]] = some (locD (locP h q))
  h84 : ∀ b e, call 84 [.bool b, .int .i64 e] = some (.int .i64 (ifK b e 0))
noncomputable abbrev Y34 (call : CL) (h : Hl) (p : Pt) (kind : ByteArray) (reach : Int) (n n1 : Nat) (x y : Int) (S : Bool × Pt) : Option D :=
  F34_7826 call LL C1 n n1 kind reach x h.name h.tee.1 h.tee.2 h.cup.1 h.cup.2 h.lf h.line.length (ptsC h.line) h.af h.areas.length (arsC h.areas) p.1 p.2 S.1 y S.2.1 S.2.2
noncomputable abbrev X34 (call : CL) (h : Hl) (p : Pt) (kind : ByteArray) (reach : Int) (n : Nat) (x : Int) (S : Bool × Pt) : Option D :=
  F34_122 call LL C1 n kind reach h.name h.tee.1 h.tee.2 h.cup.1 h.cup.2 h.lf h.line.length (ptsC h.line) h.af h.areas.length (arsC h.areas) p.1 p.2 S.1 x S.2.1 S.2.2
theorem step34 (hc : RelC34 call h) {n n1 : Nat} {x y : Int} (hy : y ≤ w64 (p.2 + reach)) {S : Bool × Pt} :
    Y34 call h p kind reach n (n1 + 1) x y S = Y34 call h p kind reach n n1 x (w64 (y + 1)) (relP h p kind reach (x, y) S) := by
  have e83 : call 83 [D.agg [D.int IntKind.i64 x, D.int IntKind.i64 y], D.agg [D.int IntKind.i64 p.1, D.int IntKind.i64 p.2]] = some (.int .i64 (sqW (x, y) p)) := hc.h83 (x, y) p
  have e83c : call 83 [D.agg [D.int IntKind.i64 x, D.int IntKind.i64 y], D.agg [D.int IntKind.i64 h.cup.1, D.int IntKind.i64 h.cup.2]] = some (.int .i64 (sqW (x, y) h.cup)) := hc.h83 (x, y) h.cup
  have e83p : call 83 [D.agg [D.int IntKind.i64 p.1, D.int IntKind.i64 p.2], D.agg [D.int IntKind.i64 h.cup.1, D.int IntKind.i64 h.cup.2]] = some (.int .i64 (sqW p h.cup)) := hc.h83 p h.cup
  have e83b : call 83 [D.agg [D.int IntKind.i64 S.2.1, D.int IntKind.i64 S.2.2], D.agg [D.int IntKind.i64 p.1, D.int IntKind.i64 p.2]] = some (.int .i64 (sqW S.2 p)) := hc.h83 S.2 p
  have e77 : call 77 [.slc true 1 [.int .i64 x, .int .i64 y]] = some (.int .i64 (ifK (outP (x, y)) 3 0)) := hc.h77 (x, y)
  have e78 : call 78 [holeD h, .fn (.func 101) [] [.snap [.int .i64 x, .int .i64 y] 0]] = some (locD (locP h (x, y))) := hc.h78 (x, y)
  have rd : ∀ (x : ByteArray × Int) (k : ByteArray → Int → Option D), (tupK (locD x) 2 fun c => cellK c 0 fun d => strK d fun s => cellK c 1 fun d' => intK .i64 d' fun y => k s y) = k x.1 x.2 := fun _ _ => rfl
  have cl : F34_500883 call LL C1 n n1 kind reach S.1 x y h.name h.tee.1 h.tee.2 h.cup.1 h.cup.2 h.lf h.line.length (ptsC h.line) h.af h.areas.length (arsC h.areas) p.1 p.2 S.2.1 S.2.2 =
      Y34 call h p kind reach n n1 x (w64 (y + 1)) (ifK (!seqB (locP h (x, y)).1 kind) (ifK (!seqB (locP h (x, y)).1 outS) (true, (x, y)) S) S) := by
    rw [F34_500883_eq (C := C1) (hC := fun _ => rfl), e78, optK_some, rd]
    rw [F34_62611_eq (C := C1) (hC := fun _ => rfl), F34_62611_eq (C := C1) (hC := fun _ => rfl)]
    rw [show (ByteArray.toList (locP h (x, y)).1 == ByteArray.toList kind) = seqB (locP h (x, y)).1 kind from rfl, show (ByteArray.toList (locP h (x, y)).1 == ByteArray.toList (ByteArray.mk #[111, 117, 116])) = seqB (locP h (x, y)).1 outS from rfl]
    cases seqB (locP h (x, y)).1 kind <;> cases seqB (locP h (x, y)).1 outS <;> rfl
  unfold Y34
  rw [F34_7826_eq, show decide (y ≤ IntKind.wrap .i64 (p.2 + reach)) = true by simpa using hy, ifK_true, e83, optK_some, intK_int]
  unfold relP
  rw [show IntKind.wrap .i64 (reach * reach) = w64 (reach * reach) from rfl]
  rw [F34_62611_eq (C := C1) (hC := fun _ => rfl)]
  cases decide (sqW (x, y) p > w64 (reach * reach))
  · rw [ifK_false, ifK_false, e77, optK_some, intK_int]
    cases outP (x, y)
    · rw [ifK_false, ifK_false, show ((0 : Int) != 0) = false from rfl, ifK_false, e83c, optK_some, intK_int, e83p, optK_some, intK_int]
      cases decide (sqW (x, y) h.cup < sqW p h.cup)
      · rw [ifK_false, ifK_false]
        obtain ⟨b, q⟩ := S
        cases b
        · rw [ifK_false, show (((false, q) : Bool × Pt).1 && decide (sqW (x, y) p ≥ sqW ((false, q) : Bool × Pt).2 p)) = false from rfl, ifK_false]
          exact cl
        · rw [ifK_true, optK_some, intK_int, e83b, optK_some, intK_int, show (((true, q) : Bool × Pt).1 && decide (sqW (x, y) p ≥ sqW ((true, q) : Bool × Pt).2 p)) = decide (sqW (x, y) p ≥ sqW q p) from rfl]
          cases decide (sqW (x, y) p ≥ sqW q p)
          · rw [ifK_false, ifK_false]; exact cl
          · rfl
      · rfl
    · rfl
  · rfl
theorem goY34 (hc : RelC34 call h) {n : Nat} {x : Int} (hp : InP p) (hr0 : 0 ≤ reach) (hr1 : reach ≤ 20) : ∀ (m n1 : Nat) (y : Int) (S : Bool × Pt), y + m = p.2 + reach + 1 → -2000000 ≤ y → m < n1 →
    Y34 call h p kind reach n n1 x y S = X34 call h p kind reach n (w64 (x + 1)) (relY h p kind reach x m y S)
  | 0, n1, y, S, hy, h0, hn => by
    obtain ⟨n1, rfl⟩ : ∃ k, n1 = k + 1 := ⟨n1 - 1, by omega⟩
    obtain ⟨_, _, hp3, hp4⟩ := hp
    have e : w64 (p.2 + reach) = p.2 + reach := wrap_in (by omega)
    unfold Y34
    rw [F34_7826_eq, show IntKind.wrap .i64 (p.2 + reach) = p.2 + reach from e, show decide (y ≤ p.2 + reach) = false by simp; omega, ifK_false]
    rfl
  | m + 1, n1, y, S, hy, h0, hn => by
    obtain ⟨n1, rfl⟩ : ∃ k, n1 = k + 1 := ⟨n1 - 1, by omega⟩
    have hp' := hp
    obtain ⟨_, _, hp3, hp4⟩ := hp'
    have e : w64 (p.2 + reach) = p.2 + reach := wrap_in (by omega)
    have e1 : w64 (y + 1) = y + 1 := wrap_in (by omega)
    rw [step34 hc (by rw [e]; omega), e1]
    exact goY34 hc hp hr0 hr1 m n1 (y + 1) _ (by omega) (by omega) (by omega)
theorem goX34 (hc : RelC34 call h) (hp : InP p) (hr0 : 0 ≤ reach) (hr1 : reach ≤ 20) : ∀ (m n : Nat) (x : Int) (S : Bool × Pt), x + m = p.1 + reach + 1 → -2000000 ≤ x → m < n →
    X34 call h p kind reach n x S = some (.tup [ptD (relX h p kind reach m x S).2, .int .i64 (ifK (!(relX h p kind reach m x S).1) 7 0)])
  | 0, n, x, S, hx, h0, hn => by
    obtain ⟨n, rfl⟩ : ∃ k, n = k + 1 := ⟨n - 1, by omega⟩
    have hp' := hp
    obtain ⟨hp1, hp2, _, _⟩ := hp'
    have e : w64 (p.1 + reach) = p.1 + reach := wrap_in (by omega)
    unfold X34
    rw [F34_122_eq, show IntKind.wrap .i64 (p.1 + reach) = p.1 + reach from e, show decide (x ≤ p.1 + reach) = false by simp; omega, ifK_false, hc.h84, optK_some, intK_int]
    rfl
  | m + 1, n, x, S, hx, h0, hn => by
    obtain ⟨n, rfl⟩ : ∃ k, n = k + 1 := ⟨n - 1, by omega⟩
    have hp' := hp
    obtain ⟨hp1, hp2, hp3, hp4⟩ := hp'
    have e : w64 (p.1 + reach) = p.1 + reach := wrap_in (by omega)
    have e1 : w64 (x + 1) = x + 1 := wrap_in (by omega)
    have e2 : w64 (p.2 - reach) = p.2 - reach := wrap_in (by omega)
    unfold X34
    rw [F34_122_eq, show IntKind.wrap .i64 (p.1 + reach) = p.1 + reach from e, show decide (x ≤ p.1 + reach) = true by simp; omega, ifK_true, show IntKind.wrap .i64 (p.2 - reach) = p.2 - reach from e2]
    have := goY34 hc (kind := kind) (n := n) (x := x) hp hr0 hr1 (2 * reach + 1).toNat LL (p.2 - reach) S (by omega) (by omega) (by unfold LL; omega)
    refine this.trans ?_
    rw [e1]
    exact goX34 hc hp hr0 hr1 m n (x + 1) _ (by omega) (by omega) (by omega)
end
theorem fam77a_good : fam77a.Good := ⟨fun p => one_pt p, fun x y e => by
  have e : [D.slc true 1 [.int .i64 x.1, .int .i64 x.2]] = [D.slc true 1 [.int .i64 y.1, .int .i64 y.2]] := e
  simp only [List.cons.injEq, D.slc.injEq, D.int.injEq, true_and, and_true] at e
  show D.int .i64 (ifK (outP x) 3 0) = .int .i64 (ifK (outP y) 3 0)
  rw [show x = y from Prod.ext e.1 e.2], fun _ => rfl⟩
theorem ok34 (h : Hl) (hk : h.Ok) (p : Pt) (kind : ByteArray) (reach : Int) : OK2 34 [holeD h, ptD p, .str kind, .int .i64 reach] (relD h p kind reach) := by
  obtain ⟨B, hb, e21, e77, e93, e100, e84, e76, e83, e78, _⟩ := exF [one 21 [holeD h] (.int .i64 (holeE h)), fam77a, one 93 [.str kind] (.int .i64 (kindE kind)), fam100, famBE 84, famFi 76, famPP 83 fun a b => .int .i64 (sqW a b),
      ⟨78, Pt, fun q => [holeD h, .fn (.func 101) [] [.snap [.int .i64 q.1, .int .i64 q.2] 0]], fun q => locD (locP h q)⟩]
    ⟨one_good (ok21 h hk) rfl, fam77a_good, one_good (ok93 kind) rfl, fam100_good, famBE_good ok84 (fun _ _ => rfl), famFi_good (fun l hl => ok76 l hl) (fun _ _ => rfl), famPP_good ok83 (fun _ _ => rfl),
      ⟨fun q => ok78d (fun a ha => ok101 q a (hk.c a ha)) hk.a, fun x y e => by
        have e : [holeD h, D.fn (.func 101) [] [.snap [.int .i64 x.1, .int .i64 x.2] 0]] = [holeD h, D.fn (.func 101) [] [.snap [.int .i64 y.1, .int .i64 y.2] 0]] := e
        simp only [List.cons.injEq, D.fn.injEq, D.snap.injEq, D.int.injEq, true_and, and_true] at e
        show locD _ = locD _
        rw [show x = y from Prod.ext e.1 e.2], fun _ => rfl⟩, trivial⟩ rfl
  refine fnT hb Tryz.func34 (ord := O0) (N := N34) (by kernel_rfl) ((F34_eq _ _ _ h.name h.tee.1 h.tee.2 h.cup.1 h.cup.2 h.lf h.line.length (ptsC h.line) h.af h.areas.length (arsC h.areas) p.1 p.2 kind reach).trans ?_)
  have f21 : callOf B 21 [holeD h] = some (.int .i64 (holeE h)) := e21 ()
  have f77 : callOf B 77 [.slc true 1 [.int .i64 p.1, .int .i64 p.2]] = some (.int .i64 (ifK (outP p) 3 0)) := e77 p
  have f93 : callOf B 93 [.str kind] = some (.int .i64 (kindE kind)) := e93 ()
  have f100 : callOf B 100 [.int .i64 reach, .int .i64 0, .int .i64 20] = some (.bool (outLM (reach, 0, 20))) := e100 (reach, 0, 20)
  have f84 : ∀ b e, callOf B 84 [.bool b, .int .i64 e] = some (.int .i64 (ifK b e 0)) := fun b e => e84 (b, e)
  have f76 : callOf B 76 [.slc true 4 [.int .i64 (holeE h), .int .i64 (ifK (outP p) 3 0), .int .i64 (kindE kind), .int .i64 (ifK (outLM (reach, 0, 20)) 3 0)]] = some (.int .i64 (relE h p kind reach)) := e76 ⟨[holeE h, ifK (outP p) 3 0, kindE kind, ifK (outLM (reach, 0, 20)) 3 0], by simp⟩
  have hc : RelC34 (callOf B) h := ⟨fun a b => e83 (a, b), fun a => e77 a, fun q => e78 q, f84⟩
  rw [f21, optK_some, intK_int, f77, optK_some, intK_int, f93, optK_some, intK_int, f100, optK_some, boolK_bool, f84, optK_some, intK_int, f76, optK_some, intK_int]
  unfold relD
  cases hz : relE h p kind reach != 0
  · rw [ifK_false, ifK_false]
    have hz : relE h p kind reach = 0 := by simpa using hz
    have h0 := firstZ_zero hz
    have hp : InP p := inP_of (ifK_zero (h0 (ifK (outP p) 3 0) (by simp)))
    have hr : outLM (reach, 0, 20) = false := ifK_zero (h0 (ifK (outLM (reach, 0, 20)) 3 0) (by simp))
    have hr' : 0 ≤ reach ∧ reach ≤ 20 := by
      unfold outLM at hr
      cases h1 : decide (reach < 0) <;> cases h2 : decide (reach > 20) <;> simp only [h1, h2] at hr <;> first | (simp at h1 h2; omega) | cases hr
    obtain ⟨hr0, hr1⟩ := hr'
    have hp' := hp
    obtain ⟨hp1, hp2, _, _⟩ := hp'
    have := goX34 hc (kind := kind) hp hr0 hr1 (2 * reach + 1).toNat LL (p.1 - reach) (false, (0, 0)) (by omega) (by omega) (by unfold LL; omega)
    rw [show IntKind.wrap .i64 (p.1 - reach) = p.1 - reach from wrap_in (by omega)]
    exact this
  · rfl
end Go.Pd
end
section
namespace Go.Pd
open Go Go.Proofs
set_option maxRecDepth 100000
def N172 : NTab := fun p => match p with
  | 26 => some { keep := [0, 1, 7, 8], kl := [], ren := [] }
  | _ => none
noncomputable def F172_26 (call : CL) (L : Nat) (C : Nat → Nat) (n : Nat) (O : Bool) (S : Nat) (M : List D) (K z J : Int) : Option D :=
 loopAt (TEf call L C) O0 N172 FinM.canon Tryz.f172 [true, false, true, false] []  n (St.mk (D.slc O S M :: D.fn (Fn.func 103) [] [D.snap [D.int .i64 K] 0] :: jn 5 (D.int .i64 z :: D.int .i64 J :: jn 10 [])) (zn 19 []))
theorem F172_26_eq (call : CL) (L : Nat) (C : Nat → Nat) (n : Nat) (S : Bool) (O : Nat) (M : List D) (K J z : Int) : F172_26 call L C  (n + 1) S O M K J z =
 (ifK (decide (z < J))
 (chkK (decide (0 ≤ z ∧ z < (O : Int)))
 (cellK M (Int.toNat z * 1) fun d =>
 (intK .i64 d fun x =>
 (optK (call 103 [D.int .i64 x, D.snap [D.int .i64 K] 0]) fun r =>
 (boolK r fun b =>
 (ifK b
 (some (D.int .i64 z))
 (F172_26 call L C n S O M K J (IntKind.wrap .i64 (z + 1)))))))))
 (some (D.int .i64 (-1)))) := by kernel_rfl
theorem F172_eq (call : CL) (L : Nat) (C : Nat → Nat) (M : Bool) (z : Nat) (K : List D) (J : Int) : evFnT (TEf call L C) O0 N172 FinM.canon Tryz.f172 [D.slc M z K, D.fn (Fn.func 103) [] [D.snap [D.int .i64 J] 0]] =
 (F172_26 call L C L M z K J ((z : Int)) 0) := by kernel_rfl
theorem F102_eq (call : CL) (L : Nat) (C : Nat → Nat) (K : Bool) (M : Nat) (J : List D) (z : Int) : evFnT (TEf call L C) O0 N0 FinM.canon Tryz.f102 [D.slc K M J, D.fn (Fn.func 103) [] [D.snap [D.int .i64 z] 0]] =
 (optK (call 172 [D.slc K M J, D.fn (Fn.func 103) [] [D.snap [D.int .i64 z] 0]]) fun r =>
 (intK .i64 r fun x =>
 (some (D.bool (decide (x ≥ 0)))))) := by kernel_rfl
theorem F103_eq (call : CL) (L : Nat) (C : Nat → Nat) (J z : Int) : evFnT (TEf call L C) O0 N0 FinM.canon Tryz.f103 [D.int .i64 J, D.snap [D.int .i64 z] 0] =
 (optK (call 100 [D.int .i64 J, D.int .i64 1, D.int .i64 z]) fun r =>
 (boolK r fun b =>
 (some (D.bool b)))) := by kernel_rfl
end Go.Pd
end
section
namespace Go.Pd
open Go Go.Proofs Go.RowKit
set_option maxRecDepth 100000
/-! ### Flows outside their range -/
def idxI (lim : Int) : List Int → Nat → Int
  | [], _ => -1
  | n :: r, i => ifK (outLM (n, 1, lim)) i (idxI lim r (i + 1))
theorem ok103 (n lim : Int) : OK2 103 [.int .i64 n, .snap [.int .i64 lim] 0] (.bool (outLM (n, 1, lim))) := by
  obtain ⟨B, hb, h100, _⟩ := exF [fam100] ⟨fam100_good, trivial⟩ rfl
  refine fnT hb Tryz.func103 (ord := O0) (N := N0) (by kernel_rfl) ((F103_eq _ _ _ n lim).trans ?_)
  have e1 : callOf B 100 [.int .i64 n, .int .i64 1, .int .i64 lim] = _ := h100 (n, 1, lim)
  rw [e1]
  rfl
def fam103 (lim : Int) : Fam := ⟨103, Int, fun n => [.int .i64 n, .snap [.int .i64 lim] 0], fun n => .bool (outLM (n, 1, lim))⟩
theorem fam103_good (lim : Int) : (fam103 lim).Good := ⟨fun n => ok103 n lim, fun (x y : Int) e => by
  have e : [D.int .i64 x, .snap [.int .i64 lim] 0] = [D.int .i64 y, .snap [.int .i64 lim] 0] := e
  simp only [List.cons.injEq, D.int.injEq, true_and, and_true] at e
  rw [e], fun _ => rfl⟩
theorem go172 {call : CL} {lim : Int} (h103 : ∀ n : Int, call 103 [.int .i64 n, .snap [.int .i64 lim] 0] = some (.bool (outLM (n, 1, lim)))) {f : Bool} {l : List Int} (hl : l.length ≤ 1000) :
    ∀ (k i fuel : Nat), i + k = l.length → k < fuel → F172_26 call LL C1 fuel f l.length (ints l) lim (l.length : Int) (i : Int) = some (.int .i64 (idxI lim (l.drop i) i))
  | 0, i, fuel, hi, hf => by
    obtain ⟨fuel, rfl⟩ : ∃ n, fuel = n + 1 := ⟨fuel - 1, by omega⟩
    rw [F172_26_eq, show decide ((i : Int) < (l.length : Int)) = false by simp; omega, ifK_false, List.drop_eq_nil_of_le (by omega)]
    rfl
  | k + 1, i, fuel, hi, hf => by
    obtain ⟨fuel, rfl⟩ : ∃ n, fuel = n + 1 := ⟨fuel - 1, by omega⟩
    have hlt : i < l.length := by omega
    have hu : l[i]? = some l[i] := List.getElem?_eq_getElem hlt
    have ih := go172 h103 (f := f) hl k (i + 1) fuel (by omega) (by omega)
    rw [F172_26_eq, show decide ((i : Int) < (l.length : Int)) = true by simp; omega, ifK_true, show decide ((0 : Int) ≤ (i : Int) ∧ (i : Int) < (l.length : Int)) = true from decide_eq_true ⟨by omega, by omega⟩, chkK_true, cell_at hu, intK_int, h103, optK_some, boolK_bool,
      show IntKind.wrap .i64 ((i : Int) + 1) = ((i + 1 : Nat) : Int) from (wrap_in (by omega)).trans (by omega), ih, List.drop_eq_getElem_cons hlt]
    rw [show idxI lim (l[i] :: l.drop (i + 1)) i = ifK (outLM (l[i], 1, lim)) (i : Int) (idxI lim (l.drop (i + 1)) (i + 1)) from rfl]
    cases outLM (l[i], 1, lim) <;> rfl
def greatB (lim : Int) (l : List Int) : Bool := l.any fun n => outLM (n, 1, lim)
theorem idxI_ge (lim : Int) : ∀ (l : List Int) (i : Nat), decide (idxI lim l i ≥ 0) = greatB lim l
  | [], _ => rfl
  | n :: r, i => by
    have := idxI_ge lim r (i + 1)
    unfold greatB at this ⊢
    rw [show idxI lim (n :: r) i = ifK (outLM (n, 1, lim)) (i : Int) (idxI lim r (i + 1)) from rfl, List.any_cons]
    cases outLM (n, 1, lim)
    · rw [ifK_false, Bool.false_or, this]
    · rw [ifK_true, Bool.true_or, decide_eq_true (by omega)]
theorem ok172 {f : Bool} (l : List Int) (lim : Int) (hl : l.length ≤ 1000) : OK2 172 [.slc f l.length (ints l), .fn (.func 103) [] [.snap [.int .i64 lim] 0]] (.int .i64 (idxI lim l 0)) := by
  obtain ⟨B, hb, h103, _⟩ := exF [fam103 lim] ⟨fam103_good lim, trivial⟩ rfl
  exact fnT hb Tryz.func172 (ord := O0) (N := N172) (by kernel_rfl) ((F172_eq _ _ _ _ _ _ _).trans (go172 (fun p => h103 p) (f := f) hl l.length 0 LL (by omega) (by unfold LL; omega)))
theorem ok102 {f : Bool} (l : List Int) (lim : Int) (hl : l.length ≤ 1000) : OK2 102 [.slc f l.length (ints l), .fn (.func 103) [] [.snap [.int .i64 lim] 0]] (.bool (greatB lim l)) := by
  obtain ⟨B, hb, e⟩ := one_call (ok172 (f := f) l lim hl) rfl
  refine fnT hb Tryz.func102 (ord := O0) (N := N0) (by kernel_rfl) ((F102_eq _ _ _ _ _ _ _).trans ?_)
  rw [e]
  show some (D.bool (decide (idxI lim l 0 ≥ 0))) = _
  rw [idxI_ge]
/-! ### One try -/
theorem fit_zero {limit : Int} (h : 0 ≤ limit) (r : Nat) : Fit limit (List.replicate r 0) := fun u hu => by
  rw [List.eq_of_mem_replicate hu]
  omega
theorem okFill1 (ff : Bool) (n : Int) (rest : List Int) (limit : Int) (hfl : (n :: rest).length ≤ 1000) (hlim : limit ≤ 999999999) (hr : ∀ m ∈ n :: rest, 1 ≤ m ∧ m ≤ limit) {used u : List Int} {r : D} (hu : used.length ≤ 1000) (hfit : Fit limit used)
    (hx : fillR false used.length used (fillS limit (n :: rest) used []) = .tup [.slc false used.length (ints u), r]) :
    PlcC Tryz.prog glO 104 2 [.slc ff (n :: rest).length (ints (n :: rest)), .int .i64 limit, .nils, .nils] (ints used) used.length (ints u) r := by
  obtain ⟨B, hb, h173, ho⟩ := cp_base
  obtain ⟨mu, hmu, hmt⟩ := famFill_plc (okFill ff (n :: rest) limit hfl hlim hr rest)
  refine PlcC.canon (ds' := [.slc ff (n :: rest).length (ints (n :: rest)), .int .i64 limit, .nils, .slc true 0 []]) ?_ rfl (fun j d hj hd => ?_)
  · refine fnA hb hmu ho Tryz.func104 (ord := O0) (N := N104) okf104 (by kernel_rfl) fun e tn h => (F104_eq _ _ _ _ _ _ _ _ _ _ _ _ _ _ _).trans ?_
    rw [ints_len] at h
    rw [show (((0 : Nat) : Int) == ((n :: rest).length : Int)) = false by simp; omega, ifK_false, show decide ((0 : Int) ≤ ((0 : Nat) : Int) ∧ ((0 : Nat) : Int) < ((n :: rest).length : Int)) = true from decide_eq_true ⟨by omega, by simp⟩, chkK_true, cell_at (i := 0) (l := n :: rest) (u := n) rfl, intK_int]
    have := go104 (lf := true) (te := e) (l := []) h173 hmt rfl hfl hu hfit hlim (hr n (List.mem_cons_self ..)) h used.length 0 LL (Nat.zero_add _) (by unfold LL; omega)
    refine this.trans ?_
    rw [← hx]
    rfl
  · match j, hj, hd with
    | 0, _, hd => cases hd; rfl
    | 1, _, hd => cases hd; rfl
    | 2, hj, _ => exact absurd rfl hj
    | 3, _, hd => cases hd; rfl
theorem fill1_plc {ff : Bool} {n : Int} {rest : List Int} {limit : Int} (hfl : (n :: rest).length ≤ 1000) (hlim : limit ≤ 999999999) (hr : ∀ m ∈ n :: rest, 1 ≤ m ∧ m ≤ limit) :
    ∃ mu, PlcT mu ∧ ∀ r : Nat, r ≤ 1000 → mu 104 [.slc ff (n :: rest).length (ints (n :: rest)), .int .i64 limit, .slc false r (ints (List.replicate r 0)), .nils] = some (fillR false r (List.replicate r 0) (fillS limit (n :: rest) (List.replicate r 0) [])) := by
  classical
  have h0 : 0 ≤ limit := by have := hr n (List.mem_cons_self ..); omega
  refine ⟨fun _ ds => if h : ∃ x, ∃ r : {r : Nat // r ≤ 1000}, [.slc ff (n :: rest).length (ints (n :: rest)), .int .i64 limit, .slc false r.1 (ints (List.replicate r.1 0)), .nils] = ds ∧ fillR false r.1 (List.replicate r.1 0) (fillS limit (n :: rest) (List.replicate r.1 0) []) = x then some h.choose else none, plcOK_of en104 fun ds cs len f m cs' r hp hg => ?_, fun r hr1 => ?_⟩
  · dsimp only at hg
    split at hg
    · rename_i hx
      obtain ⟨x, q1, q2⟩ := hx.choose_spec
      have hg : hx.choose = .tup [.slc f m cs', r] := Option.some.inj hg
      rw [hg] at q2
      have g2 := congrArg (fun l : List D => l[2]?) q1
      rw [List.getElem?_set_self hp] at g2
      have g2 : D.slc false x.1 (ints (List.replicate x.1 0)) = .slc false len cs := Option.some.inj g2
      cases g2
      obtain ⟨u, r', e1, _, _⟩ := fillR_shape false x.1 (List.replicate x.1 0) (fillS limit (n :: rest) (List.replicate x.1 0) [])
      have e2 := e1
      rw [q2] at e1
      cases e1
      have hlen : (List.replicate x.1 (0 : Int)).length = x.1 := by simp
      have h1 := okFill1 ff n rest limit hfl hlim hr (used := List.replicate x.1 0) (u := u) (r := r) (by simpa using x.2) (fit_zero h0 x.1) (by rw [hlen]; exact e2)
      rw [hlen] at h1
      refine h1.congr (x := .slc false x.1 (ints (List.replicate x.1 0))) ?_
      rw [← q1]
      rfl
    · cases hg
  · have hx : ∃ x, ∃ y : {r : Nat // r ≤ 1000}, [D.slc ff (n :: rest).length (ints (n :: rest)), .int .i64 limit, .slc false y.1 (ints (List.replicate y.1 0)), .nils] = [.slc ff (n :: rest).length (ints (n :: rest)), .int .i64 limit, .slc false r (ints (List.replicate r 0)), .nils] ∧ fillR false y.1 (List.replicate y.1 0) (fillS limit (n :: rest) (List.replicate y.1 0) []) = x := ⟨_, ⟨r, hr1⟩, rfl, rfl⟩
    show dite _ _ _ = _
    rw [dif_pos hx]
    obtain ⟨y, q1, q2⟩ := hx.choose_spec
    simp only [List.cons.injEq, D.slc.injEq, true_and, and_true] at q1
    rw [← q2, q1.1]
/-! ### The tries -/
def roundsGo (limit : Int) (flows : List Int) : Nat → Nat → List Int
  | 0, _ => []
  | k + 1, r => match fillS limit flows (List.replicate r 0) [] with
    | some x => x.1
    | none => roundsGo limit flows k (r + 1)
def roundsS (limit : Int) (flows : List Int) : List Int := roundsGo limit flows flows.length 1
theorem tryS_some {limit n : Int} {rec : List Int → Nat → Option (List Int × List Int)} {used : List Int} {j : Nat} {u : Int} (hu : used[j]? = some u) (hn : u + n ≤ limit) (hs : rec (used.set j (u + n)) j ≠ none) : ∀ (k i : Nat), i ≤ j → j < i + k → i + k = used.length → tryS limit n rec used k i ≠ none
  | 0, i, h1, h2, _ => by omega
  | k + 1, i, h1, h2, h3 => by
    have hlt : i < used.length := by omega
    unfold tryS
    rw [List.getElem?_eq_getElem hlt]
    dsimp only
    by_cases he : i = j
    · subst he
      rw [List.getElem?_eq_getElem hlt] at hu
      cases hu
      rw [if_neg (by omega)]
      cases hr : rec (used.set i (used[i] + n)) i with
      | none => exact absurd hr hs
      | some x => simp
    · have ih := tryS_some hu hn hs k (i + 1) (by omega) (by omega) (by omega)
      split
      · exact ih
      · split
        · simp
        · exact ih
theorem fillS_some {limit : Int} : ∀ (rest used l : List Int), (∀ m ∈ rest, m ≤ limit) → (∃ js : List Nat, js.length = rest.length ∧ js.Nodup ∧ ∀ j ∈ js, used[j]? = some 0) → fillS limit rest used l ≠ none
  | [], used, l, _, _ => by simp [fillS]
  | n :: rest, used, l, hr, ⟨js, h1, h2, h3⟩ => by
    match js, h1, h2, h3 with
    | j :: js, h1, h2, h3 =>
      have hj := h3 j (List.mem_cons_self ..)
      have hlt : j < used.length := (List.getElem?_eq_some_iff.1 hj).1
      rw [List.nodup_cons] at h2
      refine tryS_some hj (by have := hr n (List.mem_cons_self ..); omega) ?_ used.length 0 (Nat.zero_le _) (by omega) (by omega)
      refine fillS_some rest _ _ (fun m hm => hr m (List.mem_cons_of_mem _ hm)) ⟨js, by simpa using h1, h2.2, fun i hi => ?_⟩
      rw [List.getElem?_set_ne (by intro e; subst e; exact h2.1 hi)]
      exact h3 i (List.mem_cons_of_mem _ hi)
theorem fillS_all {limit : Int} {flows : List Int} (hr : ∀ m ∈ flows, m ≤ limit) : fillS limit flows (List.replicate flows.length 0) [] ≠ none :=
  fillS_some flows _ _ hr ⟨List.range flows.length, by simp, List.nodup_range, fun j hj => by simp at hj; simp [hj]⟩
theorem go37 {B mu : FuncId → List D → Option D} {ff : Bool} {flows : List Int} {limit : Int} (hfl : flows.length ≤ 1000) (hall : fillS limit flows (List.replicate flows.length 0) [] ≠ none)
    (hmu : ∀ r : Nat, r ≤ 1000 → mu 104 [.slc ff flows.length (ints flows), .int .i64 limit, .slc false r (ints (List.replicate r 0)), .nils] = some (fillR false r (List.replicate r 0) (fillS limit flows (List.replicate r 0) []))) :
    ∀ (k r fuel : Nat), k + r = flows.length + 1 → 1 ≤ k → k < fuel → F37_62 (callOf B) mu LL C1 fuel ff flows.length (ints flows) limit (r : Int) = some (.tup [.slc false (roundsGo limit flows k r).length (ints (roundsGo limit flows k r)), .int .i64 0])
  | 0, _, _, _, h, _ => by omega
  | k + 1, r, fuel, hk, _, hf => by
    obtain ⟨fuel, rfl⟩ : ∃ n, fuel = n + 1 := ⟨fuel - 1, by omega⟩
    have hrep : repD (Int.toNat (r : Int)) [D.int .i64 0] = ints (List.replicate r 0) := by
      rw [Int.toNat_natCast]
      clear hmu hall hk
      induction r with
      | zero => rfl
      | succ r ih => rw [List.replicate_succ]; show D.int .i64 0 :: repD r [D.int .i64 0] = D.int .i64 0 :: ints (List.replicate r 0); rw [ih]
    rw [F37_62_eq, show decide ((0 : Int) ≤ (r : Int) ∧ (r : Int) ≤ (r : Int) ∧ (r : Int) * (8 : Int) ≤ 140737488355328 ∧ (r : Int) ≤ 9223372036854775807) = true from decide_eq_true ⟨by omega, by omega, by omega, by omega⟩, chkK_true, hrep, ints_plain, chkK_true, Int.toNat_natCast, hmu r (by omega), optK_some]
    rw [show roundsGo limit flows (k + 1) r = (match fillS limit flows (List.replicate r 0) [] with
      | some x => x.1
      | none => roundsGo limit flows k (r + 1)) from rfl]
    cases hS : fillS limit flows (List.replicate r 0) [] with
    | some x =>
      obtain ⟨l2, u2⟩ := x
      have hlen := fillS_len limit flows _ _ _ hS
      simp only [List.length_replicate] at hlen
      show chkK (decide ((ints u2).length = (ints (List.replicate r 0)).length)) (chkK ((ints u2).all D.plain) (ifK true (some (D.tup [.slc false l2.length (ints l2), .int .i64 0])) _)) = _
      rw [show decide ((ints u2).length = (ints (List.replicate r 0)).length) = true by simp [ints_len, hlen], chkK_true, ints_plain, chkK_true, ifK_true]
    | none =>
      have hne : r ≠ flows.length := fun e => hall (e ▸ hS)
      have ih := go37 (B := B) (ff := ff) hfl hall hmu k (r + 1) fuel (by omega) (by omega) (by omega)
      show chkK (decide ((ints (List.replicate r 0)).length = (ints (List.replicate r 0)).length)) (chkK ((ints (List.replicate r 0)).all D.plain) (ifK false _ (F37_62 (callOf B) mu LL C1 fuel ff flows.length (ints flows) limit (IntKind.wrap .i64 ((r : Int) + 1))))) = _
      rw [decide_eq_true rfl, chkK_true, ints_plain, chkK_true, ifK_false, show IntKind.wrap .i64 ((r : Int) + 1) = ((r + 1 : Nat) : Int) from (wrap_in (by omega)).trans (by omega), ih]
def roundsE (flows : List Int) (limit : Int) : Int := firstZ [ifK ((flows.length : Int) == 0) 12 0, ifK (decide ((flows.length : Int) > 8)) 22 0, ifK (ifK (outLM (limit, 1, 999999999)) true (greatB limit flows)) 3 0]
def roundsD (flows : List Int) (limit : Int) : D := ifK (roundsE flows limit != 0) (.tup [.slc true 0 [], .int .i64 (roundsE flows limit)]) (.tup [.slc false (roundsS limit flows).length (ints (roundsS limit flows)), .int .i64 0])
theorem okf37 : okFn Tryz.prog O37 Tryz.f37 = true := by kernel_rfl
theorem ok37 {f : Bool} (flows : List Int) (limit : Int) (hl : flows.length ≤ 1000) : OK2 37 [.slc f flows.length (ints flows), .int .i64 limit] (roundsD flows limit) := by
  obtain ⟨B, hb, ⟨e102, e84, e100, e76, _⟩, hB⟩ := exFo [one 102 [.slc f flows.length (ints flows), .fn (.func 103) [] [.snap [.int .i64 limit] 0]] (.bool (greatB limit flows)), famBE 84, fam100, famFi 76]
    ⟨one_good (ok102 flows limit hl) rfl, famBE_good ok84 (fun _ _ => rfl), fam100_good, famFi_good (fun l hl => ok76 l hl) (fun _ _ => rfl), trivial⟩ rfl
  have ho : OwnI B := fun ds len cs hc => by
    rcases hB _ _ _ hc with h1 | ⟨F, hF, i, q1, q2, q3⟩
    · cases h1
    · simp only [List.mem_cons, List.not_mem_nil, or_false] at hF
      rcases hF with rfl | rfl | rfl | rfl <;> cases q1
  have f102 : callOf B 102 [.slc f flows.length (ints flows), .fn (.func 103) [] [.snap [.int .i64 limit] 0]] = some (.bool (greatB limit flows)) := e102 ()
  have f84 : ∀ b e, callOf B 84 [.bool b, .int .i64 e] = some (.int .i64 (ifK b e 0)) := fun b e => e84 (b, e)
  have f100 : callOf B 100 [.int .i64 limit, .int .i64 1, .int .i64 999999999] = some (.bool (outLM (limit, 1, 999999999))) := e100 (limit, 1, 999999999)
  have f76 : ∀ a b c : Int, callOf B 76 [.slc true 3 [.int .i64 a, .int .i64 b, .int .i64 c]] = some (.int .i64 (firstZ [a, b, c])) := fun a b c => e76 ⟨[a, b, c], by simp⟩
  have head : ∀ mu, evFnT (TEq (callOf B) mu LL C1) O37 N37 .canon Tryz.f37 [.slc f flows.length (ints flows), .int .i64 limit] = ifK (roundsE flows limit != 0) (some (.tup [.slc true 0 [], .int .i64 (roundsE flows limit)])) (F37_62 (callOf B) mu LL C1 LL f flows.length (ints flows) limit 1) := by
    intro mu
    rw [F37_eq, f102, optK_some, boolK_bool, f84, optK_some, intK_int, f84, optK_some, intK_int, f100, optK_some, boolK_bool, f84, f84, optK_some, intK_int, optK_some, intK_int, f76, f76, optK_some, intK_int, optK_some, intK_int, F37_15_eq (C := C1) (hC := fun _ => rfl)]
    unfold roundsE
    cases outLM (limit, 1, 999999999) <;> rfl
  unfold roundsD
  cases hz : roundsE flows limit != 0
  · rw [ifK_false]
    have hz0 : roundsE flows limit = 0 := by simpa using hz
    have h0 := firstZ_zero hz0
    have h1 : ((flows.length : Int) == 0) = false := by
      have := h0 (ifK ((flows.length : Int) == 0) 12 0) (by simp)
      cases hd : ((flows.length : Int) == 0)
      · rfl
      · rw [hd] at this; cases this
    have h3 : (ifK (outLM (limit, 1, 999999999)) true (greatB limit flows)) = false := ifK_zero (h0 _ (by simp))
    have h4 : outLM (limit, 1, 999999999) = false := by
      cases hd : outLM (limit, 1, 999999999)
      · rfl
      · rw [hd] at h3; cases h3
    have h5 : greatB limit flows = false := by rw [h4] at h3; exact h3
    have hlim : limit ≤ 999999999 := by
      unfold outLM at h4
      cases g1 : decide (limit < 1) <;> cases g2 : decide (limit > 999999999) <;> simp only [g1, g2] at h4 <;> first | (simp at g1 g2; omega) | cases h4
    have hr : ∀ m ∈ flows, 1 ≤ m ∧ m ≤ limit := fun m hm => by
      have := List.any_eq_false.1 h5 m hm
      have h6 : outLM (m, 1, limit) = false := by simpa using this
      unfold outLM at h6
      cases g1 : decide (m < 1) <;> cases g2 : decide (m > limit) <;> simp only [g1, g2] at h6 <;> first | (simp at g1 g2; omega) | cases h6
    cases flows with
    | nil => cases h1
    | cons n rest =>
      obtain ⟨mu, hmu, hmt⟩ := fill1_plc (ff := f) hl hlim hr
      refine fnQ hb hmu ho Tryz.func37 (ord := O37) (N := N37) okf37 ((head mu).trans ?_)
      rw [hz, ifK_false]
      exact go37 hl (fillS_all fun m hm => (hr m hm).2) hmt (n :: rest).length 1 LL rfl (by simp) (by unfold LL; omega)
  · obtain ⟨mu, hmu⟩ : ∃ mu : FuncId → List D → Option D, PlcT mu := ⟨fun _ _ => none, en104, by intros; rename_i h _ _; cases h⟩
    refine fnQ hb hmu ho Tryz.func37 (ord := O37) (N := N37) okf37 ((head mu).trans ?_)
    rw [hz]
    rfl
end Go.Pd
end
section
namespace Go.Pd
open Go Go.Proofs
set_option maxRecDepth 100000
def N114 : NTab := fun p => match p with
  | 250 => some { keep := [0, 1, 4, 5, 6, 7, 16, 17], kl := [9], ren := [(9, 9), (13, 13), (14, 14), (74, 74)] }
  | 506 => some { keep := [1, 5, 6, 7, 57, 58], kl := [9, 13], ren := [(9, 9), (13, 13), (14, 14), (74, 74)] }
  | 1018 => some { keep := [1, 5, 6, 7, 11], kl := [9, 13], ren := [(9, 9), (13, 13), (14, 14), (74, 74)] }
  | 128202 => some { keep := [0, 1, 4, 5, 6, 7, 16, 17, 19, 20, 21], kl := [9], ren := [(9, 9), (13, 13), (14, 14), (74, 74)] }
  | _ => none
def O114 : Ord := fun id => match id with
  | 12 => some { fs := [(51, 13), (44, 14)] }
  | _ => none
end Go.Pd
end
