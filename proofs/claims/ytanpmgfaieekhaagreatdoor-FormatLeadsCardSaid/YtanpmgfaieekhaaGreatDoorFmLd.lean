/-
  Chapter 5: functions that write over their first argument, by a table of calls.
  Chapter 5: what FormatLeads makes of open arguments (printed by the desk's tool, each proved by the kernel).
  Chapter 5: what the library's stable sort makes of open arguments (printed by the desk's tool, each proved by the kernel).
  Chapter 5: what the library's stable sort makes of no numbers at all (each proved by the kernel).
  Numbers by their rank, stable: insertion and buckets (plain).
  FormatLeads: few players, fields, the check of a play-off.
  FormatLeads: the library's stable sort of a few numbers by their ranks.
  Chapter 5: what Leaders makes of open arguments (printed by the desk's tool, each proved by the kernel).
  FormatLeads: the program's Leaders: those who counted, their lists, the order.
  FormatLeads: the program's Leaders: the order is sorted by the ranks, and handed on.
  FormatLeads: what the program's Leaders gives.
  Chapter 5: what the reference's Leaders makes of open arguments (printed by the desk's tool, each proved by the kernel).
-/
import Derived.Test.YtanpmgfaieekhaaGreatDoorPdFf
import Derived.Test.YtanpmgfaieekhaaGreatDoorFmBl
import Derived.Test.YtanpmgfaieekhaaGreatDoorFmA
import Derived.KernelRfl
import Derived.Test.YtanpmgfaieekhaaGreatDoorFmT
import Derived.Test.YtanpmgfaieekhaaGreatDoorFmSm
section
namespace Go.Pd
open Go Go.Proofs Go.RowKit

/-- Which functions write over their first argument; those that hand back a shorter slice. -/
def wrM (mu : FuncId → List D → Option D) : FuncId → Option Mu := fun k => match k with
  | 120 => some (.tab false (mu 120))
  | 149 => some (.tab false (mu 149))
  | 176 => some (.tab false (mu 176))
  | 124 => some (.tab true (mu 124))
  | 136 => some (.tab false (mu 136))
  | _ => none
noncomputable def TEm (call mu : FuncId → List D → Option D) (L : Nat) (C : Nat → Nat) : TE := { E := { P := Tryz.prog, gl := fun _ => none, call := call, L := L, wr := wrM mu }, cst := cstG, C := C, sq := sqT }
/-- .. for functions that write over their own first argument. -/
noncomputable def TEM (call mu : FuncId → List D → Option D) (L : Nat) (C : Nat → Nat) (_ : TypeId) (_ : Nat) : TE := TEm call mu L C
/-- The contract of a table of such calls. -/
def MutsT (t : FuncId → Bool) (mu : FuncId → List D → Option D) : Prop := ∀ k cs len rest f m cs', mu k (.slc false len cs :: rest) = some (.slc f m cs') → MutC Tryz.prog (fun _ => none) k cs len rest cs' (match t k with | true => some m | false => none)
def trimT : FuncId → Bool := fun k => match k with
  | 124 => true
  | _ => false
theorem mutD_ok {mu : FuncId → List D → Option D} (h : MutsT trimT mu) {k : FuncId} {t : Bool} (ht : trimT k = t) (hen : ∀ vs w, (callFunc k vs).run Tryz.prog w = .ok (.enter k vs) w) : MutOK Tryz.prog (fun _ => none) k (mutD t (mu k)) := by
  refine mutOK_of hen fun cs len rest cs' m hg => ?_
  unfold mutD at hg
  split at hg
  · rename_i f m' cs2 hmu
    have := h k cs len rest f m' cs2 hmu
    cases hg
    rw [ht] at this
    exact this
  · cases hg
theorem wrM_ok {mu : FuncId → List D → Option D} (h : MutsT trimT mu) : ∀ k g, wrM mu k = some g → MutOK Tryz.prog (fun _ => none) k g.f := by
  intro k g hg
  unfold wrM at hg
  split at hg
  · cases hg; exact mutD_ok h rfl (enters_of Tryz.func120 (by kernel_rfl) rfl)
  · cases hg; exact mutD_ok h rfl (enters_of Tryz.func149 (by kernel_rfl) rfl)
  · cases hg; exact mutD_ok h rfl (enters_of Tryz.func176 (by kernel_rfl) rfl)
  · cases hg; exact mutD_ok h rfl (enters_of Tryz.func124 (by kernel_rfl) rfl)
  · cases hg; exact mutD_ok h rfl (enters_of Tryz.func136 (by kernel_rfl) rfl)
  · cases hg
/-- A function by its equation. -/
theorem fnU {base mu : FuncId → List D → Option D} (hb : CallsT base) (hm : MutsT trimT mu) {f : FuncId} {fn : Func} (hf : Tryz.prog.funcs[f]? = some fn) {ord : Ord} {N : NTab} (hok : okFn Tryz.prog ord fn = true) {ds : List D} {r : D}
    (he : evFnT (TEm (callOf base) mu LL C1) ord N .canon fn ds = some r) : OK5 f ds r :=
  evFnT_ok (Te := TEm (callOf base) mu LL C1) mixedT ⟨callOf_ok hb, wrM_ok hm⟩ callOf_cst rfl sqT_ok hf (by simp) hok he
/-- .. that writes over its first argument. -/
theorem fnM {base mu : FuncId → List D → Option D} (hb : CallsT base) (hm : MutsT trimT mu) {f : FuncId} {fn : Func} (hf : Tryz.prog.funcs[f]? = some fn) {ord : Ord} {N : NTab} (hok : okFn Tryz.prog ord fn = true) (h0 : keeps0 fn = true) {cs rest cs' : List D} {len : Nat}
    (he : ∀ e n, cs.length = len * n → evFnTM (TEM (callOf base) mu LL C1 e n) ord N e n fn len cs rest = some (.slc false len cs')) : MutC Tryz.prog (fun _ => none) f cs len rest cs' none :=
  evFnTM_ok (Te := TEm (callOf base) mu LL C1) mixedT ⟨callOf_ok hb, wrM_ok hm⟩ callOf_cst rfl sqT_ok hf hok h0 he
/-- No such call. -/
def noMu : FuncId → List D → Option D := fun _ _ => none
theorem noMu_ok : MutsT trimT noMu := fun _ _ _ _ _ _ _ h => by cases h
/-- One such call. -/
noncomputable def oneMu (k : FuncId) (cs : List D) (len : Nat) (rest cs' : List D) : FuncId → List D → Option D := fun k0 ds => by
  classical
  exact if k0 = k ∧ ds = .slc false len cs :: rest then some (.slc false len cs') else none
theorem oneMu_ok {k : FuncId} {cs : List D} {len : Nat} {rest cs' : List D} (ht : trimT k = false) (h : MutC Tryz.prog (fun _ => none) k cs len rest cs' none) : MutsT trimT (oneMu k cs len rest cs') := by
  intro k0 cs0 len0 rest0 f m cs2 hh
  unfold oneMu at hh
  split at hh
  · rename_i hc
    obtain ⟨rfl, hc⟩ := hc
    cases hh
    simp only [List.cons.injEq, D.slc.injEq, true_and] at hc
    obtain ⟨⟨rfl, rfl⟩, rfl⟩ := hc
    rw [ht]
    exact h
  · cases hh
theorem oneMu_at {k : FuncId} {cs : List D} {len : Nat} {rest cs' : List D} : oneMu k cs len rest cs' k (.slc false len cs :: rest) = some (.slc false len cs') := by
  unfold oneMu
  rw [if_pos ⟨rfl, rfl⟩]
end Go.Pd
end

section
namespace Go.Pd
open Go Go.Proofs
set_option maxRecDepth 100000
def N14 : NTab := fun p => match p with
  | 15 => some { keep := [1, 2, 5], kl := [], ren := [(2, 2), (5, 5)] }
  | 127 => some { keep := [1, 5, 6, 7, 8], kl := [2], ren := [(2, 2), (5, 5)] }
  | 511 => some { keep := [1, 7, 8, 10, 11], kl := [2, 5], ren := [(2, 2), (5, 5)] }
  | 1023 => some { keep := [1], kl := [2, 5], ren := [(2, 2), (5, 5)] }
  | _ => none
def O14 : Ord := fun id => match id with
  | 1 => some { l := some [0, 1, 2, 3, 4, 5, 6, 7], ks := [5] }
  | _ => none
noncomputable def F14_1023 (call : FuncId → List D → Option D) (L : Nat) (C : Nat → Nat) (vl_f : Bool) (vl_n : Nat) (vl_c : List D) : Option D :=
  cutAt (TEf call L C) O14 N14 FinM.canon Tryz.f14 [true, true, true, true, true, true, true, true, true] []  (C 1023) (St.mk [J, D.slc vl_f vl_n vl_c, J, J, J, J, J, J, J, J, J, J, J, J, J, J, J, J, J, J, J, J, J, J, J, J, J, J, J, J, J, J, J, J, J, J, J, J, J, J, J, J, J, J, J, J, J, J, J, J, J, J, J, J, J, J, J, J, J, J, J, J, J, J, J, J, J, J, J, J, J, J, J, J, J, J, J, J, J, J, J, J, J, J, J, J, J, J, J, J, J, J, J, J, J, J, J, J, J, J, J, J, J, J] [Z, Z, Z, Z, Z, Z, Z, Z, Z, Z, Z, Z, Z, Z, Z, Z, Z, Z, Z, Z, Z, Z, Z, Z, Z, Z, Z, Z, Z, Z, Z, Z, Z, Z, Z, Z, Z, Z, Z, Z, Z, Z, Z, Z, Z, Z, Z, Z, Z, Z, Z, Z, Z, Z, Z, Z, Z, Z, Z, Z, Z, Z, Z, Z, Z, Z, Z, Z, Z, Z, Z, Z, Z, Z, Z, Z, Z, Z, Z, Z, Z, Z, Z, Z, Z, Z, Z, Z, Z, Z, Z, Z, Z, Z, Z, Z, Z, Z, Z, Z, Z, Z, Z, Z])
noncomputable def F14_511 (call : FuncId → List D → Option D) (L : Nat) (C : Nat → Nat) (vl_f : Bool) (vl_n : Nat) (vl_c : List D) (vo_f : Bool) (vo_n : Nat) (vo_c : List D) (vr_f : Bool) (vr_n : Nat) (vr_c : List D) (vorder : Ow) (vranks : Ow) : Option D :=
  cutAt (TEf call L C) O14 N14 FinM.canon Tryz.f14 [true, true, true, true, true, true, true, true] []  (C 511) (St.mk [J, D.slc vl_f vl_n vl_c, J, J, J, J, J, D.slc vo_f vo_n vo_c, D.slc vr_f vr_n vr_c, J, ownD 0 vorder, ownD 0 vranks, J, J, J, J, J, J, J, J, J, J, J, J, J, J, J, J, J, J, J, J, J, J, J, J, J, J, J, J, J, J, J, J, J, J, J, J, J, J, J, J, J, J, J, J, J, J, J, J, J, J, J, J, J, J, J, J, J, J, J, J, J, J, J, J, J, J, J, J, J, J, J, J, J, J, J, J, J, J, J, J, J, J, J, J, J, J, J, J, J, J, J, J] [Z, Z, Z, Z, Z, Z, Z, Z, Z, Z, Z, Z, Z, Z, Z, Z, Z, Z, Z, Z, Z, Z, Z, Z, Z, Z, Z, Z, Z, Z, Z, Z, Z, Z, Z, Z, Z, Z, Z, Z, Z, Z, Z, Z, Z, Z, Z, Z, Z, Z, Z, Z, Z, Z, Z, Z, Z, Z, Z, Z, Z, Z, Z, Z, Z, Z, Z, Z, Z, Z, Z, Z, Z, Z, Z, Z, Z, Z, Z, Z, Z, Z, Z, Z, Z, Z, Z, Z, Z, Z, Z, Z, Z, Z, Z, Z, Z, Z, Z, Z, Z, Z, Z, Z])
noncomputable def F14_127 (call : FuncId → List D → Option D) (L : Nat) (C : Nat → Nat) (vl_f : Bool) (vl_n : Nat) (vl_c : List D) (vf0_f : Bool) (vf0_n : Nat) (vf0_c : List D) (vx1_f : Bool) (vx1_n : Nat) (vx1_c : List D) (vbad : Int) (vo_f : Bool) (vo_n : Nat) (vo_c : List D) (vr_f : Bool) (vr_n : Nat) (vr_c : List D) : Option D :=
  cutAt (TEf call L C) O14 N14 FinM.canon Tryz.f14 [true, true, true, true, true, true] []  (C 127) (St.mk [J, D.slc vl_f vl_n vl_c, J, J, J, D.loc 5 0 0, D.int IntKind.i64 vbad, D.slc vo_f vo_n vo_c, D.slc vr_f vr_n vr_c, J, J, J, J, J, J, J, J, J, J, J, J, J, J, J, J, J, J, J, J, J, J, J, J, J, J, J, J, J, J, J, J, J, J, J, J, J, J, J, J, J, J, J, J, J, J, J, J, J, J, J, J, J, J, J, J, J, J, J, J, J, J, J, J, J, J, J, J, J, J, J, J, J, J, J, J, J, J, J, J, J, J, J, J, J, J, J, J, J, J, J, J, J, J, J] [Z, Z, Z, Z, Z, (1, some (Ob.box [D.slc vf0_f vf0_n vf0_c, D.slc vx1_f vx1_n vx1_c] false)), Z, Z, Z, Z, Z, Z, Z, Z, Z, Z, Z, Z, Z, Z, Z, Z, Z, Z, Z, Z, Z, Z, Z, Z, Z, Z, Z, Z, Z, Z, Z, Z, Z, Z, Z, Z, Z, Z, Z, Z, Z, Z, Z, Z, Z, Z, Z, Z, Z, Z, Z, Z, Z, Z, Z, Z, Z, Z, Z, Z, Z, Z, Z, Z, Z, Z, Z, Z, Z, Z, Z, Z, Z, Z, Z, Z, Z, Z, Z, Z, Z, Z, Z, Z, Z, Z, Z, Z, Z, Z, Z, Z, Z, Z, Z, Z, Z, Z])
noncomputable def F14_15 (call : FuncId → List D → Option D) (L : Nat) (C : Nat → Nat) (vl_f : Bool) (vl_n : Nat) (vl_c : List D) (vf0_f : Bool) (vf0_n : Nat) (vf0_c : List D) (vf1_f : Bool) (vf1_n : Nat) (vf1_c : List D) (vx1_f : Bool) (vx1_n : Nat) (vx1_c : List D) : Option D :=
  cutAt (TEf call L C) O14 N14 FinM.canon Tryz.f14 [true, true, true] []  (C 15) (St.mk [J, D.slc vl_f vl_n vl_c, D.loc 2 0 0, J, J, D.loc 5 0 0, J, J, J, J, J, J, J, J, J, J, J, J, J, J, J, J, J, J, J, J, J, J, J, J, J, J, J, J, J, J, J, J, J, J, J, J, J, J, J, J, J, J, J, J, J, J, J, J, J, J, J, J, J, J, J, J, J, J, J, J, J, J, J, J, J, J, J, J, J, J, J, J, J, J, J, J, J, J, J, J, J, J, J, J, J, J, J, J, J, J, J, J, J, J, J, J, J, J] [Z, Z, (1, some (Ob.box [D.slc vf0_f vf0_n vf0_c, D.slc vf1_f vf1_n vf1_c] false)), Z, Z, (1, some (Ob.box [D.slc vf0_f vf0_n vf0_c, D.slc vx1_f vx1_n vx1_c] false)), Z, Z, Z, Z, Z, Z, Z, Z, Z, Z, Z, Z, Z, Z, Z, Z, Z, Z, Z, Z, Z, Z, Z, Z, Z, Z, Z, Z, Z, Z, Z, Z, Z, Z, Z, Z, Z, Z, Z, Z, Z, Z, Z, Z, Z, Z, Z, Z, Z, Z, Z, Z, Z, Z, Z, Z, Z, Z, Z, Z, Z, Z, Z, Z, Z, Z, Z, Z, Z, Z, Z, Z, Z, Z, Z, Z, Z, Z, Z, Z, Z, Z, Z, Z, Z, Z, Z, Z, Z, Z, Z, Z, Z, Z, Z, Z, Z, Z])
theorem F14_1023_eq (call : FuncId → List D → Option D) (L : Nat) (C : Nat → Nat) (vl_f : Bool) (vl_n : Nat) (vl_c : List D) (hC : ∀ t, C t = 1) : F14_1023 call L C  vl_f vl_n vl_c  =
  (optK (call 75 [D.slc vl_f vl_n vl_c]) fun r_12 =>
    (tupK (r_12) 3 fun c_7 =>
    (cellK (c_7) (0) fun d_5 =>
    (slcK (d_5) fun f_5 n_9 c_8 =>
    (cellK (c_7) (1) fun d_6 =>
    (intK IntKind.i64 (d_6) fun x_3 =>
    (cellK (c_7) (2) fun d_7 =>
    (intK IntKind.i64 (d_7) fun x_4 =>
    (optK (call 76 [D.slc vl_f vl_n vl_c]) fun r_13 =>
      (intK IntKind.i64 (r_13) fun x_5 =>
      (ifK (x_5 == 0)
        (optK (call 77 [D.slc vl_f vl_n vl_c]) fun r_14 =>
          (tupK (r_14) 2 fun c_9 =>
          (cellK (c_9) (0) fun d_8 =>
          (slcK (d_8) fun f_6 n_10 c_10 =>
          (cellK (c_9) (1) fun d_9 =>
          (intK IntKind.i64 (d_9) fun x_6 =>
          (ifK (x_4 == x_5)
            (optK (call 20 [D.slc f_5 n_9 c_8, D.slc f_6 n_10 c_10]) fun r_15 =>
              (boolK (r_15) fun b_7 =>
              (ifK (b_7)
                (ifK (x_3 == x_6)
                  (optK (call 16 []) fun r_16 =>
                    (boolK (r_16) fun b_8 =>
                    (some (D.bool b_8))))
                  (some (D.bool false)))
                (some (D.bool false)))))
            (some (D.bool false)))))))))
        (ifK (x_4 == x_5)
          (optK (call 20 [D.slc f_5 n_9 c_8, D.nils]) fun r_17 =>
            (boolK (r_17) fun b_9 =>
            (ifK (b_9)
              (ifK (x_3 == 0)
                (optK (call 16 []) fun r_18 =>
                  (boolK (r_18) fun b_10 =>
                  (some (D.bool b_10))))
                (some (D.bool false)))
              (some (D.bool false)))))
          (some (D.bool false)))))))))))))) := by
  unfold F14_1023
  rw [hC]
  kernel_rfl
theorem F14_511_eqnn (call : FuncId → List D → Option D) (L : Nat) (C : Nat → Nat) (vl_f : Bool) (vl_n : Nat) (vl_c : List D) (vo_f : Bool) (vo_n : Nat) (vo_c : List D) (vr_f : Bool) (vr_n : Nat) (vr_c : List D) (hC : ∀ t, C t = 1) : F14_511 call L C  vl_f vl_n vl_c vo_f vo_n vo_c vr_f vr_n vr_c (Ow.nil) (Ow.nil) =
  (optK (call 20 [D.slc vo_f vo_n vo_c, D.nils]) fun r_10 =>
    (boolK (r_10) fun b_5 =>
    (ifK (!b_5)
      (some (D.bool false))
      (optK (call 20 [D.slc vr_f vr_n vr_c, D.nils]) fun r_11 =>
        (boolK (r_11) fun b_6 =>
        (ifK (!b_6)
          (some (D.bool false))
          (F14_1023 call L C vl_f vl_n vl_c))))))) := by
  unfold F14_511
  rw [hC]
  kernel_rfl
theorem F14_511_eqss (call : FuncId → List D → Option D) (L : Nat) (C : Nat → Nat) (vl_f : Bool) (vl_n : Nat) (vl_c : List D) (vo_f : Bool) (vo_n : Nat) (vo_c : List D) (vr_f : Bool) (vr_n : Nat) (vr_c : List D) (vorder_f : Bool) (vorder_n : Nat) (vorder_c : List D) (vranks_f_1 : Bool) (vranks_n_1 : Nat) (vranks_c_1 : List D) (hC : ∀ t, C t = 1) : F14_511 call L C  vl_f vl_n vl_c vo_f vo_n vo_c vr_f vr_n vr_c (Ow.slc vorder_f vorder_n vorder_c) (Ow.slc vranks_f_1 vranks_n_1 vranks_c_1) =
  (optK (call 20 [D.slc vo_f vo_n vo_c, D.slc vorder_f vorder_n vorder_c]) fun r_23 =>
    (boolK (r_23) fun b_15 =>
    (ifK (!b_15)
      (some (D.bool false))
      (optK (call 20 [D.slc vr_f vr_n vr_c, D.slc vranks_f_1 vranks_n_1 vranks_c_1]) fun r_24 =>
        (boolK (r_24) fun b_16 =>
        (ifK (!b_16)
          (some (D.bool false))
          (F14_1023 call L C vl_f vl_n vl_c))))))) := by
  unfold F14_511
  rw [hC]
  kernel_rfl
theorem F14_127_eq (call : FuncId → List D → Option D) (L : Nat) (C : Nat → Nat) (vl_f : Bool) (vl_n : Nat) (vl_c : List D) (vf0_f : Bool) (vf0_n : Nat) (vf0_c : List D) (vx1_f : Bool) (vx1_n : Nat) (vx1_c : List D) (vbad : Int) (vo_f : Bool) (vo_n : Nat) (vo_c : List D) (vr_f : Bool) (vr_n : Nat) (vr_c : List D) (hC : ∀ t, C t = 1) : F14_127 call L C  vl_f vl_n vl_c vf0_f vf0_n vf0_c vx1_f vx1_n vx1_c (vbad) (vo_f) (vo_n) (vo_c) (vr_f) (vr_n) (vr_c) =
  (ifK (vbad == 0)
    (optK (call 74 [D.agg [D.slc vf0_f vf0_n vf0_c, D.slc vx1_f vx1_n vx1_c]]) fun r_9 =>
      (tupK (r_9) 2 fun c_4 =>
      (cellK (c_4) (0) fun d_3 =>
      (slcK (d_3) fun f_3 n_5 c_5 =>
      (cellK (c_4) (1) fun d_4 =>
      (slcK (d_4) fun f_4 n_6 c_6 =>
      (F14_511 call L C vl_f vl_n vl_c vo_f vo_n vo_c vr_f vr_n vr_c (Ow.slc f_3 n_5 c_5) (Ow.slc f_4 n_6 c_6))))))))
    (F14_511 call L C vl_f vl_n vl_c vo_f vo_n vo_c vr_f vr_n vr_c (Ow.nil) (Ow.nil))) := by
  unfold F14_127
  rw [hC]
  kernel_rfl
theorem F14_15_eq (call : FuncId → List D → Option D) (L : Nat) (C : Nat → Nat) (vl_f : Bool) (vl_n : Nat) (vl_c : List D) (vf0_f : Bool) (vf0_n : Nat) (vf0_c : List D) (vf1_f : Bool) (vf1_n : Nat) (vf1_c : List D) (vx1_f : Bool) (vx1_n : Nat) (vx1_c : List D) (hC : ∀ t, C t = 1) : F14_15 call L C  vl_f vl_n vl_c vf0_f vf0_n vf0_c vf1_f vf1_n vf1_c (vx1_f) (vx1_n) (vx1_c) =
  (optK (call 71 [D.agg [D.slc vf0_f vf0_n vf0_c, D.slc vx1_f vx1_n vx1_c]]) fun r_6 =>
    (intK IntKind.i64 (r_6) fun x =>
    (optK (call 72 [D.agg [D.slc vf0_f vf0_n vf0_c, D.slc vf1_f vf1_n vf1_c]]) fun r_7 =>
      (tupK (r_7) 3 fun c_1 =>
      (cellK (c_1) (0) fun d =>
      (slcK (d) fun f_1 n_2 c_2 =>
      (cellK (c_1) (1) fun d_1 =>
      (slcK (d_1) fun f_2 n_3 c_3 =>
      (cellK (c_1) (2) fun d_2 =>
      (intK IntKind.i64 (d_2) fun x_1 =>
      (optK (call 73 [D.agg [D.slc vf0_f vf0_n vf0_c, D.slc vf1_f vf1_n vf1_c]]) fun r_8 =>
        (intK IntKind.i64 (r_8) fun x_2 =>
        (ifK (x_2 != x)
          (some (D.bool false))
          (ifK (x_1 != x)
            (some (D.bool false))
            (F14_127 call L C vl_f vl_n vl_c vf0_f vf0_n vf0_c vx1_f vx1_n vx1_c (x) (f_1) (n_2) (c_2) (f_2) (n_3) (c_3)))))))))))))))) := by
  unfold F14_15
  rw [hC]
  kernel_rfl
theorem F14_eq (call : FuncId → List D → Option D) (L : Nat) (C : Nat → Nat) (vf0_f : Bool) (vf0_n : Nat) (vf0_c : List D) (vf1_f : Bool) (vf1_n : Nat) (vf1_c : List D) (vl_f : Bool) (vl_n : Nat) (vl_c : List D) : evFnT (TEf call L C) O14 N14 FinM.canon Tryz.f14 [D.agg [D.slc vf0_f vf0_n vf0_c, D.slc vf1_f vf1_n vf1_c], D.slc vl_f vl_n vl_c] =
  (optK (call 37 [D.slc vf1_f vf1_n vf1_c]) fun r =>
    (slcK (r) fun f n c =>
    (ifK (decide ((vf0_n : Int) > 39))
      (optK (call 16 []) fun r_1 =>
        (boolK (r_1) fun b =>
        (some (D.bool b))))
      (optK (call 70 [D.slc f n c, D.int IntKind.i64 8]) fun r_2 =>
        (boolK (r_2) fun b_1 =>
        (ifK (!b_1)
          (optK (call 16 []) fun r_3 =>
            (boolK (r_3) fun b_2 =>
            (some (D.bool b_2))))
          (optK (call 46 [D.slc vl_f vl_n vl_c]) fun r_4 =>
            (boolK (r_4) fun b_3 =>
            (ifK (!b_3)
              (optK (call 16 []) fun r_5 =>
                (boolK (r_5) fun b_4 =>
                (some (D.bool b_4))))
              (F14_15 call L C vl_f vl_n vl_c vf0_f vf0_n vf0_c vf1_f vf1_n vf1_c (f) (n) (c))))))))))) := by kernel_rfl
-- 16116 ms
def N70 : NTab := fun p => match p with
  | 7 => some { keep := [0], kl := [], ren := [] }
  | 58 => some { keep := [0, 5], kl := [], ren := [] }
  | _ => none
noncomputable def F70_58 (call : FuncId → List D → Option D) (L : Nat) (C : Nat → Nat) (n_1 : Nat) (vl_f : Bool) (vl_n : Nat) (vl_c : List D) (vi : Int) : Option D :=
  loopAt (TEf call L C) O0 N70 FinM.canon Tryz.f70 [true, true, false, true, false] []  n_1 (St.mk [D.slc vl_f vl_n vl_c, J, J, J, J, D.int IntKind.i64 vi, J, J, J, J, J, J, J, J, J, J, J, J, J, J, J, J, J, J, J, J, J, J, J, J, J, J] [Z, Z, Z, Z, Z, Z, Z, Z, Z, Z, Z, Z, Z, Z, Z, Z, Z, Z, Z, Z, Z, Z, Z, Z, Z, Z, Z, Z, Z, Z, Z, Z])
noncomputable def F70_7 (call : FuncId → List D → Option D) (L : Nat) (C : Nat → Nat) (vl_f : Bool) (vl_n : Nat) (vl_c : List D) : Option D :=
  cutAt (TEf call L C) O0 N70 FinM.canon Tryz.f70 [true, true] []  (C 7) (St.mk [D.slc vl_f vl_n vl_c, J, J, J, J, J, J, J, J, J, J, J, J, J, J, J, J, J, J, J, J, J, J, J, J, J, J, J, J, J, J, J] [Z, Z, Z, Z, Z, Z, Z, Z, Z, Z, Z, Z, Z, Z, Z, Z, Z, Z, Z, Z, Z, Z, Z, Z, Z, Z, Z, Z, Z, Z, Z, Z])
theorem F70_58_eq (call : FuncId → List D → Option D) (L : Nat) (C : Nat → Nat) (n_1 : Nat) (vl_f : Bool) (vl_n : Nat) (vl_c : List D) (vi : Int) : F70_58 call L C  (n_1 + 1) vl_f vl_n vl_c (vi) =
  (ifK (decide (vi < (vl_n : Int)))
    (chkK (decide (0 ≤ vi ∧ vi < (vl_n : Int)))
      (cellK (vl_c) (Int.toNat vi * 3 + 0) fun d =>
      (strK (d) fun s =>
      (cellK (vl_c) (Int.toNat vi * 3 + 1) fun d_1 =>
      (slcK (d_1) fun f n_2 c =>
      (cellK (vl_c) (Int.toNat vi * 3 + 2) fun d_2 =>
      (intK IntKind.i64 (d_2) fun x =>
      (optK (call 78 [D.agg [D.str s, D.slc f n_2 c, D.int IntKind.i64 x]]) fun r =>
        (boolK (r) fun b =>
        (ifK (!b)
          (some (D.bool false))
          (F70_58 call L C n_1 vl_f vl_n vl_c (IntKind.wrap IntKind.i64 (vi + 1)))))))))))))
    (some (D.bool true))) := by kernel_rfl
theorem F70_7_eq (call : FuncId → List D → Option D) (L : Nat) (C : Nat → Nat) (vl_f : Bool) (vl_n : Nat) (vl_c : List D) (hC : ∀ t, C t = 1) : F70_7 call L C  vl_f vl_n vl_c  =
  (F70_58 call L C L vl_f vl_n vl_c (0)) := by
  unfold F70_7
  rw [hC]
  kernel_rfl
theorem F70_eq (call : FuncId → List D → Option D) (L : Nat) (C : Nat → Nat) (vl_f : Bool) (vl_n : Nat) (vl_c : List D) (vn : Int) : evFnT (TEf call L C) O0 N70 FinM.canon Tryz.f70 [D.slc vl_f vl_n vl_c, D.int IntKind.i64 vn] =
  (ifK (decide ((vl_n : Int) > vn))
    (ifK (decide ((vl_n : Int) ≤ 200))
      (some (D.bool false))
      (ifK (decide ((vl_n : Int) > 203))
        (some (D.bool false))
        (F70_7 call L C vl_f vl_n vl_c)))
    (ifK (decide ((vl_n : Int) > 203))
      (some (D.bool false))
      (F70_7 call L C vl_f vl_n vl_c))) := by kernel_rfl
-- 1488 ms
def N71 : NTab := fun p => match p with
  | 15 => some { keep := [1, 3], kl := [], ren := [(1, 1)] }
  | _ => none
noncomputable def F71_15 (call : FuncId → List D → Option D) (L : Nat) (C : Nat → Nat) (vf0_f : Bool) (vf0_n : Nat) (vf0_c : List D) (vf1_f : Bool) (vf1_n : Nat) (vf1_c : List D) (ve : Int) : Option D :=
  cutAt (TEf call L C) O0 N71 FinM.canon Tryz.f71 [true, true, true] []  (C 15) (St.mk [J, D.loc 1 0 0, J, D.int IntKind.i64 ve, J, J, J, J, J, J, J, J, J, J, J, J, J, J, J, J, J, J, J] [Z, (1, some (Ob.box [D.slc vf0_f vf0_n vf0_c, D.slc vf1_f vf1_n vf1_c] false)), Z, Z, Z, Z, Z, Z, Z, Z, Z, Z, Z, Z, Z, Z, Z, Z, Z, Z, Z, Z, Z])
theorem F71_15_eq (call : FuncId → List D → Option D) (L : Nat) (C : Nat → Nat) (vf0_f : Bool) (vf0_n : Nat) (vf0_c : List D) (vf1_f : Bool) (vf1_n : Nat) (vf1_c : List D) (ve : Int) (hC : ∀ t, C t = 1) : F71_15 call L C  vf0_f vf0_n vf0_c vf1_f vf1_n vf1_c (ve) =
  (ifK (ve == 0)
    (optK (call 40 [D.slc vf0_f vf0_n vf0_c, D.slc vf1_f vf1_n vf1_c]) fun r_1 =>
      (intK IntKind.i64 (r_1) fun x_1 =>
      (some (D.int IntKind.i64 x_1))))
    (some (D.int IntKind.i64 ve))) := by
  unfold F71_15
  rw [hC]
  kernel_rfl
theorem F71_eq (call : FuncId → List D → Option D) (L : Nat) (C : Nat → Nat) (vf0_f : Bool) (vf0_n : Nat) (vf0_c : List D) (vf1_f : Bool) (vf1_n : Nat) (vf1_c : List D) : evFnT (TEf call L C) O0 N71 FinM.canon Tryz.f71 [D.agg [D.slc vf0_f vf0_n vf0_c, D.slc vf1_f vf1_n vf1_c]] =
  (optK (call 39 [D.slc vf0_f vf0_n vf0_c]) fun r =>
    (intK IntKind.i64 (r) fun x =>
    (ifK (x == 0)
      (ifK (decide ((vf1_n : Int) > 200))
        (F71_15 call L C vf0_f vf0_n vf0_c vf1_f vf1_n vf1_c (5))
        (F71_15 call L C vf0_f vf0_n vf0_c vf1_f vf1_n vf1_c (x)))
      (F71_15 call L C vf0_f vf0_n vf0_c vf1_f vf1_n vf1_c (x))))) := by kernel_rfl
-- 1040 ms
theorem F73_eq (call : FuncId → List D → Option D) (L : Nat) (C : Nat → Nat) (vf0_f : Bool) (vf0_n : Nat) (vf0_c : List D) (vf1_f : Bool) (vf1_n : Nat) (vf1_c : List D) : evFnT (TEf call L C) O0 N0 FinM.canon Tryz.f73 [D.agg [D.slc vf0_f vf0_n vf0_c, D.slc vf1_f vf1_n vf1_c]] =
  (optK (call 82 [D.slc vf0_f vf0_n vf0_c]) fun r =>
    (intK IntKind.i64 (r) fun x =>
    (optK (call 83 [D.bool (decide ((vf1_n : Int) > 200)), D.int IntKind.i64 5]) fun r_1 =>
      (intK IntKind.i64 (r_1) fun x_1 =>
      (optK (call 81 [D.slc true 2 [D.int IntKind.i64 x, D.int IntKind.i64 x_1]]) fun r_2 =>
        (intK IntKind.i64 (r_2) fun x_2 =>
        (ifK (x_2 != 0)
          (some (D.int IntKind.i64 x_2))
          (optK (call 87 [D.slc vf0_f vf0_n vf0_c, D.slc vf1_f vf1_n vf1_c]) fun r_3 =>
            (intK IntKind.i64 (r_3) fun x_3 =>
            (some (D.int IntKind.i64 x_3))))))))))) := by kernel_rfl
-- 656 ms
def N76 : NTab := fun p => match p with
  | 122 => some { keep := [0, 3], kl := [], ren := [] }
  | 62618 => some { keep := [0, 3, 4], kl := [], ren := [] }
  | _ => none
noncomputable def F76_62618 (call : FuncId → List D → Option D) (L : Nat) (C : Nat → Nat) (n : Nat) (n_3 : Nat) (vl_f : Bool) (vl_n : Nat) (vl_c : List D) (vi : Int) (vk : Int) : Option D :=
  loopAt (TEf call L C) O0 N76 FinM.canon Tryz.f76 [true, true, true, false, true, false, false, true, false, false, true, true, false, true, false] [n]  n_3 (St.mk [D.slc vl_f vl_n vl_c, J, J, D.int IntKind.i64 vi, D.int IntKind.i64 vk, J, J, J, J, J, J, J, J, J, J, J, J, J, J, J, J, J, J, J, J, J, J, J, J, J, J, J, J, J, J, J, J, J, J, J, J, J, J, J, J, J, J, J, J, J, J, J, J, J, J, J, J, J, J, J, J, J, J, J, J, J] [Z, Z, Z, Z, Z, Z, Z, Z, Z, Z, Z, Z, Z, Z, Z, Z, Z, Z, Z, Z, Z, Z, Z, Z, Z, Z, Z, Z, Z, Z, Z, Z, Z, Z, Z, Z, Z, Z, Z, Z, Z, Z, Z, Z, Z, Z, Z, Z, Z, Z, Z, Z, Z, Z, Z, Z, Z, Z, Z, Z, Z, Z, Z, Z, Z, Z])
noncomputable def F76_122 (call : FuncId → List D → Option D) (L : Nat) (C : Nat → Nat) (n : Nat) (vl_f : Bool) (vl_n : Nat) (vl_c : List D) (vi : Int) : Option D :=
  loopAt (TEf call L C) O0 N76 FinM.canon Tryz.f76 [true, true, true, false, true, false] []  n (St.mk [D.slc vl_f vl_n vl_c, J, J, D.int IntKind.i64 vi, J, J, J, J, J, J, J, J, J, J, J, J, J, J, J, J, J, J, J, J, J, J, J, J, J, J, J, J, J, J, J, J, J, J, J, J, J, J, J, J, J, J, J, J, J, J, J, J, J, J, J, J, J, J, J, J, J, J, J, J, J, J] [Z, Z, Z, Z, Z, Z, Z, Z, Z, Z, Z, Z, Z, Z, Z, Z, Z, Z, Z, Z, Z, Z, Z, Z, Z, Z, Z, Z, Z, Z, Z, Z, Z, Z, Z, Z, Z, Z, Z, Z, Z, Z, Z, Z, Z, Z, Z, Z, Z, Z, Z, Z, Z, Z, Z, Z, Z, Z, Z, Z, Z, Z, Z, Z, Z, Z])
theorem F76_62618_eq (call : FuncId → List D → Option D) (L : Nat) (C : Nat → Nat) (n : Nat) (n_3 : Nat) (vl_f : Bool) (vl_n : Nat) (vl_c : List D) (vi : Int) (vk : Int) : F76_62618 call L C n (n_3 + 1) vl_f vl_n vl_c vi (vk) =
  (chkK (decide (0 ≤ vi ∧ vi < (vl_n : Int)))
    (cellK (vl_c) (Int.toNat vi * 1) fun d_2 =>
    (slcK (d_2) fun _f_2 n_4 _c_2 =>
    (ifK (decide (vk < (n_4 : Int)))
      (chkK (decide (0 ≤ vi ∧ vi < (vl_n : Int)))
        (cellK (vl_c) (Int.toNat vi * 1) fun d_3 =>
        (slcK (d_3) fun _f_3 n_5 c_3 =>
        (chkK (decide (0 ≤ vk ∧ vk < (n_5 : Int)))
          (cellK (c_3) (Int.toNat vk * 1) fun d_4 =>
          (intK IntKind.i64 (d_4) fun x =>
          (ifK (decide (x < 1))
            (some (D.int IntKind.i64 3))
            (chkK (decide (0 ≤ vi ∧ vi < (vl_n : Int)))
              (cellK (vl_c) (Int.toNat vi * 1) fun d_5 =>
              (slcK (d_5) fun _f_4 n_6 c_4 =>
              (chkK (decide (0 ≤ vk ∧ vk < (n_6 : Int)))
                (cellK (c_4) (Int.toNat vk * 1) fun d_6 =>
                (intK IntKind.i64 (d_6) fun x_1 =>
                (ifK (decide (x_1 > 99))
                  (some (D.int IntKind.i64 3))
                  (F76_62618 call L C n n_3 vl_f vl_n vl_c vi (IntKind.wrap IntKind.i64 (vk + 1)))))))))))))))))
      (chkK (decide (0 ≤ vi ∧ vi < (vl_n : Int)))
        (cellK (vl_c) (Int.toNat vi * 1) fun d_7 =>
        (slcK (d_7) fun _f_5 n_7 _c_5 =>
        (chkK (decide ((0 : Int) ≤ 0 ∧ (0 : Int) < (vl_n : Int)))
          (cellK (vl_c) (0) fun d_8 =>
          (slcK (d_8) fun _f_6 n_8 _c_6 =>
          (ifK ((n_7 : Int) != (n_8 : Int))
            (some (D.int IntKind.i64 2))
            (F76_122 call L C n vl_f vl_n vl_c (IntKind.wrap IntKind.i64 (vi + 1)))))))))))))) := by kernel_rfl
theorem F76_122_eq (call : FuncId → List D → Option D) (L : Nat) (C : Nat → Nat) (n : Nat) (vl_f : Bool) (vl_n : Nat) (vl_c : List D) (vi : Int) : F76_122 call L C  (n + 1) vl_f vl_n vl_c (vi) =
  (ifK (decide (vi < (vl_n : Int)))
    (chkK (decide (0 ≤ vi ∧ vi < (vl_n : Int)))
      (cellK (vl_c) (Int.toNat vi * 1) fun d =>
      (slcK (d) fun _f n_1 _c =>
      (ifK ((n_1 : Int) == 0)
        (some (D.int IntKind.i64 12))
        (chkK (decide (0 ≤ vi ∧ vi < (vl_n : Int)))
          (cellK (vl_c) (Int.toNat vi * 1) fun d_1 =>
          (slcK (d_1) fun _f_1 n_2 _c_1 =>
          (ifK (decide ((n_2 : Int) > 36))
            (some (D.int IntKind.i64 5))
            (F76_62618 call L C n L vl_f vl_n vl_c vi (0))))))))))
    (some (D.int IntKind.i64 0))) := by kernel_rfl
theorem F76_eq (call : FuncId → List D → Option D) (L : Nat) (C : Nat → Nat) (vl_f : Bool) (vl_n : Nat) (vl_c : List D) : evFnT (TEf call L C) O0 N76 FinM.canon Tryz.f76 [D.slc vl_f vl_n vl_c] =
  (ifK (decide ((vl_n : Int) < 2))
    (some (D.int IntKind.i64 2))
    (ifK (decide ((vl_n : Int) > 200))
      (some (D.int IntKind.i64 5))
      (F76_122 call L C L vl_f vl_n vl_c (0)))) := by kernel_rfl
-- 6437 ms
theorem F121_eq (call : FuncId → List D → Option D) (L : Nat) (C : Nat → Nat) (va : Int) (vb : Int) (t20_f : Bool) (t20_n : Nat) (t20_c : List D) : evFnT (TEf call L C) O0 N0 FinM.canon Tryz.f121 [D.int IntKind.i64 va, D.int IntKind.i64 vb, D.snap [D.slc t20_f t20_n t20_c] 0] =
  (chkK (decide (0 ≤ va ∧ va < (t20_n : Int)))
    (cellK (t20_c) (Int.toNat va * 1) fun d =>
    (intK IntKind.i64 (d) fun x =>
    (chkK (decide (0 ≤ vb ∧ vb < (t20_n : Int)))
      (cellK (t20_c) (Int.toNat vb * 1) fun d_1 =>
      (intK IntKind.i64 (d_1) fun x_1 =>
      (optK (call 113 [D.int IntKind.i64 x, D.int IntKind.i64 x_1]) fun r =>
        (intK IntKind.i64 (r) fun x_2 =>
        (some (D.int IntKind.i64 x_2)))))))))) := by kernel_rfl
-- 325 ms
end Go.Pd
end

section
namespace Go.Pd
open Go Go.Proofs
set_option maxRecDepth 100000
def N176 : NTab := fun p => match p with
  | 6 => some { keep := [0, 1, 2, 3, 8], kl := [], ren := [] }
  | 402 => some { keep := [0, 1, 2, 3, 8, 9], kl := [], ren := [] }
  | _ => none
noncomputable def F176_402 (call : FuncId → List D → Option D) (mu : FuncId → List D → Option D) (L : Nat) (C : Nat → Nat) (te0 : TypeId) (tn0 : Nat) (n : Nat) (n_1 : Nat) (vdata_n : Nat) (va : Int) (vb : Int) (vcmpb00_f : Bool) (vcmpb00_n : Nat) (vcmpb00_c : List D) (vi : Int) (vj : Int) (vdata_c_2 : List D) : Option D :=
  loopAt (TEM call mu L C te0 tn0) O0 N176 (FinM.over te0 tn0) Tryz.f176 [true, false, false, true, false, false, true, false] [n]  n_1 (St.mk [D.own 0 0 vdata_n, D.int IntKind.i64 va, D.int IntKind.i64 vb, D.fn (Fn.func 121) [] [D.snap [D.slc vcmpb00_f vcmpb00_n vcmpb00_c] 0], J, J, J, J, D.int IntKind.i64 vi, D.int IntKind.i64 vj, J, J, J, J, J, J, J, J, J, J, J, J, J, J, J, J, J, J, J, J, J, J, J, J, J, J, J, J, J, J, J, J, J, J, J, J, J, J, J, J, J, J, J] [(1, some (Ob.arr te0 tn0 vdata_c_2 false)), Z, Z, Z, Z, Z, Z, Z, Z, Z, Z, Z, Z, Z, Z, Z, Z, Z, Z, Z, Z, Z, Z, Z, Z, Z, Z, Z, Z, Z, Z, Z, Z, Z, Z, Z, Z, Z, Z, Z, Z, Z, Z, Z, Z, Z, Z, Z, Z, Z, Z, Z, Z])
noncomputable def F176_6 (call : FuncId → List D → Option D) (mu : FuncId → List D → Option D) (L : Nat) (C : Nat → Nat) (te0 : TypeId) (tn0 : Nat) (n : Nat) (vdata_n : Nat) (va : Int) (vb : Int) (vcmpb00_f : Bool) (vcmpb00_n : Nat) (vcmpb00_c : List D) (vi : Int) (vdata_c_1 : List D) : Option D :=
  loopAt (TEM call mu L C te0 tn0) O0 N176 (FinM.over te0 tn0) Tryz.f176 [true, false] []  n (St.mk [D.own 0 0 vdata_n, D.int IntKind.i64 va, D.int IntKind.i64 vb, D.fn (Fn.func 121) [] [D.snap [D.slc vcmpb00_f vcmpb00_n vcmpb00_c] 0], J, J, J, J, D.int IntKind.i64 vi, J, J, J, J, J, J, J, J, J, J, J, J, J, J, J, J, J, J, J, J, J, J, J, J, J, J, J, J, J, J, J, J, J, J, J, J, J, J, J, J, J, J, J, J] [(1, some (Ob.arr te0 tn0 vdata_c_1 false)), Z, Z, Z, Z, Z, Z, Z, Z, Z, Z, Z, Z, Z, Z, Z, Z, Z, Z, Z, Z, Z, Z, Z, Z, Z, Z, Z, Z, Z, Z, Z, Z, Z, Z, Z, Z, Z, Z, Z, Z, Z, Z, Z, Z, Z, Z, Z, Z, Z, Z, Z, Z])
theorem F176_402_eq (call : FuncId → List D → Option D) (mu : FuncId → List D → Option D) (L : Nat) (C : Nat → Nat) (te0 : TypeId) (tn0 : Nat) (n : Nat) (n_1 : Nat) (vdata_n : Nat) (va : Int) (vb : Int) (vcmpb00_f : Bool) (vcmpb00_n : Nat) (vcmpb00_c : List D) (vi : Int) (vj : Int) (vdata_c_2 : List D) : F176_402 call mu L C te0 tn0 n (n_1 + 1) vdata_n va vb vcmpb00_f vcmpb00_n vcmpb00_c vi (vj) (vdata_c_2) =
  (ifK (decide (vj > va))
    (chkK (decide (0 ≤ vj ∧ vj < (vdata_n : Int)))
      (cellK (vdata_c_2) (Int.toNat vj * 1) fun d =>
      (intK IntKind.i64 (d) fun x =>
      (chkK (decide (0 ≤ IntKind.wrap IntKind.i64 (vj - 1) ∧ IntKind.wrap IntKind.i64 (vj - 1) < (vdata_n : Int)))
        (cellK (vdata_c_2) (Int.toNat (IntKind.wrap IntKind.i64 (vj - 1)) * 1) fun d_1 =>
        (intK IntKind.i64 (d_1) fun x_1 =>
        (optK (call 121 [D.int IntKind.i64 x, D.int IntKind.i64 x_1, D.snap [D.slc vcmpb00_f vcmpb00_n vcmpb00_c] 0]) fun r =>
          (intK IntKind.i64 (r) fun x_2 =>
          (ifK (decide (x_2 < 0))
            (chkK (decide (0 ≤ IntKind.wrap IntKind.i64 (vj - 1) ∧ IntKind.wrap IntKind.i64 (vj - 1) < (vdata_n : Int)))
              (cellK (vdata_c_2) (Int.toNat (IntKind.wrap IntKind.i64 (vj - 1)) * 1) fun d_2 =>
              (intK IntKind.i64 (d_2) fun x_3 =>
              (chkK (decide (0 ≤ vj ∧ vj < (vdata_n : Int)))
                (cellK (vdata_c_2) (Int.toNat vj * 1) fun d_3 =>
                (intK IntKind.i64 (d_3) fun x_4 =>
                (chkK (decide (0 ≤ vj ∧ vj < (vdata_n : Int)))
                  (chkK (decide (Int.toNat vj * 1 + 1 ≤ List.length vdata_c_2))
                    (chkK (decide (0 ≤ IntKind.wrap IntKind.i64 (vj - 1) ∧ IntKind.wrap IntKind.i64 (vj - 1) < (vdata_n : Int)))
                      (chkK (decide (Int.toNat (IntKind.wrap IntKind.i64 (vj - 1)) * 1 + 1 ≤ List.length (writeAt vdata_c_2 (Int.toNat vj * 1) [D.int IntKind.i64 x_3])))
                        (F176_402 call mu L C te0 tn0 n n_1 vdata_n va vb vcmpb00_f vcmpb00_n vcmpb00_c vi (IntKind.wrap IntKind.i64 (vj - 1)) (writeAt (writeAt vdata_c_2 (Int.toNat vj * 1) [D.int IntKind.i64 x_3]) (Int.toNat (IntKind.wrap IntKind.i64 (vj - 1)) * 1) [D.int IntKind.i64 x_4]))))))))))))
            (F176_6 call mu L C te0 tn0 n vdata_n va vb vcmpb00_f vcmpb00_n vcmpb00_c (IntKind.wrap IntKind.i64 (vi + 1)) (vdata_c_2)))))))))))
    (F176_6 call mu L C te0 tn0 n vdata_n va vb vcmpb00_f vcmpb00_n vcmpb00_c (IntKind.wrap IntKind.i64 (vi + 1)) (vdata_c_2))) := by kernel_rfl
theorem F176_6_eq (call : FuncId → List D → Option D) (mu : FuncId → List D → Option D) (L : Nat) (C : Nat → Nat) (te0 : TypeId) (tn0 : Nat) (n : Nat) (vdata_n : Nat) (va : Int) (vb : Int) (vcmpb00_f : Bool) (vcmpb00_n : Nat) (vcmpb00_c : List D) (vi : Int) (vdata_c_1 : List D) : F176_6 call mu L C te0 tn0  (n + 1) vdata_n va vb vcmpb00_f vcmpb00_n vcmpb00_c (vi) (vdata_c_1) =
  (ifK (decide (vi < vb))
    (F176_402 call mu L C te0 tn0 n L vdata_n va vb vcmpb00_f vcmpb00_n vcmpb00_c vi (vi) (vdata_c_1))
    (chkK (decide (te0 = te0))
      (chkK (decide (tn0 = tn0))
        (chkK (decide (List.length vdata_c_1 = vdata_n * tn0))
          (chkK (List.all vdata_c_1 D.plain)
            (some (D.slc false vdata_n vdata_c_1))))))) := by kernel_rfl
theorem F176_eq (call : FuncId → List D → Option D) (mu : FuncId → List D → Option D) (L : Nat) (C : Nat → Nat) (te0 : TypeId) (tn0 : Nat) (vdata_n : Nat) (vdata_c : List D) (va : Int) (vb : Int) (vcmpb00_f : Bool) (vcmpb00_n : Nat) (vcmpb00_c : List D) : evFnTM (TEM call mu L C te0 tn0) O0 N176 te0 tn0 Tryz.f176 vdata_n vdata_c [D.int IntKind.i64 va, D.int IntKind.i64 vb, D.fn (Fn.func 121) [] [D.snap [D.slc vcmpb00_f vcmpb00_n vcmpb00_c] 0]] =
  (F176_6 call mu L C te0 tn0 L vdata_n va vb vcmpb00_f vcmpb00_n vcmpb00_c (IntKind.wrap IntKind.i64 (va + 1)) (vdata_c)) := by kernel_rfl
-- 3899 ms
def N149 : NTab := fun p => match p with
  | 28 => some { keep := [0, 1, 2, 6, 7, 8], kl := [], ren := [] }
  | 62 => some { keep := [0, 1, 2, 6], kl := [], ren := [] }
  | 3988 => some { keep := [0, 1, 2, 6, 7, 8], kl := [], ren := [] }
  | _ => none
noncomputable def F149_62 (call : FuncId → List D → Option D) (mu : FuncId → List D → Option D) (L : Nat) (C : Nat → Nat) (te0 : TypeId) (tn0 : Nat) (n : Nat) (n_3 : Nat) (vdata_n : Nat) (vn : Int) (vcmpb00_f : Bool) (vcmpb00_n : Nat) (vcmpb00_c : List D) (vblockSize : Int) (vdata_c_2 : List D) : Option D :=
  loopAt (TEM call mu L C te0 tn0) O0 N149 (FinM.over te0 tn0) Tryz.f149 [true, true, true, true, false] [n]  n_3 (St.mk [D.own 0 0 vdata_n, D.int IntKind.i64 vn, D.fn (Fn.func 121) [] [D.snap [D.slc vcmpb00_f vcmpb00_n vcmpb00_c] 0], J, J, J, D.int IntKind.i64 vblockSize, J, J, J, J, J, J, J, J, J, J, J, J, J, J, J, J, J, J, J, J, J, J, J, J, J, J, J, J, J, J, J, J, J, J, J, J, J, J, J, J, J, J, J, J, J, J, J, J, J, J, J, J, J, J, J, J] [(1, some (Ob.arr te0 tn0 vdata_c_2 false)), Z, Z, Z, Z, Z, Z, Z, Z, Z, Z, Z, Z, Z, Z, Z, Z, Z, Z, Z, Z, Z, Z, Z, Z, Z, Z, Z, Z, Z, Z, Z, Z, Z, Z, Z, Z, Z, Z, Z, Z, Z, Z, Z, Z, Z, Z, Z, Z, Z, Z, Z, Z, Z, Z, Z, Z, Z, Z, Z, Z, Z, Z])
noncomputable def F149_28 (call : FuncId → List D → Option D) (mu : FuncId → List D → Option D) (L : Nat) (C : Nat → Nat) (te0 : TypeId) (tn0 : Nat) (n : Nat) (vdata_n : Nat) (vn : Int) (vcmpb00_f : Bool) (vcmpb00_n : Nat) (vcmpb00_c : List D) (va : Int) (vb : Int) (vdata_c_1 : List D) : Option D :=
  loopAt (TEM call mu L C te0 tn0) O0 N149 (FinM.over te0 tn0) Tryz.f149 [true, true, false, false] []  n (St.mk [D.own 0 0 vdata_n, D.int IntKind.i64 vn, D.fn (Fn.func 121) [] [D.snap [D.slc vcmpb00_f vcmpb00_n vcmpb00_c] 0], J, J, J, D.int IntKind.i64 20, D.int IntKind.i64 va, D.int IntKind.i64 vb, J, J, J, J, J, J, J, J, J, J, J, J, J, J, J, J, J, J, J, J, J, J, J, J, J, J, J, J, J, J, J, J, J, J, J, J, J, J, J, J, J, J, J, J, J, J, J, J, J, J, J, J, J, J] [(1, some (Ob.arr te0 tn0 vdata_c_1 false)), Z, Z, Z, Z, Z, Z, Z, Z, Z, Z, Z, Z, Z, Z, Z, Z, Z, Z, Z, Z, Z, Z, Z, Z, Z, Z, Z, Z, Z, Z, Z, Z, Z, Z, Z, Z, Z, Z, Z, Z, Z, Z, Z, Z, Z, Z, Z, Z, Z, Z, Z, Z, Z, Z, Z, Z, Z, Z, Z, Z, Z, Z])
theorem F149_28_eq (call : FuncId → List D → Option D) (mu : FuncId → List D → Option D) (L : Nat) (C : Nat → Nat) (te0 : TypeId) (tn0 : Nat) (n : Nat) (vdata_n : Nat) (vn : Int) (vcmpb00_f : Bool) (vcmpb00_n : Nat) (vcmpb00_c : List D) (va : Int) (vb : Int) (vdata_c_1 : List D) : F149_28 call mu L C te0 tn0  (n + 1) vdata_n vn vcmpb00_f vcmpb00_n vcmpb00_c (va) (vb) (vdata_c_1) =
  (ifK (decide (vb ≤ vn))
    (chkK (List.all vdata_c_1 D.plain)
      (optK (mu 176 [D.slc false vdata_n vdata_c_1, D.int IntKind.i64 va, D.int IntKind.i64 vb, D.fn (Fn.func 121) [] [D.snap [D.slc vcmpb00_f vcmpb00_n vcmpb00_c] 0]]) fun r =>
        (slcK (r) fun _f _n_1 c =>
        (chkK (decide (List.length c = List.length vdata_c_1))
          (chkK (List.all c D.plain)
            (F149_28 call mu L C te0 tn0 n vdata_n vn vcmpb00_f vcmpb00_n vcmpb00_c (vb) (IntKind.wrap IntKind.i64 (vb + 20)) (c)))))))
    (chkK (List.all vdata_c_1 D.plain)
      (optK (mu 176 [D.slc false vdata_n vdata_c_1, D.int IntKind.i64 va, D.int IntKind.i64 vn, D.fn (Fn.func 121) [] [D.snap [D.slc vcmpb00_f vcmpb00_n vcmpb00_c] 0]]) fun r_1 =>
        (slcK (r_1) fun _f_1 _n_2 c_1 =>
        (chkK (decide (List.length c_1 = List.length vdata_c_1))
          (chkK (List.all c_1 D.plain)
            (F149_62 call mu L C te0 tn0 n L vdata_n vn vcmpb00_f vcmpb00_n vcmpb00_c (20) (c_1)))))))) := by kernel_rfl
theorem F149_eq (call : FuncId → List D → Option D) (mu : FuncId → List D → Option D) (L : Nat) (C : Nat → Nat) (te0 : TypeId) (tn0 : Nat) (vdata_n : Nat) (vdata_c : List D) (vn : Int) (vcmpb00_f : Bool) (vcmpb00_n : Nat) (vcmpb00_c : List D) : evFnTM (TEM call mu L C te0 tn0) O0 N149 te0 tn0 Tryz.f149 vdata_n vdata_c [D.int IntKind.i64 vn, D.fn (Fn.func 121) [] [D.snap [D.slc vcmpb00_f vcmpb00_n vcmpb00_c] 0]] =
  (F149_28 call mu L C te0 tn0 L vdata_n vn vcmpb00_f vcmpb00_n vcmpb00_c (0) (20) (vdata_c)) := by kernel_rfl
-- 3983 ms
theorem F120_eq (call : FuncId → List D → Option D) (mu : FuncId → List D → Option D) (L : Nat) (C : Nat → Nat) (te0 : TypeId) (tn0 : Nat) (vx_n : Nat) (vx_c : List D) (vcmpb00_f : Bool) (vcmpb00_n : Nat) (vcmpb00_c : List D) : evFnTM (TEM call mu L C te0 tn0) O0 N0 te0 tn0 Tryz.f120 vx_n vx_c [D.fn (Fn.func 121) [] [D.snap [D.slc vcmpb00_f vcmpb00_n vcmpb00_c] 0]] =
  (chkK (List.all vx_c D.plain)
    (optK (mu 149 [D.slc false vx_n vx_c, D.int IntKind.i64 (vx_n : Int), D.fn (Fn.func 121) [] [D.snap [D.slc vcmpb00_f vcmpb00_n vcmpb00_c] 0]]) fun r =>
      (slcK (r) fun _f _n c =>
      (chkK (decide (List.length c = List.length vx_c))
        (chkK (List.all c D.plain)
          (chkK (decide (te0 = te0))
            (chkK (decide (tn0 = tn0))
              (chkK (decide (List.length c = vx_n * tn0))
                (chkK (List.all c D.plain)
                  (some (D.slc false vx_n c))))))))))) := by kernel_rfl
-- 60 ms
/-- Of a few numbers, the sort by insertion is all there is. -/
theorem F149_62_few (call : FuncId → List D → Option D) (mu : FuncId → List D → Option D) (L : Nat) (C : Nat → Nat) (te0 : TypeId) (tn0 : Nat) (n : Nat) (n_3 : Nat) (vdata_n : Nat) (vcmpb00_f : Bool) (vcmpb00_n : Nat) (vcmpb00_c : List D) (vdata_c_2 : List D) : ∀ m : Nat, m ≤ 8 → F149_62 call mu L C te0 tn0 n (n_3 + 1) vdata_n (m : Int) vcmpb00_f vcmpb00_n vcmpb00_c (20) (vdata_c_2) =
  (chkK (decide (te0 = te0)) (chkK (decide (tn0 = tn0)) (chkK (decide (List.length vdata_c_2 = vdata_n * tn0)) (chkK (List.all vdata_c_2 D.plain) (some (D.slc false vdata_n vdata_c_2))))))
  | 0, _ => by kernel_rfl
  | 1, _ => by kernel_rfl
  | 2, _ => by kernel_rfl
  | 3, _ => by kernel_rfl
  | 4, _ => by kernel_rfl
  | 5, _ => by kernel_rfl
  | 6, _ => by kernel_rfl
  | 7, _ => by kernel_rfl
  | 8, _ => by kernel_rfl
  | m + 9, h => absurd h (by omega)
end Go.Pd
end

section
namespace Go.Pd
open Go Go.Proofs
set_option maxRecDepth 100000
theorem F176_nil (call : FuncId → List D → Option D) (f : Bool) (n : Nat) (c : List D) : evFnT (TEf call LL C1) O0 N176 FinM.canon Tryz.f176 [.nils, .int .i64 0, .int .i64 0, .fn (.func 121) [] [.snap [.slc f n c] 0]] = some (.tup []) := by kernel_rfl
theorem F149_nil (call : FuncId → List D → Option D) (f : Bool) (n : Nat) (c : List D) : evFnT (TEf call LL C1) O0 N149 FinM.canon Tryz.f149 [.nils, .int .i64 0, .fn (.func 121) [] [.snap [.slc f n c] 0]] =
  (optK (call 176 [.nils, .int .i64 0, .int .i64 0, .fn (.func 121) [] [.snap [.slc f n c] 0]]) fun r => (tupK r 0 fun _ => some (.tup []))) := by kernel_rfl
theorem F120_nil (call : FuncId → List D → Option D) (f : Bool) (n : Nat) (c : List D) : evFnT (TEf call LL C1) O0 N0 FinM.canon Tryz.f120 [.nils, .fn (.func 121) [] [.snap [.slc f n c] 0]] =
  (optK (call 149 [.nils, .int .i64 0, .fn (.func 121) [] [.snap [.slc f n c] 0]]) fun r => (tupK r 0 fun _ => some (.tup []))) := by kernel_rfl
end Go.Pd
end

section
namespace Go.Pd
/-- From n on, so many ranks: the numbers of each, in their order. -/
def bkGo (key : Int → Int) (l : List Int) : Int → Nat → List Int
  | _, 0 => []
  | n, k + 1 => l.filter (fun x => key x == n) ++ bkGo key l (n + 1) k
theorem bk_ge (key : Int → Int) (l : List Int) : ∀ (k : Nat) (n : Int), ∀ x ∈ bkGo key l n k, n ≤ key x
  | 0, _, x, h => by cases h
  | k + 1, n, x, h => by
    rcases List.mem_append.1 h with h | h
    · have := (List.mem_filter.1 h).2
      have : key x = n := by simpa using this
      omega
    · have := bk_ge key l k (n + 1) x h
      omega
theorem bk_out {key : Int → Int} {l : List Int} {x : Int} : ∀ (k : Nat) (n : Int), key x < n → bkGo key (l ++ [x]) n k = bkGo key l n k
  | 0, _, _ => rfl
  | k + 1, n, h => by
    unfold bkGo
    rw [bk_out k (n + 1) (by omega), List.filter_append]
    have : (key x == n) = false := by simp; omega
    simp [this]
theorem bk_snoc {key : Int → Int} {l : List Int} {x : Int} : ∀ (k : Nat) (n : Int), n ≤ key x → key x < n + k → ∃ L R, bkGo key l n k = L ++ R ∧ bkGo key (l ++ [x]) n k = L ++ x :: R ∧ (∀ y ∈ L, key y ≤ key x) ∧ ∀ y ∈ R, key x < key y
  | 0, n, h1, h2 => by omega
  | k + 1, n, h1, h2 => by
    by_cases hx : key x = n
    · refine ⟨l.filter (fun y => key y == n), bkGo key l (n + 1) k, rfl, ?_, fun y hy => ?_, fun y hy => ?_⟩
      · show (l ++ [x]).filter _ ++ bkGo key (l ++ [x]) (n + 1) k = _
        rw [bk_out k (n + 1) (by omega), List.filter_append]
        have : (key x == n) = true := by simpa using hx
        simp [this]
      · have := (List.mem_filter.1 hy).2
        have : key y = n := by simpa using this
        omega
      · have := bk_ge key l k (n + 1) y hy
        omega
    · obtain ⟨L, R, e1, e2, e3, e4⟩ := bk_snoc (key := key) (l := l) (x := x) k (n + 1) (by omega) (by omega)
      refine ⟨l.filter (fun y => key y == n) ++ L, R, ?_, ?_, fun y hy => ?_, e4⟩
      · show l.filter _ ++ bkGo key l (n + 1) k = _
        rw [e1, List.append_assoc]
      · show (l ++ [x]).filter _ ++ bkGo key (l ++ [x]) (n + 1) k = _
        rw [e2, List.filter_append]
        have : (key x == n) = false := by simpa using hx
        simp [this]
      · rcases List.mem_append.1 hy with hy | hy
        · have := (List.mem_filter.1 hy).2
          have : key y = n := by simpa using this
          omega
        · exact e3 y hy
theorem bk_mem {key : Int → Int} {P : Int → Prop} {l : List Int} (h : ∀ x ∈ l, P x) : ∀ (k : Nat) (n : Int), ∀ y ∈ bkGo key l n k, P y
  | 0, _, y, hy => by cases hy
  | k + 1, n, y, hy => by
    rcases List.mem_append.1 hy with hy | hy
    · exact h y (List.mem_filter.1 hy).1
    · exact bk_mem h k (n + 1) y hy
theorem snocI {α : Type} {P : List α → Prop} (h0 : P []) (h1 : ∀ l x, P l → P (l ++ [x])) (l : List α) : P l := by
  have : ∀ l : List α, P l.reverse := by
    intro l
    induction l with
    | nil => exact h0
    | cons x l ih => rw [List.reverse_cons]; exact h1 _ x ih
  have h := this l.reverse
  rwa [List.reverse_reverse] at h
theorem bk_nil (key : Int → Int) : ∀ (k : Nat) (n : Int), bkGo key [] n k = []
  | 0, _ => rfl
  | k + 1, n => by unfold bkGo; rw [bk_nil key k]; rfl
theorem bk_len {key : Int → Int} {M : Nat} (l : List Int) : (∀ x ∈ l, 1 ≤ key x ∧ key x < 1 + (M : Int)) → (bkGo key l 1 M).length = l.length := by
  refine snocI (P := fun l => (∀ x ∈ l, 1 ≤ key x ∧ key x < 1 + (M : Int)) → (bkGo key l 1 M).length = l.length) ?_ ?_ l
  · intro _; rw [bk_nil]
  · intro l x ih h
    have hx := h x (by simp)
    obtain ⟨L, R, e1, e2, _, _⟩ := bk_snoc (key := key) (l := l) (x := x) M 1 hx.1 hx.2
    have ih := ih fun y hy => h y (by simp [hy])
    rw [e1] at ih
    rw [e2]
    simp at ih ⊢
    omega
end Go.Pd
end

section
namespace Go.Pd
open Go Go.Proofs Go.RowKit
set_option maxRecDepth 100000
/-! ### Few players -/
theorem go70 {call : FuncId → List D → Option D} (a78 : ∀ x : PlV, call 78 [.agg [.str x.1, .slc false x.2.1.length (x.2.1.flatMap netD), .int .i64 x.2.2]] = some (.bool (shP x.1 x.2.1))) {g : Bool} {m : Nat} : ∀ (r pre : List PlV) (fuel : Nat), (pre ++ r).length = m → m ≤ 1000 → r.length < fuel → F70_58 call LL C1 fuel g m ((pre ++ r).flatMap plC) (pre.length : Int) = some (.bool (shPs r)) := by
  intro r
  induction r with
  | nil =>
    intro pre fuel hn hB hf
    cases fuel with
    | zero => exact absurd hf (Nat.not_lt_zero _)
    | succ fuel =>
      subst hn
      rw [F70_58_eq, end_pre, ifK_false]
      rfl
  | cons x r ih =>
    intro pre fuel hn hB hf
    cases fuel with
    | zero => exact absurd hf (Nat.not_lt_zero _)
    | succ fuel =>
      have ih := ih (pre ++ [x]) fuel (by rw [app1]; exact hn) hB (by simp at hf; omega)
      rw [app1] at ih
      subst hn
      rw [F70_58_eq, lt_pre, ifK_true, in_pre, chkK_true, p0, strK_str, p1, slcK_slc, p2, intK_int, a78, optK_some, boolK_bool, step_pre pre x r (by omega), ih, show shPs (x :: r) = ifK (!shP x.1 x.2.1) false (shPs r) from rfl]
      cases shP x.1 x.2.1 <;> rfl
def fewPs (l : List PlV) : Bool := ifK (decide ((l.length : Int) > 8)) (ifK (decide ((l.length : Int) ≤ 200)) false (ifK (decide ((l.length : Int) > 203)) false (shPs l))) (ifK (decide ((l.length : Int) > 203)) false (shPs l))
theorem ok70 {g : Bool} (l : List PlV) : OK5 70 [.slc g l.length (l.flatMap plC), .int .i64 8] (.bool (fewPs l)) := by
  obtain ⟨B, hb, h78, _⟩ := exF [⟨78, PlV, fun x => [.agg (plC x)], fun x => .bool (shP x.1 x.2.1)⟩] ⟨⟨fun x => ok78 x.1 x.2.1 x.2.2, fun x y e => by
    simp only [List.cons.injEq, D.agg.injEq, and_true] at e
    show D.bool (shP x.1 x.2.1) = .bool (shP y.1 y.2.1)
    rw [plC_inj e], fun _ => rfl⟩, trivial⟩ rfl
  refine fnT hb Tryz.func70 (ord := O0) (N := N70) (by kernel_rfl) ((F70_eq _ _ _ _ _ _ _).trans ?_)
  have h7 : decide ((l.length : Int) > 203) = false → F70_7 (callOf B) LL C1 g l.length (l.flatMap plC) = some (.bool (shPs l)) := fun h => by
    simp only [decide_eq_false_iff_not] at h
    rw [F70_7_eq _ _ _ _ _ _ (fun _ => rfl : ∀ t, C1 t = 1)]
    exact go70 (call := callOf B) h78 l [] LL rfl (by omega) (by unfold LL; omega)
  unfold fewPs
  cases h1 : decide ((l.length : Int) > 8) with
  | true =>
    cases decide ((l.length : Int) ≤ 200) with
    | true => rfl
    | false =>
      cases h2 : decide ((l.length : Int) > 203) with
      | true => rfl
      | false => rw [ifK_true, ifK_false, ifK_false, h7 h2]; rfl
  | false =>
    cases h2 : decide ((l.length : Int) > 203) with
    | true => rfl
    | false => rw [ifK_false, ifK_false, h7 h2]; rfl
theorem fewPs_true {l : List PlV} (h : fewPs l = true) : l.length ≤ 203 ∧ (200 < l.length ∨ l.length ≤ 8) ∧ ∀ x ∈ l, x.1.size ≤ 60 ∧ x.2.1.length ≤ 39 := by
  unfold fewPs at h
  cases h1 : decide ((l.length : Int) > 8) with
  | true =>
    rw [h1, ifK_true] at h
    cases h2 : decide ((l.length : Int) ≤ 200) with
    | true => rw [h2, ifK_true] at h; cases h
    | false =>
      rw [h2, ifK_false] at h
      cases h3 : decide ((l.length : Int) > 203) with
      | true => rw [h3, ifK_true] at h; cases h
      | false =>
        rw [h3, ifK_false] at h
        simp only [decide_eq_false_iff_not] at h2 h3
        exact ⟨by omega, .inl (by omega), shPs_mem h⟩
  | false =>
    rw [h1, ifK_false] at h
    cases h3 : decide ((l.length : Int) > 203) with
    | true => rw [h3, ifK_true] at h; cases h
    | false =>
      rw [h3, ifK_false] at h
      simp only [decide_eq_false_iff_not] at h1 h3
      exact ⟨by omega, .inr (by omega), shPs_mem h⟩
/-! ### Fields -/
section
variable {f g : Bool} {n : Nat} {c : List D} {P S : Nat → Int}
def fld0 (n : Nat) (P S : Nat → Int) (l : List PlV) : Int := fst2 (holesErr n P S) (ifK (decide ((l.length : Int) > 200)) 5 0)
def fldErr (n : Nat) (P S : Nat → Int) (l : List PlV) : Int := ifK (fld0 n P S l != 0) (fld0 n P S l) (plsGo n P S [] l)
theorem ok73 (hc : HolesC n c P S) (l : List PlV) (hl : l.length ≤ 1000) (hs : ∀ x ∈ l, x.1.size ≤ 60 ∧ x.2.1.length ≤ 39) : OK5 73 [.agg [.slc f n c, .slc g l.length (l.flatMap plC)]] (.int .i64 (fldErr n P S l)) := by
  obtain ⟨B, hb, h82, h83, h81, h87, _⟩ := exF [one 82 [.slc f n c] (.int .i64 (holesErr n P S)), fam83, fam81, one 87 [.slc f n c, .slc g l.length (l.flatMap plC)] (.int .i64 (plsGo n P S [] l))]
    ⟨one_good (ok82 hc) rfl, fam83_good, fam81_good, one_good (ok87 hc l hl hs) rfl, trivial⟩ rfl
  have t82 : callOf B 82 [.slc f n c] = some (.int .i64 (holesErr n P S)) := h82 ()
  have t83 : ∀ q e, callOf B 83 [.bool q, .int .i64 e] = some (.int .i64 (ifK q e 0)) := fun q e => h83 (q, e)
  have t81 : ∀ x y, callOf B 81 [.slc true 2 [.int .i64 x, .int .i64 y]] = some (.int .i64 (fst2 x y)) := fun x y => h81 (x, y)
  have t87 : callOf B 87 [.slc f n c, .slc g l.length (l.flatMap plC)] = some (.int .i64 (plsGo n P S [] l)) := h87 ()
  refine fnT hb Tryz.func73 (ord := O0) (N := N0) (by kernel_rfl) ((F73_eq _ _ _ _ _ _ _ _ _).trans ?_)
  rw [t82, optK_some, intK_int, t83, optK_some, intK_int, t81, optK_some, intK_int, t87, optK_some, intK_int]
  show ifK (fld0 n P S l != 0) (some (D.int .i64 (fld0 n P S l))) _ = _
  unfold fldErr
  cases fld0 n P S l != 0 <;> rfl
theorem ok71 (hc : HolesC n c P S) (l : List PlV) (hl : l.length ≤ 1000) (hs : ∀ x ∈ l, x.1.size ≤ 60 ∧ x.2.1.length ≤ 39) : OK5 71 [.agg [.slc f n c, .slc g l.length (l.flatMap plC)]] (.int .i64 (fldErr n P S l)) := by
  obtain ⟨B, hb, h39, h40, _⟩ := exF [one 39 [.slc f n c] (.int .i64 (holesErr n P S)), one 40 [.slc f n c, .slc g l.length (l.flatMap plC)] (.int .i64 (plsGo n P S [] l))]
    ⟨one_good (ok39 hc) rfl, one_good (ok40 hc l hl hs) rfl, trivial⟩ rfl
  have t39 : callOf B 39 [.slc f n c] = some (.int .i64 (holesErr n P S)) := h39 ()
  have t40 : callOf B 40 [.slc f n c, .slc g l.length (l.flatMap plC)] = some (.int .i64 (plsGo n P S [] l)) := h40 ()
  refine fnT hb Tryz.func71 (ord := O0) (N := N71) (by kernel_rfl) ((F71_eq _ _ _ _ _ _ _ _ _).trans ?_)
  have h15 : ∀ e, F71_15 (callOf B) LL C1 f n c g l.length (l.flatMap plC) e = some (.int .i64 (ifK (e == 0) (plsGo n P S [] l) e)) := fun e => by
    rw [F71_15_eq (hC := (fun _ => rfl : ∀ t, C1 t = 1)), t40, optK_some, intK_int]
    cases e == 0 <;> rfl
  rw [t39, optK_some, intK_int, h15, h15]
  unfold fldErr fld0 fst2
  cases hh : holesErr n P S == 0 with
  | true =>
    have h0 : holesErr n P S = 0 := by simpa using hh
    rw [h0]
    cases decide ((l.length : Int) > 200) <;> rfl
  | false =>
    have h0 : (holesErr n P S != 0) = true := by simpa using hh
    rw [ifK_false, ifK_false, h0, ifK_true, h0, ifK_true]
end
/-! ### The check of a play-off -/
/-- Are strokes out of range? -/
def badS (x : Int) : Bool := decide (x < 1) || decide (x > 99)
def poRow (m : Nat) (x : List Int) : Int := ifK ((x.length : Int) == 0) 12 (ifK (decide ((x.length : Int) > 36)) 5 (ifK (x.any badS) 3 (ifK ((x.length : Int) != (m : Int)) 2 0)))
def poGo (m : Nat) : List (List Int) → Int
  | [] => 0
  | x :: r => ifK (poRow m x != 0) (poRow m x) (poGo m r)
def poErr (l : List (List Int)) : Int := ifK (decide ((l.length : Int) < 2)) 2 (ifK (decide ((l.length : Int) > 200)) 5 (poGo (l.headD []).length l))
section
variable {call : FuncId → List D → Option D} {f : Bool} {l : List (List Int)}
theorem rows_at {pre : List (List Int)} {x : List Int} {r : List (List Int)} (h : l = pre ++ x :: r) {γ : Type} (k : D → Option γ) : cellK (rows l) (Int.toNat (pre.length : Int) * 1) k = k (.slc false x.length (ints x)) := by
  subst h
  exact cell_rows pre x r k
theorem rows_0 (h : 0 < l.length) {γ : Type} (k : D → Option γ) : cellK (rows l) 0 k = k (.slc false (l.headD []).length (ints (l.headD []))) := by
  cases l with
  | nil => exact absurd h (Nat.lt_irrefl _)
  | cons x r => rfl
theorem go76i (hl : l.length ≤ 1000) {pre : List (List Int)} {x : List Int} {r : List (List Int)} (h : l = pre ++ x :: r) (hx : x.length ≤ 1000) {nx : Nat} : ∀ (rx px : List Int) (fuel : Nat), px ++ rx = x → rx.length < fuel →
    F76_62618 call LL C1 nx fuel f l.length (rows l) (pre.length : Int) (px.length : Int) = ifK (rx.any badS) (some (.int .i64 3)) (ifK ((x.length : Int) != ((l.headD []).length : Int)) (some (.int .i64 2)) (F76_122 call LL C1 nx f l.length (rows l) ((pre ++ [x]).length : Int))) := by
  have hin : decide ((0 : Int) ≤ (pre.length : Int) ∧ (pre.length : Int) < (l.length : Int)) = true := by rw [h]; simp; omega
  have h0 : decide ((0 : Int) ≤ 0 ∧ (0 : Int) < (l.length : Int)) = true := by rw [h]; simp; omega
  have hl0 : 0 < l.length := by rw [h]; simp; omega
  have hst : IntKind.wrap .i64 ((pre.length : Int) + 1) = ((pre ++ [x]).length : Int) := step_pre pre x r (by rw [← h]; omega)
  intro rx
  induction rx with
  | nil =>
    intro px fuel hp hf
    cases fuel with
    | zero => exact absurd hf (Nat.not_lt_zero _)
    | succ fuel =>
      rw [List.append_nil] at hp
      subst hp
      rw [F76_62618_eq, hin, chkK_true, rows_at h, slcK_slc, show decide ((px.length : Int) < (px.length : Int)) = false by simp, ifK_false, chkK_true, rows_at h, slcK_slc, h0, chkK_true, rows_0 hl0, slcK_slc, hst]
      rfl
  | cons y rx ih =>
    intro px fuel hp hf
    cases fuel with
    | zero => exact absurd hf (Nat.not_lt_zero _)
    | succ fuel =>
      have ih := ih (px ++ [y]) fuel (by rw [app1]; exact hp) (by simp at hf; omega)
      subst hp
      rw [F76_62618_eq, hin, chkK_true, rows_at h, slcK_slc, lt_pre, ifK_true, chkK_true, rows_at h, slcK_slc, in_pre, chkK_true, cell_ints, intK_int, chkK_true, rows_at h, slcK_slc, in_pre, chkK_true, cell_ints, intK_int, step_pre px y rx (by omega), ih, List.any_cons]
      unfold badS
      cases decide (y < 1) with
      | true => rfl
      | false =>
        cases decide (y > 99) with
        | true => rfl
        | false => rfl
theorem go76 (hl : l.length ≤ 1000) (hx : ∀ x ∈ l, x.length ≤ 1000) : ∀ (r pre : List (List Int)) (fuel : Nat), l = pre ++ r → r.length < fuel → F76_122 call LL C1 fuel f l.length (rows l) (pre.length : Int) = some (.int .i64 (poGo (l.headD []).length r)) := by
  intro r
  induction r with
  | nil =>
    intro pre fuel hp hf
    cases fuel with
    | zero => exact absurd hf (Nat.not_lt_zero _)
    | succ fuel =>
      have h1 : decide ((pre.length : Int) < (l.length : Int)) = false := by rw [hp]; simp
      rw [F76_122_eq, h1, ifK_false]
      rfl
  | cons x r ih =>
    intro pre fuel hp hf
    cases fuel with
    | zero => exact absurd hf (Nat.not_lt_zero _)
    | succ fuel =>
      have ih := ih (pre ++ [x]) fuel (by rw [app1]; exact hp) (by simp at hf; omega)
      have hxl : x.length ≤ 1000 := hx x (by rw [hp]; simp)
      have h1 : decide ((pre.length : Int) < (l.length : Int)) = true := by rw [hp]; simp; omega
      have hin : decide ((0 : Int) ≤ (pre.length : Int) ∧ (pre.length : Int) < (l.length : Int)) = true := by rw [hp]; simp; omega
      have hi := go76i (call := call) (f := f) (nx := fuel) hl hp hxl x [] LL rfl (by unfold LL; omega)
      have hi : F76_62618 call LL C1 fuel LL f l.length (rows l) (pre.length : Int) 0 = _ := hi
      rw [F76_122_eq, h1, ifK_true, hin, chkK_true, rows_at hp, slcK_slc, chkK_true, rows_at hp, slcK_slc, hi, ih]
      show _ = some (D.int .i64 (ifK (poRow (l.headD []).length x != 0) (poRow (l.headD []).length x) (poGo (l.headD []).length r)))
      unfold poRow
      generalize ((x.length : Int) == 0) = q1
      generalize decide ((x.length : Int) > 36) = q2
      generalize x.any badS = q3
      generalize ((x.length : Int) != ((l.headD []).length : Int)) = q4
      cases q1 <;> cases q2 <;> cases q3 <;> cases q4 <;> rfl
theorem ok76 (hx : ∀ x ∈ l, x.length ≤ 1000) : OK5 76 [.slc f l.length (rows l)] (.int .i64 (poErr l)) := by
  refine fnT none_ok Tryz.func76 (ord := O0) (N := N76) (by kernel_rfl) ((F76_eq _ _ _ _ _ _).trans ?_)
  unfold poErr
  cases decide ((l.length : Int) < 2) with
  | true => rfl
  | false =>
    rw [ifK_false, ifK_false]
    cases h2 : decide ((l.length : Int) > 200) with
    | true => rfl
    | false =>
      rw [ifK_false, ifK_false]
      simp only [decide_eq_false_iff_not] at h2
      exact go76 (f := f) (by omega) hx l [] LL rfl (by unfold LL; omega)
end
end Go.Pd
end

section
namespace Go.Pd
open Go Go.Proofs Go.RowKit
set_option maxRecDepth 100000
/-- The rank of a number, as the closure looks it up. -/
def rkV (own : List Int) (a : Int) : Int := (own[a.toNat]?).getD 0
theorem ints_get {own : List Int} {a : Int} (h : 0 ≤ a ∧ a < own.length) {γ : Type} (k : D → Option γ) : cellK (ints own) (Int.toNat a * 1) k = k (.int .i64 (rkV own a)) := by
  have hl : a.toNat < own.length := by omega
  refine cellK_some ?_ k
  rw [Nat.mul_one]
  unfold ints rkV
  rw [List.getElem?_map, List.getElem?_eq_getElem hl]
  rfl
/-- The closure, as a value. -/
def clo (f : Bool) (own : List Int) : D := .fn (.func 121) [] [.snap [.slc f own.length (ints own)] 0]
def inOwn (own : List Int) (a : Int) : Prop := 0 ≤ a ∧ a < own.length
section
variable {f : Bool} {own : List Int}
theorem ok121 {a b : Int} (ha : inOwn own a) (hb : inOwn own b) : OK5 121 [.int .i64 a, .int .i64 b, .snap [.slc f own.length (ints own)] 0] (.int .i64 (cmpV (rkV own a) (rkV own b))) := by
  refine fnT b2_ok Tryz.func121 (ord := O0) (N := N0) (by kernel_rfl) ((F121_eq _ _ _ _ _ _ _ _).trans ?_)
  rw [show decide (0 ≤ a ∧ a < (own.length : Int)) = true by simpa [inOwn] using ha, chkK_true, ints_get ha, intK_int, show decide (0 ≤ b ∧ b < (own.length : Int)) = true by simpa [inOwn] using hb, chkK_true, ints_get hb, intK_int]
  rfl
def fam121 (f : Bool) (own : List Int) : Fam := ⟨121, {x : Int × Int // inOwn own x.1 ∧ inOwn own x.2}, fun x => [.int .i64 x.1.1, .int .i64 x.1.2, .snap [.slc f own.length (ints own)] 0], fun x => .int .i64 (cmpV (rkV own x.1.1) (rkV own x.1.2))⟩
theorem fam121_good : (fam121 f own).Good := ⟨fun x => ok121 x.2.1 x.2.2, fun x y e => by
  simp only [fam121, List.cons.injEq, D.int.injEq, true_and, and_true] at e
  show D.int .i64 (cmpV (rkV own x.1.1) (rkV own x.1.2)) = .int .i64 (cmpV (rkV own y.1.1) (rkV own y.1.2))
  rw [e.1, e.2], fun _ => rfl⟩
theorem ints_plain : ∀ (l : List Int), (ints l).all D.plain = true
  | [] => rfl
  | x :: l => by
    have := ints_plain l
    show (D.plain (.int .i64 x) && (ints l).all D.plain) = true
    rw [this]
    rfl
theorem set_ints (W : List Int) (y z : Int) (Q : List Int) : (ints (W ++ y :: Q)).set W.length (.int .i64 z) = ints (W ++ z :: Q) := by
  unfold ints
  rw [List.map_append, List.map_append, List.map_cons, List.map_cons, List.set_append_right _ _ (by simp)]
  simp
theorem cmp_lt {x y : Int} (h : x < y) : decide (cmpV x y < 0) = true := by
  unfold cmpV
  rw [show decide (x < y) = true by simpa using h]
  rfl
theorem cmp_ge {x y : Int} (h : y ≤ x) : decide (cmpV x y < 0) = false := by
  unfold cmpV
  rw [show decide (x < y) = false by simp; omega, ifK_false]
  cases decide (x > y) <;> rfl
variable {call mu : FuncId → List D → Option D} {e : TypeId} {k0 n m : Nat} {b vi : Int}
theorem nil_snoc {α : Type} (l : List α) : l = [] ∨ ∃ l' y, l = l' ++ [y] := snocI (P := fun l => l = [] ∨ ∃ l' y, l = l' ++ [y]) (.inl rfl) (fun l y _ => .inr ⟨l, y, rfl⟩) l
/-- One number is put in its place. -/
theorem in176 (t121 : ∀ a b, inOwn own a → inOwn own b → call 121 [.int .i64 a, .int .i64 b, .snap [.slc f own.length (ints own)] 0] = some (.int .i64 (cmpV (rkV own a) (rkV own b)))) {x : Int} (hx : inOwn own x) (hm : m ≤ 1000) (L : List Int) (hL : ∀ y ∈ L, inOwn own y ∧ rkV own y ≤ rkV own x) :
    ∀ (R Q : List Int) (fuel : Nat), (∀ y ∈ R, inOwn own y ∧ rkV own x < rkV own y) → (L ++ R ++ x :: Q).length = m → R.length < fuel →
      F176_402 call mu LL C1 e k0 n fuel m 0 b f own.length (ints own) vi ((L ++ R).length : Int) (ints (L ++ R ++ x :: Q)) = F176_6 call mu LL C1 e k0 n m 0 b f own.length (ints own) (IntKind.wrap .i64 (vi + 1)) (ints (L ++ x :: (R ++ Q))) := by
  refine snocI ?_ ?_
  · intro Q fuel _ hlen hf
    cases fuel with
    | zero => exact absurd hf (Nat.not_lt_zero _)
    | succ fuel =>
      rw [List.append_nil, F176_402_eq]
      rw [List.append_nil] at hlen
      rcases nil_snoc L with rfl | ⟨L', y, rfl⟩
      · rfl
      · obtain ⟨y1, y2⟩ := hL y (by simp)
        simp at hlen
        have hw : IntKind.wrap .i64 (((L' ++ [y]).length : Int) - 1) = (L'.length : Int) := by rw [wrap_in (by simp; omega)]; simp
        have d1 : decide (((L' ++ [y]).length : Int) > 0) = true := by simp only [List.length_append, decide_eq_true_eq]; simp
        have d2 : decide ((0 : Int) ≤ ((L' ++ [y]).length : Int) ∧ ((L' ++ [y]).length : Int) < (m : Int)) = true := by simp; omega
        have d3 : decide ((0 : Int) ≤ (L'.length : Int) ∧ (L'.length : Int) < (m : Int)) = true := by simp; omega
        have c1 : ∀ {γ : Type} (k : D → Option γ), cellK (ints (L' ++ [y] ++ x :: Q)) (Int.toNat ((L' ++ [y]).length : Int) * 1) k = k (.int .i64 x) := fun k => cell_ints (L' ++ [y]) x Q k
        have c2 : ∀ {γ : Type} (k : D → Option γ), cellK (ints (L' ++ [y] ++ x :: Q)) (Int.toNat (L'.length : Int) * 1) k = k (.int .i64 y) := fun k => by
          rw [List.append_assoc]
          exact cell_ints L' y (x :: Q) k
        rw [hw, d1, ifK_true, d2, chkK_true, c1, intK_int, d3, chkK_true, c2, intK_int, t121 x y hx y1, optK_some, intK_int, cmp_ge y2, ifK_false]
        rfl
  · intro R y ih Q fuel hR hlen hf
    cases fuel with
    | zero => exact absurd hf (Nat.not_lt_zero _)
    | succ fuel =>
      obtain ⟨y1, y2⟩ := hR y (by simp)
      obtain ⟨W, hW⟩ : ∃ W, W = L ++ R := ⟨_, rfl⟩
      have e1 : L ++ (R ++ [y]) = W ++ [y] := by rw [hW, List.append_assoc]
      have ih := ih (y :: Q) fuel (fun z hz => hR z (by simp [hz])) (by simp at hlen ⊢; omega) (by simp at hf; omega)
      rw [← hW] at ih
      rw [e1] at hlen ⊢
      simp at hlen
      have hw : IntKind.wrap .i64 (((W ++ [y]).length : Int) - 1) = (W.length : Int) := by rw [wrap_in (by simp; omega)]; simp
      have d1 : decide (((W ++ [y]).length : Int) > 0) = true := by simp only [List.length_append, decide_eq_true_eq]; simp
      have d2 : decide ((0 : Int) ≤ ((W ++ [y]).length : Int) ∧ ((W ++ [y]).length : Int) < (m : Int)) = true := by simp; omega
      have d3 : decide ((0 : Int) ≤ (W.length : Int) ∧ (W.length : Int) < (m : Int)) = true := by simp; omega
      have c1 : ∀ {γ : Type} (k : D → Option γ), cellK (ints (W ++ [y] ++ x :: Q)) (Int.toNat ((W ++ [y]).length : Int) * 1) k = k (.int .i64 x) := fun k => cell_ints (W ++ [y]) x Q k
      have c2 : ∀ {γ : Type} (k : D → Option γ), cellK (ints (W ++ [y] ++ x :: Q)) (Int.toNat (W.length : Int) * 1) k = k (.int .i64 y) := fun k => by
        rw [List.append_assoc]
        exact cell_ints W y (x :: Q) k
      have w1 : writeAt (ints (W ++ [y] ++ x :: Q)) (Int.toNat ((W ++ [y]).length : Int) * 1) [.int .i64 y] = ints (W ++ y :: y :: Q) := by
        show (ints (W ++ [y] ++ x :: Q)).set (Int.toNat ((W ++ [y]).length : Int) * 1) (.int .i64 y) = _
        rw [show Int.toNat ((W ++ [y]).length : Int) * 1 = (W ++ [y]).length by simp, set_ints, List.append_assoc]
        rfl
      have w2 : writeAt (ints (W ++ y :: y :: Q)) (Int.toNat (W.length : Int) * 1) [.int .i64 x] = ints (W ++ x :: y :: Q) := by
        show (ints (W ++ y :: y :: Q)).set (Int.toNat (W.length : Int) * 1) (.int .i64 x) = _
        rw [show Int.toNat (W.length : Int) * 1 = W.length by simp, set_ints]
      have d4 : decide (Int.toNat ((W ++ [y]).length : Int) * 1 + 1 ≤ List.length (ints (W ++ [y] ++ x :: Q))) = true := by rw [ints_len]; simp; omega
      have d5 : decide (Int.toNat (W.length : Int) * 1 + 1 ≤ List.length (ints (W ++ y :: y :: Q))) = true := by rw [ints_len]; simp
      rw [F176_402_eq, hw, d1, ifK_true, d2, chkK_true, c1, intK_int, d3, chkK_true, c2, intK_int, t121 x y hx y1, optK_some, intK_int, cmp_lt y2, ifK_true, chkK_true, c2, intK_int, chkK_true, c1, intK_int, chkK_true, d4, chkK_true, chkK_true, w1, d5, chkK_true, w2, ih, List.append_assoc]
      rfl
/-- All of them. -/
theorem go176 (t121 : ∀ a b, inOwn own a → inOwn own b → call 121 [.int .i64 a, .int .i64 b, .snap [.slc f own.length (ints own)] 0] = some (.int .i64 (cmpV (rkV own a) (rkV own b)))) {M : Nat} {l : List Int} (hl : ∀ x ∈ l, inOwn own x ∧ 1 ≤ rkV own x ∧ rkV own x < 1 + (M : Int)) (hm : l.length ≤ 1000) (hk : l.length = l.length * k0) :
    ∀ (r pre : List Int) (fuel : Nat), l = pre ++ r → r.length < fuel → F176_6 call mu LL C1 e k0 fuel l.length 0 (l.length : Int) f own.length (ints own) (pre.length : Int) (ints (bkGo (rkV own) pre 1 M ++ r)) = some (.slc false l.length (ints (bkGo (rkV own) l 1 M))) := by
  intro r
  induction r with
  | nil =>
    intro pre fuel hp hf
    cases fuel with
    | zero => exact absurd hf (Nat.not_lt_zero _)
    | succ fuel =>
      rw [List.append_nil] at hp ⊢
      subst hp
      have hbl := bk_len (key := rkV own) (M := M) l fun x hx => (hl x hx).2
      rw [F176_6_eq, show decide ((l.length : Int) < (l.length : Int)) = false by simp, ifK_false, show decide (e = e) = true by simp, chkK_true, show decide (k0 = k0) = true by simp, chkK_true, show decide ((ints (bkGo (rkV own) l 1 M)).length = l.length * k0) = true by rw [ints_len, hbl]; simpa using hk, chkK_true, ints_plain, chkK_true]
  | cons x r ih =>
    intro pre fuel hp hf
    cases fuel with
    | zero => exact absurd hf (Nat.not_lt_zero _)
    | succ fuel =>
      have ih := ih (pre ++ [x]) fuel (by rw [hp]; simp) (by simp at hf; omega)
      obtain ⟨x1, x2, x3⟩ := hl x (by rw [hp]; simp)
      have hpre : ∀ y ∈ pre, inOwn own y ∧ 1 ≤ rkV own y ∧ rkV own y < 1 + (M : Int) := fun y hy => hl y (by rw [hp]; simp [hy])
      have hbl := bk_len (key := rkV own) (M := M) pre fun x hx => (hpre x hx).2
      obtain ⟨L, R, e1, e2, e3, e4⟩ := bk_snoc (key := rkV own) (l := pre) (x := x) M 1 x2 (by omega)
      have hlen : l.length = pre.length + r.length + 1 := by rw [hp]; simp; omega
      have hmem : ∀ y ∈ L ++ R, inOwn own y := fun y hy => by
        rw [← e1] at hy
        exact bk_mem (P := inOwn own) (fun z hz => (hpre z hz).1) M 1 y hy
      have hLR : L.length + R.length = pre.length := by rw [← List.length_append, ← e1]; exact hbl
      have hin := in176 (f := f) (mu := mu) (e := e) (k0 := k0) (n := fuel) (m := l.length) (b := (l.length : Int)) (vi := (pre.length : Int)) t121 x1 hm L (fun y hy => ⟨hmem y (by simp [hy]), e3 y hy⟩) R r LL (fun y hy => ⟨hmem y (by simp [hy]), e4 y hy⟩) (by simp; omega) (by unfold LL; omega)
      rw [← e1, hbl] at hin
      have hst : IntKind.wrap .i64 ((pre.length : Int) + 1) = ((pre ++ [x]).length : Int) := by rw [wrap_in (by omega)]; simp
      rw [hst] at hin
      rw [e2, show L ++ x :: R ++ r = L ++ x :: (R ++ r) by simp] at ih
      rw [F176_6_eq, show decide ((pre.length : Int) < (l.length : Int)) = true by simp; omega, ifK_true, hin, ih]
theorem bk_one {key : Int → Int} {M : Nat} {x : Int} (h1 : 1 ≤ key x) (h2 : key x < 1 + (M : Int)) : bkGo key [x] 1 M = [x] := by
  obtain ⟨L, R, e1, e2, _, _⟩ := bk_snoc (key := key) (l := []) (x := x) M 1 h1 h2
  rw [bk_nil] at e1
  obtain ⟨rfl, rfl⟩ := List.append_eq_nil_iff.1 e1.symm
  exact e2
theorem mc176 {M : Nat} {l : List Int} (hl : ∀ x ∈ l, inOwn own x ∧ 1 ≤ rkV own x ∧ rkV own x < 1 + (M : Int)) (hm : l.length ≤ 1000) (h0 : l ≠ []) : MutC Tryz.prog (fun _ => none) 176 (ints l) l.length [.int .i64 0, .int .i64 l.length, clo f own] (ints (bkGo (rkV own) l 1 M)) none := by
  obtain ⟨B, hb, h121, _⟩ := exF [fam121 f own] ⟨fam121_good, trivial⟩ rfl
  refine fnM hb noMu_ok Tryz.func176 (ord := O0) (N := N176) (by kernel_rfl) (by kernel_rfl) fun e n hn => (F176_eq _ _ _ _ _ _ _ _ _ _ _ _ _).trans ?_
  rw [ints_len] at hn
  cases l with
  | nil => exact absurd rfl h0
  | cons x r =>
    have hx := hl x (by simp)
    have := go176 (f := f) (call := callOf B) (mu := noMu) (e := e) (k0 := n) (fun a b ha hb => h121 ⟨(a, b), ha, hb⟩) hl hm hn r [x] LL rfl (by simp at hm; unfold LL; omega)
    rw [bk_one hx.2.1 hx.2.2] at this
    exact this
theorem mc149 {M : Nat} {l : List Int} (hl : ∀ x ∈ l, inOwn own x ∧ 1 ≤ rkV own x ∧ rkV own x < 1 + (M : Int)) (hm : l.length ≤ 8) (h0 : l ≠ []) : MutC Tryz.prog (fun _ => none) 149 (ints l) l.length [.int .i64 l.length, clo f own] (ints (bkGo (rkV own) l 1 M)) none := by
  have hmu := oneMu_ok rfl (mc176 (f := f) hl (by omega) h0)
  have hbl := bk_len (key := rkV own) (M := M) l fun x hx => (hl x hx).2
  refine fnM none_ok hmu Tryz.func149 (ord := O0) (N := N149) (by kernel_rfl) (by kernel_rfl) fun e n hn => (F149_eq _ _ _ _ _ _ _ _ _ _ _ _).trans ((F149_28_eq _ _ _ _ _ _ (LL - 1) _ _ _ _ _ _ _ _).trans ?_)
  have h1 : decide ((20 : Int) ≤ (l.length : Int)) = false := by simp; omega
  have hat : oneMu 176 (ints l) l.length [.int .i64 0, .int .i64 l.length, clo f own] (ints (bkGo (rkV own) l 1 M)) 176 [.slc false l.length (ints l), .int .i64 0, .int .i64 (l.length : Int), .fn (.func 121) [] [.snap [.slc f own.length (ints own)] 0]] = some (.slc false l.length (ints (bkGo (rkV own) l 1 M))) := oneMu_at
  rw [h1, ifK_false, ints_plain, chkK_true, hat, optK_some, slcK_slc, show decide ((ints (bkGo (rkV own) l 1 M)).length = (ints l).length) = true by simp [ints_len, hbl], chkK_true, ints_plain, chkK_true]
  refine (F149_62_few _ _ _ _ _ _ _ (LL - 1) _ _ _ _ _ l.length hm).trans ?_
  rw [show decide (e = e) = true by simp, chkK_true, show decide (n = n) = true by simp, chkK_true, show decide ((ints (bkGo (rkV own) l 1 M)).length = l.length * n) = true by rw [ints_len, hbl, ← hn, ints_len]; simp, chkK_true, ints_plain, chkK_true]
theorem mc120 {M : Nat} {l : List Int} (hl : ∀ x ∈ l, inOwn own x ∧ 1 ≤ rkV own x ∧ rkV own x < 1 + (M : Int)) (hm : l.length ≤ 8) (h0 : l ≠ []) : MutC Tryz.prog (fun _ => none) 120 (ints l) l.length [clo f own] (ints (bkGo (rkV own) l 1 M)) none := by
  have hmu := oneMu_ok rfl (mc149 (f := f) hl hm h0)
  have hbl := bk_len (key := rkV own) (M := M) l fun x hx => (hl x hx).2
  refine fnM none_ok hmu Tryz.func120 (ord := O0) (N := N0) (by kernel_rfl) (by kernel_rfl) fun e n hn => (F120_eq _ _ _ _ _ _ _ _ _ _ _).trans ?_
  have hat : oneMu 149 (ints l) l.length [.int .i64 l.length, clo f own] (ints (bkGo (rkV own) l 1 M)) 149 [.slc false l.length (ints l), .int .i64 (l.length : Int), .fn (.func 121) [] [.snap [.slc f own.length (ints own)] 0]] = some (.slc false l.length (ints (bkGo (rkV own) l 1 M))) := oneMu_at
  rw [ints_plain, chkK_true, hat, optK_some, slcK_slc, show decide ((ints (bkGo (rkV own) l 1 M)).length = (ints l).length) = true by simp [ints_len, hbl], chkK_true, ints_plain, chkK_true, show decide (e = e) = true by simp, chkK_true, show decide (n = n) = true by simp, chkK_true, show decide ((ints (bkGo (rkV own) l 1 M)).length = l.length * n) = true by rw [ints_len, hbl, ← hn, ints_len]; simp, chkK_true, chkK_true]
end
end Go.Pd
end

section
namespace Go.Pd
open Go Go.Proofs
set_option maxRecDepth 100000
def N72 : NTab := fun p => match p with
  | 250 => some { keep := [1, 6, 7, 28, 29, 30], kl := [9, 14, 15, 54, 75, 92, 99], ren := [(1, 1), (9, 9), (14, 14), (15, 15), (54, 54), (59, 59), (63, 63), (75, 75), (92, 92), (99, 99)] }
  | 2042 => some { keep := [6, 15, 16, 68, 69], kl := [1, 9, 14, 54, 63, 92, 99], ren := [(1, 1), (9, 9), (14, 14), (15, 15), (54, 54), (59, 59), (63, 63), (75, 75), (92, 92), (99, 99)] }
  | 16378 => some { keep := [6, 15, 18, 19, 80, 81, 82], kl := [1, 9, 14, 54, 63], ren := [(1, 1), (9, 9), (14, 14), (15, 15), (54, 54), (59, 59), (63, 63), (75, 75), (92, 92), (99, 99)] }
  | 2051322 => some { keep := [1, 6, 7, 8, 12, 28, 29, 30, 44, 45, 46], kl := [9, 14, 15, 75, 92, 99], ren := [(1, 1), (9, 9), (14, 14), (15, 15), (54, 54), (59, 59), (63, 63), (75, 75), (92, 92), (99, 99)] }
  | _ => none
def O72 : Ord := fun id => match id with
  | 32 => some { fs := [(86, 92), (93, 99)] }
  | _ => none
noncomputable def F72_2051322 (call : FuncId → List D → Option D) (mu : FuncId → List D → Option D) (L : Nat) (C : Nat → Nat) (n : Nat) (n_3 : Nat) (t30 : Int) (vf1_f : Bool) (vf1_n : Nat) (vf1_c : List D) (t29 : Int) (vf0_f : Bool) (vf0_n : Nat) (vf0_c : List D) (vplayers_1 : Ow) (vlists_1 : Ow) (vstrokes : Ow) (t44_f : Bool) (t44_n : Nat) (t44_c : List D) (t45 : Int) (t46 : Int) : Option D :=
  loopAt (TEm call mu L C) O72 N72 FinM.canon Tryz.f72 [true, true, true, true, false, true, false, false, true, true, false, false, true, true, true, true, true, false, true, false] [n]  n_3 (St.mk [J, D.loc 1 0 0, J, J, J, J, ownD 59 vplayers_1, ownD 63 vlists_1, D.int IntKind.i64 t30, J, J, J, ownD 54 vstrokes, J, J, J, J, J, J, J, J, J, J, J, J, J, J, J, D.slc vf1_f vf1_n vf1_c, D.int IntKind.i64 t29, D.int IntKind.i64 t30, J, J, J, J, J, J, J, J, J, J, J, J, J, D.slc t44_f t44_n t44_c, D.int IntKind.i64 t45, D.int IntKind.i64 t46, J, J, J, J, J, J, J, J, J, J, J, J, J, J, J, J, J, J, J, J, J, J, J, J, J, J, J, J, J, J, J, J, J, J, J, J, J, J, J, J, J, J, J, J, J, J, J, J, J, J, J, J, J, J, J, J] [Z, (1, some (Ob.box [D.slc vf0_f vf0_n vf0_c, D.slc vf1_f vf1_n vf1_c] false)), Z, Z, Z, Z, Z, Z, Z, Z, Z, Z, Z, Z, Z, Z, Z, Z, Z, Z, Z, Z, Z, Z, Z, Z, Z, Z, Z, Z, Z, Z, Z, Z, Z, Z, Z, Z, Z, Z, Z, Z, Z, Z, Z, Z, Z, Z, Z, Z, Z, Z, Z, Z, ownO 3 1 vstrokes, Z, Z, Z, Z, ownO 3 1 vplayers_1, Z, Z, Z, ownO 25 1 vlists_1, Z, Z, Z, Z, Z, Z, Z, Z, Z, Z, Z, Z, Z, Z, Z, Z, Z, Z, Z, Z, Z, Z, Z, Z, Z, Z, Z, Z, Z, Z, Z, Z, Z, Z, Z, Z, Z, Z, Z])
noncomputable def F72_16378 (call : FuncId → List D → Option D) (mu : FuncId → List D → Option D) (L : Nat) (C : Nat → Nat) (n : Nat) (n_5 : Nat) (n_6 : Nat) (vown_f : Bool) (vown_n : Nat) (vown_c : List D) (vplayers_3 : Ow) (vout : Ow) (vplaces : Ow) (t80 : Ow) (t81 : Int) (t82 : Int) : Option D :=
  loopAt (TEm call mu L C) O72 N72 FinM.canon Tryz.f72 [true, true, true, true, true, true, true, true, true, true, false, true, false] [n, n_5]  n_6 (St.mk [J, J, J, J, J, J, ownD 59 vplayers_3, J, J, J, J, J, J, J, J, D.loc 15 0 0, J, J, ownD 92 vout, ownD 99 vplaces, J, J, J, J, J, J, J, J, J, J, J, J, J, J, J, J, J, J, J, J, J, J, J, J, J, J, J, J, J, J, J, J, J, J, J, J, J, J, J, J, J, J, J, J, J, J, J, J, J, J, J, J, J, J, J, J, J, J, J, J, ownD 75 t80, D.int IntKind.i64 t81, D.int IntKind.i64 t82, J, J, J, J, J, J, J, J, J, J, J, J, J, J, J, J, J, J, J, J] [Z, Z, Z, Z, Z, Z, Z, Z, Z, Z, Z, Z, Z, Z, Z, (1, some (Ob.box [D.slc vown_f vown_n vown_c] false)), Z, Z, Z, Z, Z, Z, Z, Z, Z, Z, Z, Z, Z, Z, Z, Z, Z, Z, Z, Z, Z, Z, Z, Z, Z, Z, Z, Z, Z, Z, Z, Z, Z, Z, Z, Z, Z, Z, Z, Z, Z, Z, Z, ownO 3 1 vplayers_3, Z, Z, Z, Z, Z, Z, Z, Z, Z, Z, Z, Z, Z, Z, Z, ownO 3 1 t80, Z, Z, Z, Z, Z, Z, Z, Z, Z, Z, Z, Z, Z, Z, Z, Z, ownO 3 1 vout, Z, Z, Z, Z, Z, Z, ownO 3 1 vplaces, Z, Z, Z])
noncomputable def F72_2042 (call : FuncId → List D → Option D) (mu : FuncId → List D → Option D) (L : Nat) (C : Nat → Nat) (n : Nat) (n_5 : Nat) (vplayers_2 : Ow) (vorder : Ow) (t68 : Int) (t69 : Int) (vown_f : Bool) (vown_n : Nat) (vown_c : List D) : Option D :=
  loopAt (TEm call mu L C) O72 N72 FinM.canon Tryz.f72 [true, true, true, true, true, true, true, false, true, false] [n]  n_5 (St.mk [J, J, J, J, J, J, ownD 59 vplayers_2, J, J, J, J, J, J, J, J, D.loc 15 0 0, ownD 75 vorder, J, J, J, J, J, J, J, J, J, J, J, J, J, J, J, J, J, J, J, J, J, J, J, J, J, J, J, J, J, J, J, J, J, J, J, J, J, J, J, J, J, J, J, J, J, J, J, J, J, J, J, D.int IntKind.i64 t68, D.int IntKind.i64 t69, J, J, J, J, J, J, J, J, J, J, J, J, J, J, J, J, J, J, J, J, J, J, J, J, J, J, J, J, J, J, J, J, J] [Z, Z, Z, Z, Z, Z, Z, Z, Z, Z, Z, Z, Z, Z, Z, (1, some (Ob.box [D.slc vown_f vown_n vown_c] false)), Z, Z, Z, Z, Z, Z, Z, Z, Z, Z, Z, Z, Z, Z, Z, Z, Z, Z, Z, Z, Z, Z, Z, Z, Z, Z, Z, Z, Z, Z, Z, Z, Z, Z, Z, Z, Z, Z, Z, Z, Z, Z, Z, ownO 3 1 vplayers_2, Z, Z, Z, Z, Z, Z, Z, Z, Z, Z, Z, Z, Z, Z, Z, ownO 3 1 vorder, Z, Z, Z, Z, Z, Z, Z, Z, Z, Z, Z, Z, Z, Z, Z, Z, Z, Z, Z, Z, Z, Z, Z, Z, Z, Z, Z])
noncomputable def F72_250 (call : FuncId → List D → Option D) (mu : FuncId → List D → Option D) (L : Nat) (C : Nat → Nat) (n : Nat) (vf1_f : Bool) (vf1_n : Nat) (vf1_c : List D) (vf0_f : Bool) (vf0_n : Nat) (vf0_c : List D) (vplayers : Ow) (vlists : Ow) (t29 : Int) (t30 : Int) : Option D :=
  loopAt (TEm call mu L C) O72 N72 FinM.canon Tryz.f72 [true, true, true, true, false, true, false] []  n (St.mk [J, D.loc 1 0 0, J, J, J, J, ownD 59 vplayers, ownD 63 vlists, J, J, J, J, J, J, J, J, J, J, J, J, J, J, J, J, J, J, J, J, D.slc vf1_f vf1_n vf1_c, D.int IntKind.i64 t29, D.int IntKind.i64 t30, J, J, J, J, J, J, J, J, J, J, J, J, J, J, J, J, J, J, J, J, J, J, J, J, J, J, J, J, J, J, J, J, J, J, J, J, J, J, J, J, J, J, J, J, J, J, J, J, J, J, J, J, J, J, J, J, J, J, J, J, J, J, J, J, J, J, J, J, J, J, J, J] [Z, (1, some (Ob.box [D.slc vf0_f vf0_n vf0_c, D.slc vf1_f vf1_n vf1_c] false)), Z, Z, Z, Z, Z, Z, Z, Z, Z, Z, Z, Z, Z, Z, Z, Z, Z, Z, Z, Z, Z, Z, Z, Z, Z, Z, Z, Z, Z, Z, Z, Z, Z, Z, Z, Z, Z, Z, Z, Z, Z, Z, Z, Z, Z, Z, Z, Z, Z, Z, Z, Z, Z, Z, Z, Z, Z, ownO 3 1 vplayers, Z, Z, Z, ownO 25 1 vlists, Z, Z, Z, Z, Z, Z, Z, Z, Z, Z, Z, Z, Z, Z, Z, Z, Z, Z, Z, Z, Z, Z, Z, Z, Z, Z, Z, Z, Z, Z, Z, Z, Z, Z, Z, Z, Z, Z, Z])
theorem F72_2051322_eqnnn (call : FuncId → List D → Option D) (mu : FuncId → List D → Option D) (L : Nat) (C : Nat → Nat) (n : Nat) (n_3 : Nat) (t30 : Int) (vf1_f : Bool) (vf1_n : Nat) (vf1_c : List D) (t29 : Int) (vf0_f : Bool) (vf0_n : Nat) (vf0_c : List D) (t44_f : Bool) (t44_n : Nat) (t44_c : List D) (t45 : Int) (t46 : Int) : F72_2051322 call mu L C n (n_3 + 1) t30 vf1_f vf1_n vf1_c t29 vf0_f vf0_n vf0_c (Ow.nil) (Ow.nil) (Ow.nil) (t44_f) (t44_n) (t44_c) (t45) (t46) =
  (ifK (decide (t46 < t45))
    (chkK (decide (0 ≤ t46 ∧ t46 < (t44_n : Int)))
      (cellK (t44_c) (Int.toNat t46 * 2 + 0) fun d_3 =>
      (intK IntKind.i64 (d_3) fun x_2 =>
      (cellK (t44_c) (Int.toNat t46 * 2 + 1) fun d_4 =>
      (strK (d_4) fun _s_1 =>
      (F72_2051322 call mu L C n n_3 t30 vf1_f vf1_n vf1_c t29 vf0_f vf0_n vf0_c (Ow.nil) (Ow.nil) (Ow.own 1 [D.int IntKind.i64 x_2]) (t44_f) (t44_n) (t44_c) (t45) (IntKind.wrap IntKind.i64 (t46 + 1))))))))
    (F72_250 call mu L C n vf1_f vf1_n vf1_c vf0_f vf0_n vf0_c (Ow.own 1 [D.int IntKind.i64 t30]) (Ow.own 1 [D.nils]) (t29) (IntKind.wrap IntKind.i64 (t30 + 1)))) := by kernel_rfl
theorem F72_2051322_eqnno (call : FuncId → List D → Option D) (mu : FuncId → List D → Option D) (L : Nat) (C : Nat → Nat) (n : Nat) (n_3 : Nat) (t30 : Int) (vf1_f : Bool) (vf1_n : Nat) (vf1_c : List D) (t29 : Int) (vf0_f : Bool) (vf0_n : Nat) (vf0_c : List D) (vstrokes_n : Nat) (vstrokes_c : List D) (t44_f : Bool) (t44_n : Nat) (t44_c : List D) (t45 : Int) (t46 : Int) : F72_2051322 call mu L C n (n_3 + 1) t30 vf1_f vf1_n vf1_c t29 vf0_f vf0_n vf0_c (Ow.nil) (Ow.nil) (Ow.own vstrokes_n vstrokes_c) (t44_f) (t44_n) (t44_c) (t45) (t46) =
  (ifK (decide (t46 < t45))
    (chkK (decide (0 ≤ t46 ∧ t46 < (t44_n : Int)))
      (cellK (t44_c) (Int.toNat t46 * 2 + 0) fun d_5 =>
      (intK IntKind.i64 (d_5) fun x_3 =>
      (cellK (t44_c) (Int.toNat t46 * 2 + 1) fun d_6 =>
      (strK (d_6) fun _s_2 =>
      (chkK (decide ((vstrokes_n + 1) * 8 ≤ limit ∧ vstrokes_n + 1 ≤ 9223372036854775807))
        (F72_2051322 call mu L C n n_3 t30 vf1_f vf1_n vf1_c t29 vf0_f vf0_n vf0_c (Ow.nil) (Ow.nil) (Ow.own (vstrokes_n + 1) (vstrokes_c ++ [D.int IntKind.i64 x_3])) (t44_f) (t44_n) (t44_c) (t45) (IntKind.wrap IntKind.i64 (t46 + 1)))))))))
    (F72_250 call mu L C n vf1_f vf1_n vf1_c vf0_f vf0_n vf0_c (Ow.own 1 [D.int IntKind.i64 t30]) (Ow.own 1 [D.slc false vstrokes_n vstrokes_c]) (t29) (IntKind.wrap IntKind.i64 (t30 + 1)))) := by kernel_rfl
theorem F72_2051322_eqnon (call : FuncId → List D → Option D) (mu : FuncId → List D → Option D) (L : Nat) (C : Nat → Nat) (n : Nat) (n_3 : Nat) (t30 : Int) (vf1_f : Bool) (vf1_n : Nat) (vf1_c : List D) (t29 : Int) (vf0_f : Bool) (vf0_n : Nat) (vf0_c : List D) (vlists_1_n : Nat) (vlists_1_c : List D) (t44_f : Bool) (t44_n : Nat) (t44_c : List D) (t45 : Int) (t46 : Int) : F72_2051322 call mu L C n (n_3 + 1) t30 vf1_f vf1_n vf1_c t29 vf0_f vf0_n vf0_c (Ow.nil) (Ow.own vlists_1_n vlists_1_c) (Ow.nil) (t44_f) (t44_n) (t44_c) (t45) (t46) =
  (ifK (decide (t46 < t45))
    (chkK (decide (0 ≤ t46 ∧ t46 < (t44_n : Int)))
      (cellK (t44_c) (Int.toNat t46 * 2 + 0) fun d_7 =>
      (intK IntKind.i64 (d_7) fun x_4 =>
      (cellK (t44_c) (Int.toNat t46 * 2 + 1) fun d_8 =>
      (strK (d_8) fun _s_3 =>
      (F72_2051322 call mu L C n n_3 t30 vf1_f vf1_n vf1_c t29 vf0_f vf0_n vf0_c (Ow.nil) (Ow.own vlists_1_n vlists_1_c) (Ow.own 1 [D.int IntKind.i64 x_4]) (t44_f) (t44_n) (t44_c) (t45) (IntKind.wrap IntKind.i64 (t46 + 1))))))))
    (chkK (decide ((vlists_1_n + 1) * 24 ≤ limit ∧ vlists_1_n + 1 ≤ 9223372036854775807))
      (F72_250 call mu L C n vf1_f vf1_n vf1_c vf0_f vf0_n vf0_c (Ow.own 1 [D.int IntKind.i64 t30]) (Ow.own (vlists_1_n + 1) (vlists_1_c ++ [D.nils])) (t29) (IntKind.wrap IntKind.i64 (t30 + 1))))) := by kernel_rfl
theorem F72_2051322_eqnoo (call : FuncId → List D → Option D) (mu : FuncId → List D → Option D) (L : Nat) (C : Nat → Nat) (n : Nat) (n_3 : Nat) (t30 : Int) (vf1_f : Bool) (vf1_n : Nat) (vf1_c : List D) (t29 : Int) (vf0_f : Bool) (vf0_n : Nat) (vf0_c : List D) (vlists_1_n : Nat) (vlists_1_c : List D) (vstrokes_n_1 : Nat) (vstrokes_c_1 : List D) (t44_f : Bool) (t44_n : Nat) (t44_c : List D) (t45 : Int) (t46 : Int) : F72_2051322 call mu L C n (n_3 + 1) t30 vf1_f vf1_n vf1_c t29 vf0_f vf0_n vf0_c (Ow.nil) (Ow.own vlists_1_n vlists_1_c) (Ow.own vstrokes_n_1 vstrokes_c_1) (t44_f) (t44_n) (t44_c) (t45) (t46) =
  (ifK (decide (t46 < t45))
    (chkK (decide (0 ≤ t46 ∧ t46 < (t44_n : Int)))
      (cellK (t44_c) (Int.toNat t46 * 2 + 0) fun d_9 =>
      (intK IntKind.i64 (d_9) fun x_5 =>
      (cellK (t44_c) (Int.toNat t46 * 2 + 1) fun d_10 =>
      (strK (d_10) fun _s_4 =>
      (chkK (decide ((vstrokes_n_1 + 1) * 8 ≤ limit ∧ vstrokes_n_1 + 1 ≤ 9223372036854775807))
        (F72_2051322 call mu L C n n_3 t30 vf1_f vf1_n vf1_c t29 vf0_f vf0_n vf0_c (Ow.nil) (Ow.own vlists_1_n vlists_1_c) (Ow.own (vstrokes_n_1 + 1) (vstrokes_c_1 ++ [D.int IntKind.i64 x_5])) (t44_f) (t44_n) (t44_c) (t45) (IntKind.wrap IntKind.i64 (t46 + 1)))))))))
    (chkK (decide ((vlists_1_n + 1) * 24 ≤ limit ∧ vlists_1_n + 1 ≤ 9223372036854775807))
      (F72_250 call mu L C n vf1_f vf1_n vf1_c vf0_f vf0_n vf0_c (Ow.own 1 [D.int IntKind.i64 t30]) (Ow.own (vlists_1_n + 1) (vlists_1_c ++ [D.slc false vstrokes_n_1 vstrokes_c_1])) (t29) (IntKind.wrap IntKind.i64 (t30 + 1))))) := by kernel_rfl
theorem F72_2051322_eqonn (call : FuncId → List D → Option D) (mu : FuncId → List D → Option D) (L : Nat) (C : Nat → Nat) (n : Nat) (n_3 : Nat) (t30 : Int) (vf1_f : Bool) (vf1_n : Nat) (vf1_c : List D) (t29 : Int) (vf0_f : Bool) (vf0_n : Nat) (vf0_c : List D) (vplayers_1_n : Nat) (vplayers_1_c : List D) (t44_f : Bool) (t44_n : Nat) (t44_c : List D) (t45 : Int) (t46 : Int) : F72_2051322 call mu L C n (n_3 + 1) t30 vf1_f vf1_n vf1_c t29 vf0_f vf0_n vf0_c (Ow.own vplayers_1_n vplayers_1_c) (Ow.nil) (Ow.nil) (t44_f) (t44_n) (t44_c) (t45) (t46) =
  (ifK (decide (t46 < t45))
    (chkK (decide (0 ≤ t46 ∧ t46 < (t44_n : Int)))
      (cellK (t44_c) (Int.toNat t46 * 2 + 0) fun d_11 =>
      (intK IntKind.i64 (d_11) fun x_6 =>
      (cellK (t44_c) (Int.toNat t46 * 2 + 1) fun d_12 =>
      (strK (d_12) fun _s_5 =>
      (F72_2051322 call mu L C n n_3 t30 vf1_f vf1_n vf1_c t29 vf0_f vf0_n vf0_c (Ow.own vplayers_1_n vplayers_1_c) (Ow.nil) (Ow.own 1 [D.int IntKind.i64 x_6]) (t44_f) (t44_n) (t44_c) (t45) (IntKind.wrap IntKind.i64 (t46 + 1))))))))
    (chkK (decide ((vplayers_1_n + 1) * 8 ≤ limit ∧ vplayers_1_n + 1 ≤ 9223372036854775807))
      (F72_250 call mu L C n vf1_f vf1_n vf1_c vf0_f vf0_n vf0_c (Ow.own (vplayers_1_n + 1) (vplayers_1_c ++ [D.int IntKind.i64 t30])) (Ow.own 1 [D.nils]) (t29) (IntKind.wrap IntKind.i64 (t30 + 1))))) := by kernel_rfl
theorem F72_2051322_eqono (call : FuncId → List D → Option D) (mu : FuncId → List D → Option D) (L : Nat) (C : Nat → Nat) (n : Nat) (n_3 : Nat) (t30 : Int) (vf1_f : Bool) (vf1_n : Nat) (vf1_c : List D) (t29 : Int) (vf0_f : Bool) (vf0_n : Nat) (vf0_c : List D) (vplayers_1_n : Nat) (vplayers_1_c : List D) (vstrokes_n_2 : Nat) (vstrokes_c_2 : List D) (t44_f : Bool) (t44_n : Nat) (t44_c : List D) (t45 : Int) (t46 : Int) : F72_2051322 call mu L C n (n_3 + 1) t30 vf1_f vf1_n vf1_c t29 vf0_f vf0_n vf0_c (Ow.own vplayers_1_n vplayers_1_c) (Ow.nil) (Ow.own vstrokes_n_2 vstrokes_c_2) (t44_f) (t44_n) (t44_c) (t45) (t46) =
  (ifK (decide (t46 < t45))
    (chkK (decide (0 ≤ t46 ∧ t46 < (t44_n : Int)))
      (cellK (t44_c) (Int.toNat t46 * 2 + 0) fun d_13 =>
      (intK IntKind.i64 (d_13) fun x_7 =>
      (cellK (t44_c) (Int.toNat t46 * 2 + 1) fun d_14 =>
      (strK (d_14) fun _s_6 =>
      (chkK (decide ((vstrokes_n_2 + 1) * 8 ≤ limit ∧ vstrokes_n_2 + 1 ≤ 9223372036854775807))
        (F72_2051322 call mu L C n n_3 t30 vf1_f vf1_n vf1_c t29 vf0_f vf0_n vf0_c (Ow.own vplayers_1_n vplayers_1_c) (Ow.nil) (Ow.own (vstrokes_n_2 + 1) (vstrokes_c_2 ++ [D.int IntKind.i64 x_7])) (t44_f) (t44_n) (t44_c) (t45) (IntKind.wrap IntKind.i64 (t46 + 1)))))))))
    (chkK (decide ((vplayers_1_n + 1) * 8 ≤ limit ∧ vplayers_1_n + 1 ≤ 9223372036854775807))
      (F72_250 call mu L C n vf1_f vf1_n vf1_c vf0_f vf0_n vf0_c (Ow.own (vplayers_1_n + 1) (vplayers_1_c ++ [D.int IntKind.i64 t30])) (Ow.own 1 [D.slc false vstrokes_n_2 vstrokes_c_2]) (t29) (IntKind.wrap IntKind.i64 (t30 + 1))))) := by kernel_rfl
theorem F72_2051322_eqoon (call : FuncId → List D → Option D) (mu : FuncId → List D → Option D) (L : Nat) (C : Nat → Nat) (n : Nat) (n_3 : Nat) (t30 : Int) (vf1_f : Bool) (vf1_n : Nat) (vf1_c : List D) (t29 : Int) (vf0_f : Bool) (vf0_n : Nat) (vf0_c : List D) (vplayers_1_n : Nat) (vplayers_1_c : List D) (vlists_1_n_1 : Nat) (vlists_1_c_1 : List D) (t44_f : Bool) (t44_n : Nat) (t44_c : List D) (t45 : Int) (t46 : Int) : F72_2051322 call mu L C n (n_3 + 1) t30 vf1_f vf1_n vf1_c t29 vf0_f vf0_n vf0_c (Ow.own vplayers_1_n vplayers_1_c) (Ow.own vlists_1_n_1 vlists_1_c_1) (Ow.nil) (t44_f) (t44_n) (t44_c) (t45) (t46) =
  (ifK (decide (t46 < t45))
    (chkK (decide (0 ≤ t46 ∧ t46 < (t44_n : Int)))
      (cellK (t44_c) (Int.toNat t46 * 2 + 0) fun d_15 =>
      (intK IntKind.i64 (d_15) fun x_8 =>
      (cellK (t44_c) (Int.toNat t46 * 2 + 1) fun d_16 =>
      (strK (d_16) fun _s_7 =>
      (F72_2051322 call mu L C n n_3 t30 vf1_f vf1_n vf1_c t29 vf0_f vf0_n vf0_c (Ow.own vplayers_1_n vplayers_1_c) (Ow.own vlists_1_n_1 vlists_1_c_1) (Ow.own 1 [D.int IntKind.i64 x_8]) (t44_f) (t44_n) (t44_c) (t45) (IntKind.wrap IntKind.i64 (t46 + 1))))))))
    (chkK (decide ((vplayers_1_n + 1) * 8 ≤ limit ∧ vplayers_1_n + 1 ≤ 9223372036854775807))
      (chkK (decide ((vlists_1_n_1 + 1) * 24 ≤ limit ∧ vlists_1_n_1 + 1 ≤ 9223372036854775807))
        (F72_250 call mu L C n vf1_f vf1_n vf1_c vf0_f vf0_n vf0_c (Ow.own (vplayers_1_n + 1) (vplayers_1_c ++ [D.int IntKind.i64 t30])) (Ow.own (vlists_1_n_1 + 1) (vlists_1_c_1 ++ [D.nils])) (t29) (IntKind.wrap IntKind.i64 (t30 + 1)))))) := by kernel_rfl
theorem F72_2051322_eqooo (call : FuncId → List D → Option D) (mu : FuncId → List D → Option D) (L : Nat) (C : Nat → Nat) (n : Nat) (n_3 : Nat) (t30 : Int) (vf1_f : Bool) (vf1_n : Nat) (vf1_c : List D) (t29 : Int) (vf0_f : Bool) (vf0_n : Nat) (vf0_c : List D) (vplayers_1_n : Nat) (vplayers_1_c : List D) (vlists_1_n_1 : Nat) (vlists_1_c_1 : List D) (vstrokes_n_3 : Nat) (vstrokes_c_3 : List D) (t44_f : Bool) (t44_n : Nat) (t44_c : List D) (t45 : Int) (t46 : Int) : F72_2051322 call mu L C n (n_3 + 1) t30 vf1_f vf1_n vf1_c t29 vf0_f vf0_n vf0_c (Ow.own vplayers_1_n vplayers_1_c) (Ow.own vlists_1_n_1 vlists_1_c_1) (Ow.own vstrokes_n_3 vstrokes_c_3) (t44_f) (t44_n) (t44_c) (t45) (t46) =
  (ifK (decide (t46 < t45))
    (chkK (decide (0 ≤ t46 ∧ t46 < (t44_n : Int)))
      (cellK (t44_c) (Int.toNat t46 * 2 + 0) fun d_17 =>
      (intK IntKind.i64 (d_17) fun x_9 =>
      (cellK (t44_c) (Int.toNat t46 * 2 + 1) fun d_18 =>
      (strK (d_18) fun _s_8 =>
      (chkK (decide ((vstrokes_n_3 + 1) * 8 ≤ limit ∧ vstrokes_n_3 + 1 ≤ 9223372036854775807))
        (F72_2051322 call mu L C n n_3 t30 vf1_f vf1_n vf1_c t29 vf0_f vf0_n vf0_c (Ow.own vplayers_1_n vplayers_1_c) (Ow.own vlists_1_n_1 vlists_1_c_1) (Ow.own (vstrokes_n_3 + 1) (vstrokes_c_3 ++ [D.int IntKind.i64 x_9])) (t44_f) (t44_n) (t44_c) (t45) (IntKind.wrap IntKind.i64 (t46 + 1)))))))))
    (chkK (decide ((vplayers_1_n + 1) * 8 ≤ limit ∧ vplayers_1_n + 1 ≤ 9223372036854775807))
      (chkK (decide ((vlists_1_n_1 + 1) * 24 ≤ limit ∧ vlists_1_n_1 + 1 ≤ 9223372036854775807))
        (F72_250 call mu L C n vf1_f vf1_n vf1_c vf0_f vf0_n vf0_c (Ow.own (vplayers_1_n + 1) (vplayers_1_c ++ [D.int IntKind.i64 t30])) (Ow.own (vlists_1_n_1 + 1) (vlists_1_c_1 ++ [D.slc false vstrokes_n_3 vstrokes_c_3])) (t29) (IntKind.wrap IntKind.i64 (t30 + 1)))))) := by kernel_rfl
theorem F72_16378_eqnnnn (call : FuncId → List D → Option D) (mu : FuncId → List D → Option D) (L : Nat) (C : Nat → Nat) (n : Nat) (n_5 : Nat) (n_6 : Nat) (vown_f : Bool) (vown_n : Nat) (vown_c : List D) (t81 : Int) (t82 : Int) : F72_16378 call mu L C n n_5 (n_6 + 1) vown_f vown_n vown_c (Ow.nil) (Ow.nil) (Ow.nil) (Ow.nil) (t81) (t82) =
  (ifK (decide (t82 < t81))
    none
    (some (D.tup [D.slc true 0 [], D.slc true 0 [], D.int IntKind.i64 0]))) := by kernel_rfl
theorem F72_16378_eqonno (call : FuncId → List D → Option D) (mu : FuncId → List D → Option D) (L : Nat) (C : Nat → Nat) (n : Nat) (n_5 : Nat) (n_6 : Nat) (vown_f : Bool) (vown_n : Nat) (vown_c : List D) (vplayers_3_n : Nat) (vplayers_3_c : List D) (t80_n_4 : Nat) (t80_c_4 : List D) (t81 : Int) (t82 : Int) : F72_16378 call mu L C n n_5 (n_6 + 1) vown_f vown_n vown_c (Ow.own vplayers_3_n vplayers_3_c) (Ow.nil) (Ow.nil) (Ow.own t80_n_4 t80_c_4) (t81) (t82) =
  (ifK (decide (t82 < t81))
    (chkK (decide (0 ≤ t82 ∧ t82 < (t80_n_4 : Int)))
      (cellK (t80_c_4) (Int.toNat t82 * 1) fun d_23 =>
      (intK IntKind.i64 (d_23) fun x_14 =>
      (chkK (decide (0 ≤ x_14 ∧ x_14 < (vplayers_3_n : Int)))
        (cellK (vplayers_3_c) (Int.toNat x_14 * 1) fun d_24 =>
        (intK IntKind.i64 (d_24) fun x_15 =>
        (chkK (decide (0 ≤ x_14 ∧ x_14 < (vown_n : Int)))
          (cellK (vown_c) (Int.toNat x_14 * 1) fun d_25 =>
          (intK IntKind.i64 (d_25) fun x_16 =>
          (F72_16378 call mu L C n n_5 n_6 vown_f vown_n vown_c (Ow.own vplayers_3_n vplayers_3_c) (Ow.own 1 [D.int IntKind.i64 x_15]) (Ow.own 1 [D.int IntKind.i64 x_16]) (Ow.own t80_n_4 t80_c_4) (t81) (IntKind.wrap IntKind.i64 (t82 + 1))))))))))))
    (some (D.tup [D.slc true 0 [], D.slc true 0 [], D.int IntKind.i64 0]))) := by kernel_rfl
theorem F72_16378_eqoooo (call : FuncId → List D → Option D) (mu : FuncId → List D → Option D) (L : Nat) (C : Nat → Nat) (n : Nat) (n_5 : Nat) (n_6 : Nat) (vown_f : Bool) (vown_n : Nat) (vown_c : List D) (vplayers_3_n : Nat) (vplayers_3_c : List D) (vout_n_1 : Nat) (vout_c_1 : List D) (vplaces_n_3 : Nat) (vplaces_c_3 : List D) (t80_n_7 : Nat) (t80_c_7 : List D) (t81 : Int) (t82 : Int) : F72_16378 call mu L C n n_5 (n_6 + 1) vown_f vown_n vown_c (Ow.own vplayers_3_n vplayers_3_c) (Ow.own vout_n_1 vout_c_1) (Ow.own vplaces_n_3 vplaces_c_3) (Ow.own t80_n_7 t80_c_7) (t81) (t82) =
  (ifK (decide (t82 < t81))
    (chkK (decide (0 ≤ t82 ∧ t82 < (t80_n_7 : Int)))
      (cellK (t80_c_7) (Int.toNat t82 * 1) fun d_32 =>
      (intK IntKind.i64 (d_32) fun x_23 =>
      (chkK (decide (0 ≤ x_23 ∧ x_23 < (vplayers_3_n : Int)))
        (cellK (vplayers_3_c) (Int.toNat x_23 * 1) fun d_33 =>
        (intK IntKind.i64 (d_33) fun x_24 =>
        (chkK (decide ((vout_n_1 + 1) * 8 ≤ limit ∧ vout_n_1 + 1 ≤ 9223372036854775807))
          (chkK (decide (0 ≤ x_23 ∧ x_23 < (vown_n : Int)))
            (cellK (vown_c) (Int.toNat x_23 * 1) fun d_34 =>
            (intK IntKind.i64 (d_34) fun x_25 =>
            (chkK (decide ((vplaces_n_3 + 1) * 8 ≤ limit ∧ vplaces_n_3 + 1 ≤ 9223372036854775807))
              (F72_16378 call mu L C n n_5 n_6 vown_f vown_n vown_c (Ow.own vplayers_3_n vplayers_3_c) (Ow.own (vout_n_1 + 1) (vout_c_1 ++ [D.int IntKind.i64 x_24])) (Ow.own (vplaces_n_3 + 1) (vplaces_c_3 ++ [D.int IntKind.i64 x_25])) (Ow.own t80_n_7 t80_c_7) (t81) (IntKind.wrap IntKind.i64 (t82 + 1))))))))))))))
    (some (D.tup [D.slc false vout_n_1 vout_c_1, D.slc false vplaces_n_3 vplaces_c_3, D.int IntKind.i64 0]))) := by kernel_rfl
theorem F72_2042_eqnn (call : FuncId → List D → Option D) (mu : FuncId → List D → Option D) (L : Nat) (C : Nat → Nat) (n : Nat) (n_5 : Nat) (t68 : Int) (t69 : Int) (vown_f : Bool) (vown_n : Nat) (vown_c : List D) : F72_2042 call mu L C n (n_5 + 1)  (Ow.nil) (Ow.nil) (t68) (t69) (vown_f) (vown_n) (vown_c) =
  (ifK (decide (t69 < t68))
    (F72_2042 call mu L C n n_5 (Ow.nil) (Ow.own 1 [D.int IntKind.i64 t69]) (t68) (IntKind.wrap IntKind.i64 (t69 + 1)) (vown_f) (vown_n) (vown_c))
    (optK (call 120 [D.nils, D.fn (Fn.func 121) [] [D.snap [D.slc vown_f vown_n vown_c] 0]]) fun r_4 =>
      (tupK (r_4) 0 fun _c_3 =>
      (F72_16378 call mu L C n n_5 L vown_f vown_n vown_c (Ow.nil) (Ow.nil) (Ow.nil) (Ow.nil) (0) (0))))) := by kernel_rfl
theorem F72_2042_eqon (call : FuncId → List D → Option D) (mu : FuncId → List D → Option D) (L : Nat) (C : Nat → Nat) (n : Nat) (n_5 : Nat) (vplayers_2_n : Nat) (vplayers_2_c : List D) (t68 : Int) (t69 : Int) (vown_f : Bool) (vown_n : Nat) (vown_c : List D) : F72_2042 call mu L C n (n_5 + 1)  (Ow.own vplayers_2_n vplayers_2_c) (Ow.nil) (t68) (t69) (vown_f) (vown_n) (vown_c) =
  (ifK (decide (t69 < t68))
    (F72_2042 call mu L C n n_5 (Ow.own vplayers_2_n vplayers_2_c) (Ow.own 1 [D.int IntKind.i64 t69]) (t68) (IntKind.wrap IntKind.i64 (t69 + 1)) (vown_f) (vown_n) (vown_c))
    (optK (call 120 [D.nils, D.fn (Fn.func 121) [] [D.snap [D.slc vown_f vown_n vown_c] 0]]) fun r_6 =>
      (tupK (r_6) 0 fun _c_5 =>
      (F72_16378 call mu L C n n_5 L vown_f vown_n vown_c (Ow.own vplayers_2_n vplayers_2_c) (Ow.nil) (Ow.nil) (Ow.nil) (0) (0))))) := by kernel_rfl
theorem F72_2042_eqoo (call : FuncId → List D → Option D) (mu : FuncId → List D → Option D) (L : Nat) (C : Nat → Nat) (n : Nat) (n_5 : Nat) (vplayers_2_n : Nat) (vplayers_2_c : List D) (vorder_n_1 : Nat) (vorder_c_1 : List D) (t68 : Int) (t69 : Int) (vown_f : Bool) (vown_n : Nat) (vown_c : List D) : F72_2042 call mu L C n (n_5 + 1)  (Ow.own vplayers_2_n vplayers_2_c) (Ow.own vorder_n_1 vorder_c_1) (t68) (t69) (vown_f) (vown_n) (vown_c) =
  (ifK (decide (t69 < t68))
    (chkK (decide ((vorder_n_1 + 1) * 8 ≤ limit ∧ vorder_n_1 + 1 ≤ 9223372036854775807))
      (F72_2042 call mu L C n n_5 (Ow.own vplayers_2_n vplayers_2_c) (Ow.own (vorder_n_1 + 1) (vorder_c_1 ++ [D.int IntKind.i64 t69])) (t68) (IntKind.wrap IntKind.i64 (t69 + 1)) (vown_f) (vown_n) (vown_c)))
    (chkK (List.all vorder_c_1 D.plain)
      (optK (mu 120 [D.slc false vorder_n_1 vorder_c_1, D.fn (Fn.func 121) [] [D.snap [D.slc vown_f vown_n vown_c] 0]]) fun r_7 =>
        (slcK (r_7) fun _f_4 _n_8 c_6 =>
        (chkK (decide (List.length c_6 = List.length vorder_c_1))
          (chkK (List.all c_6 D.plain)
            (F72_16378 call mu L C n n_5 L vown_f vown_n vown_c (Ow.own vplayers_2_n vplayers_2_c) (Ow.nil) (Ow.nil) (Ow.own vorder_n_1 c_6) ((vorder_n_1 : Int)) (0)))))))) := by kernel_rfl
theorem F72_250_eqnn (call : FuncId → List D → Option D) (mu : FuncId → List D → Option D) (L : Nat) (C : Nat → Nat) (n : Nat) (vf1_f : Bool) (vf1_n : Nat) (vf1_c : List D) (vf0_f : Bool) (vf0_n : Nat) (vf0_c : List D) (t29 : Int) (t30 : Int) : F72_250 call mu L C  (n + 1) vf1_f vf1_n vf1_c vf0_f vf0_n vf0_c (Ow.nil) (Ow.nil) (t29) (t30) =
  (ifK (decide (t30 < t29))
    (chkK (decide (0 ≤ t30 ∧ t30 < (vf1_n : Int)))
      (cellK (vf1_c) (Int.toNat t30 * 3 + 0) fun d =>
      (strK (d) fun s =>
      (cellK (vf1_c) (Int.toNat t30 * 3 + 1) fun d_1 =>
      (slcK (d_1) fun f n_1 c =>
      (cellK (vf1_c) (Int.toNat t30 * 3 + 2) fun d_2 =>
      (intK IntKind.i64 (d_2) fun x_1 =>
      (optK (call 89 [D.agg [D.str s, D.slc f n_1 c, D.int IntKind.i64 x_1], D.slc vf0_f vf0_n vf0_c]) fun r_1 =>
        (slcK (r_1) fun f_1 n_2 c_1 =>
        (optK (call 119 [D.slc f_1 n_2 c_1]) fun r_2 =>
          (boolK (r_2) fun b =>
          (ifK (!b)
            (F72_250 call mu L C n vf1_f vf1_n vf1_c vf0_f vf0_n vf0_c (Ow.nil) (Ow.nil) (t29) (IntKind.wrap IntKind.i64 (t30 + 1)))
            (F72_2051322 call mu L C n L t30 vf1_f vf1_n vf1_c t29 vf0_f vf0_n vf0_c (Ow.nil) (Ow.nil) (Ow.nil) (f_1) (n_2) (c_1) ((n_2 : Int)) (0))))))))))))))
    (optK (call 104 [D.nils]) fun r_3 =>
      (slcK (r_3) fun f_2 n_4 c_2 =>
      (F72_2042 call mu L C n L (Ow.nil) (Ow.nil) (0) (0) (f_2) (n_4) (c_2))))) := by kernel_rfl
theorem F72_250_eqoo (call : FuncId → List D → Option D) (mu : FuncId → List D → Option D) (L : Nat) (C : Nat → Nat) (n : Nat) (vf1_f : Bool) (vf1_n : Nat) (vf1_c : List D) (vf0_f : Bool) (vf0_n : Nat) (vf0_c : List D) (vplayers_n : Nat) (vplayers_c : List D) (vlists_n_1 : Nat) (vlists_c_1 : List D) (t29 : Int) (t30 : Int) : F72_250 call mu L C  (n + 1) vf1_f vf1_n vf1_c vf0_f vf0_n vf0_c (Ow.own vplayers_n vplayers_c) (Ow.own vlists_n_1 vlists_c_1) (t29) (t30) =
  (ifK (decide (t30 < t29))
    (chkK (decide (0 ≤ t30 ∧ t30 < (vf1_n : Int)))
      (cellK (vf1_c) (Int.toNat t30 * 3 + 0) fun d_41 =>
      (strK (d_41) fun s_11 =>
      (cellK (vf1_c) (Int.toNat t30 * 3 + 1) fun d_42 =>
      (slcK (d_42) fun f_11 n_15 c_13 =>
      (cellK (vf1_c) (Int.toNat t30 * 3 + 2) fun d_43 =>
      (intK IntKind.i64 (d_43) fun x_28 =>
      (optK (call 89 [D.agg [D.str s_11, D.slc f_11 n_15 c_13, D.int IntKind.i64 x_28], D.slc vf0_f vf0_n vf0_c]) fun r_14 =>
        (slcK (r_14) fun f_12 n_16 c_14 =>
        (optK (call 119 [D.slc f_12 n_16 c_14]) fun r_15 =>
          (boolK (r_15) fun b_3 =>
          (ifK (!b_3)
            (F72_250 call mu L C n vf1_f vf1_n vf1_c vf0_f vf0_n vf0_c (Ow.own vplayers_n vplayers_c) (Ow.own vlists_n_1 vlists_c_1) (t29) (IntKind.wrap IntKind.i64 (t30 + 1)))
            (F72_2051322 call mu L C n L t30 vf1_f vf1_n vf1_c t29 vf0_f vf0_n vf0_c (Ow.own vplayers_n vplayers_c) (Ow.own vlists_n_1 vlists_c_1) (Ow.nil) (f_12) (n_16) (c_14) ((n_16 : Int)) (0))))))))))))))
    (optK (call 104 [D.slc false vlists_n_1 vlists_c_1]) fun r_16 =>
      (slcK (r_16) fun f_13 n_17 c_15 =>
      (F72_2042 call mu L C n L (Ow.own vplayers_n vplayers_c) (Ow.nil) ((vplayers_n : Int)) (0) (f_13) (n_17) (c_15))))) := by kernel_rfl
theorem F72_eq (call : FuncId → List D → Option D) (mu : FuncId → List D → Option D) (L : Nat) (C : Nat → Nat) (vf0_f : Bool) (vf0_n : Nat) (vf0_c : List D) (vf1_f : Bool) (vf1_n : Nat) (vf1_c : List D) : evFnT (TEm call mu L C) O72 N72 FinM.canon Tryz.f72 [D.agg [D.slc vf0_f vf0_n vf0_c, D.slc vf1_f vf1_n vf1_c]] =
  (optK (call 73 [D.agg [D.slc vf0_f vf0_n vf0_c, D.slc vf1_f vf1_n vf1_c]]) fun r =>
    (intK IntKind.i64 (r) fun x =>
    (ifK (x != 0)
      (some (D.tup [D.slc true 0 [], D.slc true 0 [], D.int IntKind.i64 x]))
      (F72_250 call mu L C L vf1_f vf1_n vf1_c vf0_f vf0_n vf0_c (Ow.nil) (Ow.nil) ((vf1_n : Int)) (0))))) := by kernel_rfl
-- 187552 ms
end Go.Pd
end

section
namespace Go.Pd
open Go Go.Proofs Go.RowKit
set_option maxRecDepth 100000
/-! ### Slices that grow -/
/-- A slice of numbers as a function hands it back. -/
def slI (l : List Int) : D := .slc l.isEmpty l.length (ints l)
/-- A slice of lists that grows from nil. -/
def owL : List (List Int) → Ow
  | [] => .nil
  | x :: l => .own (l.length + 1) (rows (x :: l))
/-- .. as an argument. -/
def argL : List (List Int) → D
  | [] => .nils
  | x :: l => .slc false (l.length + 1) (rows (x :: l))
theorem owI_cons (x : Int) (l : List Int) : owI (x :: l) = .own (l.length + 1) (ints (x :: l)) := rfl
theorem owL_cons (x : List Int) (l : List (List Int)) : owL (x :: l) = .own (l.length + 1) (rows (x :: l)) := rfl
theorem owI_nil : owI [] = .nil := rfl
theorem owL_nil : owL [] = .nil := rfl
theorem owI_snoc (l : List Int) (x : Int) : owI (l ++ [x]) = .own (l.length + 1) (ints l ++ [.int .i64 x]) := by
  cases l with
  | nil => rfl
  | cons y l => simp [owI, ints]
theorem owL_snoc (l : List (List Int)) (x : List Int) : owL (l ++ [x]) = .own (l.length + 1) (rows l ++ [.slc false x.length (ints x)]) := by
  cases l with
  | nil => rfl
  | cons y l => simp [owL, rows]
/-! ### Those who counted -/
/-- The net strokes of each hole. -/
def stI (n : Nat) (S : Nat → Int) (x : PlV) : List Int := (ntP n S x).map (·.1)
def whoGo (n : Nat) (S : Nat → Int) : List PlV → Nat → List Int
  | [], _ => []
  | x :: r, i => ifK (allB (ntP n S x)) ((i : Int) :: whoGo n S r (i + 1)) (whoGo n S r (i + 1))
def rowGo (n : Nat) (S : Nat → Int) : List PlV → List (List Int)
  | [] => []
  | x :: r => ifK (allB (ntP n S x)) (stI n S x :: rowGo n S r) (rowGo n S r)
theorem who_len (n : Nat) (S : Nat → Int) : ∀ (l : List PlV) (i : Nat), (whoGo n S l i).length = (rowGo n S l).length ∧ (whoGo n S l i).length ≤ l.length
  | [], _ => ⟨rfl, Nat.le_refl _⟩
  | x :: r, i => by
    obtain ⟨h1, h2⟩ := who_len n S r (i + 1)
    unfold whoGo rowGo
    cases allB (ntP n S x) with
    | true => simp [ifK_true, h1]; omega
    | false => simp [ifK_false, h1]; omega
section
variable {call mu : FuncId → List D → Option D} {f g g1 : Bool} {n m k : Nat} {c cs : List D} {S : Nat → Int}
theorem in72 {t t29 : Int} {N : List NetV} {w : List Int} {rs : List (List Int)} (hw : w.length ≤ 1000) (hrs : rs.length ≤ 1000) (hN : N.length ≤ 1000) (h0 : 0 < N.length) : ∀ (r pre : List NetV) (fuel : Nat), N = pre ++ r → r.length < fuel →
    F72_2051322 call mu LL C1 k fuel t f m cs t29 g n c (owI w) (owL rs) (owI (pre.map (·.1))) g1 N.length (N.flatMap netD) (N.length : Int) (pre.length : Int) = F72_250 call mu LL C1 k f m cs g n c (owI (w ++ [t])) (owL (rs ++ [N.map (·.1)])) t29 (IntKind.wrap .i64 (t + 1)) := by
  intro r
  induction r with
  | nil =>
    intro pre fuel hp hf
    cases fuel with
    | zero => exact absurd hf (Nat.not_lt_zero _)
    | succ fuel =>
      rw [List.append_nil] at hp
      subst hp
      cases N with
      | nil => exact absurd h0 (Nat.lt_irrefl _)
      | cons y ys =>
        rw [owI_snoc, owL_snoc, List.map_cons, owI_cons]
        rcases w with _ | ⟨w0, ws⟩ <;> rcases rs with _ | ⟨q0, qs⟩
        · rw [owI_nil, owL_nil, F72_2051322_eqnno, show decide (((y :: ys).length : Int) < ((y :: ys).length : Int)) = false by simp, ifK_false]
          rfl
        · rw [owI_nil, owL_cons, F72_2051322_eqnoo, show decide (((y :: ys).length : Int) < ((y :: ys).length : Int)) = false by simp, ifK_false, room24 (by simp at hrs; omega), chkK_true]
          rfl
        · rw [owI_cons, owL_nil, F72_2051322_eqono, show decide (((y :: ys).length : Int) < ((y :: ys).length : Int)) = false by simp, ifK_false, roomK (by simp at hw; omega), chkK_true]
          rfl
        · rw [owI_cons, owL_cons, F72_2051322_eqooo, show decide (((y :: ys).length : Int) < ((y :: ys).length : Int)) = false by simp, ifK_false, roomK (by simp at hw; omega), chkK_true, room24 (by simp at hrs; omega), chkK_true]
          rfl
  | cons x r ih =>
    intro pre fuel hp hf
    cases fuel with
    | zero => exact absurd hf (Nat.not_lt_zero _)
    | succ fuel =>
      have ih := ih (pre ++ [x]) fuel (by rw [app1]; exact hp) (by simp at hf; omega)
      have hl : (pre ++ x :: r).length ≤ 1000 := by rw [← hp]; exact hN
      rw [List.map_append, List.map_cons, List.map_nil, owI_snoc] at ih
      rw [← ih]
      clear ih
      subst hp
      rcases w with _ | ⟨w0, ws⟩ <;> rcases rs with _ | ⟨q0, qs⟩ <;> rcases pre with _ | ⟨y, ys⟩
      · rw [owI_nil, owL_nil, List.map_nil, owI_nil, F72_2051322_eqnnn, lt_pre, ifK_true, in_pre, chkK_true, n0, intK_int, n1, strK_str, step_pre _ x r (by omega)]
        rfl
      · rw [owI_nil, owL_nil, List.map_cons, owI_cons, F72_2051322_eqnno, lt_pre, ifK_true, in_pre, chkK_true, n0, intK_int, n1, strK_str, roomK (by simp at hl ⊢; omega), chkK_true, step_pre _ x r (by omega)]
        rfl
      · rw [owI_nil, owL_cons, List.map_nil, owI_nil, F72_2051322_eqnon, lt_pre, ifK_true, in_pre, chkK_true, n0, intK_int, n1, strK_str, step_pre _ x r (by omega)]
        rfl
      · rw [owI_nil, owL_cons, List.map_cons, owI_cons, F72_2051322_eqnoo, lt_pre, ifK_true, in_pre, chkK_true, n0, intK_int, n1, strK_str, roomK (by simp at hl ⊢; omega), chkK_true, step_pre _ x r (by omega)]
        rfl
      · rw [owI_cons, owL_nil, List.map_nil, owI_nil, F72_2051322_eqonn, lt_pre, ifK_true, in_pre, chkK_true, n0, intK_int, n1, strK_str, step_pre _ x r (by omega)]
        rfl
      · rw [owI_cons, owL_nil, List.map_cons, owI_cons, F72_2051322_eqono, lt_pre, ifK_true, in_pre, chkK_true, n0, intK_int, n1, strK_str, roomK (by simp at hl ⊢; omega), chkK_true, step_pre _ x r (by omega)]
        rfl
      · rw [owI_cons, owL_cons, List.map_nil, owI_nil, F72_2051322_eqoon, lt_pre, ifK_true, in_pre, chkK_true, n0, intK_int, n1, strK_str, step_pre _ x r (by omega)]
        rfl
      · rw [owI_cons, owL_cons, List.map_cons, owI_cons, F72_2051322_eqooo, lt_pre, ifK_true, in_pre, chkK_true, n0, intK_int, n1, strK_str, roomK (by simp at hl ⊢; omega), chkK_true, step_pre _ x r (by omega)]
        rfl
/-- What Leaders does with the lists. -/
noncomputable def end72 (call mu : FuncId → List D → Option D) (k : Nat) (w : List Int) (rs : List (List Int)) : Option D :=
  optK (call 104 [argL rs]) fun r => slcK r fun f n c => F72_2042 call mu LL C1 k LL (owI w) .nil (w.length : Int) 0 f n c
theorem go72 {l : List PlV} (t89 : ∀ x ∈ l, call 89 [.agg [.str x.1, .slc false x.2.1.length (x.2.1.flatMap netD), .int .i64 x.2.2], .slc g n c] = some (.slc (ntP n S x).isEmpty (ntP n S x).length ((ntP n S x).flatMap netD)))
    (t119 : ∀ q : List NetV, q.length ≤ 1000 → call 119 [.slc q.isEmpty q.length (q.flatMap netD)] = some (.bool (allB q))) (hN : ∀ x ∈ l, 0 < (ntP n S x).length ∧ (ntP n S x).length ≤ 1000) (hl : l.length ≤ 1000) :
    ∀ (r pre : List PlV) (fuel : Nat) (w : List Int) (rs : List (List Int)), l = pre ++ r → fuel = r.length + 1 + k → w.length ≤ pre.length → rs.length = w.length →
      F72_250 call mu LL C1 fuel f l.length (l.flatMap plC) g n c (owI w) (owL rs) (l.length : Int) (pre.length : Int) = end72 call mu k (w ++ whoGo n S r pre.length) (rs ++ rowGo n S r) := by
  intro r
  induction r with
  | nil =>
    intro pre fuel w rs hp hf hw hrs
    rw [List.length_nil, Nat.zero_add, Nat.add_comm] at hf
    subst hf
    have h1 : decide ((pre.length : Int) < (l.length : Int)) = false := by rw [hp]; simp
    rw [show whoGo n S [] pre.length = [] from rfl, show rowGo n S [] = [] from rfl, List.append_nil, List.append_nil]
    unfold end72
    rcases w with _ | ⟨w0, ws⟩ <;> rcases rs with _ | ⟨q0, qs⟩
    · rw [owI_nil, owL_nil, F72_250_eqnn, h1, ifK_false]
      rfl
    · cases hrs
    · cases hrs
    · rw [owI_cons, owL_cons, F72_250_eqoo, h1, ifK_false]
      rfl
  | cons x r ih =>
    intro pre fuel w rs hp hf hw hrs
    have hx : x ∈ l := by rw [hp]; simp
    have hlen : l.length = pre.length + r.length + 1 := by rw [hp]; simp; omega
    obtain ⟨k1, rfl⟩ : ∃ k1, fuel = k1 + 1 := ⟨r.length + 1 + k, by simp at hf; omega⟩
    have hk1 : k1 = r.length + 1 + k := by simp at hf; omega
    have h1 : decide ((pre.length : Int) < (l.length : Int)) = true := by simp; omega
    have h2 : decide ((0 : Int) ≤ (pre.length : Int) ∧ (pre.length : Int) < (l.length : Int)) = true := by simp; omega
    have c0 : ∀ {γ : Type} (k : D → Option γ), cellK (l.flatMap plC) (Int.toNat (pre.length : Int) * 3 + 0) k = k (.str x.1) := fun k => by rw [hp]; exact p0 pre x r
    have c1 : ∀ {γ : Type} (k : D → Option γ), cellK (l.flatMap plC) (Int.toNat (pre.length : Int) * 3 + 1) k = k (.slc false x.2.1.length (x.2.1.flatMap netD)) := fun k => by rw [hp]; exact p1 pre x r
    have c2 : ∀ {γ : Type} (k : D → Option γ), cellK (l.flatMap plC) (Int.toNat (pre.length : Int) * 3 + 2) k = k (.int .i64 x.2.2) := fun k => by rw [hp]; exact p2 pre x r
    have hst : IntKind.wrap .i64 ((pre.length : Int) + 1) = ((pre ++ [x]).length : Int) := step_pre pre x r (by rw [← hp]; omega)
    have hN' := hN x hx
    have ht := t119 (ntP n S x) hN'.2
    have hpl : (pre ++ [x]).length = pre.length + 1 := by simp
    have ihf := ih (pre ++ [x]) k1 w rs (by rw [hp]; simp) hk1 (by omega) hrs
    have iht := ih (pre ++ [x]) k1 (w ++ [(pre.length : Int)]) (rs ++ [stI n S x]) (by rw [hp]; simp) hk1 (by simp; omega) (by simp [hrs])
    have hin := in72 (call := call) (mu := mu) (f := f) (g := g) (g1 := (ntP n S x).isEmpty) (n := n) (m := l.length) (k := k1) (c := c) (cs := l.flatMap plC) (t := (pre.length : Int)) (t29 := (l.length : Int)) (w := w) (rs := rs) (by omega) (by omega) hN'.2 hN'.1 (ntP n S x) [] LL rfl (by unfold LL; omega)
    rw [hst, hpl] at hin
    rw [hpl] at ihf iht
    replace hin := hin.trans iht
    rw [show whoGo n S (x :: r) pre.length = ifK (allB (ntP n S x)) ((pre.length : Int) :: whoGo n S r (pre.length + 1)) (whoGo n S r (pre.length + 1)) from rfl, show rowGo n S (x :: r) = ifK (allB (ntP n S x)) (stI n S x :: rowGo n S r) (rowGo n S r) from rfl]
    rw [List.append_assoc, List.append_assoc] at hin
    rw [← hpl, ← hst] at ihf
    have key : ∀ (a : Option D), a = ifK (!allB (ntP n S x)) (F72_250 call mu LL C1 k1 f l.length (l.flatMap plC) g n c (owI w) (owL rs) (l.length : Int) (IntKind.wrap .i64 ((pre.length : Int) + 1))) (F72_2051322 call mu LL C1 k1 LL (pre.length : Int) f l.length (l.flatMap plC) (l.length : Int) g n c (owI w) (owL rs) .nil (ntP n S x).isEmpty (ntP n S x).length ((ntP n S x).flatMap netD) ((ntP n S x).length : Int) 0) →
        a = end72 call mu k (w ++ ifK (allB (ntP n S x)) ((pre.length : Int) :: whoGo n S r (pre.length + 1)) (whoGo n S r (pre.length + 1))) (rs ++ ifK (allB (ntP n S x)) (stI n S x :: rowGo n S r) (rowGo n S r)) := fun a ha => by
      rw [ha]
      cases allB (ntP n S x) with
      | true => exact hin
      | false => rw [hpl] at ihf; exact ihf
    rcases w with _ | ⟨w0, ws⟩ <;> rcases rs with _ | ⟨q0, qs⟩
    · exact key _ (by rw [owI_nil, owL_nil, F72_250_eqnn, h1, ifK_true, h2, chkK_true, c0, strK_str, c1, slcK_slc, c2, intK_int, t89 x hx, optK_some, slcK_slc, ht, optK_some, boolK_bool])
    · cases hrs
    · cases hrs
    · exact key _ (by rw [owI_cons, owL_cons, F72_250_eqoo, h1, ifK_true, h2, chkK_true, c0, strK_str, c1, slcK_slc, c2, intK_int, t89 x hx, optK_some, slcK_slc, ht, optK_some, boolK_bool])
end
end Go.Pd
end

section
namespace Go.Pd
open Go Go.Proofs Go.RowKit
set_option maxRecDepth 100000
/-! ### Numbers one after another -/
def upI : Nat → Nat → List Int
  | 0, _ => []
  | k + 1, i => (i : Int) :: upI k (i + 1)
theorem upI_snoc : ∀ k i, upI (k + 1) i = upI k i ++ [((i + k : Nat) : Int)]
  | 0, i => rfl
  | k + 1, i => by
    rw [show upI (k + 1 + 1) i = (i : Int) :: upI (k + 1) (i + 1) from rfl, upI_snoc k (i + 1), show upI (k + 1) i = (i : Int) :: upI k (i + 1) from rfl, Nat.add_right_comm i 1 k]
    rfl
theorem upI_len : ∀ k i, (upI k i).length = k
  | 0, _ => rfl
  | k + 1, i => by
    show (upI k (i + 1)).length + 1 = k + 1
    rw [upI_len k (i + 1)]
theorem upI_mem : ∀ (k i : Nat) (x : Int), x ∈ upI k i → (i : Int) ≤ x ∧ x < (i : Int) + k
  | 0, _, x, h => by cases h
  | k + 1, i, x, h => by
    rcases List.mem_cons.1 h with rfl | h
    · omega
    · have := upI_mem k (i + 1) x h
      omega
/-! ### Ranks -/
theorem cbGo_self (a : List Int) : ∀ cs, cbGo a a cs = 0
  | [] => rfl
  | c :: cs => by
    unfold cbGo
    rw [cbGo_self a cs, show decide (sumL (a.drop (a.length - c)) < sumL (a.drop (a.length - c))) = false by simp, ifK_false, ifK_false]
    cases decide (c > a.length) <;> rfl
theorem rkGo_b (a : List Int) : ∀ (r : List (List Int)) (n : Int), n ≤ rkGo a r n ∧ rkGo a r n ≤ n + r.length
  | [], n => ⟨Int.le_refl _, by show n ≤ _; simp⟩
  | b :: r, n => by
    have h := rkGo_b a r (ifK (decide (cbV b a < 0)) (n + 1) n)
    rw [show rkGo a (b :: r) n = rkGo a r (ifK (decide (cbV b a < 0)) (n + 1) n) from rfl, List.length_cons]
    cases hb : decide (cbV b a < 0) with
    | true => rw [hb, ifK_true] at h; rw [ifK_true]; omega
    | false => rw [hb, ifK_false] at h; rw [ifK_false]; omega
theorem rkGo_m {a : List Int} : ∀ {r : List (List Int)} {n : Int}, a ∈ r → rkGo a r n < n + r.length
  | [], n, h => by cases h
  | b :: r, n, h => by
    rw [show rkGo a (b :: r) n = rkGo a r (ifK (decide (cbV b a < 0)) (n + 1) n) from rfl, List.length_cons]
    rcases List.mem_cons.1 h with rfl | h
    · rw [show cbV a a = 0 from cbGo_self a _, show decide ((0 : Int) < 0) = false from rfl, ifK_false]
      have := (rkGo_b a r n).2
      omega
    · have h := rkGo_m (n := ifK (decide (cbV b a < 0)) (n + 1) n) h
      cases hb : decide (cbV b a < 0) with
      | true => rw [hb, ifK_true] at h; rw [ifK_true]; omega
      | false => rw [hb, ifK_false] at h; rw [ifK_false]; omega
theorem ranks_b {l : List (List Int)} {y : Int} (h : y ∈ ranksV l) : 1 ≤ y ∧ y < 1 + (l.length : Int) := by
  obtain ⟨a, ha, rfl⟩ := List.mem_map.1 h
  exact ⟨(rkGo_b a l 1).1, rkGo_m ha⟩
theorem rkV_mem {own : List Int} {a : Int} (h : inOwn own a) : rkV own a ∈ own := by
  have hl : a.toNat < own.length := by
    obtain ⟨h1, h2⟩ := h
    omega
  unfold rkV
  rw [List.getElem?_eq_getElem hl]
  exact List.getElem_mem hl
section
variable {call mu : FuncId → List D → Option D} {f fo : Bool} {k k0 k1 : Nat} {w own s : List Int}
/-- The order is made. -/
theorem go2042 (h0 : 0 < w.length) (hw : w.length ≤ 1000) (hmu : mu 120 [.slc false w.length (ints (upI w.length 0)), clo fo own] = some (.slc false w.length (ints s))) (hs : s.length = w.length) : ∀ (r i fuel : Nat), i + r = w.length → fuel = r + 1 + k1 →
    F72_2042 call mu LL C1 k0 fuel (owI w) (owI (upI i 0)) (w.length : Int) (i : Int) fo own.length (ints own) = F72_16378 call mu LL C1 k0 k1 LL fo own.length (ints own) (owI w) .nil .nil (.own w.length (ints s)) (w.length : Int) 0 := by
  intro r
  induction r with
  | zero =>
    intro i fuel hi hf
    rw [Nat.add_zero] at hi
    rw [Nat.zero_add, Nat.add_comm] at hf
    subst hf
    subst hi
    cases w with
    | nil => exact absurd h0 (Nat.lt_irrefl _)
    | cons w0 ws =>
      have e : owI (upI (w0 :: ws).length 0) = .own (w0 :: ws).length (ints (upI (w0 :: ws).length 0)) := by
        show Ow.own ((upI ws.length 1).length + 1) _ = _
        rw [upI_len]
        rfl
      rw [e, owI_cons, F72_2042_eqoo, show decide (((w0 :: ws).length : Int) < ((w0 :: ws).length : Int)) = false by simp, ifK_false, ints_plain, chkK_true]
      rw [show D.fn (.func 121) [] [.snap [.slc fo own.length (ints own)] 0] = clo fo own from rfl, hmu, optK_some, slcK_slc, show decide ((ints s).length = (ints (upI (w0 :: ws).length 0)).length) = true by rw [ints_len, ints_len, upI_len]; simpa using hs, chkK_true, ints_plain, chkK_true]
  | succ r ih =>
    intro i fuel hi hf
    obtain ⟨k2, rfl⟩ : ∃ k2, fuel = k2 + 1 := ⟨r + 1 + k1, by omega⟩
    have ih := ih (i + 1) k2 (by omega) (by omega)
    rw [upI_snoc, owI_snoc, upI_len, Nat.zero_add] at ih
    have hst : IntKind.wrap .i64 ((i : Int) + 1) = ((i + 1 : Nat) : Int) := by rw [wrap_in (by omega)]; rfl
    have hlt : decide ((i : Int) < (w.length : Int)) = true := by simp; omega
    rw [← ih]
    clear ih hmu hs
    cases w with
    | nil => exact absurd h0 (Nat.lt_irrefl _)
    | cons w0 ws =>
      cases i with
      | zero =>
        rw [owI_cons, show owI (upI 0 0) = .nil from rfl, F72_2042_eqon, hlt, ifK_true, hst]
        rfl
      | succ i =>
        have e : owI (upI (i + 1) 0) = .own (i + 1) (ints (upI (i + 1) 0)) := by
          show Ow.own ((upI i 1).length + 1) _ = _
          rw [upI_len]
          rfl
        rw [e, owI_cons, F72_2042_eqoo, hlt, ifK_true, roomK (by simp at hi hw; omega), chkK_true, hst]
/-- .. and followed. -/
theorem go16378 (h0 : 0 < w.length) (hs : ∀ x ∈ s, inOwn w x ∧ inOwn own x) (hl : s.length ≤ 1000) (hs0 : 0 < s.length) : ∀ (r pre : List Int) (fuel : Nat), s = pre ++ r → r.length < fuel →
    F72_16378 call mu LL C1 k0 k1 fuel fo own.length (ints own) (owI w) (owI (pre.map (rkV w))) (owI (pre.map (rkV own))) (.own s.length (ints s)) (s.length : Int) (pre.length : Int) = some (.tup [slI (s.map (rkV w)), slI (s.map (rkV own)), .int .i64 0]) := by
  intro r
  induction r with
  | nil =>
    intro pre fuel hp hf
    cases fuel with
    | zero => exact absurd hf (Nat.not_lt_zero _)
    | succ fuel =>
      rw [List.append_nil] at hp
      subst hp
      cases s with
      | nil => exact absurd hs0 (Nat.lt_irrefl _)
      | cons y ys =>
        cases w with
        | nil => exact absurd h0 (Nat.lt_irrefl _)
        | cons w0 ws =>
          rw [owI_cons, List.map_cons, List.map_cons, owI_cons, owI_cons, F72_16378_eqoooo, show decide (((y :: ys).length : Int) < ((y :: ys).length : Int)) = false by simp, ifK_false]
          rfl
  | cons x r ih =>
    intro pre fuel hp hf
    cases fuel with
    | zero => exact absurd hf (Nat.not_lt_zero _)
    | succ fuel =>
      have ih := ih (pre ++ [x]) fuel (by rw [app1]; exact hp) (by simp at hf; omega)
      obtain ⟨x1, x2⟩ := hs x (by rw [hp]; simp)
      have hlt : decide ((pre.length : Int) < (s.length : Int)) = true := by rw [hp]; simp; omega
      have hin : decide ((0 : Int) ≤ (pre.length : Int) ∧ (pre.length : Int) < (s.length : Int)) = true := by rw [hp]; simp; omega
      have hc : ∀ {γ : Type} (k : D → Option γ), cellK (ints s) (Int.toNat (pre.length : Int) * 1) k = k (.int .i64 x) := fun k => by rw [hp]; exact cell_ints pre x r k
      have hst : IntKind.wrap .i64 ((pre.length : Int) + 1) = ((pre ++ [x]).length : Int) := step_pre pre x r (by rw [← hp]; omega)
      have hpl : pre.length ≤ 1000 := by rw [hp] at hl; simp at hl; omega
      rw [List.map_append, List.map_append, List.map_cons, List.map_cons, List.map_nil, List.map_nil, owI_snoc, owI_snoc] at ih
      rw [← ih]
      clear ih
      have d1 : decide (0 ≤ x ∧ x < (w.length : Int)) = true := by simpa [inOwn] using x1
      have d2 : decide (0 ≤ x ∧ x < (own.length : Int)) = true := by simpa [inOwn] using x2
      have g1 : ∀ {γ : Type} (k : D → Option γ), cellK (ints w) (Int.toNat x * 1) k = k (.int .i64 (rkV w x)) := fun k => ints_get x1 k
      have g2 : ∀ {γ : Type} (k : D → Option γ), cellK (ints own) (Int.toNat x * 1) k = k (.int .i64 (rkV own x)) := fun k => ints_get x2 k
      cases w with
      | nil => exact absurd h0 (Nat.lt_irrefl _)
      | cons w0 ws =>
        rw [List.length_cons] at d1
        cases pre with
        | nil =>
          rw [owI_cons, List.map_nil, List.map_nil, owI_nil, F72_16378_eqonno, hlt, ifK_true, hin, chkK_true, hc, intK_int, d1, chkK_true, g1, intK_int, d2, chkK_true, g2, intK_int, hst]
          rfl
        | cons y ys =>
          rw [owI_cons, List.map_cons, List.map_cons, owI_cons, owI_cons, F72_16378_eqoooo, hlt, ifK_true, hin, chkK_true, hc, intK_int, d1, chkK_true, g1, intK_int, roomK (by simp at hpl ⊢; omega), chkK_true, d2, chkK_true, g2, intK_int, roomK (by simp at hpl ⊢; omega), chkK_true, hst]
          rfl
end
end Go.Pd
end

section
namespace Go.Pd
open Go Go.Proofs Go.RowKit
set_option maxRecDepth 100000
/-- All lists of net strokes, of any player. -/
def fam119 : Fam := ⟨119, {l : List NetV // l.length ≤ 1000}, fun l => [slR netD l.1], fun l => .bool (allB l.1)⟩
theorem fam119_good : fam119.Good := ⟨fun l => ok119 (f := l.1.isEmpty) l.1 l.2, fun x y h => by
  simp only [fam119, List.cons.injEq, and_true] at h
  show D.bool (allB x.1) = .bool (allB y.1)
  rw [slN_inj h], fun _ => rfl⟩
/-- Those who counted, in order of their ranks. -/
def srtV (n : Nat) (S : Nat → Int) (l : List PlV) : List Int := bkGo (rkV (ranksV (rowGo n S l))) (upI (rowGo n S l).length 0) 1 (rowGo n S l).length
def ldOut (n : Nat) (S : Nat → Int) (l : List PlV) : List Int := (srtV n S l).map (rkV (whoGo n S l 0))
def ldPl (n : Nat) (S : Nat → Int) (l : List PlV) : List Int := (srtV n S l).map (rkV (ranksV (rowGo n S l)))
def ledR (n : Nat) (P S : Nat → Int) (l : List PlV) : D := ifK (fldErr n P S l != 0) (.tup [slI [], slI [], .int .i64 (fldErr n P S l)]) (.tup [slI (ldOut n S l), slI (ldPl n S l), .int .i64 0])
theorem row_mem {n : Nat} {S : Nat → Int} : ∀ {l : List PlV} {x : List Int}, x ∈ rowGo n S l → ∃ p ∈ l, x = stI n S p
  | [], x, h => by cases h
  | p :: r, x, h => by
    unfold rowGo at h
    cases hq : allB (ntP n S p) with
    | true =>
      rw [hq, ifK_true] at h
      rcases List.mem_cons.1 h with rfl | h
      · exact ⟨p, by simp, rfl⟩
      · obtain ⟨y, h1, h2⟩ := row_mem h
        exact ⟨y, by simp [h1], h2⟩
    | false =>
      rw [hq, ifK_false] at h
      obtain ⟨y, h1, h2⟩ := row_mem h
      exact ⟨y, by simp [h1], h2⟩
section
variable {f g : Bool} {n : Nat} {c : List D} {P S : Nat → Int} {own0 : List Int}
theorem ntE_len {x : PlV} (h : plErr n P S x.1 x.2.1 x.2.2 = 0) : (ntP n S x).length = n := by
  unfold ntP
  rw [ntGo_len]
  exact (plErr_zero h).2.2.1
theorem stI_ok {x : PlV} (h : plErr n P S x.1 x.2.1 x.2.2 = 0) : (stI n S x).length = n ∧ BndL (stI n S x) := by
  obtain ⟨⟨a1, a2, _⟩, ⟨a4, a5⟩, a6, a7⟩ := plErr_zero h
  refine ⟨by unfold stI; rw [List.length_map]; exact ntE_len h, fun y hy => ?_⟩
  obtain ⟨z, hz, rfl⟩ := List.mem_map.1 hy
  have := ntGo_b (gvH_b a1 a2 a4 a5) x.2.1 0 a7 z hz
  exact ⟨by omega, by omega⟩
theorem rows_same {l : List PlV} (hv : ∀ x ∈ l, plErr n P S x.1 x.2.1 x.2.2 = 0) : sameLen n (rowGo n S l) := fun x hx => by
  obtain ⟨p, h1, rfl⟩ := row_mem hx
  exact stI_ok (hv p h1)
/-- What the order holds. -/
theorem srt_in (n : Nat) (S : Nat → Int) (l : List PlV) : ∀ x ∈ upI (rowGo n S l).length 0, inOwn (whoGo n S l 0) x ∧ inOwn (ranksV (rowGo n S l)) x ∧ 1 ≤ rkV (ranksV (rowGo n S l)) x ∧ rkV (ranksV (rowGo n S l)) x < 1 + ((rowGo n S l).length : Int) := fun x hx => by
  have h := upI_mem _ _ x hx
  have h1 := (who_len n S l 0).1
  have h2 : inOwn (ranksV (rowGo n S l)) x := ⟨by omega, by simp [ranksV]; omega⟩
  exact ⟨⟨by omega, by omega⟩, h2, ranks_b (rkV_mem h2)⟩
theorem srt_mem (n : Nat) (S : Nat → Int) (l : List PlV) : ∀ x ∈ srtV n S l, inOwn (whoGo n S l 0) x ∧ inOwn (ranksV (rowGo n S l)) x :=
  bk_mem (P := fun x => inOwn (whoGo n S l 0) x ∧ inOwn (ranksV (rowGo n S l)) x) (fun x hx => ⟨(srt_in n S l x hx).1, (srt_in n S l x hx).2.1⟩) _ _
theorem srt_len (n : Nat) (S : Nat → Int) (l : List PlV) : (srtV n S l).length = (rowGo n S l).length := by
  unfold srtV
  rw [bk_len _ fun x hx => (srt_in n S l x hx).2.2, upI_len]
theorem fld_zero {l : List PlV} (h : fldErr n P S l = 0) : l.length ≤ 200 ∧ ∀ x ∈ l, plErr n P S x.1 x.2.1 x.2.2 = 0 := by
  unfold fldErr at h
  cases h0 : fld0 n P S l != 0 with
  | true =>
    rw [h0, ifK_true] at h
    rw [h] at h0
    cases h0
  | false =>
    rw [h0, ifK_false] at h
    refine ⟨?_, pls_zero h⟩
    unfold fld0 fst2 at h0
    cases hh : holesErr n P S != 0 with
    | true => rw [hh, ifK_true, hh] at h0; cases h0
    | false =>
      rw [hh, ifK_false] at h0
      cases hl : decide ((l.length : Int) > 200) with
      | true => rw [hl, ifK_true] at h0; cases h0
      | false =>
        simp only [decide_eq_false_iff_not] at hl
        omega
theorem ok149n : OK5 149 [.nils, .int .i64 0, clo f own0] (.tup []) := by
  have h176 : OK5 176 [.nils, .int .i64 0, .int .i64 0, clo f own0] (.tup []) := fnT none_ok Tryz.func176 (ord := O0) (N := N176) (by kernel_rfl) (F176_nil _ _ _ _)
  obtain ⟨B, hb, t176, _⟩ := exF [one 176 [.nils, .int .i64 0, .int .i64 0, clo f own0] (.tup [])] ⟨one_good h176 rfl, trivial⟩ rfl
  refine fnT hb Tryz.func149 (ord := O0) (N := N149) (by kernel_rfl) ((F149_nil _ _ _ _).trans ?_)
  have := t176 ()
  rw [show callOf B 176 [.nils, .int .i64 0, .int .i64 0, .fn (.func 121) [] [.snap [.slc f own0.length (ints own0)] 0]] = some (.tup []) from this]
  rfl
theorem ok120n : OK5 120 [.nils, clo f own0] (.tup []) := by
  obtain ⟨B, hb, t149, _⟩ := exF [one 149 [.nils, .int .i64 0, clo f own0] (.tup [])] ⟨one_good ok149n rfl, trivial⟩ rfl
  refine fnT hb Tryz.func120 (ord := O0) (N := N0) (by kernel_rfl) ((F120_nil _ _ _ _).trans ?_)
  have := t149 ()
  rw [show callOf B 149 [.nils, .int .i64 0, .fn (.func 121) [] [.snap [.slc f own0.length (ints own0)] 0]] = some (.tup []) from this]
  rfl
theorem ok104n : OK5 104 [.nils] (.slc true 0 []) :=
  CallOK.canon (fnT none_ok Tryz.func104 (ord := O0) (N := N104) (by kernel_rfl) ((F104_eq _ _ _ true 0 []).trans (F104_58_eqn _ _ _ (LL - 1) _ _ _ _ _)))
theorem ok104a {l : List (List Int)} {k : Nat} (hk : k ≤ 1000) (hs : sameLen k l) (hl : l.length ≤ 1000) : OK5 104 [argL l] (slI (ranksV l)) := by
  cases l with
  | nil => exact ok104n
  | cons x l =>
    have := ok104 (f := false) hk hs hl (by simp)
    have e : slI (ranksV (x :: l)) = .slc false (x :: l).length (ints (ranksV (x :: l))) := by
      show D.slc false ((l.map _).length + 1) _ = _
      rw [List.length_map]
      rfl
    rw [e]
    exact this
/-- Leaders. -/
theorem ok72 (hc : HolesC n c P S) (l : List PlV) (hl : l.length ≤ 203 ∧ (200 < l.length ∨ l.length ≤ 8)) (hs : ∀ x ∈ l, x.1.size ≤ 60 ∧ x.2.1.length ≤ 39) : OK5 72 [.agg [.slc f n c, .slc g l.length (l.flatMap plC)]] (ledR n P S l) := by
  have h73 := ok73 (f := f) (g := g) hc l (by omega) hs
  unfold ledR
  cases hz : fldErr n P S l != 0 with
  | true =>
    obtain ⟨B, hb, t73, _⟩ := exF [one 73 [.agg [.slc f n c, .slc g l.length (l.flatMap plC)]] (.int .i64 (fldErr n P S l))] ⟨one_good h73 rfl, trivial⟩ rfl
    have t73 : callOf B 73 [.agg [.slc f n c, .slc g l.length (l.flatMap plC)]] = some (.int .i64 (fldErr n P S l)) := t73 ()
    refine fnU hb noMu_ok Tryz.func72 (ord := O72) (N := N72) (by kernel_rfl) ((F72_eq _ _ _ _ _ _ _ _ _ _).trans ?_)
    rw [t73, optK_some, intK_int, hz, ifK_true]
    rfl
  | false =>
    have hz0 : fldErr n P S l = 0 := by simpa using hz
    obtain ⟨h200, hv⟩ := fld_zero hz0
    have hN : ∀ x ∈ l, 0 < (ntP n S x).length ∧ (ntP n S x).length ≤ 1000 := fun x hx => by
      have := (plErr_zero (hv x hx)).1
      rw [ntE_len (hv x hx)]
      omega
    have hn : l ≠ [] → n ≤ 36 := fun h => by
      cases l with
      | nil => exact absurd rfl h
      | cons x r => exact (plErr_zero (hv x (by simp))).1.2.1
    have hrl := who_len n S l 0
    have h104 : OK5 104 [argL (rowGo n S l)] (slI (ranksV (rowGo n S l))) := by
      cases l with
      | nil => exact ok104n
      | cons x r => exact ok104a (k := n) (by have := hn (by simp); omega) (rows_same hv) (by omega)
    obtain ⟨B, hb, t73, t89, t119, t104, t120, _⟩ := exF [one 73 [.agg [.slc f n c, .slc g l.length (l.flatMap plC)]] (.int .i64 (fldErr n P S l)), famPr 89 (.slc f n c) l fun x => slR netD (ntP n S x), fam119, one 104 [argL (rowGo n S l)] (slI (ranksV (rowGo n S l))), one 120 [.nils, clo true []] (.tup [])]
      ⟨one_good h73 rfl, famPr_good (fun x hx => ok89p hc (hv x hx)) (fun _ => rfl), fam119_good, one_good h104 rfl, one_good ok120n rfl, trivial⟩ rfl
    have t73 : callOf B 73 [.agg [.slc f n c, .slc g l.length (l.flatMap plC)]] = some (.int .i64 (fldErr n P S l)) := t73 ()
    have t104 : callOf B 104 [argL (rowGo n S l)] = some (slI (ranksV (rowGo n S l))) := t104 ()
    have t120 : callOf B 120 [.nils, .fn (.func 121) [] [.snap [.slc true 0 []] 0]] = some (.tup []) := t120 ()
    have key : ∀ mu, evFnT (TEm (callOf B) mu LL C1) O72 N72 FinM.canon Tryz.f72 [.agg [.slc f n c, .slc g l.length (l.flatMap plC)]] = end72 (callOf B) mu (LL - l.length - 1) (whoGo n S l 0) (rowGo n S l) := fun mu => by
      refine (F72_eq _ _ _ _ _ _ _ _ _ _).trans ?_
      rw [t73, optK_some, intK_int, hz, ifK_false]
      exact go72 (S := S) (k := LL - l.length - 1) (fun x hx => t89 ⟨x, hx⟩) (fun q hq => t119 ⟨q, hq⟩) hN (by omega) l [] LL [] [] rfl (by unfold LL; omega) (Nat.le_refl _) rfl
    have hsm := srt_mem n S l
    have hsl := srt_len n S l
    have hsi := srt_in n S l
    unfold ldOut ldPl
    unfold srtV at hsm hsl ⊢
    generalize rowGo n S l = R at *
    generalize whoGo n S l 0 = W at *
    obtain ⟨hrl, hwl⟩ := hrl
    cases R with
    | nil =>
      cases W with
      | cons _ _ => cases hrl
      | nil =>
        refine fnU hb noMu_ok Tryz.func72 (ord := O72) (N := N72) (by kernel_rfl) ((key _).trans ?_)
        unfold end72
        rw [t104, optK_some]
        show F72_2042 (callOf B) noMu LL C1 _ LL .nil .nil 0 0 true 0 [] = _
        refine (F72_2042_eqnn _ _ _ _ _ (LL - 1) _ _ _ _ _).trans ?_
        rw [show decide ((0 : Int) < 0) = false from rfl, ifK_false, t120, optK_some]
        show F72_16378 (callOf B) noMu LL C1 (LL - l.length - 1) (LL - 1) LL true 0 [] .nil .nil .nil .nil 0 0 = _
        exact F72_16378_eqnnnn _ _ _ _ _ _ (LL - 1) _ _ _ _ _
    | cons x R =>
      have hmu := oneMu_ok rfl (mc120 (f := false) (own := ranksV (x :: R)) (M := (x :: R).length) (l := upI (x :: R).length 0) (fun y hy => (hsi y hy).2) (by rw [upI_len]; omega) (by intro h; cases h))
      refine fnU hb hmu Tryz.func72 (ord := O72) (N := N72) (by kernel_rfl) ((key _).trans ?_)
      have hat := oneMu_at (k := 120) (cs := ints (upI (x :: R).length 0)) (len := (upI (x :: R).length 0).length) (rest := [clo false (ranksV (x :: R))]) (cs' := ints (bkGo (rkV (ranksV (x :: R))) (upI (x :: R).length 0) 1 (x :: R).length))
      generalize hM : oneMu 120 (ints (upI (x :: R).length 0)) (upI (x :: R).length 0).length [clo false (ranksV (x :: R))] (ints (bkGo (rkV (ranksV (x :: R))) (upI (x :: R).length 0) 1 (x :: R).length)) = M at *
      rw [upI_len, ← hrl] at hat
      rw [← hrl] at hsl hsm ⊢
      unfold end72
      rw [t104, optK_some]
      show F72_2042 (callOf B) M LL C1 _ LL (owI W) .nil (W.length : Int) 0 false (ranksV (x :: R)).length (ints (ranksV (x :: R))) = _
      have h0 : 0 < W.length := by rw [hrl]; simp
      have g1 := go2042 (call := callOf B) (mu := M) (fo := false) (k0 := LL - l.length - 1) (k1 := LL - W.length - 1) (own := ranksV (x :: R)) h0 (by omega) hat hsl W.length 0 LL (by omega) (by unfold LL; omega)
      refine g1.trans ?_
      have g2 := go16378 (call := callOf B) (mu := M) (fo := false) (k0 := LL - l.length - 1) (k1 := LL - W.length - 1) h0 hsm (by rw [hsl]; omega) (by rw [hsl]; exact h0) _ [] LL rfl (by rw [hsl]; unfold LL; omega)
      rw [hsl] at g2
      exact g2
end
end Go.Pd
end

section
namespace Go.Pd
open Go Go.Proofs
set_option maxRecDepth 100000
def N74 : NTab := fun p => match p with
  | 122 => some { keep := [1, 4, 5, 6], kl := [58, 93, 97], ren := [(1, 1), (58, 58), (62, 62), (66, 66), (93, 93), (97, 97)] }
  | 1018 => some { keep := [4, 12, 13, 14, 15], kl := [1, 58, 66], ren := [(1, 1), (58, 58), (62, 62), (66, 66), (93, 93), (97, 97)] }
  | 65170 => some { keep := [4, 12, 13, 14, 15, 16], kl := [1, 58, 66], ren := [(1, 1), (58, 58), (62, 62), (66, 66), (93, 93), (97, 97)] }
  | 250490 => some { keep := [1, 4, 5, 6, 9, 10, 11], kl := [93, 97], ren := [(1, 1), (58, 58), (62, 62), (66, 66), (93, 93), (97, 97)] }
  | _ => none
noncomputable def F74_250490 (call : FuncId → List D → Option D) (L : Nat) (C : Nat → Nat) (n : Nat) (n_4 : Nat) (vi : Int) (vf0_f : Bool) (vf0_n : Nat) (vf0_c : List D) (vf1_f : Bool) (vf1_n : Nat) (vf1_c : List D) (vwho_1 : Ow) (vlists_1 : Ow) (vl : Ow) (vnets_f : Bool) (vnets_n : Nat) (vnets_c : List D) (vk : Int) : Option D :=
  loopAt (TEf call L C) O0 N74 FinM.canon Tryz.f74 [true, true, true, false, true, false, false, true, false, false, true, true, true, true, false, true, false] [n]  n_4 (St.mk [J, D.loc 1 0 0, J, J, ownD 62 vwho_1, ownD 66 vlists_1, D.int IntKind.i64 vi, J, J, ownD 58 vl, D.slc vnets_f vnets_n vnets_c, D.int IntKind.i64 vk, J, J, J, J, J, J, J, J, J, J, J, J, J, J, J, J, J, J, J, J, J, J, J, J, J, J, J, J, J, J, J, J, J, J, J, J, J, J, J, J, J, J, J, J, J, J, J, J, J, J, J, J, J, J, J, J, J, J, J, J, J, J, J, J, J, J, J, J, J, J, J, J, J, J, J, J, J, J, J, J, J, J, J, J, J, J, J, J] [Z, (1, some (Ob.box [D.slc vf0_f vf0_n vf0_c, D.slc vf1_f vf1_n vf1_c] false)), Z, Z, Z, Z, Z, Z, Z, Z, Z, Z, Z, Z, Z, Z, Z, Z, Z, Z, Z, Z, Z, Z, Z, Z, Z, Z, Z, Z, Z, Z, Z, Z, Z, Z, Z, Z, Z, Z, Z, Z, Z, Z, Z, Z, Z, Z, Z, Z, Z, Z, Z, Z, Z, Z, Z, Z, ownO 3 1 vl, Z, Z, Z, ownO 3 1 vwho_1, Z, Z, Z, ownO 25 1 vlists_1, Z, Z, Z, Z, Z, Z, Z, Z, Z, Z, Z, Z, Z, Z, Z, Z, Z, Z, Z, Z, Z, Z, Z, Z, Z, Z, Z, Z, Z, Z, Z, Z, Z])
noncomputable def F74_65170 (call : FuncId → List D → Option D) (L : Nat) (C : Nat → Nat) (n_6 : Nat) (n_7 : Nat) (vranks_f : Bool) (vranks_n : Nat) (vranks_c : List D) (vn : Int) (vwho_3 : Ow) (vorder_1 : Ow) (vsortedRanks_1 : Ow) (vi_1 : Int) : Option D :=
  loopAt (TEf call L C) O0 N74 FinM.canon Tryz.f74 [true, true, true, true, true, true, false, true, false, false, true, false, false, true, false] [n_6]  n_7 (St.mk [J, J, J, J, ownD 62 vwho_3, J, J, J, J, J, J, J, D.slc vranks_f vranks_n vranks_c, ownD 93 vorder_1, ownD 97 vsortedRanks_1, D.int IntKind.i64 vn, D.int IntKind.i64 vi_1, J, J, J, J, J, J, J, J, J, J, J, J, J, J, J, J, J, J, J, J, J, J, J, J, J, J, J, J, J, J, J, J, J, J, J, J, J, J, J, J, J, J, J, J, J, J, J, J, J, J, J, J, J, J, J, J, J, J, J, J, J, J, J, J, J, J, J, J, J, J, J, J, J, J, J, J, J, J, J, J, J, J, J] [Z, Z, Z, Z, Z, Z, Z, Z, Z, Z, Z, Z, Z, Z, Z, Z, Z, Z, Z, Z, Z, Z, Z, Z, Z, Z, Z, Z, Z, Z, Z, Z, Z, Z, Z, Z, Z, Z, Z, Z, Z, Z, Z, Z, Z, Z, Z, Z, Z, Z, Z, Z, Z, Z, Z, Z, Z, Z, Z, Z, Z, Z, ownO 3 1 vwho_3, Z, Z, Z, Z, Z, Z, Z, Z, Z, Z, Z, Z, Z, Z, Z, Z, Z, Z, Z, Z, Z, Z, Z, Z, Z, Z, Z, Z, Z, Z, ownO 3 1 vorder_1, Z, Z, Z, ownO 3 1 vsortedRanks_1, Z, Z])
noncomputable def F74_1018 (call : FuncId → List D → Option D) (L : Nat) (C : Nat → Nat) (n_6 : Nat) (vwho_2 : Ow) (vranks_f : Bool) (vranks_n : Nat) (vranks_c : List D) (vorder : Ow) (vsortedRanks : Ow) (vn : Int) : Option D :=
  loopAt (TEf call L C) O0 N74 FinM.canon Tryz.f74 [true, true, true, true, true, true, false, true, false] []  n_6 (St.mk [J, J, J, J, ownD 62 vwho_2, J, J, J, J, J, J, J, D.slc vranks_f vranks_n vranks_c, ownD 93 vorder, ownD 97 vsortedRanks, D.int IntKind.i64 vn, J, J, J, J, J, J, J, J, J, J, J, J, J, J, J, J, J, J, J, J, J, J, J, J, J, J, J, J, J, J, J, J, J, J, J, J, J, J, J, J, J, J, J, J, J, J, J, J, J, J, J, J, J, J, J, J, J, J, J, J, J, J, J, J, J, J, J, J, J, J, J, J, J, J, J, J, J, J, J, J, J, J, J, J] [Z, Z, Z, Z, Z, Z, Z, Z, Z, Z, Z, Z, Z, Z, Z, Z, Z, Z, Z, Z, Z, Z, Z, Z, Z, Z, Z, Z, Z, Z, Z, Z, Z, Z, Z, Z, Z, Z, Z, Z, Z, Z, Z, Z, Z, Z, Z, Z, Z, Z, Z, Z, Z, Z, Z, Z, Z, Z, Z, Z, Z, Z, ownO 3 1 vwho_2, Z, Z, Z, Z, Z, Z, Z, Z, Z, Z, Z, Z, Z, Z, Z, Z, Z, Z, Z, Z, Z, Z, Z, Z, Z, Z, Z, Z, Z, Z, ownO 3 1 vorder, Z, Z, Z, ownO 3 1 vsortedRanks, Z, Z])
noncomputable def F74_122 (call : FuncId → List D → Option D) (L : Nat) (C : Nat → Nat) (n : Nat) (vf0_f : Bool) (vf0_n : Nat) (vf0_c : List D) (vf1_f : Bool) (vf1_n : Nat) (vf1_c : List D) (vwho : Ow) (vlists : Ow) (vi : Int) : Option D :=
  loopAt (TEf call L C) O0 N74 FinM.canon Tryz.f74 [true, true, true, false, true, false] []  n (St.mk [J, D.loc 1 0 0, J, J, ownD 62 vwho, ownD 66 vlists, D.int IntKind.i64 vi, J, J, J, J, J, J, J, J, J, J, J, J, J, J, J, J, J, J, J, J, J, J, J, J, J, J, J, J, J, J, J, J, J, J, J, J, J, J, J, J, J, J, J, J, J, J, J, J, J, J, J, J, J, J, J, J, J, J, J, J, J, J, J, J, J, J, J, J, J, J, J, J, J, J, J, J, J, J, J, J, J, J, J, J, J, J, J, J, J, J, J, J, J] [Z, (1, some (Ob.box [D.slc vf0_f vf0_n vf0_c, D.slc vf1_f vf1_n vf1_c] false)), Z, Z, Z, Z, Z, Z, Z, Z, Z, Z, Z, Z, Z, Z, Z, Z, Z, Z, Z, Z, Z, Z, Z, Z, Z, Z, Z, Z, Z, Z, Z, Z, Z, Z, Z, Z, Z, Z, Z, Z, Z, Z, Z, Z, Z, Z, Z, Z, Z, Z, Z, Z, Z, Z, Z, Z, Z, Z, Z, Z, ownO 3 1 vwho, Z, Z, Z, ownO 25 1 vlists, Z, Z, Z, Z, Z, Z, Z, Z, Z, Z, Z, Z, Z, Z, Z, Z, Z, Z, Z, Z, Z, Z, Z, Z, Z, Z, Z, Z, Z, Z, Z, Z, Z])
theorem F74_250490_eqnnn (call : FuncId → List D → Option D) (L : Nat) (C : Nat → Nat) (n : Nat) (n_4 : Nat) (vi : Int) (vf0_f : Bool) (vf0_n : Nat) (vf0_c : List D) (vf1_f : Bool) (vf1_n : Nat) (vf1_c : List D) (vnets_f : Bool) (vnets_n : Nat) (vnets_c : List D) (vk : Int) : F74_250490 call L C n (n_4 + 1) vi vf0_f vf0_n vf0_c vf1_f vf1_n vf1_c (Ow.nil) (Ow.nil) (Ow.nil) (vnets_f) (vnets_n) (vnets_c) (vk) =
  (ifK (decide (vk < (vnets_n : Int)))
    (chkK (decide (0 ≤ vk ∧ vk < (vnets_n : Int)))
      (cellK (vnets_c) (Int.toNat vk * 2 + 0) fun d_8 =>
      (intK IntKind.i64 (d_8) fun x_3 =>
      (F74_250490 call L C n n_4 vi vf0_f vf0_n vf0_c vf1_f vf1_n vf1_c (Ow.nil) (Ow.nil) (Ow.own 1 [D.int IntKind.i64 x_3]) (vnets_f) (vnets_n) (vnets_c) (IntKind.wrap IntKind.i64 (vk + 1))))))
    (F74_122 call L C n vf0_f vf0_n vf0_c vf1_f vf1_n vf1_c (Ow.own 1 [D.int IntKind.i64 vi]) (Ow.own 1 [D.nils]) (IntKind.wrap IntKind.i64 (vi + 1)))) := by kernel_rfl
theorem F74_250490_eqnno (call : FuncId → List D → Option D) (L : Nat) (C : Nat → Nat) (n : Nat) (n_4 : Nat) (vi : Int) (vf0_f : Bool) (vf0_n : Nat) (vf0_c : List D) (vf1_f : Bool) (vf1_n : Nat) (vf1_c : List D) (vl_n : Nat) (vl_c : List D) (vnets_f : Bool) (vnets_n : Nat) (vnets_c : List D) (vk : Int) : F74_250490 call L C n (n_4 + 1) vi vf0_f vf0_n vf0_c vf1_f vf1_n vf1_c (Ow.nil) (Ow.nil) (Ow.own vl_n vl_c) (vnets_f) (vnets_n) (vnets_c) (vk) =
  (ifK (decide (vk < (vnets_n : Int)))
    (chkK (decide (0 ≤ vk ∧ vk < (vnets_n : Int)))
      (cellK (vnets_c) (Int.toNat vk * 2 + 0) fun d_9 =>
      (intK IntKind.i64 (d_9) fun x_4 =>
      (chkK (decide ((vl_n + 1) * 8 ≤ limit ∧ vl_n + 1 ≤ 9223372036854775807))
        (F74_250490 call L C n n_4 vi vf0_f vf0_n vf0_c vf1_f vf1_n vf1_c (Ow.nil) (Ow.nil) (Ow.own (vl_n + 1) (vl_c ++ [D.int IntKind.i64 x_4])) (vnets_f) (vnets_n) (vnets_c) (IntKind.wrap IntKind.i64 (vk + 1)))))))
    (F74_122 call L C n vf0_f vf0_n vf0_c vf1_f vf1_n vf1_c (Ow.own 1 [D.int IntKind.i64 vi]) (Ow.own 1 [D.slc false vl_n vl_c]) (IntKind.wrap IntKind.i64 (vi + 1)))) := by kernel_rfl
theorem F74_250490_eqnon (call : FuncId → List D → Option D) (L : Nat) (C : Nat → Nat) (n : Nat) (n_4 : Nat) (vi : Int) (vf0_f : Bool) (vf0_n : Nat) (vf0_c : List D) (vf1_f : Bool) (vf1_n : Nat) (vf1_c : List D) (vlists_1_n : Nat) (vlists_1_c : List D) (vnets_f : Bool) (vnets_n : Nat) (vnets_c : List D) (vk : Int) : F74_250490 call L C n (n_4 + 1) vi vf0_f vf0_n vf0_c vf1_f vf1_n vf1_c (Ow.nil) (Ow.own vlists_1_n vlists_1_c) (Ow.nil) (vnets_f) (vnets_n) (vnets_c) (vk) =
  (ifK (decide (vk < (vnets_n : Int)))
    (chkK (decide (0 ≤ vk ∧ vk < (vnets_n : Int)))
      (cellK (vnets_c) (Int.toNat vk * 2 + 0) fun d_10 =>
      (intK IntKind.i64 (d_10) fun x_5 =>
      (F74_250490 call L C n n_4 vi vf0_f vf0_n vf0_c vf1_f vf1_n vf1_c (Ow.nil) (Ow.own vlists_1_n vlists_1_c) (Ow.own 1 [D.int IntKind.i64 x_5]) (vnets_f) (vnets_n) (vnets_c) (IntKind.wrap IntKind.i64 (vk + 1))))))
    (chkK (decide ((vlists_1_n + 1) * 24 ≤ limit ∧ vlists_1_n + 1 ≤ 9223372036854775807))
      (F74_122 call L C n vf0_f vf0_n vf0_c vf1_f vf1_n vf1_c (Ow.own 1 [D.int IntKind.i64 vi]) (Ow.own (vlists_1_n + 1) (vlists_1_c ++ [D.nils])) (IntKind.wrap IntKind.i64 (vi + 1))))) := by kernel_rfl
theorem F74_250490_eqnoo (call : FuncId → List D → Option D) (L : Nat) (C : Nat → Nat) (n : Nat) (n_4 : Nat) (vi : Int) (vf0_f : Bool) (vf0_n : Nat) (vf0_c : List D) (vf1_f : Bool) (vf1_n : Nat) (vf1_c : List D) (vlists_1_n : Nat) (vlists_1_c : List D) (vl_n_1 : Nat) (vl_c_1 : List D) (vnets_f : Bool) (vnets_n : Nat) (vnets_c : List D) (vk : Int) : F74_250490 call L C n (n_4 + 1) vi vf0_f vf0_n vf0_c vf1_f vf1_n vf1_c (Ow.nil) (Ow.own vlists_1_n vlists_1_c) (Ow.own vl_n_1 vl_c_1) (vnets_f) (vnets_n) (vnets_c) (vk) =
  (ifK (decide (vk < (vnets_n : Int)))
    (chkK (decide (0 ≤ vk ∧ vk < (vnets_n : Int)))
      (cellK (vnets_c) (Int.toNat vk * 2 + 0) fun d_11 =>
      (intK IntKind.i64 (d_11) fun x_6 =>
      (chkK (decide ((vl_n_1 + 1) * 8 ≤ limit ∧ vl_n_1 + 1 ≤ 9223372036854775807))
        (F74_250490 call L C n n_4 vi vf0_f vf0_n vf0_c vf1_f vf1_n vf1_c (Ow.nil) (Ow.own vlists_1_n vlists_1_c) (Ow.own (vl_n_1 + 1) (vl_c_1 ++ [D.int IntKind.i64 x_6])) (vnets_f) (vnets_n) (vnets_c) (IntKind.wrap IntKind.i64 (vk + 1)))))))
    (chkK (decide ((vlists_1_n + 1) * 24 ≤ limit ∧ vlists_1_n + 1 ≤ 9223372036854775807))
      (F74_122 call L C n vf0_f vf0_n vf0_c vf1_f vf1_n vf1_c (Ow.own 1 [D.int IntKind.i64 vi]) (Ow.own (vlists_1_n + 1) (vlists_1_c ++ [D.slc false vl_n_1 vl_c_1])) (IntKind.wrap IntKind.i64 (vi + 1))))) := by kernel_rfl
theorem F74_250490_eqonn (call : FuncId → List D → Option D) (L : Nat) (C : Nat → Nat) (n : Nat) (n_4 : Nat) (vi : Int) (vf0_f : Bool) (vf0_n : Nat) (vf0_c : List D) (vf1_f : Bool) (vf1_n : Nat) (vf1_c : List D) (vwho_1_n : Nat) (vwho_1_c : List D) (vnets_f : Bool) (vnets_n : Nat) (vnets_c : List D) (vk : Int) : F74_250490 call L C n (n_4 + 1) vi vf0_f vf0_n vf0_c vf1_f vf1_n vf1_c (Ow.own vwho_1_n vwho_1_c) (Ow.nil) (Ow.nil) (vnets_f) (vnets_n) (vnets_c) (vk) =
  (ifK (decide (vk < (vnets_n : Int)))
    (chkK (decide (0 ≤ vk ∧ vk < (vnets_n : Int)))
      (cellK (vnets_c) (Int.toNat vk * 2 + 0) fun d_12 =>
      (intK IntKind.i64 (d_12) fun x_7 =>
      (F74_250490 call L C n n_4 vi vf0_f vf0_n vf0_c vf1_f vf1_n vf1_c (Ow.own vwho_1_n vwho_1_c) (Ow.nil) (Ow.own 1 [D.int IntKind.i64 x_7]) (vnets_f) (vnets_n) (vnets_c) (IntKind.wrap IntKind.i64 (vk + 1))))))
    (chkK (decide ((vwho_1_n + 1) * 8 ≤ limit ∧ vwho_1_n + 1 ≤ 9223372036854775807))
      (F74_122 call L C n vf0_f vf0_n vf0_c vf1_f vf1_n vf1_c (Ow.own (vwho_1_n + 1) (vwho_1_c ++ [D.int IntKind.i64 vi])) (Ow.own 1 [D.nils]) (IntKind.wrap IntKind.i64 (vi + 1))))) := by kernel_rfl
theorem F74_250490_eqono (call : FuncId → List D → Option D) (L : Nat) (C : Nat → Nat) (n : Nat) (n_4 : Nat) (vi : Int) (vf0_f : Bool) (vf0_n : Nat) (vf0_c : List D) (vf1_f : Bool) (vf1_n : Nat) (vf1_c : List D) (vwho_1_n : Nat) (vwho_1_c : List D) (vl_n_2 : Nat) (vl_c_2 : List D) (vnets_f : Bool) (vnets_n : Nat) (vnets_c : List D) (vk : Int) : F74_250490 call L C n (n_4 + 1) vi vf0_f vf0_n vf0_c vf1_f vf1_n vf1_c (Ow.own vwho_1_n vwho_1_c) (Ow.nil) (Ow.own vl_n_2 vl_c_2) (vnets_f) (vnets_n) (vnets_c) (vk) =
  (ifK (decide (vk < (vnets_n : Int)))
    (chkK (decide (0 ≤ vk ∧ vk < (vnets_n : Int)))
      (cellK (vnets_c) (Int.toNat vk * 2 + 0) fun d_13 =>
      (intK IntKind.i64 (d_13) fun x_8 =>
      (chkK (decide ((vl_n_2 + 1) * 8 ≤ limit ∧ vl_n_2 + 1 ≤ 9223372036854775807))
        (F74_250490 call L C n n_4 vi vf0_f vf0_n vf0_c vf1_f vf1_n vf1_c (Ow.own vwho_1_n vwho_1_c) (Ow.nil) (Ow.own (vl_n_2 + 1) (vl_c_2 ++ [D.int IntKind.i64 x_8])) (vnets_f) (vnets_n) (vnets_c) (IntKind.wrap IntKind.i64 (vk + 1)))))))
    (chkK (decide ((vwho_1_n + 1) * 8 ≤ limit ∧ vwho_1_n + 1 ≤ 9223372036854775807))
      (F74_122 call L C n vf0_f vf0_n vf0_c vf1_f vf1_n vf1_c (Ow.own (vwho_1_n + 1) (vwho_1_c ++ [D.int IntKind.i64 vi])) (Ow.own 1 [D.slc false vl_n_2 vl_c_2]) (IntKind.wrap IntKind.i64 (vi + 1))))) := by kernel_rfl
theorem F74_250490_eqoon (call : FuncId → List D → Option D) (L : Nat) (C : Nat → Nat) (n : Nat) (n_4 : Nat) (vi : Int) (vf0_f : Bool) (vf0_n : Nat) (vf0_c : List D) (vf1_f : Bool) (vf1_n : Nat) (vf1_c : List D) (vwho_1_n : Nat) (vwho_1_c : List D) (vlists_1_n_1 : Nat) (vlists_1_c_1 : List D) (vnets_f : Bool) (vnets_n : Nat) (vnets_c : List D) (vk : Int) : F74_250490 call L C n (n_4 + 1) vi vf0_f vf0_n vf0_c vf1_f vf1_n vf1_c (Ow.own vwho_1_n vwho_1_c) (Ow.own vlists_1_n_1 vlists_1_c_1) (Ow.nil) (vnets_f) (vnets_n) (vnets_c) (vk) =
  (ifK (decide (vk < (vnets_n : Int)))
    (chkK (decide (0 ≤ vk ∧ vk < (vnets_n : Int)))
      (cellK (vnets_c) (Int.toNat vk * 2 + 0) fun d_14 =>
      (intK IntKind.i64 (d_14) fun x_9 =>
      (F74_250490 call L C n n_4 vi vf0_f vf0_n vf0_c vf1_f vf1_n vf1_c (Ow.own vwho_1_n vwho_1_c) (Ow.own vlists_1_n_1 vlists_1_c_1) (Ow.own 1 [D.int IntKind.i64 x_9]) (vnets_f) (vnets_n) (vnets_c) (IntKind.wrap IntKind.i64 (vk + 1))))))
    (chkK (decide ((vwho_1_n + 1) * 8 ≤ limit ∧ vwho_1_n + 1 ≤ 9223372036854775807))
      (chkK (decide ((vlists_1_n_1 + 1) * 24 ≤ limit ∧ vlists_1_n_1 + 1 ≤ 9223372036854775807))
        (F74_122 call L C n vf0_f vf0_n vf0_c vf1_f vf1_n vf1_c (Ow.own (vwho_1_n + 1) (vwho_1_c ++ [D.int IntKind.i64 vi])) (Ow.own (vlists_1_n_1 + 1) (vlists_1_c_1 ++ [D.nils])) (IntKind.wrap IntKind.i64 (vi + 1)))))) := by kernel_rfl
theorem F74_250490_eqooo (call : FuncId → List D → Option D) (L : Nat) (C : Nat → Nat) (n : Nat) (n_4 : Nat) (vi : Int) (vf0_f : Bool) (vf0_n : Nat) (vf0_c : List D) (vf1_f : Bool) (vf1_n : Nat) (vf1_c : List D) (vwho_1_n : Nat) (vwho_1_c : List D) (vlists_1_n_1 : Nat) (vlists_1_c_1 : List D) (vl_n_3 : Nat) (vl_c_3 : List D) (vnets_f : Bool) (vnets_n : Nat) (vnets_c : List D) (vk : Int) : F74_250490 call L C n (n_4 + 1) vi vf0_f vf0_n vf0_c vf1_f vf1_n vf1_c (Ow.own vwho_1_n vwho_1_c) (Ow.own vlists_1_n_1 vlists_1_c_1) (Ow.own vl_n_3 vl_c_3) (vnets_f) (vnets_n) (vnets_c) (vk) =
  (ifK (decide (vk < (vnets_n : Int)))
    (chkK (decide (0 ≤ vk ∧ vk < (vnets_n : Int)))
      (cellK (vnets_c) (Int.toNat vk * 2 + 0) fun d_15 =>
      (intK IntKind.i64 (d_15) fun x_10 =>
      (chkK (decide ((vl_n_3 + 1) * 8 ≤ limit ∧ vl_n_3 + 1 ≤ 9223372036854775807))
        (F74_250490 call L C n n_4 vi vf0_f vf0_n vf0_c vf1_f vf1_n vf1_c (Ow.own vwho_1_n vwho_1_c) (Ow.own vlists_1_n_1 vlists_1_c_1) (Ow.own (vl_n_3 + 1) (vl_c_3 ++ [D.int IntKind.i64 x_10])) (vnets_f) (vnets_n) (vnets_c) (IntKind.wrap IntKind.i64 (vk + 1)))))))
    (chkK (decide ((vwho_1_n + 1) * 8 ≤ limit ∧ vwho_1_n + 1 ≤ 9223372036854775807))
      (chkK (decide ((vlists_1_n_1 + 1) * 24 ≤ limit ∧ vlists_1_n_1 + 1 ≤ 9223372036854775807))
        (F74_122 call L C n vf0_f vf0_n vf0_c vf1_f vf1_n vf1_c (Ow.own (vwho_1_n + 1) (vwho_1_c ++ [D.int IntKind.i64 vi])) (Ow.own (vlists_1_n_1 + 1) (vlists_1_c_1 ++ [D.slc false vl_n_3 vl_c_3])) (IntKind.wrap IntKind.i64 (vi + 1)))))) := by kernel_rfl
theorem F74_65170_eqonn (call : FuncId → List D → Option D) (L : Nat) (C : Nat → Nat) (n_6 : Nat) (n_7 : Nat) (vranks_f : Bool) (vranks_n : Nat) (vranks_c : List D) (vn : Int) (vwho_3_n : Nat) (vwho_3_c : List D) (vi_1 : Int) : F74_65170 call L C n_6 (n_7 + 1) vranks_f vranks_n vranks_c vn (Ow.own vwho_3_n vwho_3_c) (Ow.nil) (Ow.nil) (vi_1) =
  (ifK (decide (vi_1 < (vwho_3_n : Int)))
    (chkK (decide (0 ≤ vi_1 ∧ vi_1 < (vranks_n : Int)))
      (cellK (vranks_c) (Int.toNat vi_1 * 1) fun d_20 =>
      (intK IntKind.i64 (d_20) fun x_15 =>
      (ifK (x_15 == vn)
        (chkK (decide (0 ≤ vi_1 ∧ vi_1 < (vwho_3_n : Int)))
          (cellK (vwho_3_c) (Int.toNat vi_1 * 1) fun d_21 =>
          (intK IntKind.i64 (d_21) fun x_16 =>
          (F74_65170 call L C n_6 n_7 vranks_f vranks_n vranks_c vn (Ow.own vwho_3_n vwho_3_c) (Ow.own 1 [D.int IntKind.i64 x_16]) (Ow.own 1 [D.int IntKind.i64 vn]) (IntKind.wrap IntKind.i64 (vi_1 + 1))))))
        (F74_65170 call L C n_6 n_7 vranks_f vranks_n vranks_c vn (Ow.own vwho_3_n vwho_3_c) (Ow.nil) (Ow.nil) (IntKind.wrap IntKind.i64 (vi_1 + 1)))))))
    (F74_1018 call L C n_6 (Ow.own vwho_3_n vwho_3_c) (vranks_f) (vranks_n) (vranks_c) (Ow.nil) (Ow.nil) (IntKind.wrap IntKind.i64 (vn + 1)))) := by kernel_rfl
theorem F74_65170_eqooo (call : FuncId → List D → Option D) (L : Nat) (C : Nat → Nat) (n_6 : Nat) (n_7 : Nat) (vranks_f : Bool) (vranks_n : Nat) (vranks_c : List D) (vn : Int) (vwho_3_n : Nat) (vwho_3_c : List D) (vorder_1_n_1 : Nat) (vorder_1_c_1 : List D) (vsortedRanks_1_n_3 : Nat) (vsortedRanks_1_c_3 : List D) (vi_1 : Int) : F74_65170 call L C n_6 (n_7 + 1) vranks_f vranks_n vranks_c vn (Ow.own vwho_3_n vwho_3_c) (Ow.own vorder_1_n_1 vorder_1_c_1) (Ow.own vsortedRanks_1_n_3 vsortedRanks_1_c_3) (vi_1) =
  (ifK (decide (vi_1 < (vwho_3_n : Int)))
    (chkK (decide (0 ≤ vi_1 ∧ vi_1 < (vranks_n : Int)))
      (cellK (vranks_c) (Int.toNat vi_1 * 1) fun d_26 =>
      (intK IntKind.i64 (d_26) fun x_21 =>
      (ifK (x_21 == vn)
        (chkK (decide (0 ≤ vi_1 ∧ vi_1 < (vwho_3_n : Int)))
          (cellK (vwho_3_c) (Int.toNat vi_1 * 1) fun d_27 =>
          (intK IntKind.i64 (d_27) fun x_22 =>
          (chkK (decide ((vorder_1_n_1 + 1) * 8 ≤ limit ∧ vorder_1_n_1 + 1 ≤ 9223372036854775807))
            (chkK (decide ((vsortedRanks_1_n_3 + 1) * 8 ≤ limit ∧ vsortedRanks_1_n_3 + 1 ≤ 9223372036854775807))
              (F74_65170 call L C n_6 n_7 vranks_f vranks_n vranks_c vn (Ow.own vwho_3_n vwho_3_c) (Ow.own (vorder_1_n_1 + 1) (vorder_1_c_1 ++ [D.int IntKind.i64 x_22])) (Ow.own (vsortedRanks_1_n_3 + 1) (vsortedRanks_1_c_3 ++ [D.int IntKind.i64 vn])) (IntKind.wrap IntKind.i64 (vi_1 + 1))))))))
        (F74_65170 call L C n_6 n_7 vranks_f vranks_n vranks_c vn (Ow.own vwho_3_n vwho_3_c) (Ow.own vorder_1_n_1 vorder_1_c_1) (Ow.own vsortedRanks_1_n_3 vsortedRanks_1_c_3) (IntKind.wrap IntKind.i64 (vi_1 + 1)))))))
    (F74_1018 call L C n_6 (Ow.own vwho_3_n vwho_3_c) (vranks_f) (vranks_n) (vranks_c) (Ow.own vorder_1_n_1 vorder_1_c_1) (Ow.own vsortedRanks_1_n_3 vsortedRanks_1_c_3) (IntKind.wrap IntKind.i64 (vn + 1)))) := by kernel_rfl
theorem F74_1018_eqnnn (call : FuncId → List D → Option D) (L : Nat) (C : Nat → Nat) (n_6 : Nat) (vranks_f : Bool) (vranks_n : Nat) (vranks_c : List D) (vn : Int) : F74_1018 call L C  (n_6 + 1)  (Ow.nil) (vranks_f) (vranks_n) (vranks_c) (Ow.nil) (Ow.nil) (vn) =
  (ifK (decide (vn ≤ 0))
    (F74_65170 call L C n_6 L vranks_f vranks_n vranks_c vn (Ow.nil) (Ow.nil) (Ow.nil) (0))
    (some (D.tup [D.slc true 0 [], D.slc true 0 []]))) := by kernel_rfl
theorem F74_1018_eqonn (call : FuncId → List D → Option D) (L : Nat) (C : Nat → Nat) (n_6 : Nat) (vwho_2_n : Nat) (vwho_2_c : List D) (vranks_f : Bool) (vranks_n : Nat) (vranks_c : List D) (vn : Int) : F74_1018 call L C  (n_6 + 1)  (Ow.own vwho_2_n vwho_2_c) (vranks_f) (vranks_n) (vranks_c) (Ow.nil) (Ow.nil) (vn) =
  (ifK (decide (vn ≤ (vwho_2_n : Int)))
    (F74_65170 call L C n_6 L vranks_f vranks_n vranks_c vn (Ow.own vwho_2_n vwho_2_c) (Ow.nil) (Ow.nil) (0))
    (some (D.tup [D.slc true 0 [], D.slc true 0 []]))) := by kernel_rfl
theorem F74_1018_eqooo (call : FuncId → List D → Option D) (L : Nat) (C : Nat → Nat) (n_6 : Nat) (vwho_2_n : Nat) (vwho_2_c : List D) (vranks_f : Bool) (vranks_n : Nat) (vranks_c : List D) (vorder_n_1 : Nat) (vorder_c_1 : List D) (vsortedRanks_n_3 : Nat) (vsortedRanks_c_3 : List D) (vn : Int) : F74_1018 call L C  (n_6 + 1)  (Ow.own vwho_2_n vwho_2_c) (vranks_f) (vranks_n) (vranks_c) (Ow.own vorder_n_1 vorder_c_1) (Ow.own vsortedRanks_n_3 vsortedRanks_c_3) (vn) =
  (ifK (decide (vn ≤ (vwho_2_n : Int)))
    (F74_65170 call L C n_6 L vranks_f vranks_n vranks_c vn (Ow.own vwho_2_n vwho_2_c) (Ow.own vorder_n_1 vorder_c_1) (Ow.own vsortedRanks_n_3 vsortedRanks_c_3) (0))
    (some (D.tup [D.slc false vorder_n_1 vorder_c_1, D.slc false vsortedRanks_n_3 vsortedRanks_c_3]))) := by kernel_rfl
theorem F74_122_eqnn (call : FuncId → List D → Option D) (L : Nat) (C : Nat → Nat) (n : Nat) (vf0_f : Bool) (vf0_n : Nat) (vf0_c : List D) (vf1_f : Bool) (vf1_n : Nat) (vf1_c : List D) (vi : Int) : F74_122 call L C  (n + 1) vf0_f vf0_n vf0_c vf1_f vf1_n vf1_c (Ow.nil) (Ow.nil) (vi) =
  (ifK (decide (vi < (vf1_n : Int)))
    (chkK (decide (0 ≤ vi ∧ vi < (vf1_n : Int)))
      (cellK (vf1_c) (Int.toNat vi * 3 + 0) fun d =>
      (strK (d) fun s =>
      (cellK (vf1_c) (Int.toNat vi * 3 + 1) fun d_1 =>
      (slcK (d_1) fun f n_1 c =>
      (cellK (vf1_c) (Int.toNat vi * 3 + 2) fun d_2 =>
      (intK IntKind.i64 (d_2) fun x =>
      (optK (call 59 [D.slc vf0_f vf0_n vf0_c, D.agg [D.str s, D.slc f n_1 c, D.int IntKind.i64 x]]) fun r =>
        (tupK (r) 2 fun c_1 =>
        (cellK (c_1) (0) fun d_3 =>
        (intK IntKind.i64 (d_3) fun _x_1 =>
        (cellK (c_1) (1) fun d_4 =>
        (boolK (d_4) fun b =>
        (ifK (!b)
          (F74_122 call L C n vf0_f vf0_n vf0_c vf1_f vf1_n vf1_c (Ow.nil) (Ow.nil) (IntKind.wrap IntKind.i64 (vi + 1)))
          (chkK (decide (0 ≤ vi ∧ vi < (vf1_n : Int)))
            (cellK (vf1_c) (Int.toNat vi * 3 + 0) fun d_5 =>
            (strK (d_5) fun s_1 =>
            (cellK (vf1_c) (Int.toNat vi * 3 + 1) fun d_6 =>
            (slcK (d_6) fun f_1 n_2 c_2 =>
            (cellK (vf1_c) (Int.toNat vi * 3 + 2) fun d_7 =>
            (intK IntKind.i64 (d_7) fun x_2 =>
            (optK (call 26 [D.slc vf0_f vf0_n vf0_c, D.agg [D.str s_1, D.slc f_1 n_2 c_2, D.int IntKind.i64 x_2]]) fun r_1 =>
              (slcK (r_1) fun f_2 n_3 c_3 =>
              (F74_250490 call L C n L vi vf0_f vf0_n vf0_c vf1_f vf1_n vf1_c (Ow.nil) (Ow.nil) (Ow.nil) (f_2) (n_3) (c_3) (0)))))))))))))))))))))))))
    (optK (call 51 [D.nils]) fun r_2 =>
      (slcK (r_2) fun f_3 n_5 c_4 =>
      (F74_1018 call L C L (Ow.nil) (f_3) (n_5) (c_4) (Ow.nil) (Ow.nil) (1))))) := by kernel_rfl
theorem F74_122_eqoo (call : FuncId → List D → Option D) (L : Nat) (C : Nat → Nat) (n : Nat) (vf0_f : Bool) (vf0_n : Nat) (vf0_c : List D) (vf1_f : Bool) (vf1_n : Nat) (vf1_c : List D) (vwho_n : Nat) (vwho_c : List D) (vlists_n_1 : Nat) (vlists_c_1 : List D) (vi : Int) : F74_122 call L C  (n + 1) vf0_f vf0_n vf0_c vf1_f vf1_n vf1_c (Ow.own vwho_n vwho_c) (Ow.own vlists_n_1 vlists_c_1) (vi) =
  (ifK (decide (vi < (vf1_n : Int)))
    (chkK (decide (0 ≤ vi ∧ vi < (vf1_n : Int)))
      (cellK (vf1_c) (Int.toNat vi * 3 + 0) fun d_44 =>
      (strK (d_44) fun s_6 =>
      (cellK (vf1_c) (Int.toNat vi * 3 + 1) fun d_45 =>
      (slcK (d_45) fun f_12 n_16 c_15 =>
      (cellK (vf1_c) (Int.toNat vi * 3 + 2) fun d_46 =>
      (intK IntKind.i64 (d_46) fun x_29 =>
      (optK (call 59 [D.slc vf0_f vf0_n vf0_c, D.agg [D.str s_6, D.slc f_12 n_16 c_15, D.int IntKind.i64 x_29]]) fun r_9 =>
        (tupK (r_9) 2 fun c_16 =>
        (cellK (c_16) (0) fun d_47 =>
        (intK IntKind.i64 (d_47) fun _x_30 =>
        (cellK (c_16) (1) fun d_48 =>
        (boolK (d_48) fun b_3 =>
        (ifK (!b_3)
          (F74_122 call L C n vf0_f vf0_n vf0_c vf1_f vf1_n vf1_c (Ow.own vwho_n vwho_c) (Ow.own vlists_n_1 vlists_c_1) (IntKind.wrap IntKind.i64 (vi + 1)))
          (chkK (decide (0 ≤ vi ∧ vi < (vf1_n : Int)))
            (cellK (vf1_c) (Int.toNat vi * 3 + 0) fun d_49 =>
            (strK (d_49) fun s_7 =>
            (cellK (vf1_c) (Int.toNat vi * 3 + 1) fun d_50 =>
            (slcK (d_50) fun f_13 n_17 c_17 =>
            (cellK (vf1_c) (Int.toNat vi * 3 + 2) fun d_51 =>
            (intK IntKind.i64 (d_51) fun x_31 =>
            (optK (call 26 [D.slc vf0_f vf0_n vf0_c, D.agg [D.str s_7, D.slc f_13 n_17 c_17, D.int IntKind.i64 x_31]]) fun r_10 =>
              (slcK (r_10) fun f_14 n_18 c_18 =>
              (F74_250490 call L C n L vi vf0_f vf0_n vf0_c vf1_f vf1_n vf1_c (Ow.own vwho_n vwho_c) (Ow.own vlists_n_1 vlists_c_1) (Ow.nil) (f_14) (n_18) (c_18) (0)))))))))))))))))))))))))
    (optK (call 51 [D.slc false vlists_n_1 vlists_c_1]) fun r_11 =>
      (slcK (r_11) fun f_15 n_19 c_19 =>
      (F74_1018 call L C L (Ow.own vwho_n vwho_c) (f_15) (n_19) (c_19) (Ow.nil) (Ow.nil) (1))))) := by kernel_rfl
theorem F74_eq (call : FuncId → List D → Option D) (L : Nat) (C : Nat → Nat) (vf0_f : Bool) (vf0_n : Nat) (vf0_c : List D) (vf1_f : Bool) (vf1_n : Nat) (vf1_c : List D) : evFnT (TEf call L C) O0 N74 FinM.canon Tryz.f74 [D.agg [D.slc vf0_f vf0_n vf0_c, D.slc vf1_f vf1_n vf1_c]] =
  (F74_122 call L C L vf0_f vf0_n vf0_c vf1_f vf1_n vf1_c (Ow.nil) (Ow.nil) (0)) := by kernel_rfl
-- 177850 ms
end Go.Pd
end
