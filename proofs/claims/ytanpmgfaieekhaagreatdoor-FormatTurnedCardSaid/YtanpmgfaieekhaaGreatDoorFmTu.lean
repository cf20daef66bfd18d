/-
  Chapter 5: what FormatTurned makes of open arguments (printed by the desk's tool, each proved by the kernel).
  FormatTurned, plain: a match the other way round, raised on a hole, and of a list with itself.
  FormatTurned is true of all lists and rises.
  FormatTurned is true of all lists and rises: the walk.
-/
import Derived.Test.YtanpmgfaieekhaaGreatDoorFmA
import Derived.KernelRfl
import Derived.Test.YtanpmgfaieekhaaGreatDoorFmS
import Derived.Test.YtanpmgfaieekhaaGreatDoorFmBl
section
namespace Go.Pd
open Go Go.Proofs
set_option maxRecDepth 100000
def N13 : NTab := fun p => match p with
  | 7 => some { keep := [0, 1, 5], kl := [17, 18, 27], ren := [(5, 5), (17, 17), (18, 18), (27, 27)] }
  | 63 => some { keep := [0, 1, 5, 7, 9], kl := [17, 18, 27], ren := [(5, 5), (17, 17), (18, 18), (27, 27)] }
  | 1018 => some { keep := [0, 1, 5, 7, 9, 11, 89, 90], kl := [17, 18, 27], ren := [(5, 5), (17, 17), (18, 18), (27, 27)] }
  | 8191 => some { keep := [0, 7, 20, 21], kl := [5, 17, 18, 27], ren := [(5, 5), (17, 17), (18, 18), (27, 27)] }
  | 65535 => some { keep := [0, 24], kl := [5, 17, 18, 27], ren := [(5, 5), (17, 17), (18, 18), (27, 27)] }
  | 130355 => some { keep := [0, 1, 5, 7, 9, 12, 89, 90], kl := [17, 18, 27], ren := [(5, 5), (17, 17), (18, 18), (27, 27)] }
  | 524282 => some { keep := [0, 293, 294, 295], kl := [5, 17, 18, 27], ren := [(5, 5), (17, 17), (18, 18), (27, 27)] }
  | _ => none
noncomputable def F13_130355 (call : FuncId → List D → Option D) (L : Nat) (C : Nat → Nat) (n_6 : Nat) (va_f : Bool) (va_n : Nat) (va_c : List D) (vb_f : Bool) (vb_n : Nat) (vb_c : List D) (vs_f : Bool) (vs_n : Nat) (vs_c : List D) (vt_f : Bool) (vt_n : Nat) (vt_c : List D) (t90 : Int) (t89 : Int) (vrise0 : Int) (vrise1 : Int) : Option D :=
  cutAt (TEf call L C) O0 N13 FinM.canon Tryz.f13 [true, true, true, true, true, true, false, true, false, false, true, true, false, false, true, true] [n_6]  (C 130355) (St.mk [D.slc va_f va_n va_c, D.slc vb_f vb_n vb_c, J, J, J, D.loc 5 0 0, J, D.slc vs_f vs_n vs_c, J, D.slc vt_f vt_n vt_c, J, J, D.int IntKind.i64 t90, J, J, J, J, J, J, J, J, J, J, J, J, J, J, J, J, J, J, J, J, J, J, J, J, J, J, J, J, J, J, J, J, J, J, J, J, J, J, J, J, J, J, J, J, J, J, J, J, J, J, J, J, J, J, J, J, J, J, J, J, J, J, J, J, J, J, J, J, J, J, J, J, J, J, J, J, D.int IntKind.i64 t89, D.int IntKind.i64 t90, J, J, J, J, J, J, J, J, J, J, J, J, J, J, J, J, J, J, J, J, J, J, J, J, J, J, J, J, J, J, J, J, J, J, J, J, J, J, J, J, J, J, J, J, J, J, J, J, J, J, J, J, J, J, J, J, J, J, J, J, J, J, J, J, J, J, J, J, J, J, J, J, J, J, J, J, J, J, J, J, J, J, J, J, J, J, J, J, J, J, J, J, J, J, J, J, J, J, J, J, J, J, J, J, J, J, J, J, J, J, J, J, J, J, J, J, J, J, J, J, J, J, J, J, J, J, J, J, J, J, J, J, J, J, J, J, J, J, J, J, J, J, J, J, J, J, J, J, J, J, J, J, J, J, J, J, J, J, J, J, J, J, J, J, J, J, J, J, J, J, J, J, J, J, J, J, J, J, J, J, J, J, J, J, J, J, J, J, J, J, J, J, J, J, J, J, J, J, J, J, J, J, J, J, J, J, J, J, J, J, J, J, J, J, J, J, J, J, J, J, J, J, J, J] [Z, Z, Z, Z, Z, (1, some (Ob.box [D.int IntKind.i64 vrise0, D.int IntKind.i64 vrise1] false)), Z, Z, Z, Z, Z, Z, Z, Z, Z, Z, Z, Z, Z, Z, Z, Z, Z, Z, Z, Z, Z, Z, Z, Z, Z, Z, Z, Z, Z, Z, Z, Z, Z, Z, Z, Z, Z, Z, Z, Z, Z, Z, Z, Z, Z, Z, Z, Z, Z, Z, Z, Z, Z, Z, Z, Z, Z, Z, Z, Z, Z, Z, Z, Z, Z, Z, Z, Z, Z, Z, Z, Z, Z, Z, Z, Z, Z, Z, Z, Z, Z, Z, Z, Z, Z, Z, Z, Z, Z, Z, Z, Z, Z, Z, Z, Z, Z, Z, Z, Z, Z, Z, Z, Z, Z, Z, Z, Z, Z, Z, Z, Z, Z, Z, Z, Z, Z, Z, Z, Z, Z, Z, Z, Z, Z, Z, Z, Z, Z, Z, Z, Z, Z, Z, Z, Z, Z, Z, Z, Z, Z, Z, Z, Z, Z, Z, Z, Z, Z, Z, Z, Z, Z, Z, Z, Z, Z, Z, Z, Z, Z, Z, Z, Z, Z, Z, Z, Z, Z, Z, Z, Z, Z, Z, Z, Z, Z, Z, Z, Z, Z, Z, Z, Z, Z, Z, Z, Z, Z, Z, Z, Z, Z, Z, Z, Z, Z, Z, Z, Z, Z, Z, Z, Z, Z, Z, Z, Z, Z, Z, Z, Z, Z, Z, Z, Z, Z, Z, Z, Z, Z, Z, Z, Z, Z, Z, Z, Z, Z, Z, Z, Z, Z, Z, Z, Z, Z, Z, Z, Z, Z, Z, Z, Z, Z, Z, Z, Z, Z, Z, Z, Z, Z, Z, Z, Z, Z, Z, Z, Z, Z, Z, Z, Z, Z, Z, Z, Z, Z, Z, Z, Z, Z, Z, Z, Z, Z, Z, Z, Z, Z, Z, Z, Z, Z, Z, Z, Z, Z, Z, Z, Z, Z, Z, Z, Z, Z, Z, Z, Z, Z, Z, Z, Z, Z, Z, Z, Z, Z])
noncomputable def F13_524282 (call : FuncId → List D → Option D) (L : Nat) (C : Nat → Nat) (n_6 : Nat) (n_18 : Nat) (va_f : Bool) (va_n : Nat) (va_c : List D) (vown_f : Bool) (vown_n : Nat) (vown_c : List D) (t294 : Int) (t295 : Int) : Option D :=
  loopAt (TEf call L C) O0 N13 FinM.canon Tryz.f13 [true, true, true, true, true, true, true, true, true, true, true, true, true, true, true, false, true, false] [n_6]  n_18 (St.mk [D.slc va_f va_n va_c, J, J, J, J, J, J, J, J, J, J, J, J, J, J, J, J, J, J, J, J, J, J, J, J, J, J, J, J, J, J, J, J, J, J, J, J, J, J, J, J, J, J, J, J, J, J, J, J, J, J, J, J, J, J, J, J, J, J, J, J, J, J, J, J, J, J, J, J, J, J, J, J, J, J, J, J, J, J, J, J, J, J, J, J, J, J, J, J, J, J, J, J, J, J, J, J, J, J, J, J, J, J, J, J, J, J, J, J, J, J, J, J, J, J, J, J, J, J, J, J, J, J, J, J, J, J, J, J, J, J, J, J, J, J, J, J, J, J, J, J, J, J, J, J, J, J, J, J, J, J, J, J, J, J, J, J, J, J, J, J, J, J, J, J, J, J, J, J, J, J, J, J, J, J, J, J, J, J, J, J, J, J, J, J, J, J, J, J, J, J, J, J, J, J, J, J, J, J, J, J, J, J, J, J, J, J, J, J, J, J, J, J, J, J, J, J, J, J, J, J, J, J, J, J, J, J, J, J, J, J, J, J, J, J, J, J, J, J, J, J, J, J, J, J, J, J, J, J, J, J, J, J, J, J, J, J, J, J, J, J, J, J, J, J, J, J, J, J, J, J, J, J, J, J, J, J, J, J, J, J, J, J, J, J, J, J, J, J, J, J, J, J, D.slc vown_f vown_n vown_c, D.int IntKind.i64 t294, D.int IntKind.i64 t295, J, J, J, J, J, J, J, J, J, J, J, J, J, J, J, J, J, J, J] [Z, Z, Z, Z, Z, Z, Z, Z, Z, Z, Z, Z, Z, Z, Z, Z, Z, Z, Z, Z, Z, Z, Z, Z, Z, Z, Z, Z, Z, Z, Z, Z, Z, Z, Z, Z, Z, Z, Z, Z, Z, Z, Z, Z, Z, Z, Z, Z, Z, Z, Z, Z, Z, Z, Z, Z, Z, Z, Z, Z, Z, Z, Z, Z, Z, Z, Z, Z, Z, Z, Z, Z, Z, Z, Z, Z, Z, Z, Z, Z, Z, Z, Z, Z, Z, Z, Z, Z, Z, Z, Z, Z, Z, Z, Z, Z, Z, Z, Z, Z, Z, Z, Z, Z, Z, Z, Z, Z, Z, Z, Z, Z, Z, Z, Z, Z, Z, Z, Z, Z, Z, Z, Z, Z, Z, Z, Z, Z, Z, Z, Z, Z, Z, Z, Z, Z, Z, Z, Z, Z, Z, Z, Z, Z, Z, Z, Z, Z, Z, Z, Z, Z, Z, Z, Z, Z, Z, Z, Z, Z, Z, Z, Z, Z, Z, Z, Z, Z, Z, Z, Z, Z, Z, Z, Z, Z, Z, Z, Z, Z, Z, Z, Z, Z, Z, Z, Z, Z, Z, Z, Z, Z, Z, Z, Z, Z, Z, Z, Z, Z, Z, Z, Z, Z, Z, Z, Z, Z, Z, Z, Z, Z, Z, Z, Z, Z, Z, Z, Z, Z, Z, Z, Z, Z, Z, Z, Z, Z, Z, Z, Z, Z, Z, Z, Z, Z, Z, Z, Z, Z, Z, Z, Z, Z, Z, Z, Z, Z, Z, Z, Z, Z, Z, Z, Z, Z, Z, Z, Z, Z, Z, Z, Z, Z, Z, Z, Z, Z, Z, Z, Z, Z, Z, Z, Z, Z, Z, Z, Z, Z, Z, Z, Z, Z, Z, Z, Z, Z, Z, Z, Z, Z, Z, Z, Z, Z, Z, Z, Z, Z, Z, Z, Z, Z, Z, Z, Z, Z, Z, Z, Z, Z, Z, Z, Z])
noncomputable def F13_65535 (call : FuncId → List D → Option D) (L : Nat) (C : Nat → Nat) (n_6 : Nat) (va_f : Bool) (va_n : Nat) (va_c : List D) (vown_f : Bool) (vown_n : Nat) (vown_c : List D) : Option D :=
  cutAt (TEf call L C) O0 N13 FinM.canon Tryz.f13 [true, true, true, true, true, true, true, true, true, true, true, true, true, true, true] [n_6]  (C 65535) (St.mk [D.slc va_f va_n va_c, J, J, J, J, J, J, J, J, J, J, J, J, J, J, J, J, J, J, J, J, J, J, J, D.slc vown_f vown_n vown_c, J, J, J, J, J, J, J, J, J, J, J, J, J, J, J, J, J, J, J, J, J, J, J, J, J, J, J, J, J, J, J, J, J, J, J, J, J, J, J, J, J, J, J, J, J, J, J, J, J, J, J, J, J, J, J, J, J, J, J, J, J, J, J, J, J, J, J, J, J, J, J, J, J, J, J, J, J, J, J, J, J, J, J, J, J, J, J, J, J, J, J, J, J, J, J, J, J, J, J, J, J, J, J, J, J, J, J, J, J, J, J, J, J, J, J, J, J, J, J, J, J, J, J, J, J, J, J, J, J, J, J, J, J, J, J, J, J, J, J, J, J, J, J, J, J, J, J, J, J, J, J, J, J, J, J, J, J, J, J, J, J, J, J, J, J, J, J, J, J, J, J, J, J, J, J, J, J, J, J, J, J, J, J, J, J, J, J, J, J, J, J, J, J, J, J, J, J, J, J, J, J, J, J, J, J, J, J, J, J, J, J, J, J, J, J, J, J, J, J, J, J, J, J, J, J, J, J, J, J, J, J, J, J, J, J, J, J, J, J, J, J, J, J, J, J, J, J, J, J, J, J, J, J, J, J, J, J, J, J, J, J, J, J, J, J, J, J, J, J, J, J, J, J, J, J, J, J, J, J, J, J, J, J, J, J, J, J, J, J, J] [Z, Z, Z, Z, Z, Z, Z, Z, Z, Z, Z, Z, Z, Z, Z, Z, Z, Z, Z, Z, Z, Z, Z, Z, Z, Z, Z, Z, Z, Z, Z, Z, Z, Z, Z, Z, Z, Z, Z, Z, Z, Z, Z, Z, Z, Z, Z, Z, Z, Z, Z, Z, Z, Z, Z, Z, Z, Z, Z, Z, Z, Z, Z, Z, Z, Z, Z, Z, Z, Z, Z, Z, Z, Z, Z, Z, Z, Z, Z, Z, Z, Z, Z, Z, Z, Z, Z, Z, Z, Z, Z, Z, Z, Z, Z, Z, Z, Z, Z, Z, Z, Z, Z, Z, Z, Z, Z, Z, Z, Z, Z, Z, Z, Z, Z, Z, Z, Z, Z, Z, Z, Z, Z, Z, Z, Z, Z, Z, Z, Z, Z, Z, Z, Z, Z, Z, Z, Z, Z, Z, Z, Z, Z, Z, Z, Z, Z, Z, Z, Z, Z, Z, Z, Z, Z, Z, Z, Z, Z, Z, Z, Z, Z, Z, Z, Z, Z, Z, Z, Z, Z, Z, Z, Z, Z, Z, Z, Z, Z, Z, Z, Z, Z, Z, Z, Z, Z, Z, Z, Z, Z, Z, Z, Z, Z, Z, Z, Z, Z, Z, Z, Z, Z, Z, Z, Z, Z, Z, Z, Z, Z, Z, Z, Z, Z, Z, Z, Z, Z, Z, Z, Z, Z, Z, Z, Z, Z, Z, Z, Z, Z, Z, Z, Z, Z, Z, Z, Z, Z, Z, Z, Z, Z, Z, Z, Z, Z, Z, Z, Z, Z, Z, Z, Z, Z, Z, Z, Z, Z, Z, Z, Z, Z, Z, Z, Z, Z, Z, Z, Z, Z, Z, Z, Z, Z, Z, Z, Z, Z, Z, Z, Z, Z, Z, Z, Z, Z, Z, Z, Z, Z, Z, Z, Z, Z, Z, Z, Z, Z, Z, Z, Z, Z, Z, Z, Z, Z, Z, Z, Z, Z, Z, Z, Z, Z])
noncomputable def F13_8191 (call : FuncId → List D → Option D) (L : Nat) (C : Nat → Nat) (n_6 : Nat) (va_f : Bool) (va_n : Nat) (va_c : List D) (vs_f : Bool) (vs_n : Nat) (vs_c : List D) (vc_f : Bool) (vc_n : Nat) (vc_c : List D) (vd_f : Bool) (vd_n : Nat) (vd_c : List D) : Option D :=
  cutAt (TEf call L C) O0 N13 FinM.canon Tryz.f13 [true, true, true, true, true, true, true, true, true, true, true, true] [n_6]  (C 8191) (St.mk [D.slc va_f va_n va_c, J, J, J, J, J, J, D.slc vs_f vs_n vs_c, J, J, J, J, J, J, J, J, J, J, J, J, D.slc vc_f vc_n vc_c, D.slc vd_f vd_n vd_c, J, J, J, J, J, J, J, J, J, J, J, J, J, J, J, J, J, J, J, J, J, J, J, J, J, J, J, J, J, J, J, J, J, J, J, J, J, J, J, J, J, J, J, J, J, J, J, J, J, J, J, J, J, J, J, J, J, J, J, J, J, J, J, J, J, J, J, J, J, J, J, J, J, J, J, J, J, J, J, J, J, J, J, J, J, J, J, J, J, J, J, J, J, J, J, J, J, J, J, J, J, J, J, J, J, J, J, J, J, J, J, J, J, J, J, J, J, J, J, J, J, J, J, J, J, J, J, J, J, J, J, J, J, J, J, J, J, J, J, J, J, J, J, J, J, J, J, J, J, J, J, J, J, J, J, J, J, J, J, J, J, J, J, J, J, J, J, J, J, J, J, J, J, J, J, J, J, J, J, J, J, J, J, J, J, J, J, J, J, J, J, J, J, J, J, J, J, J, J, J, J, J, J, J, J, J, J, J, J, J, J, J, J, J, J, J, J, J, J, J, J, J, J, J, J, J, J, J, J, J, J, J, J, J, J, J, J, J, J, J, J, J, J, J, J, J, J, J, J, J, J, J, J, J, J, J, J, J, J, J, J, J, J, J, J, J, J, J, J, J, J, J, J, J, J, J, J, J, J, J, J, J, J, J, J, J, J, J, J, J, J, J, J] [Z, Z, Z, Z, Z, Z, Z, Z, Z, Z, Z, Z, Z, Z, Z, Z, Z, Z, Z, Z, Z, Z, Z, Z, Z, Z, Z, Z, Z, Z, Z, Z, Z, Z, Z, Z, Z, Z, Z, Z, Z, Z, Z, Z, Z, Z, Z, Z, Z, Z, Z, Z, Z, Z, Z, Z, Z, Z, Z, Z, Z, Z, Z, Z, Z, Z, Z, Z, Z, Z, Z, Z, Z, Z, Z, Z, Z, Z, Z, Z, Z, Z, Z, Z, Z, Z, Z, Z, Z, Z, Z, Z, Z, Z, Z, Z, Z, Z, Z, Z, Z, Z, Z, Z, Z, Z, Z, Z, Z, Z, Z, Z, Z, Z, Z, Z, Z, Z, Z, Z, Z, Z, Z, Z, Z, Z, Z, Z, Z, Z, Z, Z, Z, Z, Z, Z, Z, Z, Z, Z, Z, Z, Z, Z, Z, Z, Z, Z, Z, Z, Z, Z, Z, Z, Z, Z, Z, Z, Z, Z, Z, Z, Z, Z, Z, Z, Z, Z, Z, Z, Z, Z, Z, Z, Z, Z, Z, Z, Z, Z, Z, Z, Z, Z, Z, Z, Z, Z, Z, Z, Z, Z, Z, Z, Z, Z, Z, Z, Z, Z, Z, Z, Z, Z, Z, Z, Z, Z, Z, Z, Z, Z, Z, Z, Z, Z, Z, Z, Z, Z, Z, Z, Z, Z, Z, Z, Z, Z, Z, Z, Z, Z, Z, Z, Z, Z, Z, Z, Z, Z, Z, Z, Z, Z, Z, Z, Z, Z, Z, Z, Z, Z, Z, Z, Z, Z, Z, Z, Z, Z, Z, Z, Z, Z, Z, Z, Z, Z, Z, Z, Z, Z, Z, Z, Z, Z, Z, Z, Z, Z, Z, Z, Z, Z, Z, Z, Z, Z, Z, Z, Z, Z, Z, Z, Z, Z, Z, Z, Z, Z, Z, Z, Z, Z, Z, Z, Z, Z, Z, Z, Z, Z, Z, Z, Z])
noncomputable def F13_1018 (call : FuncId → List D → Option D) (L : Nat) (C : Nat → Nat) (n_6 : Nat) (va_f : Bool) (va_n : Nat) (va_c : List D) (vb_f : Bool) (vb_n : Nat) (vb_c : List D) (vs_f : Bool) (vs_n : Nat) (vs_c : List D) (vt_f : Bool) (vt_n : Nat) (vt_c : List D) (vrise0 : Int) (vrise1 : Int) (vlast : Int) (t89 : Int) (t90 : Int) : Option D :=
  loopAt (TEf call L C) O0 N13 FinM.canon Tryz.f13 [true, true, true, true, true, true, false, true, false] []  n_6 (St.mk [D.slc va_f va_n va_c, D.slc vb_f vb_n vb_c, J, J, J, D.loc 5 0 0, J, D.slc vs_f vs_n vs_c, J, D.slc vt_f vt_n vt_c, J, D.int IntKind.i64 vlast, J, J, J, J, J, J, J, J, J, J, J, J, J, J, J, J, J, J, J, J, J, J, J, J, J, J, J, J, J, J, J, J, J, J, J, J, J, J, J, J, J, J, J, J, J, J, J, J, J, J, J, J, J, J, J, J, J, J, J, J, J, J, J, J, J, J, J, J, J, J, J, J, J, J, J, J, J, D.int IntKind.i64 t89, D.int IntKind.i64 t90, J, J, J, J, J, J, J, J, J, J, J, J, J, J, J, J, J, J, J, J, J, J, J, J, J, J, J, J, J, J, J, J, J, J, J, J, J, J, J, J, J, J, J, J, J, J, J, J, J, J, J, J, J, J, J, J, J, J, J, J, J, J, J, J, J, J, J, J, J, J, J, J, J, J, J, J, J, J, J, J, J, J, J, J, J, J, J, J, J, J, J, J, J, J, J, J, J, J, J, J, J, J, J, J, J, J, J, J, J, J, J, J, J, J, J, J, J, J, J, J, J, J, J, J, J, J, J, J, J, J, J, J, J, J, J, J, J, J, J, J, J, J, J, J, J, J, J, J, J, J, J, J, J, J, J, J, J, J, J, J, J, J, J, J, J, J, J, J, J, J, J, J, J, J, J, J, J, J, J, J, J, J, J, J, J, J, J, J, J, J, J, J, J, J, J, J, J, J, J, J, J, J, J, J, J, J, J, J, J, J, J, J, J, J, J, J, J, J, J, J, J, J, J, J] [Z, Z, Z, Z, Z, (1, some (Ob.box [D.int IntKind.i64 vrise0, D.int IntKind.i64 vrise1] false)), Z, Z, Z, Z, Z, Z, Z, Z, Z, Z, Z, Z, Z, Z, Z, Z, Z, Z, Z, Z, Z, Z, Z, Z, Z, Z, Z, Z, Z, Z, Z, Z, Z, Z, Z, Z, Z, Z, Z, Z, Z, Z, Z, Z, Z, Z, Z, Z, Z, Z, Z, Z, Z, Z, Z, Z, Z, Z, Z, Z, Z, Z, Z, Z, Z, Z, Z, Z, Z, Z, Z, Z, Z, Z, Z, Z, Z, Z, Z, Z, Z, Z, Z, Z, Z, Z, Z, Z, Z, Z, Z, Z, Z, Z, Z, Z, Z, Z, Z, Z, Z, Z, Z, Z, Z, Z, Z, Z, Z, Z, Z, Z, Z, Z, Z, Z, Z, Z, Z, Z, Z, Z, Z, Z, Z, Z, Z, Z, Z, Z, Z, Z, Z, Z, Z, Z, Z, Z, Z, Z, Z, Z, Z, Z, Z, Z, Z, Z, Z, Z, Z, Z, Z, Z, Z, Z, Z, Z, Z, Z, Z, Z, Z, Z, Z, Z, Z, Z, Z, Z, Z, Z, Z, Z, Z, Z, Z, Z, Z, Z, Z, Z, Z, Z, Z, Z, Z, Z, Z, Z, Z, Z, Z, Z, Z, Z, Z, Z, Z, Z, Z, Z, Z, Z, Z, Z, Z, Z, Z, Z, Z, Z, Z, Z, Z, Z, Z, Z, Z, Z, Z, Z, Z, Z, Z, Z, Z, Z, Z, Z, Z, Z, Z, Z, Z, Z, Z, Z, Z, Z, Z, Z, Z, Z, Z, Z, Z, Z, Z, Z, Z, Z, Z, Z, Z, Z, Z, Z, Z, Z, Z, Z, Z, Z, Z, Z, Z, Z, Z, Z, Z, Z, Z, Z, Z, Z, Z, Z, Z, Z, Z, Z, Z, Z, Z, Z, Z, Z, Z, Z, Z, Z, Z, Z, Z, Z, Z, Z, Z, Z, Z, Z, Z, Z, Z, Z, Z, Z, Z])
noncomputable def F13_63 (call : FuncId → List D → Option D) (L : Nat) (C : Nat → Nat) (va_f : Bool) (va_n : Nat) (va_c : List D) (vb_f : Bool) (vb_n : Nat) (vb_c : List D) (vrise0 : Int) (vrise1 : Int) (vs_f : Bool) (vs_n : Nat) (vs_c : List D) (vt_f : Bool) (vt_n : Nat) (vt_c : List D) : Option D :=
  cutAt (TEf call L C) O0 N13 FinM.canon Tryz.f13 [true, true, true, true, true] []  (C 63) (St.mk [D.slc va_f va_n va_c, D.slc vb_f vb_n vb_c, J, J, J, D.loc 5 0 0, J, D.slc vs_f vs_n vs_c, J, D.slc vt_f vt_n vt_c, J, J, J, J, J, J, J, J, J, J, J, J, J, J, J, J, J, J, J, J, J, J, J, J, J, J, J, J, J, J, J, J, J, J, J, J, J, J, J, J, J, J, J, J, J, J, J, J, J, J, J, J, J, J, J, J, J, J, J, J, J, J, J, J, J, J, J, J, J, J, J, J, J, J, J, J, J, J, J, J, J, J, J, J, J, J, J, J, J, J, J, J, J, J, J, J, J, J, J, J, J, J, J, J, J, J, J, J, J, J, J, J, J, J, J, J, J, J, J, J, J, J, J, J, J, J, J, J, J, J, J, J, J, J, J, J, J, J, J, J, J, J, J, J, J, J, J, J, J, J, J, J, J, J, J, J, J, J, J, J, J, J, J, J, J, J, J, J, J, J, J, J, J, J, J, J, J, J, J, J, J, J, J, J, J, J, J, J, J, J, J, J, J, J, J, J, J, J, J, J, J, J, J, J, J, J, J, J, J, J, J, J, J, J, J, J, J, J, J, J, J, J, J, J, J, J, J, J, J, J, J, J, J, J, J, J, J, J, J, J, J, J, J, J, J, J, J, J, J, J, J, J, J, J, J, J, J, J, J, J, J, J, J, J, J, J, J, J, J, J, J, J, J, J, J, J, J, J, J, J, J, J, J, J, J, J, J, J, J, J, J, J, J, J, J, J, J, J, J, J, J, J, J, J, J] [Z, Z, Z, Z, Z, (1, some (Ob.box [D.int IntKind.i64 vrise0, D.int IntKind.i64 vrise1] false)), Z, Z, Z, Z, Z, Z, Z, Z, Z, Z, Z, Z, Z, Z, Z, Z, Z, Z, Z, Z, Z, Z, Z, Z, Z, Z, Z, Z, Z, Z, Z, Z, Z, Z, Z, Z, Z, Z, Z, Z, Z, Z, Z, Z, Z, Z, Z, Z, Z, Z, Z, Z, Z, Z, Z, Z, Z, Z, Z, Z, Z, Z, Z, Z, Z, Z, Z, Z, Z, Z, Z, Z, Z, Z, Z, Z, Z, Z, Z, Z, Z, Z, Z, Z, Z, Z, Z, Z, Z, Z, Z, Z, Z, Z, Z, Z, Z, Z, Z, Z, Z, Z, Z, Z, Z, Z, Z, Z, Z, Z, Z, Z, Z, Z, Z, Z, Z, Z, Z, Z, Z, Z, Z, Z, Z, Z, Z, Z, Z, Z, Z, Z, Z, Z, Z, Z, Z, Z, Z, Z, Z, Z, Z, Z, Z, Z, Z, Z, Z, Z, Z, Z, Z, Z, Z, Z, Z, Z, Z, Z, Z, Z, Z, Z, Z, Z, Z, Z, Z, Z, Z, Z, Z, Z, Z, Z, Z, Z, Z, Z, Z, Z, Z, Z, Z, Z, Z, Z, Z, Z, Z, Z, Z, Z, Z, Z, Z, Z, Z, Z, Z, Z, Z, Z, Z, Z, Z, Z, Z, Z, Z, Z, Z, Z, Z, Z, Z, Z, Z, Z, Z, Z, Z, Z, Z, Z, Z, Z, Z, Z, Z, Z, Z, Z, Z, Z, Z, Z, Z, Z, Z, Z, Z, Z, Z, Z, Z, Z, Z, Z, Z, Z, Z, Z, Z, Z, Z, Z, Z, Z, Z, Z, Z, Z, Z, Z, Z, Z, Z, Z, Z, Z, Z, Z, Z, Z, Z, Z, Z, Z, Z, Z, Z, Z, Z, Z, Z, Z, Z, Z, Z, Z, Z, Z, Z, Z, Z, Z, Z, Z, Z, Z, Z, Z, Z, Z, Z, Z, Z])
noncomputable def F13_7 (call : FuncId → List D → Option D) (L : Nat) (C : Nat → Nat) (va_f : Bool) (va_n : Nat) (va_c : List D) (vb_f : Bool) (vb_n : Nat) (vb_c : List D) (vrise0 : Int) (vrise1 : Int) : Option D :=
  cutAt (TEf call L C) O0 N13 FinM.canon Tryz.f13 [true, true] []  (C 7) (St.mk [D.slc va_f va_n va_c, D.slc vb_f vb_n vb_c, J, J, J, D.loc 5 0 0, J, J, J, J, J, J, J, J, J, J, J, J, J, J, J, J, J, J, J, J, J, J, J, J, J, J, J, J, J, J, J, J, J, J, J, J, J, J, J, J, J, J, J, J, J, J, J, J, J, J, J, J, J, J, J, J, J, J, J, J, J, J, J, J, J, J, J, J, J, J, J, J, J, J, J, J, J, J, J, J, J, J, J, J, J, J, J, J, J, J, J, J, J, J, J, J, J, J, J, J, J, J, J, J, J, J, J, J, J, J, J, J, J, J, J, J, J, J, J, J, J, J, J, J, J, J, J, J, J, J, J, J, J, J, J, J, J, J, J, J, J, J, J, J, J, J, J, J, J, J, J, J, J, J, J, J, J, J, J, J, J, J, J, J, J, J, J, J, J, J, J, J, J, J, J, J, J, J, J, J, J, J, J, J, J, J, J, J, J, J, J, J, J, J, J, J, J, J, J, J, J, J, J, J, J, J, J, J, J, J, J, J, J, J, J, J, J, J, J, J, J, J, J, J, J, J, J, J, J, J, J, J, J, J, J, J, J, J, J, J, J, J, J, J, J, J, J, J, J, J, J, J, J, J, J, J, J, J, J, J, J, J, J, J, J, J, J, J, J, J, J, J, J, J, J, J, J, J, J, J, J, J, J, J, J, J, J, J, J, J, J, J, J, J, J, J, J, J, J, J, J, J, J, J, J, J, J, J, J] [Z, Z, Z, Z, Z, (1, some (Ob.box [D.int IntKind.i64 vrise0, D.int IntKind.i64 vrise1] false)), Z, Z, Z, Z, Z, Z, Z, Z, Z, Z, Z, Z, Z, Z, Z, Z, Z, Z, Z, Z, Z, Z, Z, Z, Z, Z, Z, Z, Z, Z, Z, Z, Z, Z, Z, Z, Z, Z, Z, Z, Z, Z, Z, Z, Z, Z, Z, Z, Z, Z, Z, Z, Z, Z, Z, Z, Z, Z, Z, Z, Z, Z, Z, Z, Z, Z, Z, Z, Z, Z, Z, Z, Z, Z, Z, Z, Z, Z, Z, Z, Z, Z, Z, Z, Z, Z, Z, Z, Z, Z, Z, Z, Z, Z, Z, Z, Z, Z, Z, Z, Z, Z, Z, Z, Z, Z, Z, Z, Z, Z, Z, Z, Z, Z, Z, Z, Z, Z, Z, Z, Z, Z, Z, Z, Z, Z, Z, Z, Z, Z, Z, Z, Z, Z, Z, Z, Z, Z, Z, Z, Z, Z, Z, Z, Z, Z, Z, Z, Z, Z, Z, Z, Z, Z, Z, Z, Z, Z, Z, Z, Z, Z, Z, Z, Z, Z, Z, Z, Z, Z, Z, Z, Z, Z, Z, Z, Z, Z, Z, Z, Z, Z, Z, Z, Z, Z, Z, Z, Z, Z, Z, Z, Z, Z, Z, Z, Z, Z, Z, Z, Z, Z, Z, Z, Z, Z, Z, Z, Z, Z, Z, Z, Z, Z, Z, Z, Z, Z, Z, Z, Z, Z, Z, Z, Z, Z, Z, Z, Z, Z, Z, Z, Z, Z, Z, Z, Z, Z, Z, Z, Z, Z, Z, Z, Z, Z, Z, Z, Z, Z, Z, Z, Z, Z, Z, Z, Z, Z, Z, Z, Z, Z, Z, Z, Z, Z, Z, Z, Z, Z, Z, Z, Z, Z, Z, Z, Z, Z, Z, Z, Z, Z, Z, Z, Z, Z, Z, Z, Z, Z, Z, Z, Z, Z, Z, Z, Z, Z, Z, Z, Z, Z, Z, Z, Z, Z, Z, Z, Z])
theorem F13_130355_eq (call : FuncId → List D → Option D) (L : Nat) (C : Nat → Nat) (n_6 : Nat) (va_f : Bool) (va_n : Nat) (va_c : List D) (vb_f : Bool) (vb_n : Nat) (vb_c : List D) (vs_f : Bool) (vs_n : Nat) (vs_c : List D) (vt_f : Bool) (vt_n : Nat) (vt_c : List D) (t90 : Int) (t89 : Int) (vrise0 : Int) (vrise1 : Int) (hC : ∀ t, C t = 1) : F13_130355 call L C n_6 va_f va_n va_c vb_f vb_n vb_c vs_f vs_n vs_c vt_f vt_n vt_c t90 t89 vrise0 vrise1  =
  (chkK (decide (0 ≤ t90 ∧ t90 < (vs_n : Int)))
    (cellK (vs_c) (Int.toNat t90 * 3 + 0) fun d_16 =>
    (intK IntKind.i64 (d_16) fun x_13 =>
    (chkK (decide (0 ≤ t90 ∧ t90 < (vs_n : Int)))
      (cellK (vs_c) (Int.toNat t90 * 3 + 2) fun d_17 =>
      (boolK (d_17) fun b_11 =>
      (ifK (b_11)
        (chkK (decide (0 ≤ t90 ∧ t90 < (vs_n : Int)))
          (cellK (vs_c) (Int.toNat t90 * 3 + 0) fun d_18 =>
          (intK IntKind.i64 (d_18) fun x_14 =>
          (cellK (vs_c) (Int.toNat t90 * 3 + 1) fun d_19 =>
          (intK IntKind.i64 (d_19) fun x_15 =>
          (cellK (vs_c) (Int.toNat t90 * 3 + 2) fun d_20 =>
          (boolK (d_20) fun b_12 =>
          (optK (call 64 [D.agg [D.int IntKind.i64 x_14, D.int IntKind.i64 x_15, D.bool b_12]]) fun r_14 =>
            (tupK (r_14) 2 fun c_6 =>
            (cellK (c_6) (0) fun d_21 =>
            (strK (d_21) fun s =>
            (cellK (c_6) (1) fun d_22 =>
            (intK IntKind.i64 (d_22) fun x_16 =>
            (chkK (decide (0 ≤ t90 ∧ t90 < (vt_n : Int)))
              (cellK (vt_c) (Int.toNat t90 * 3 + 0) fun d_23 =>
              (intK IntKind.i64 (d_23) fun x_17 =>
              (cellK (vt_c) (Int.toNat t90 * 3 + 1) fun d_24 =>
              (intK IntKind.i64 (d_24) fun x_18 =>
              (cellK (vt_c) (Int.toNat t90 * 3 + 2) fun d_25 =>
              (boolK (d_25) fun b_13 =>
              (optK (call 64 [D.agg [D.int IntKind.i64 x_17, D.int IntKind.i64 x_18, D.bool b_13]]) fun r_15 =>
                (tupK (r_15) 2 fun c_7 =>
                (cellK (c_7) (0) fun d_26 =>
                (strK (d_26) fun s_1 =>
                (cellK (c_7) (1) fun d_27 =>
                (intK IntKind.i64 (d_27) fun x_19 =>
                (ifK (x_16 != 0)
                  (some (D.bool false))
                  (ifK (x_19 != 0)
                    (some (D.bool false))
                    (chkK (decide (0 ≤ t90 ∧ t90 < (vs_n : Int)))
                      (cellK (vs_c) (Int.toNat t90 * 3 + 0) fun d_28 =>
                      (intK IntKind.i64 (d_28) fun x_20 =>
                      (ifK (!(ByteArray.toList s == ByteArray.toList s_1) == (x_20 == 0))
                        (some (D.bool false))
                        (F13_1018 call L C n_6 va_f va_n va_c vb_f vb_n vb_c vs_f vs_n vs_c vt_f vt_n vt_c vrise0 vrise1 (x_13) (t89) (IntKind.wrap IntKind.i64 (t90 + 1)))))))))))))))))))))))))))))))))))
        (F13_1018 call L C n_6 va_f va_n va_c vb_f vb_n vb_c vs_f vs_n vs_c vt_f vt_n vt_c vrise0 vrise1 (x_13) (t89) (IntKind.wrap IntKind.i64 (t90 + 1)))))))))) := by
  unfold F13_130355
  rw [hC]
  kernel_rfl
theorem F13_524282_eq (call : FuncId → List D → Option D) (L : Nat) (C : Nat → Nat) (n_6 : Nat) (n_18 : Nat) (va_f : Bool) (va_n : Nat) (va_c : List D) (vown_f : Bool) (vown_n : Nat) (vown_c : List D) (t294 : Int) (t295 : Int) : F13_524282 call L C n_6 (n_18 + 1) va_f va_n va_c vown_f vown_n vown_c (t294) (t295) =
  (ifK (decide (t295 < t294))
    (chkK (decide (0 ≤ t295 ∧ t295 < (vown_n : Int)))
      (cellK (vown_c) (Int.toNat t295 * 3 + 0) fun d_35 =>
      (intK IntKind.i64 (d_35) fun x_27 =>
      (cellK (vown_c) (Int.toNat t295 * 3 + 1) fun d_36 =>
      (intK IntKind.i64 (d_36) fun _x_28 =>
      (cellK (vown_c) (Int.toNat t295 * 3 + 2) fun d_37 =>
      (boolK (d_37) fun b_17 =>
      (ifK (x_27 != 0)
        (some (D.bool false))
        (ifK (!b_17 == (t295 == IntKind.wrap IntKind.i64 ((va_n : Int) - 1)))
          (some (D.bool false))
          (F13_524282 call L C n_6 n_18 va_f va_n va_c vown_f vown_n vown_c (t294) (IntKind.wrap IntKind.i64 (t295 + 1))))))))))))
    (optK (call 16 []) fun r_29 =>
      (boolK (r_29) fun b_18 =>
      (some (D.bool b_18))))) := by kernel_rfl
theorem F13_65535_eq (call : FuncId → List D → Option D) (L : Nat) (C : Nat → Nat) (n_6 : Nat) (va_f : Bool) (va_n : Nat) (va_c : List D) (vown_f : Bool) (vown_n : Nat) (vown_c : List D) (hC : ∀ t, C t = 1) : F13_65535 call L C n_6 va_f va_n va_c (vown_f) (vown_n) (vown_c) =
  (F13_524282 call L C n_6 L va_f va_n va_c vown_f vown_n vown_c ((vown_n : Int)) (0)) := by
  unfold F13_65535
  rw [hC]
  kernel_rfl
theorem F13_8191_eq (call : FuncId → List D → Option D) (L : Nat) (C : Nat → Nat) (n_6 : Nat) (va_f : Bool) (va_n : Nat) (va_c : List D) (vs_f : Bool) (vs_n : Nat) (vs_c : List D) (vc_f : Bool) (vc_n : Nat) (vc_c : List D) (vd_f : Bool) (vd_n : Nat) (vd_c : List D) (hC : ∀ t, C t = 1) : F13_8191 call L C n_6 va_f va_n va_c vs_f vs_n vs_c (vc_f) (vc_n) (vc_c) (vd_f) (vd_n) (vd_c) =
  (optK (call 63 [D.slc vc_f vc_n vc_c, D.slc vd_f vd_n vd_c]) fun r_24 =>
    (tupK (r_24) 2 fun c_12 =>
    (cellK (c_12) (0) fun d_31 =>
    (slcK (d_31) fun f_8 n_13 c_13 =>
    (cellK (c_12) (1) fun d_32 =>
    (intK IntKind.i64 (d_32) fun x_25 =>
    (optK (call 63 [D.slc va_f va_n va_c, D.slc va_f va_n va_c]) fun r_25 =>
      (tupK (r_25) 2 fun c_14 =>
      (cellK (c_14) (0) fun d_33 =>
      (slcK (d_33) fun f_9 n_14 c_15 =>
      (cellK (c_14) (1) fun d_34 =>
      (intK IntKind.i64 (d_34) fun x_26 =>
      (ifK (x_25 != 0)
        (some (D.bool false))
        (optK (call 28 [D.slc f_8 n_13 c_13]) fun r_26 =>
          (slcK (r_26) fun f_10 n_15 c_16 =>
          (optK (call 28 [D.slc vs_f vs_n vs_c]) fun r_27 =>
            (slcK (r_27) fun f_11 n_16 c_17 =>
            (optK (call 27 [D.slc f_10 n_15 c_16, D.slc f_11 n_16 c_17]) fun r_28 =>
              (boolK (r_28) fun b_16 =>
              (ifK (!b_16)
                (some (D.bool false))
                (ifK (x_26 != 0)
                  (some (D.bool false))
                  (F13_65535 call L C n_6 va_f va_n va_c (f_9) (n_14) (c_15))))))))))))))))))))))) := by
  unfold F13_8191
  rw [hC]
  kernel_rfl
theorem F13_1018_eq (call : FuncId → List D → Option D) (L : Nat) (C : Nat → Nat) (n_6 : Nat) (va_f : Bool) (va_n : Nat) (va_c : List D) (vb_f : Bool) (vb_n : Nat) (vb_c : List D) (vs_f : Bool) (vs_n : Nat) (vs_c : List D) (vt_f : Bool) (vt_n : Nat) (vt_c : List D) (vrise0 : Int) (vrise1 : Int) (vlast : Int) (t89 : Int) (t90 : Int) : F13_1018 call L C  (n_6 + 1) va_f va_n va_c vb_f vb_n vb_c vs_f vs_n vs_c vt_f vt_n vt_c vrise0 vrise1 (vlast) (t89) (t90) =
  (ifK (decide (t90 < t89))
    (chkK (decide (0 ≤ t90 ∧ t90 < (vs_n : Int)))
      (cellK (vs_c) (Int.toNat t90 * 3 + 0) fun d_4 =>
      (intK IntKind.i64 (d_4) fun x_4 =>
      (chkK (decide (0 ≤ t90 ∧ t90 < (vt_n : Int)))
        (cellK (vt_c) (Int.toNat t90 * 3 + 0) fun d_5 =>
        (intK IntKind.i64 (d_5) fun x_5 =>
        (ifK (x_4 != IntKind.wrap IntKind.i64 (0 - x_5))
          (some (D.bool false))
          (chkK (decide (0 ≤ t90 ∧ t90 < (vs_n : Int)))
            (cellK (vs_c) (Int.toNat t90 * 3 + 1) fun d_6 =>
            (intK IntKind.i64 (d_6) fun x_6 =>
            (chkK (decide (0 ≤ t90 ∧ t90 < (vt_n : Int)))
              (cellK (vt_c) (Int.toNat t90 * 3 + 1) fun d_7 =>
              (intK IntKind.i64 (d_7) fun x_7 =>
              (ifK (x_6 != x_7)
                (some (D.bool false))
                (chkK (decide (0 ≤ t90 ∧ t90 < (vs_n : Int)))
                  (cellK (vs_c) (Int.toNat t90 * 3 + 2) fun d_8 =>
                  (boolK (d_8) fun b_7 =>
                  (chkK (decide (0 ≤ t90 ∧ t90 < (vt_n : Int)))
                    (cellK (vt_c) (Int.toNat t90 * 3 + 2) fun d_9 =>
                    (boolK (d_9) fun b_8 =>
                    (ifK (!b_7 == b_8)
                      (some (D.bool false))
                      (chkK (decide (0 ≤ t90 ∧ t90 < (vs_n : Int)))
                        (cellK (vs_c) (Int.toNat t90 * 3 + 1) fun d_10 =>
                        (intK IntKind.i64 (d_10) fun x_8 =>
                        (ifK (x_8 != IntKind.wrap IntKind.i64 (IntKind.wrap IntKind.i64 ((va_n : Int) - t90) - 1))
                          (some (D.bool false))
                          (chkK (decide (0 ≤ t90 ∧ t90 < (vs_n : Int)))
                            (cellK (vs_c) (Int.toNat t90 * 3 + 2) fun d_11 =>
                            (boolK (d_11) fun b_9 =>
                            (ifK (t90 == IntKind.wrap IntKind.i64 ((vs_n : Int) - 1))
                              (chkK (decide (0 ≤ t90 ∧ t90 < (vs_n : Int)))
                                (cellK (vs_c) (Int.toNat t90 * 3 + 0) fun d_12 =>
                                (intK IntKind.i64 (d_12) fun x_9 =>
                                (chkK (decide (0 ≤ t90 ∧ t90 < (vs_n : Int)))
                                  (cellK (vs_c) (Int.toNat t90 * 3 + 1) fun d_13 =>
                                  (intK IntKind.i64 (d_13) fun x_10 =>
                                  (optK (call 68 [D.int IntKind.i64 x_9, D.int IntKind.i64 x_10]) fun r_13 =>
                                    (boolK (r_13) fun b_10 =>
                                    (ifK (!b_9 == b_10)
                                      (some (D.bool false))
                                      (chkK (decide (0 ≤ t90 ∧ t90 < (vs_n : Int)))
                                        (cellK (vs_c) (Int.toNat t90 * 3 + 0) fun d_14 =>
                                        (intK IntKind.i64 (d_14) fun x_11 =>
                                        (ifK (decide (IntKind.wrap IntKind.i64 (x_11 - vlast) > 1))
                                          (some (D.bool false))
                                          (chkK (decide (0 ≤ t90 ∧ t90 < (vs_n : Int)))
                                            (cellK (vs_c) (Int.toNat t90 * 3 + 0) fun d_15 =>
                                            (intK IntKind.i64 (d_15) fun x_12 =>
                                            (ifK (decide (IntKind.wrap IntKind.i64 (vlast - x_12) > 1))
                                              (some (D.bool false))
                                              (F13_130355 call L C n_6 va_f va_n va_c vb_f vb_n vb_c vs_f vs_n vs_c vt_f vt_n vt_c t90 t89 vrise0 vrise1))))))))))))))))))
                              (ifK (!b_9 == false)
                                (some (D.bool false))
                                (chkK (decide (0 ≤ t90 ∧ t90 < (vs_n : Int)))
                                  (cellK (vs_c) (Int.toNat t90 * 3 + 0) fun d_29 =>
                                  (intK IntKind.i64 (d_29) fun x_21 =>
                                  (ifK (decide (IntKind.wrap IntKind.i64 (x_21 - vlast) > 1))
                                    (some (D.bool false))
                                    (chkK (decide (0 ≤ t90 ∧ t90 < (vs_n : Int)))
                                      (cellK (vs_c) (Int.toNat t90 * 3 + 0) fun d_30 =>
                                      (intK IntKind.i64 (d_30) fun x_22 =>
                                      (ifK (decide (IntKind.wrap IntKind.i64 (vlast - x_22) > 1))
                                        (some (D.bool false))
                                        (F13_130355 call L C n_6 va_f va_n va_c vb_f vb_n vb_c vs_f vs_n vs_c vt_f vt_n vt_c t90 t89 vrise0 vrise1)))))))))))))))))))))))))))))))))))))))
    (chkK (!decide ((va_n : Int) = 0))
      (chkK (!decide ((va_n : Int) = 0))
        (optK (call 69 [D.slc va_f va_n va_c, D.snap [D.int IntKind.i64 (Int.tmod (IntKind.wrap IntKind.i64 (Int.tmod vrise0 (va_n : Int) + (va_n : Int))) (va_n : Int))] 0, D.snap [D.int IntKind.i64 (Int.tmod vrise1 50)] 0]) fun r_16 =>
          (slcK (r_16) fun f_4 n_8 c_8 =>
          (optK (call 69 [D.slc vb_f vb_n vb_c, D.snap [D.int IntKind.i64 (Int.tmod (IntKind.wrap IntKind.i64 (Int.tmod vrise0 (va_n : Int) + (va_n : Int))) (va_n : Int))] 0, D.snap [D.int IntKind.i64 (Int.tmod vrise1 50)] 0]) fun r_17 =>
            (slcK (r_17) fun f_5 n_9 c_9 =>
            (optK (call 43 [D.slc f_4 n_8 c_8]) fun r_18 =>
              (slcK (r_18) fun f_6 n_10 c_10 =>
              (optK (call 65 [D.slc f_6 n_10 c_10]) fun r_19 =>
                (intK IntKind.i64 (r_19) fun x_23 =>
                (ifK (x_23 != 0)
                  (optK (call 16 []) fun r_20 =>
                    (boolK (r_20) fun b_14 =>
                    (some (D.bool b_14))))
                  (optK (call 43 [D.slc f_5 n_9 c_9]) fun r_21 =>
                    (slcK (r_21) fun f_7 n_11 c_11 =>
                    (optK (call 65 [D.slc f_7 n_11 c_11]) fun r_22 =>
                      (intK IntKind.i64 (r_22) fun x_24 =>
                      (ifK (x_24 != 0)
                        (optK (call 16 []) fun r_23 =>
                          (boolK (r_23) fun b_15 =>
                          (some (D.bool b_15))))
                        (F13_8191 call L C n_6 va_f va_n va_c vs_f vs_n vs_c (f_4) (n_8) (c_8) (f_5) (n_9) (c_9))))))))))))))))))) := by kernel_rfl
theorem F13_63_eq (call : FuncId → List D → Option D) (L : Nat) (C : Nat → Nat) (va_f : Bool) (va_n : Nat) (va_c : List D) (vb_f : Bool) (vb_n : Nat) (vb_c : List D) (vrise0 : Int) (vrise1 : Int) (vs_f : Bool) (vs_n : Nat) (vs_c : List D) (vt_f : Bool) (vt_n : Nat) (vt_c : List D) (hC : ∀ t, C t = 1) : F13_63 call L C  va_f va_n va_c vb_f vb_n vb_c vrise0 vrise1 (vs_f) (vs_n) (vs_c) (vt_f) (vt_n) (vt_c) =
  (F13_1018 call L C L va_f va_n va_c vb_f vb_n vb_c vs_f vs_n vs_c vt_f vt_n vt_c vrise0 vrise1 (0) ((vs_n : Int)) (0)) := by
  unfold F13_63
  rw [hC]
  kernel_rfl
theorem F13_7_eq (call : FuncId → List D → Option D) (L : Nat) (C : Nat → Nat) (va_f : Bool) (va_n : Nat) (va_c : List D) (vb_f : Bool) (vb_n : Nat) (vb_c : List D) (vrise0 : Int) (vrise1 : Int) (hC : ∀ t, C t = 1) : F13_7 call L C  va_f va_n va_c vb_f vb_n vb_c vrise0 vrise1  =
  (optK (call 63 [D.slc va_f va_n va_c, D.slc vb_f vb_n vb_c]) fun r_11 =>
    (tupK (r_11) 2 fun c_2 =>
    (cellK (c_2) (0) fun d =>
    (slcK (d) fun f_2 n_3 c_3 =>
    (cellK (c_2) (1) fun d_1 =>
    (intK IntKind.i64 (d_1) fun x_2 =>
    (optK (call 63 [D.slc vb_f vb_n vb_c, D.slc va_f va_n va_c]) fun r_12 =>
      (tupK (r_12) 2 fun c_4 =>
      (cellK (c_4) (0) fun d_2 =>
      (slcK (d_2) fun f_3 n_4 c_5 =>
      (cellK (c_4) (1) fun d_3 =>
      (intK IntKind.i64 (d_3) fun x_3 =>
      (ifK (x_2 != 0)
        (some (D.bool false))
        (ifK (x_3 != 0)
          (some (D.bool false))
          (ifK ((n_3 : Int) != (n_4 : Int))
            (some (D.bool false))
            (ifK (decide ((n_3 : Int) > (va_n : Int)))
              (some (D.bool false))
              (F13_63 call L C va_f va_n va_c vb_f vb_n vb_c vrise0 vrise1 (f_2) (n_3) (c_3) (f_3) (n_4) (c_5)))))))))))))))))) := by
  unfold F13_7
  rw [hC]
  kernel_rfl
theorem F13_eq (call : FuncId → List D → Option D) (L : Nat) (C : Nat → Nat) (va_f : Bool) (va_n : Nat) (va_c : List D) (vb_f : Bool) (vb_n : Nat) (vb_c : List D) (vrise0 : Int) (vrise1 : Int) : evFnT (TEf call L C) O0 N13 FinM.canon Tryz.f13 [D.slc va_f va_n va_c, D.slc vb_f vb_n vb_c, D.agg [D.int IntKind.i64 vrise0, D.int IntKind.i64 vrise1]] =
  (optK (call 62 [D.slc va_f va_n va_c]) fun r =>
    (boolK (r) fun b =>
    (ifK (!b)
      (optK (call 16 []) fun r_1 =>
        (boolK (r_1) fun b_1 =>
        (some (D.bool b_1))))
      (optK (call 62 [D.slc vb_f vb_n vb_c]) fun r_2 =>
        (boolK (r_2) fun b_2 =>
        (ifK (!b_2)
          (optK (call 16 []) fun r_3 =>
            (boolK (r_3) fun b_3 =>
            (some (D.bool b_3))))
          (optK (call 43 [D.slc va_f va_n va_c]) fun r_4 =>
            (slcK (r_4) fun f n c =>
            (optK (call 65 [D.slc f n c]) fun r_5 =>
              (intK IntKind.i64 (r_5) fun x =>
              (ifK (x != 0)
                (optK (call 16 []) fun r_6 =>
                  (boolK (r_6) fun b_4 =>
                  (some (D.bool b_4))))
                (optK (call 43 [D.slc vb_f vb_n vb_c]) fun r_7 =>
                  (slcK (r_7) fun f_1 n_1 c_1 =>
                  (optK (call 65 [D.slc f_1 n_1 c_1]) fun r_8 =>
                    (intK IntKind.i64 (r_8) fun x_1 =>
                    (ifK (x_1 != 0)
                      (optK (call 16 []) fun r_9 =>
                        (boolK (r_9) fun b_5 =>
                        (some (D.bool b_5))))
                      (ifK ((va_n : Int) != (vb_n : Int))
                        (optK (call 16 []) fun r_10 =>
                          (boolK (r_10) fun b_6 =>
                          (some (D.bool b_6))))
                        (F13_7 call L C va_f va_n va_c vb_f vb_n vb_c vrise0 vrise1)))))))))))))))))) := by kernel_rfl
-- 237529 ms
theorem F69_eq (call : FuncId → List D → Option D) (L : Nat) (C : Nat → Nat) (vl_f : Bool) (vl_n : Nat) (vl_c : List D) (t10 : Int) (t20 : Int) : evFnT (TEf call L C) O0 N0 FinM.canon Tryz.f69 [D.slc vl_f vl_n vl_c, D.snap [D.int IntKind.i64 t10] 0, D.snap [D.int IntKind.i64 t20] 0] =
  (chkK (decide (List.length vl_c = vl_n * 2))
    (chkK (List.all vl_c D.one)
      (chkK (decide (0 < vl_n ∧ 0 = 0 ∧ (0 + vl_n) * 24 ≤ limit ∧ 0 + vl_n ≤ 4611686018427387903))
        (chkK (decide (0 ≤ t10 ∧ t10 < ((0 + vl_n) : Int)))
          (cellK (vl_c) (Int.toNat t10 * 2 + 1) fun d =>
          (strK (d) fun s =>
          (ifK (ByteArray.toList s == ByteArray.toList (ByteArray.mk #[]))
            (chkK (decide (0 ≤ t10 ∧ t10 < ((0 + vl_n) : Int)))
              (cellK (vl_c) (Int.toNat t10 * 2 + 0) fun d_1 =>
              (intK IntKind.i64 (d_1) fun x =>
              (chkK (decide (0 ≤ t10 ∧ t10 < ((0 + vl_n) : Int)))
                (chkK (decide (Int.toNat t10 * 2 + 0 + 1 ≤ List.length vl_c))
                  (some (D.slc false (0 + vl_n) (writeAt vl_c (Int.toNat t10 * 2 + 0) [D.int IntKind.i64 (IntKind.wrap IntKind.i64 (x + t20))]))))))))
            (some (D.slc false (0 + vl_n) vl_c))))))))) := by kernel_rfl
-- 578 ms
end Go.Pd
end

section
namespace Go.Pd
open Go Go.Proofs Go.RowKit
set_option maxRecDepth 100000
theorem cmpV_anti (x y : Int) : cmpV x y = -(cmpV y x) := by
  unfold cmpV
  rcases Int.lt_trichotomy x y with h | h | h
  · rw [show decide (x < y) = true by simpa using h, show decide (y < x) = false by simp; omega]
    rfl
  · subst h
    rw [show decide (x < x) = false by simp]
    rfl
  · rw [show decide (x < y) = false by simp; omega, show decide (y < x) = true by simpa using h]
    rfl
theorem cmpV_b (x y : Int) : -1 ≤ cmpV x y ∧ cmpV x y ≤ 1 := by
  unfold cmpV
  generalize decide (x < y) = p
  generalize decide (x > y) = q
  cases p <;> cases q <;> decide
theorem cmpV_up (x y m : Int) : cmpV (x + m) (y + m) = cmpV x y := by
  unfold cmpV
  rw [show decide (x + m < y + m) = decide (x < y) by simp, show decide (x + m > y + m) = decide (x > y) by simp]
theorem holeV_anti (x y : Int) (s t : ByteArray) : holeV x s y t = -(holeV y t x s) := by
  unfold holeV
  rw [cmpV_anti y x]
  generalize cmpV x y = k
  cases emptyB s <;> cases emptyB t <;> simp [ifK]
theorem holeV_b (x y : Int) (s t : ByteArray) : -1 ≤ holeV x s y t ∧ holeV x s y t ≤ 1 := by
  unfold holeV
  have := cmpV_b y x
  cases emptyB s <;> cases emptyB t <;> simp only [ifK] <;> first | exact this | decide
theorem holeV_self (x : Int) (s : ByteArray) : holeV x s x s = 0 := by
  unfold holeV cmpV
  rw [show decide (x < x) = false by simp]
  cases emptyB s <;> rfl
theorem wrap36 {u : Int} (h : -100000 ≤ u) (h' : u ≤ 100000) : IntKind.wrap .i64 u = u := wrap_id (by omega)
theorem overV_neg {u : Int} (t : Int) (h : -1000 ≤ u) (h' : u ≤ 1000) : overV (-u) t = overV u t := by
  unfold overV
  rw [wrap36 (u := 0 - -u) (by omega) (by omega), wrap36 (u := 0 - u) (by omega) (by omega)]
  rw [show (if 0 - -u > -u then 0 - -u else -u) = (if 0 - u > u then 0 - u else u) by split <;> split <;> omega]
def negS (s : StV) : StV := (-s.1, s.2.1, s.2.2)
theorem sd_neg : ∀ (ra rb : List NetV) (up to : Int), -1000 + (ra.length : Int) ≤ up → up ≤ 1000 - (ra.length : Int) → sdGo rb ra (-up) to = (sdGo ra rb up to).map negS
  | [], [], _, _, _, _ => rfl
  | [], b :: rb, _, _, _, _ => rfl
  | a :: ra, [], _, _, _, _ => rfl
  | a :: ra, b :: rb, up, to, h1, h2 => by
    simp only [List.length_cons, Int.natCast_add, Int.cast_ofNat_Int] at h1 h2
    unfold sdGo
    cases dashB a.2 with
    | true => cases dashB b.2 <;> rfl
    | false =>
      cases dashB b.2 with
      | true => rfl
      | false =>
        simp only [ifK_false]
        obtain ⟨q1, q2⟩ := holeV_b a.1 b.1 a.2 b.2
        rw [holeV_anti b.1 a.1 b.2 a.2]
        generalize holeV a.1 a.2 b.1 b.2 = k at q1 q2
        rw [wrap36 (u := up + k) (by omega) (by omega), wrap36 (u := -up + -k) (by omega) (by omega), show -up + -k = -(up + k) by omega, overV_neg _ (by omega) (by omega)]
        rw [sd_neg ra rb (up + k) (IntKind.wrap .i64 (to - 1)) (by omega) (by omega)]
        cases overV (up + k) (IntKind.wrap .i64 (to - 1)) <;> rfl
/-- What holds of states, one after another. -/
def StRun (n : Int) : Int → Int → List StV → Prop
  | _, _, [] => True
  | i, last, s :: r => (s.2.1 = n - i - 1 ∧ 0 ≤ s.2.1) ∧ (s.1 - last ≤ 1 ∧ last - s.1 ≤ 1) ∧ (-(i + 1) ≤ s.1 ∧ s.1 ≤ i + 1) ∧ s.2.2 = (r.isEmpty && overV s.1 s.2.1) ∧ StRun n (i + 1) s.1 r
theorem sd_run {n : Int} (hn : n ≤ 36) : ∀ (ra rb : List NetV) (i up : Int), 0 ≤ i → (ra.length : Int) ≤ n - i → -i ≤ up → up ≤ i → StRun n i up (sdGo ra rb up (n - i))
  | [], _, _, _, _, _, _, _ => trivial
  | a :: ra, [], _, _, _, _, _, _ => trivial
  | a :: ra, b :: rb, i, up, h0, hl, h1, h2 => by
    simp only [List.length_cons, Int.natCast_add, Int.cast_ofNat_Int] at hl
    unfold sdGo
    cases dashB a.2 with
    | true => trivial
    | false =>
      cases dashB b.2 with
      | true => trivial
      | false =>
        simp only [ifK_false]
        obtain ⟨q1, q2⟩ := holeV_b a.1 b.1 a.2 b.2
        generalize holeV a.1 a.2 b.1 b.2 = k at q1 q2
        rw [wrap36 (u := up + k) (by omega) (by omega), wrap36 (u := n - i - 1) (by omega) (by omega)]
        have ih := sd_run hn ra rb (i + 1) (up + k) (by omega) (by omega) (by omega) (by omega)
        rw [show n - (i + 1) = n - i - 1 by omega] at ih
        refine ⟨⟨rfl, by show 0 ≤ n - i - 1; omega⟩, ⟨by show up + k - up ≤ 1; omega, by show up - (up + k) ≤ 1; omega⟩, ⟨by show -(i + 1) ≤ up + k; omega, by show up + k ≤ i + 1; omega⟩, ?_, ?_⟩
        · show overV (up + k) (n - i - 1) = (List.isEmpty _ && overV (up + k) (n - i - 1))
          cases overV (up + k) (n - i - 1) with
          | true => rfl
          | false => rw [Bool.and_false]
        · show StRun n (i + 1) (up + k) _
          cases overV (up + k) (n - i - 1) with
          | true => trivial
          | false => exact ih
/-- .. of a list with itself. -/
def OwnRun (n : Int) : Int → List StV → Prop
  | _, [] => True
  | i, s :: r => s.1 = 0 ∧ s.2.2 = (i == n - 1) ∧ OwnRun n (i + 1) r
theorem over0 {t : Int} (h : 0 ≤ t) : overV 0 t = (t == 0) := by
  unfold overV
  rw [wrap36 (u := 0 - 0) (by omega) (by omega)]
  rw [show decide ((if (0 : Int) - 0 > 0 then (0 : Int) - 0 else 0) > t) = false by simp; omega]
  rfl
theorem sd_own {n : Int} (hn : n ≤ 36) : ∀ (ra : List NetV) (i : Int), 0 ≤ i → (ra.length : Int) ≤ n - i → OwnRun n i (sdGo ra ra 0 (n - i))
  | [], _, _, _ => trivial
  | a :: ra, i, h0, hl => by
    simp only [List.length_cons, Int.natCast_add, Int.cast_ofNat_Int] at hl
    unfold sdGo
    cases dashB a.2 with
    | true => trivial
    | false =>
      simp only [ifK_false, holeV_self]
      rw [wrap36 (u := 0 + 0) (by omega) (by omega), wrap36 (u := n - i - 1) (by omega) (by omega), show (0 : Int) + 0 = 0 from rfl, over0 (by omega)]
      have ih := sd_own hn ra (i + 1) (by omega) (by omega)
      rw [show n - (i + 1) = n - i - 1 by omega] at ih
      refine ⟨rfl, ?_, ?_⟩
      · show (n - i - 1 == 0) = (i == n - 1)
        rw [Bool.eq_iff_iff]
        simp only [beq_iff_eq]
        omega
      · show OwnRun n (i + 1) _
        cases n - i - 1 == 0 with
        | true => trivial
        | false => exact ih
/-- A hole raised. -/
def upX (m : Int) (x : NetV) : NetV := ifK (emptyB x.2) (IntKind.wrap .i64 (x.1 + m), x.2) x
def upL : Nat → Int → List NetV → List NetV
  | _, _, [] => []
  | 0, m, x :: l => upX m x :: l
  | k + 1, m, x :: l => x :: upL k m l
theorem upL_len : ∀ (k : Nat) (m : Int) (l : List NetV), (upL k m l).length = l.length
  | _, _, [] => by cases ‹Nat› <;> rfl
  | 0, _, _ :: _ => rfl
  | k + 1, m, x :: l => by simp only [upL, List.length_cons, upL_len k m l]
theorem upX_mark (m : Int) (x : NetV) : (upX m x).2 = x.2 := by
  unfold upX
  cases emptyB x.2 <;> rfl
theorem up_hole {m : Int} {x y : NetV} (hm : -1000 ≤ m ∧ m ≤ 1000) (hx : -999 ≤ x.1 ∧ x.1 ≤ 999) (hy : -999 ≤ y.1 ∧ y.1 ≤ 999) : holeV (upX m x).1 (upX m x).2 (upX m y).1 (upX m y).2 = holeV x.1 x.2 y.1 y.2 := by
  rw [upX_mark, upX_mark]
  unfold upX holeV
  cases emptyB x.2 with
  | false => cases emptyB y.2 <;> rfl
  | true =>
    cases emptyB y.2 with
    | false => rfl
    | true =>
      simp only [ifK_true]
      rw [wrap36 (u := x.1 + m) (by omega) (by omega), wrap36 (u := y.1 + m) (by omega) (by omega), cmpV_up]
theorem sd_up {m : Int} (hm : -1000 ≤ m ∧ m ≤ 1000) : ∀ (k : Nat) (ra rb : List NetV) (up to : Int), (∀ x ∈ ra, -999 ≤ x.1 ∧ x.1 ≤ 999) → (∀ x ∈ rb, -999 ≤ x.1 ∧ x.1 ≤ 999) → sdGo (upL k m ra) (upL k m rb) up to = sdGo ra rb up to
  | 0, [], [], _, _, _, _ => rfl
  | 0, [], _ :: _, _, _, _, _ => rfl
  | 0, _ :: _, [], _, _, _, _ => rfl
  | 0, a :: ra, b :: rb, up, to, ha, hb => by
    show sdGo (upX m a :: ra) (upX m b :: rb) up to = _
    unfold sdGo
    rw [up_hole hm (ha a (by simp)) (hb b (by simp)), upX_mark, upX_mark]
  | k + 1, [], [], _, _, _, _ => rfl
  | k + 1, [], _ :: _, _, _, _, _ => rfl
  | k + 1, _ :: _, [], _, _, _, _ => rfl
  | k + 1, a :: ra, b :: rb, up, to, ha, hb => by
    show sdGo (a :: upL k m ra) (b :: upL k m rb) up to = _
    have ih := fun up to => sd_up hm k ra rb up to (fun x hx => ha x (List.mem_cons_of_mem _ hx)) (fun x hx => hb x (List.mem_cons_of_mem _ hx))
    unfold sdGo
    rw [ih]
theorem outM_b {x m : Int} (h : outM x m = false) : -m ≤ x ∧ x ≤ m := by
  unfold outM at h
  simp only [Bool.or_eq_false_iff, decide_eq_false_iff_not] at h
  omega
theorem netsGo_zero : ∀ {l : List NetV}, netsGo l = 0 → ∀ x ∈ l, netE x = 0
  | [], _, x, hx => by cases hx
  | y :: l, h, x, hx => by
    unfold netsGo at h
    cases h1 : netE y != 0 with
    | true => rw [h1, ifK_true] at h; rw [h] at h1; cases h1
    | false =>
      rw [h1, ifK_false] at h
      rcases List.mem_cons.1 hx with rfl | hx
      · simpa using h1
      · exact netsGo_zero h x hx
theorem netE_b {x : NetV} (h : netE x = 0) : -999 ≤ x.1 ∧ x.1 ≤ 999 := by
  unfold netE at h
  cases h1 : kindBad x.2 with
  | true => rw [h1, ifK_true] at h; cases h
  | false =>
    rw [h1, ifK_false] at h
    cases h2 : (outM x.1 999 || (!emptyB x.2 && x.1 != 0)) with
    | true => rw [h2, ifK_true] at h; cases h
    | false =>
      simp only [Bool.or_eq_false_iff] at h2
      exact outM_b h2.1
theorem netsErr_zero {l : List NetV} (h : netsErr l = 0) : 0 < l.length ∧ l.length ≤ 36 ∧ ∀ x ∈ l, -999 ≤ x.1 ∧ x.1 ≤ 999 := by
  unfold netsErr at h
  cases h1 : ((l.length : Int) == 0) with
  | true => rw [h1, ifK_true] at h; cases h
  | false =>
    rw [h1, ifK_false] at h
    cases h2 : decide ((l.length : Int) > 36) with
    | true => rw [h2, ifK_true] at h; cases h
    | false =>
      rw [h2, ifK_false] at h
      have e1 : ¬ (l.length : Int) = 0 := by simpa using h1
      have e2 : ¬ (l.length : Int) > 36 := by simpa using h2
      exact ⟨by omega, by omega, fun x hx => netE_b (netsGo_zero h x hx)⟩
/-- The words of a state and of the opposite one. -/
theorem words_neg {u t : Int} (h : -36 ≤ u ∧ u ≤ 36) : (ByteArray.toList (wordsB u t) == ByteArray.toList (wordsB (-u) t)) = (u == 0) := by
  by_cases hu : u = 0
  · subst hu
    rw [show -(0 : Int) = 0 from rfl]
    simp
  · have e1 : (u == 0) = false := by simpa using hu
    have e2 : (-u == 0) = false := by simp; omega
    rw [e1]
    unfold wordsB
    rw [e1, e2, ifK_false, ifK_false]
    have key : ∀ (a b : ByteArray), (ByteArray.toList (sideB u ++ ByteArray.mk #[32] ++ a) == ByteArray.toList (sideB (-u) ++ ByteArray.mk #[32] ++ b)) = false := fun a b => by
      rw [ByteArray.toList_eq, ByteArray.toList_eq]
      cases hb : (sideB u ++ ByteArray.mk #[32] ++ a).data.toList == (sideB (-u) ++ ByteArray.mk #[32] ++ b).data.toList with
      | false => rfl
      | true =>
        exfalso
        have e' := congrArg (fun x : List UInt8 => x[0]?) (eq_of_beq hb)
        simp only [ByteArray.data_append, Array.toList_append, List.append_assoc] at e'
        unfold sideB at e'
        by_cases hlt : u < 0
        · rw [show decide (u < 0) = true by simpa using hlt, show decide (-u < 0) = false by simp; omega, ifK_true, ifK_false] at e'
          cases e'
        · rw [show decide (u < 0) = false by simpa using hlt, show decide (-u < 0) = true by simp; omega, ifK_true, ifK_false] at e'
          cases e'
    cases t == 0 with
    | true =>
      rw [ifK_true, ifK_true, ByteArray.append_assoc (c := ByteArray.mk #[32, 117, 112]), ByteArray.append_assoc (c := ByteArray.mk #[32, 117, 112])]
      exact key _ _
    | false =>
      rw [ifK_false, ifK_false, ByteArray.append_assoc (c := numB t), ByteArray.append_assoc (c := ByteArray.mk #[32, 97, 110, 100, 32] ++ numB t), ByteArray.append_assoc (c := numB t), ByteArray.append_assoc (c := ByteArray.mk #[32, 97, 110, 100, 32] ++ numB t)]
      exact key _ _
end Go.Pd
end

section
namespace Go.Pd
open Go Go.Proofs Go.RowKit
set_option maxRecDepth 100000
/-! ### A list with a hole raised -/
theorem net_one : ∀ (l : List NetV), (l.flatMap netD).all D.one = true
  | [] => rfl
  | x :: l => by
    rw [show (x :: l).flatMap netD = .int .i64 x.1 :: .str x.2 :: l.flatMap netD from rfl]
    simp only [List.all_cons, net_one l, D.one, Bool.and_self]
theorem net_len : ∀ (l : List NetV), (l.flatMap netD).length = l.length * 2
  | [] => rfl
  | x :: l => by
    rw [show (x :: l).flatMap netD = .int .i64 x.1 :: .str x.2 :: l.flatMap netD from rfl]
    simp only [List.length_cons, net_len l]
    omega
theorem split_at {α : Type} : ∀ {l : List α} {k : Nat}, k < l.length → ∃ pre x r, l = pre ++ x :: r ∧ pre.length = k
  | [], _, h => absurd h (Nat.not_lt_zero _)
  | x :: l, 0, _ => ⟨[], x, l, rfl, rfl⟩
  | x :: l, k + 1, h => by
    obtain ⟨pre, y, r, h1, h2⟩ := split_at (l := l) (k := k) (by simpa using h)
    exact ⟨x :: pre, y, r, by rw [h1]; rfl, by simp [h2]⟩
theorem up_split (m : Int) : ∀ (pre : List NetV) (x : NetV) (r : List NetV), upL pre.length m (pre ++ x :: r) = pre ++ upX m x :: r
  | [], _, _ => rfl
  | y :: pre, x, r => by
    show y :: upL pre.length m (pre ++ x :: r) = _
    rw [up_split m pre x r]
    rfl
theorem set_split (d : D) : ∀ (pre : List NetV) (x : NetV) (r : List NetV), ((pre ++ x :: r).flatMap netD).set (pre.length * 2) d = pre.flatMap netD ++ d :: .str x.2 :: r.flatMap netD
  | [], _, _ => rfl
  | y :: pre, x, r => by
    show (D.int .i64 y.1 :: .str y.2 :: (pre ++ x :: r).flatMap netD).set ((pre.length + 1) * 2) d = _
    rw [show (pre.length + 1) * 2 = pre.length * 2 + 1 + 1 by omega, List.set_cons_succ, List.set_cons_succ, set_split d pre x r]
    rfl
theorem ok69 {f : Bool} (l : List NetV) (k : Nat) (m : Int) (hk : k < l.length) (hl : l.length ≤ 1000) : OK5 69 [.slc f l.length (l.flatMap netD), .snap [.int .i64 k] 0, .snap [.int .i64 m] 0] (.slc false l.length ((upL k m l).flatMap netD)) := by
  refine fnT none_ok Tryz.func69 (ord := O0) (N := N0) (by kernel_rfl) ((F69_eq _ _ _ _ _ _ _ _).trans ?_)
  obtain ⟨pre, x, r, h1, h2⟩ := split_at hk
  have hc : decide (((pre ++ x :: r).flatMap netD).length = (pre ++ x :: r).length * 2) = true := by rw [net_len]; simp
  have hr : decide (0 < (pre ++ x :: r).length ∧ 0 = 0 ∧ (0 + (pre ++ x :: r).length) * 24 ≤ limit ∧ 0 + (pre ++ x :: r).length ≤ 4611686018427387903) = true := by
    simp only [decide_eq_true_eq]
    rw [show limit = 140737488355328 from rfl]
    rw [h1] at hl hk
    exact ⟨by omega, trivial, by omega, by omega⟩
  have hi : decide ((0 : Int) ≤ (pre.length : Int) ∧ (pre.length : Int) < 0 + ((pre ++ x :: r).length : Int)) = true := by simp; omega
  have hw : decide (Int.toNat (pre.length : Int) * 2 + 0 + 1 ≤ ((pre ++ x :: r).flatMap netD).length) = true := by rw [net_len]; simp; omega
  subst h1 h2
  have hz : (0 + (pre ++ x :: r).length) = (pre ++ x :: r).length := Nat.zero_add _
  rw [hc, chkK_true, net_one, chkK_true, hr, chkK_true, hi, chkK_true, n1, strK_str, chkK_true, n0, intK_int, chkK_true, hw, chkK_true, hz]
  have e1 : (ByteArray.toList x.2 == ByteArray.toList (ByteArray.mk #[])) = emptyB x.2 := rfl
  rw [e1, up_split]
  unfold upX
  cases emptyB x.2 with
  | false => rfl
  | true =>
    rw [ifK_true, ifK_true]
    show some (D.slc false _ (((pre ++ x :: r).flatMap netD).set (Int.toNat (pre.length : Int) * 2 + 0) (.int .i64 (IntKind.wrap .i64 (x.1 + m))))) = _
    rw [show Int.toNat (pre.length : Int) * 2 + 0 = pre.length * 2 by simp, set_split, List.flatMap_append]
    rfl
/-! ### The loop over the states -/
section
variable {γ : Type} (c : D → Option γ) (pre : List StV) (x : StV) (r : List StV)
theorem m0 : cellK (((pre ++ x :: r).map negS).flatMap stD) (Int.toNat (pre.length : Int) * 3 + 0) c = c (.int .i64 (-x.1)) := by
  have := s0 c (pre.map negS) (negS x) (r.map negS)
  rw [List.length_map] at this
  rw [List.map_append, List.map_cons]
  exact this
theorem m1 : cellK (((pre ++ x :: r).map negS).flatMap stD) (Int.toNat (pre.length : Int) * 3 + 1) c = c (.int .i64 x.2.1) := by
  have := s1 c (pre.map negS) (negS x) (r.map negS)
  rw [List.length_map] at this
  rw [List.map_append, List.map_cons]
  exact this
theorem m2 : cellK (((pre ++ x :: r).map negS).flatMap stD) (Int.toNat (pre.length : Int) * 3 + 2) c = c (.bool x.2.2) := by
  have := s2 c (pre.map negS) (negS x) (r.map negS)
  rw [List.length_map] at this
  rw [List.map_append, List.map_cons]
  exact this
end
theorem stErr_ok {u t : Int} {o : Bool} (h1 : 0 ≤ t ∧ t ≤ 36) (h2 : -36 ≤ u ∧ u ≤ 36) (h3 : overV u t = true) (h4 : o = true) : stErr u t o = 0 := by
  unfold stErr
  rw [show decide (t < 0) = false by simp; omega, show decide (t > 36) = false by simp; omega, show decide (u < -36) = false by simp; omega, show decide (u > 36) = false by simp; omega, h3, h4]
  rfl
section
variable {call : FuncId → List D → Option D} {fa fb fs ft : Bool} {n nb : Nat} {ca cb : List D} {r0 r1 : Int} {s : List StV}
theorem go1018 (hn : n ≤ 36) (t68 : ∀ u t, call 68 [.int .i64 u, .int .i64 t] = some (.bool (overV u t))) (t64 : ∀ u t o, call 64 [.agg [.int .i64 u, .int .i64 t, .bool o]] = some (wordsR u t o))
    (hend : ∀ fuel last, F13_1018 call LL C1 (fuel + 1) fa n ca fb nb cb fs s.length (s.flatMap stD) ft s.length ((s.map negS).flatMap stD) r0 r1 last (s.length : Int) (s.length : Int) = some (.bool true)) :
    ∀ (r pre : List StV) (last : Int) (fuel : Nat), pre ++ r = s → r.length < fuel → StRun n pre.length last r → -(pre.length : Int) ≤ last → last ≤ pre.length → s.length ≤ 36 →
      F13_1018 call LL C1 fuel fa n ca fb nb cb fs s.length (s.flatMap stD) ft s.length ((s.map negS).flatMap stD) r0 r1 last (s.length : Int) (pre.length : Int) = some (.bool true) := by
  intro r
  induction r with
  | nil =>
    intro pre last fuel hs hf _ _ _ _
    cases fuel with
    | zero => exact absurd hf (Nat.not_lt_zero _)
    | succ fuel =>
      rw [List.append_nil] at hs
      subst hs
      exact hend fuel last
  | cons x r ih =>
    intro pre last fuel hs hf hrun hl1 hl2 hsl
    cases fuel with
    | zero => exact absurd hf (Nat.not_lt_zero _)
    | succ fuel =>
      obtain ⟨⟨a1, a2⟩, ⟨b1, b2⟩, ⟨c1, c2⟩, d1, hrest⟩ := hrun
      have ih := ih (pre ++ [x]) x.1 fuel (by rw [app1]; exact hs) (by simp at hf; omega) (by simpa using hrest) (by simp; omega) (by simp; omega) hsl
      have hpl : pre.length + r.length + 1 ≤ 36 := by rw [← hs] at hsl; simp at hsl; omega
      subst hs
      have hstep := step_pre pre x r (by omega)
      rw [← hstep] at ih
      have e1 : (x.1 != IntKind.wrap .i64 (0 - -x.1)) = false := by rw [wrap36 (by omega) (by omega)]; simp
      have e2 : (x.2.1 != x.2.1) = false := by simp
      have e3 : (!x.2.2 == x.2.2) = false := by cases x.2.2 <;> rfl
      have e4 : (x.2.1 != IntKind.wrap .i64 (IntKind.wrap .i64 ((n : Int) - (pre.length : Int)) - 1)) = false := by
        rw [wrap36 (u := (n : Int) - pre.length) (by omega) (by omega), wrap36 (by omega) (by omega), a1]
        simp
      have e5 : decide (IntKind.wrap .i64 (x.1 - last) > 1) = false := by rw [wrap36 (by omega) (by omega)]; simp; omega
      have e6 : decide (IntKind.wrap .i64 (last - x.1) > 1) = false := by rw [wrap36 (by omega) (by omega)]; simp; omega
      have hlast : ((pre.length : Int) == IntKind.wrap .i64 (((pre ++ x :: r).length : Int) - 1)) = r.isEmpty := by
        rw [wrap36 (by simp; omega) (by simp; omega)]
        cases r with
        | nil => simp
        | cons y r => simp; omega
      have h130 : F13_130355 call LL C1 fuel fa n ca fb nb cb fs (pre ++ x :: r).length ((pre ++ x :: r).flatMap stD) ft (pre ++ x :: r).length (((pre ++ x :: r).map negS).flatMap stD) (pre.length : Int) ((pre ++ x :: r).length : Int) r0 r1 = some (.bool true) := by
        rw [F13_130355_eq (hC := (fun _ => rfl : ∀ t, C1 t = 1)), in_pre, chkK_true, s0, intK_int, chkK_true, s2, boolK_bool, ih]
        cases ho : x.2.2 with
        | false => rfl
        | true =>
          rw [ho] at d1
          have hov : overV x.1 x.2.1 = true := by
            cases h : overV x.1 x.2.1 with
            | true => rfl
            | false => rw [h, Bool.and_false] at d1; cases d1
          have hov' : overV (-x.1) x.2.1 = true := by rw [overV_neg _ (by omega) (by omega)]; exact hov
          have w1 := t64 x.1 x.2.1 true
          have w2 := t64 (-x.1) x.2.1 true
          unfold wordsR at w1 w2
          rw [stErr_ok (by omega) (by omega) hov rfl] at w1
          rw [stErr_ok (by omega) (by omega) hov' rfl] at w2
          have z0 : ((0 : Int) != 0) = false := rfl
          rw [z0, ifK_false] at w1 w2
          have hw : (!(ByteArray.toList (wordsB x.1 x.2.1) == ByteArray.toList (wordsB (-x.1) x.2.1)) == (x.1 == 0)) = false := by
            rw [words_neg (by omega)]
            cases x.1 == 0 <;> rfl
          rw [ifK_true, chkK_true, s0, intK_int, s1, intK_int, s2, boolK_bool, ho, w1, optK_some, tup2, cellK_some rfl, strK_str, cellK_some rfl, intK_int, chkK_true, m0, intK_int, m1, intK_int, m2, boolK_bool, ho, w2, optK_some, tup2, cellK_some rfl, strK_str, cellK_some rfl, intK_int, z0, ifK_false, ifK_false, chkK_true, s0, intK_int, hw, ifK_false]
      rw [F13_1018_eq, lt_pre, ifK_true, in_pre, chkK_true, s0, intK_int, chkK_true, m0, intK_int, e1, ifK_false, chkK_true, s1, intK_int, chkK_true, m1, intK_int, e2, ifK_false, chkK_true, s2, boolK_bool, chkK_true, m2, boolK_bool, e3, ifK_false, chkK_true, s1, intK_int, e4, ifK_false, chkK_true, s2, boolK_bool, hlast]
      cases r with
      | nil =>
        have e7 : (!x.2.2 == overV x.1 x.2.1) = false := by rw [d1]; cases overV x.1 x.2.1 <;> rfl
        rw [show ([] : List StV).isEmpty = true from rfl, ifK_true, chkK_true, s0, intK_int, chkK_true, s1, intK_int, t68, optK_some, boolK_bool, e7, ifK_false, chkK_true, s0, intK_int, e5, ifK_false, chkK_true, s0, intK_int, e6, ifK_false, h130]
      | cons y r =>
        have e8 : (!x.2.2 == false) = false := by rw [d1]; rfl
        rw [show (y :: r).isEmpty = false from rfl, ifK_false, e8, ifK_false, chkK_true, s0, intK_int, e5, ifK_false, chkK_true, s0, intK_int, e6, ifK_false, h130]
theorem go524282 (t16 : call 16 [] = some (.bool true)) (hn : n ≤ 36) (hsl : s.length ≤ 36) {k : Nat} : ∀ (r pre : List StV) (fuel : Nat), pre ++ r = s → r.length < fuel → OwnRun n pre.length r →
    F13_524282 call LL C1 k fuel fa n ca fs s.length (s.flatMap stD) (s.length : Int) (pre.length : Int) = some (.bool true) := by
  intro r
  induction r with
  | nil =>
    intro pre fuel hs hf _
    cases fuel with
    | zero => exact absurd hf (Nat.not_lt_zero _)
    | succ fuel =>
      subst hs
      rw [F13_524282_eq, end_pre, ifK_false, t16, optK_some, boolK_bool]
  | cons x r ih =>
    intro pre fuel hs hf hrun
    cases fuel with
    | zero => exact absurd hf (Nat.not_lt_zero _)
    | succ fuel =>
      obtain ⟨a1, a2, hrest⟩ := hrun
      have ih := ih (pre ++ [x]) fuel (by rw [app1]; exact hs) (by simp at hf; omega) (by simpa using hrest)
      have hpl : pre.length + r.length + 1 ≤ 36 := by rw [← hs] at hsl; simp at hsl; omega
      subst hs
      rw [← step_pre pre x r (by omega)] at ih
      have e1 : (x.1 != 0) = false := by rw [a1]; rfl
      have e2 : (!x.2.2 == ((pre.length : Int) == IntKind.wrap .i64 ((n : Int) - 1))) = false := by
        rw [wrap36 (by omega) (by omega), a2]
        cases ((pre.length : Int) == (n : Int) - 1) <;> rfl
      rw [F13_524282_eq, lt_pre, ifK_true, in_pre, chkK_true, s0, intK_int, s1, intK_int, s2, boolK_bool, e1, ifK_false, e2, ifK_false, ih]
end
end Go.Pd
end

section
namespace Go.Pd
open Go Go.Proofs Go.RowKit
set_option maxRecDepth 100000
theorem nets_inj' {a b : List NetV} (h : a.flatMap netD = b.flatMap netD) : a = b := by
  have := congrArg unnets h
  rw [unnets_flat, unnets_flat] at this
  exact Option.some.inj this
theorem sts_inj {a b : List StV} (h : a.flatMap stD = b.flatMap stD) : a = b := by
  have := congrArg unsts h
  rw [unsts_flat, unsts_flat] at this
  exact Option.some.inj this
/-- Calls with a list of net strokes. -/
def famN (k : FuncId) (N : Nat) (F : List NetV → D) : Fam := ⟨k, Bool × {l : List NetV // l.length ≤ N}, fun x => [.slc x.1 x.2.1.length (x.2.1.flatMap netD)], fun x => F x.2.1⟩
theorem famN_good {k : FuncId} {N : Nat} {F : List NetV → D} (h : ∀ (f : Bool) (l : List NetV), l.length ≤ N → OK5 k [.slc f l.length (l.flatMap netD)] (F l)) (hc : ∀ (f : Bool) (l : List NetV), cstG k [.slc f l.length (l.flatMap netD)] = none) : (famN k N F).Good :=
  ⟨fun x => h x.1 x.2.1 x.2.2, fun x y e => by
    simp only [famN, List.cons.injEq, D.slc.injEq, and_true] at e
    show F x.2.1 = F y.2.1
    rw [nets_inj' e.2.2], fun x => hc x.1 x.2.1⟩
def fam63 : Fam := ⟨63, (Bool × Bool) × List NetV × List NetV, fun x => [.slc x.1.1 x.2.1.length (x.2.1.flatMap netD), .slc x.1.2 x.2.2.length (x.2.2.flatMap netD)], fun x => sidesR x.2.1 x.2.2⟩
theorem fam63_good : fam63.Good := ⟨fun x => ok63 x.2.1 x.2.2, fun x y e => by
  simp only [fam63, List.cons.injEq, D.slc.injEq, and_true] at e
  show sidesR x.2.1 x.2.2 = sidesR y.2.1 y.2.2
  rw [nets_inj' e.1.2.2, nets_inj' e.2.2.2], fun _ => rfl⟩
def fam28 : Fam := ⟨28, Bool × {l : List StV // l.length ≤ 1000}, fun x => [.slc x.1 x.2.1.length (x.2.1.flatMap stD)], fun x => slR stD x.2.1⟩
theorem fam28_good : fam28.Good := ⟨fun x => ok28 x.2.1 x.2.2, fun x y e => by
  simp only [fam28, List.cons.injEq, D.slc.injEq, and_true] at e
  show slR stD x.2.1 = slR stD y.2.1
  rw [sts_inj e.2.2], fun _ => rfl⟩
def fam27 : Fam := ⟨27, Bool × {l : List StV // l.length ≤ 1000}, fun x => [.slc x.1 x.2.1.length (x.2.1.flatMap stD), .slc x.1 x.2.1.length (x.2.1.flatMap stD)], fun _ => .bool true⟩
theorem fam27_good : fam27.Good := ⟨fun x => ok27 x.2.1 x.2.2, fun _ _ _ => rfl, fun _ => rfl⟩
def fam64 : Fam := ⟨64, Int × Int × Bool, fun x => [.agg [.int .i64 x.1, .int .i64 x.2.1, .bool x.2.2]], fun x => wordsR x.1 x.2.1 x.2.2⟩
theorem fam64_good : fam64.Good := ⟨fun x => ok64 x.1 x.2.1 x.2.2, fun x y e => by
  simp only [fam64, List.cons.injEq, D.agg.injEq, D.int.injEq, D.bool.injEq, true_and, and_true] at e
  show wordsR x.1 x.2.1 x.2.2 = wordsR y.1 y.2.1 y.2.2
  rw [e.1, e.2.1, e.2.2], fun _ => rfl⟩
def fam68 : Fam := ⟨68, Int × Int, fun x => [.int .i64 x.1, .int .i64 x.2], fun x => .bool (overV x.1 x.2)⟩
theorem fam68_good : fam68.Good := ⟨fun x => ok68 x.1 x.2, fun x y e => by
  simp only [fam68, List.cons.injEq, D.int.injEq, true_and, and_true] at e
  show D.bool (overV x.1 x.2) = .bool (overV y.1 y.2)
  rw [e.1, e.2], fun _ => rfl⟩
def fam69 : Fam := ⟨69, Bool × Int × {x : List NetV × Nat // x.2 < x.1.length ∧ x.1.length ≤ 1000}, fun x => [.slc x.1 x.2.2.1.1.length (x.2.2.1.1.flatMap netD), .snap [.int .i64 x.2.2.1.2] 0, .snap [.int .i64 x.2.1] 0], fun x => .slc false x.2.2.1.1.length ((upL x.2.2.1.2 x.2.1 x.2.2.1.1).flatMap netD)⟩
theorem fam69_good : fam69.Good := ⟨fun x => ok69 x.2.2.1.1 x.2.2.1.2 x.2.1 x.2.2.2.1 x.2.2.2.2, fun x y e => by
  simp only [fam69, List.cons.injEq, D.slc.injEq, D.snap.injEq, D.int.injEq, true_and, and_true] at e
  obtain ⟨⟨_, _, e1⟩, e2, e3⟩ := e
  show D.slc false x.2.2.1.1.length ((upL x.2.2.1.2 x.2.1 x.2.2.1.1).flatMap netD) = D.slc false y.2.2.1.1.length ((upL y.2.2.1.2 y.2.1 y.2.2.1.1).flatMap netD)
  rw [nets_inj' e1, Int.ofNat.inj e2, e3], fun _ => rfl⟩
theorem sidesR_ok {a b : List NetV} (ha : netsErr a = 0) (hb : netsErr b = 0) (hl : a.length = b.length) : sidesR a b = .tup [.slc (sidesV a b).isEmpty (sidesV a b).length ((sidesV a b).flatMap stD), .int .i64 0] := by
  have : sidesErr a b = 0 := by
    unfold sidesErr
    rw [ha, hb, hl]
    simp [fst3, ifK]
  unfold sidesR
  rw [this]
  rfl
theorem tmod_in {x n : Int} (hn : 0 < n) : -n < Int.tmod x n ∧ Int.tmod x n < n := ⟨Int.lt_tmod_of_pos x hn, Int.tmod_lt_of_pos x hn⟩
theorem ok13 {fa fb : Bool} (a b : List NetV) (r0 r1 : Int) (hla : a.length ≤ 9223372036854775807) (hlb : b.length ≤ 9223372036854775807) :
    OK5 13 [.slc fa a.length (a.flatMap netD), .slc fb b.length (b.flatMap netD), .agg [.int .i64 r0, .int .i64 r1]] (.bool true) := by
  obtain ⟨B, hb, h16, h62, h43, h65, h63, h28, h27, h64, h68, h69, _⟩ := exF [one 16 [] (.bool true), famN 62 9223372036854775807 fun l => .bool (brGo l.length l), famN 43 1000 fun l => slR netD l, famN 65 1000 fun l => .int .i64 (netsErr l), fam63, fam28, fam27, fam64, fam68, fam69]
    ⟨one_good awake_ok rfl, famN_good (fun f l hl => ok62 l hl) (fun _ _ => rfl), famN_good (fun f l hl => ok43 l hl) (fun _ _ => rfl), famN_good (fun f l _ => ok65 l) (fun _ _ => rfl), fam63_good, fam28_good, fam27_good, fam64_good, fam68_good, fam69_good, trivial⟩ rfl
  have t16 : callOf B 16 [] = some (.bool true) := h16 ()
  have t62 : ∀ (f : Bool) (l : List NetV), l.length ≤ 9223372036854775807 → callOf B 62 [.slc f l.length (l.flatMap netD)] = some (.bool (brGo l.length l)) := fun f l hl => h62 (f, ⟨l, hl⟩)
  have t43 : ∀ (f : Bool) (l : List NetV), l.length ≤ 1000 → callOf B 43 [.slc f l.length (l.flatMap netD)] = some (.slc l.isEmpty l.length (l.flatMap netD)) := fun f l hl => h43 (f, ⟨l, hl⟩)
  have t65 : ∀ (f : Bool) (l : List NetV), l.length ≤ 1000 → callOf B 65 [.slc f l.length (l.flatMap netD)] = some (.int .i64 (netsErr l)) := fun f l hl => h65 (f, ⟨l, hl⟩)
  have t63 : ∀ (f g : Bool) (a b : List NetV), callOf B 63 [.slc f a.length (a.flatMap netD), .slc g b.length (b.flatMap netD)] = some (sidesR a b) := fun f g a b => h63 ((f, g), a, b)
  have t28 : ∀ (f : Bool) (l : List StV), l.length ≤ 1000 → callOf B 28 [.slc f l.length (l.flatMap stD)] = some (.slc l.isEmpty l.length (l.flatMap stD)) := fun f l hl => h28 (f, ⟨l, hl⟩)
  have t27 : ∀ (f : Bool) (l : List StV), l.length ≤ 1000 → callOf B 27 [.slc f l.length (l.flatMap stD), .slc f l.length (l.flatMap stD)] = some (.bool true) := fun f l hl => h27 (f, ⟨l, hl⟩)
  have t64 : ∀ u t o, callOf B 64 [.agg [.int .i64 u, .int .i64 t, .bool o]] = some (wordsR u t o) := fun u t o => h64 (u, t, o)
  have t68 : ∀ u t, callOf B 68 [.int .i64 u, .int .i64 t] = some (.bool (overV u t)) := fun u t => h68 (u, t)
  have t69 : ∀ (f : Bool) (l : List NetV) (k : Nat) (m : Int), k < l.length → l.length ≤ 1000 → callOf B 69 [.slc f l.length (l.flatMap netD), .snap [.int .i64 k] 0, .snap [.int .i64 m] 0] = some (.slc false l.length ((upL k m l).flatMap netD)) := fun f l k m h1 h2 => h69 (f, m, ⟨(l, k), h1, h2⟩)
  clear h16 h62 h43 h65 h63 h28 h27 h64 h68 h69
  refine fnT hb Tryz.func13 (ord := O0) (N := N13) (by kernel_rfl) ((F13_eq _ _ _ _ _ _ _ _ _ _ _).trans ?_)
  have nt : (!true) = false := rfl
  have nf : (!false) = true := rfl
  have z0 : ((0 : Int) != 0) = false := rfl
  rw [t62 fa a hla, optK_some, boolK_bool]
  cases h1 : brGo a.length a with
  | false => rw [nf, ifK_true, t16, optK_some, boolK_bool]
  | true =>
    have la := brGo_true h1
    rw [nt, ifK_false, t62 fb b hlb, optK_some, boolK_bool]
    cases h2 : brGo b.length b with
    | false => rw [nf, ifK_true, t16, optK_some, boolK_bool]
    | true =>
      have lb := brGo_true h2
      rw [nt, ifK_false, t43 fa a (by omega), optK_some, slcK_slc, t65 _ a (by omega), optK_some, intK_int]
      cases e1 : netsErr a != 0 with
      | true => rw [ifK_true, t16, optK_some, boolK_bool]
      | false =>
        rw [ifK_false, t43 fb b (by omega), optK_some, slcK_slc, t65 _ b (by omega), optK_some, intK_int]
        cases e2 : netsErr b != 0 with
        | true => rw [ifK_true, t16, optK_some, boolK_bool]
        | false =>
          rw [ifK_false]
          cases e3 : ((a.length : Int) != (b.length : Int)) with
          | true => rw [ifK_true, t16, optK_some, boolK_bool]
          | false =>
            have a0 : netsErr a = 0 := by simpa using e1
            have b0 : netsErr b = 0 := by simpa using e2
            have hab : a.length = b.length := by
              have : (a.length : Int) = b.length := by simpa using e3
              omega
            obtain ⟨p1, p2, p3⟩ := netsErr_zero a0
            obtain ⟨_, _, q3⟩ := netsErr_zero b0
            obtain ⟨s, hs⟩ : ∃ s, s = sidesV a b := ⟨_, rfl⟩
            have hsl : s.length ≤ a.length := by rw [hs]; exact sdGo_len ..
            have hba : sidesV b a = s.map negS := by
              rw [hs]
              unfold sidesV
              have := sd_neg a b 0 a.length (by omega) (by omega)
              rw [← hab]
              exact this
            have k1 := t63 fa fb a b
            have k2 := t63 fb fa b a
            rw [sidesR_ok a0 b0 hab, ← hs] at k1
            rw [sidesR_ok b0 a0 hab.symm, hba, List.length_map] at k2
            have hne : ((s.length : Int) != (s.length : Int)) = false := by simp
            have hgt : decide ((s.length : Int) > (a.length : Int)) = false := by simp; omega
            rw [ifK_false, F13_7_eq (hC := (fun _ => rfl : ∀ t, C1 t = 1)), k1, optK_some, tup2, cellK_some rfl, slcK_slc, cellK_some rfl, intK_int, k2, optK_some, tup2, cellK_some rfl, slcK_slc, cellK_some rfl, intK_int, z0, ifK_false, ifK_false, hne, ifK_false, hgt, ifK_false, F13_63_eq (hC := (fun _ => rfl : ∀ t, C1 t = 1))]
            have hrun : StRun (a.length : Int) (([] : List StV).length : Int) 0 s := by
              have := sd_run (n := a.length) (by omega) a b 0 0 (by omega) (by omega) (by omega) (by omega)
              rw [Int.sub_zero] at this
              rw [hs]
              exact this
            have hmain := go1018 (call := callOf B) (fa := fa) (fb := fb) (fs := s.isEmpty) (ft := (s.map negS).isEmpty) (n := a.length) (nb := b.length) (ca := a.flatMap netD) (cb := b.flatMap netD) (r0 := r0) (r1 := r1) (s := s) p2 t68 t64 ?_ s [] 0 LL rfl (by unfold LL; omega) hrun (by simp) (by simp) (by omega)
            · exact hmain
            · -- behind the loop
              intro fuel last
              have hlt : decide ((s.length : Int) < (s.length : Int)) = false := by simp
              have hz : (!decide ((a.length : Int) = 0)) = true := by rw [decide_eq_false (show ¬ ((a.length : Int) = 0) by omega)]; rfl
              have hpos : (0 : Int) < a.length := by omega
              obtain ⟨w1, w2⟩ := tmod_in (x := r0) hpos
              obtain ⟨m, hm⟩ : ∃ m, m = Int.tmod r1 50 := ⟨_, rfl⟩
              have hmb := tmod_in (x := r1) (n := 50) (by omega)
              rw [← hm] at hmb
              have hwr : IntKind.wrap .i64 (Int.tmod r0 (a.length : Int) + (a.length : Int)) = Int.tmod r0 (a.length : Int) + (a.length : Int) := wrap36 (by omega) (by omega)
              obtain ⟨k, hk⟩ : ∃ k : Nat, (k : Int) = Int.tmod (Int.tmod r0 (a.length : Int) + (a.length : Int)) (a.length : Int) := ⟨_, Int.toNat_of_nonneg (Int.tmod_nonneg _ (by omega))⟩
              have hka : k < a.length := by
                have := (tmod_in (x := Int.tmod r0 (a.length : Int) + (a.length : Int)) hpos).2
                omega
              obtain ⟨c, hc⟩ : ∃ c, c = upL k m a := ⟨_, rfl⟩
              obtain ⟨d, hd⟩ : ∃ d, d = upL k m b := ⟨_, rfl⟩
              have lc : c.length = a.length := by rw [hc, upL_len]
              have ld : d.length = b.length := by rw [hd, upL_len]
              have u1 := t69 fa a k m hka (by omega)
              have u2 := t69 fb b k m (by omega) (by omega)
              rw [← hc, ← lc] at u1
              rw [← hd, ← ld] at u2
              rw [lc] at u1
              rw [ld] at u2
              have v1 := t43 false c (by omega)
              have v2 := t43 false d (by omega)
              have x1 := t65 c.isEmpty c (by omega)
              have x2 := t65 d.isEmpty d (by omega)
              rw [F13_1018_eq, hlt, ifK_false, hz, chkK_true, chkK_true, hwr, ← hk, ← hm, u1, optK_some, slcK_slc, u2, optK_some, slcK_slc, ← lc, v1, optK_some, slcK_slc, x1, optK_some, intK_int]
              cases ec : netsErr c != 0 with
              | true => rw [ifK_true, t16, optK_some, boolK_bool]
              | false =>
                rw [ifK_false, ← ld, v2, optK_some, slcK_slc, x2, optK_some, intK_int]
                cases ed : netsErr d != 0 with
                | true => rw [ifK_true, t16, optK_some, boolK_bool]
                | false =>
                  have c0 : netsErr c = 0 := by simpa using ec
                  have d0 : netsErr d = 0 := by simpa using ed
                  have y1 := t63 false false c d
                  have y2 := t63 fa fa a a
                  have hcd : sidesV c d = s := by
                    rw [hs]
                    unfold sidesV
                    rw [lc, hc, hd]
                    exact sd_up (by omega) k a b 0 _ p3 q3
                  obtain ⟨w, hw⟩ : ∃ w, w = sidesV a a := ⟨_, rfl⟩
                  have hwl : w.length ≤ a.length := by rw [hw]; exact sdGo_len ..
                  rw [sidesR_ok c0 d0 (by omega), hcd] at y1
                  rw [sidesR_ok a0 a0 rfl, ← hw, ← lc] at y2
                  have t28s := t28 s.isEmpty s (by omega)
                  have t27s := t27 s.isEmpty s (by omega)
                  have hown : OwnRun (c.length : Int) (([] : List StV).length : Int) w := by
                    have := sd_own (n := a.length) (by omega) a 0 (by omega) (by omega)
                    rw [Int.sub_zero] at this
                    rw [hw, lc]
                    exact this
                  rw [ifK_false, F13_8191_eq (hC := (fun _ => rfl : ∀ t, C1 t = 1)), y1, optK_some, tup2, cellK_some rfl, slcK_slc, cellK_some rfl, intK_int, y2, optK_some, tup2, cellK_some rfl, slcK_slc, cellK_some rfl, intK_int, z0, ifK_false, t28s, optK_some, slcK_slc, optK_some, slcK_slc, t27s, optK_some, boolK_bool, nt, ifK_false, ifK_false, F13_65535_eq (hC := (fun _ => rfl : ∀ t, C1 t = 1))]
                  exact go524282 (call := callOf B) t16 (by omega) (by omega) w [] LL rfl (by unfold LL; omega) hown
end Go.Pd
end
