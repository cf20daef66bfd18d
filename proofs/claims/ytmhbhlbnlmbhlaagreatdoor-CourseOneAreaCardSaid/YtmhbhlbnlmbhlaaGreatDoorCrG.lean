/-
  Chapter 2: the fixed examples: where the segment meets the sides.
  Chapter 2: the fixed examples: which areas hold the points between.
-/
import Derived.Test.YtmhbhlbnlmbhlaaGreatDoorCrC
section
namespace Go.Pd
open Go Go.Proofs
set_option maxRecDepth 100000
theorem okA : okAll Tryz.prog ordA listA = true := by kernel_rfl
theorem ordA_mem {f : FuncId} {od : Ord} (h : ordA f = some od) : f ∈ listA := by
  unfold ordA at h
  split at h
  · cases h
  · rename_i hc; simpa using hc
theorem evB_ok {l : List Ent} (hl : ∀ e ∈ l, OK2 e.1 e.2.1 e.2.2) {n : Nat} {k : FuncId} {ds : List D} {r : D} (h : evG (RB l) n k ds = some r) : OK2 k ds r :=
  evG_ok (R := RB l) mixedT (X1_ok hl) cst_ok sqA_ok (wrM_ok muA_ok) wrM_ow (fun f od fn _ ho hf => okAll_get listA okA f (ordA_mem ho) od fn ho hf) n k ds r h
theorem no_ents : ∀ e ∈ ([] : List Ent), OK2 e.1 e.2.1 e.2.2 := fun e he => by cases he
def sdA (a b c d : Int) : D := .agg [.int .i64 a, .int .i64 b, .int .i64 c, .int .i64 d]
def divE (a b c d : Int) (r : D) : Ent := (145, [sdA a b c d, pl 0 0, pl 100 0], r)
theorem div_ok {a b c d : Int} {r : D} (h : evG (RB []) 20 145 [sdA a b c d, pl 0 0, pl 100 0] = some r) : OK2 (divE a b c d r).1 (divE a b c d r).2.1 (divE a b c d r).2.2 := evB_ok no_ents h
def t0 : D := .slc true 0 []
def tq (n d : Int) : D := .slc true 1 [.int .i64 n, .nils, .int .i64 d, .nils]
theorem div0 : OK2 (divE (-10) (-20) 120 (-20) t0).1 (divE (-10) (-20) 120 (-20) t0).2.1 (divE (-10) (-20) 120 (-20) t0).2.2 := div_ok (by kernel_rfl)
theorem div1 : OK2 (divE 120 (-20) 120 20 t0).1 (divE 120 (-20) 120 20 t0).2.1 (divE 120 (-20) 120 20 t0).2.2 := div_ok (by kernel_rfl)
theorem div2 : OK2 (divE 120 20 (-10) 20 t0).1 (divE 120 20 (-10) 20 t0).2.1 (divE 120 20 (-10) 20 t0).2.2 := div_ok (by kernel_rfl)
theorem div3 : OK2 (divE (-10) 20 (-10) (-20) t0).1 (divE (-10) 20 (-10) (-20) t0).2.1 (divE (-10) 20 (-10) (-20) t0).2.2 := div_ok (by kernel_rfl)
theorem div4 : OK2 (divE 10 (-10) 90 (-10) t0).1 (divE 10 (-10) 90 (-10) t0).2.1 (divE 10 (-10) 90 (-10) t0).2.2 := div_ok (by kernel_rfl)
theorem div5 : OK2 (divE 90 (-10) 90 10 (tq 9 10)).1 (divE 90 (-10) 90 10 (tq 9 10)).2.1 (divE 90 (-10) 90 10 (tq 9 10)).2.2 := div_ok (by kernel_rfl)
theorem div6 : OK2 (divE 90 10 10 10 t0).1 (divE 90 10 10 10 t0).2.1 (divE 90 10 10 10 t0).2.2 := div_ok (by kernel_rfl)
theorem div7 : OK2 (divE 10 10 10 (-10) (tq 1 10)).1 (divE 10 10 10 (-10) (tq 1 10)).2.1 (divE 10 10 10 (-10) (tq 1 10)).2.2 := div_ok (by kernel_rfl)
theorem div8 : OK2 (divE 90 (-5) 110 (-5) t0).1 (divE 90 (-5) 110 (-5) t0).2.1 (divE 90 (-5) 110 (-5) t0).2.2 := div_ok (by kernel_rfl)
theorem div9 : OK2 (divE 110 (-5) 110 5 t0).1 (divE 110 (-5) 110 5 t0).2.1 (divE 110 (-5) 110 5 t0).2.2 := div_ok (by kernel_rfl)
theorem div10 : OK2 (divE 110 5 90 5 t0).1 (divE 110 5 90 5 t0).2.1 (divE 110 5 90 5 t0).2.2 := div_ok (by kernel_rfl)
theorem div11 : OK2 (divE 90 5 90 (-5) (tq 9 10)).1 (divE 90 5 90 (-5) (tq 9 10)).2.1 (divE 90 5 90 (-5) (tq 9 10)).2.2 := div_ok (by kernel_rfl)
theorem div12 : OK2 (divE 40 (-20) 50 (-20) t0).1 (divE 40 (-20) 50 (-20) t0).2.1 (divE 40 (-20) 50 (-20) t0).2.2 := div_ok (by kernel_rfl)
theorem div13 : OK2 (divE 50 (-20) 50 20 (tq 1 2)).1 (divE 50 (-20) 50 20 (tq 1 2)).2.1 (divE 50 (-20) 50 20 (tq 1 2)).2.2 := div_ok (by kernel_rfl)
theorem div14 : OK2 (divE 50 20 40 20 t0).1 (divE 50 20 40 20 t0).2.1 (divE 50 20 40 20 t0).2.2 := div_ok (by kernel_rfl)
theorem div15 : OK2 (divE 40 20 40 (-20) (tq 2 5)).1 (divE 40 20 40 (-20) (tq 2 5)).2.1 (divE 40 20 40 (-20) (tq 2 5)).2.2 := div_ok (by kernel_rfl)
def divs : List Ent := [divE (-10) (-20) 120 (-20) t0, divE 120 (-20) 120 20 t0, divE 120 20 (-10) 20 t0, divE (-10) 20 (-10) (-20) t0, divE 10 (-10) 90 (-10) t0, divE 90 (-10) 90 10 (tq 9 10), divE 90 10 10 10 t0, divE 10 10 10 (-10) (tq 1 10), divE 90 (-5) 110 (-5) t0, divE 110 (-5) 110 5 t0, divE 110 5 90 5 t0, divE 90 5 90 (-5) (tq 9 10), divE 40 (-20) 50 (-20) t0, divE 50 (-20) 50 20 (tq 1 2), divE 50 20 40 20 t0, divE 40 20 40 (-20) (tq 2 5)]
theorem divs_ok : ∀ e ∈ divs, OK2 e.1 e.2.1 e.2.2 := by
  intro e he
  simp only [divs, List.mem_cons, List.not_mem_nil, or_false] at he
  rcases he with rfl | rfl | rfl | rfl | rfl | rfl | rfl | rfl | rfl | rfl | rfl | rfl | rfl | rfl | rfl | rfl
  · exact div0
  · exact div1
  · exact div2
  · exact div3
  · exact div4
  · exact div5
  · exact div6
  · exact div7
  · exact div8
  · exact div9
  · exact div10
  · exact div11
  · exact div12
  · exact div13
  · exact div14
  · exact div15
end Go.Pd
end
section
namespace Go.Pd
open Go Go.Proofs
set_option maxRecDepth 100000
def corA (k : Nat) : List D := match k with
  | 0 => [.int .i64 (-10), .int .i64 (-20), .int .i64 120, .int .i64 (-20), .int .i64 120, .int .i64 20, .int .i64 (-10), .int .i64 20]
  | 1 => [.int .i64 10, .int .i64 (-10), .int .i64 90, .int .i64 (-10), .int .i64 90, .int .i64 10, .int .i64 10, .int .i64 10]
  | 2 => [.int .i64 90, .int .i64 (-5), .int .i64 110, .int .i64 (-5), .int .i64 110, .int .i64 5, .int .i64 90, .int .i64 5]
  | 3 => [.int .i64 40, .int .i64 (-20), .int .i64 50, .int .i64 (-20), .int .i64 50, .int .i64 20, .int .i64 40, .int .i64 20]
  | _ => []
def holE (k : Nat) (x : Int) (b : Bool) : Ent := (154, [.slc true 4 (corA k), .agg [.int .i64 x, .nils, .int .i64 1, .nils, .int .i64 0, .nils, .int .i64 1, .nils]], .bool b)
theorem hol_ok {k : Nat} {x : Int} {b : Bool} (h : evG (RB []) 20 154 [.slc true 4 (corA k), .agg [.int .i64 x, .nils, .int .i64 1, .nils, .int .i64 0, .nils, .int .i64 1, .nils]] = some (.bool b)) : OK2 (holE k x b).1 (holE k x b).2.1 (holE k x b).2.2 := evB_ok no_ents h
theorem hol0 : OK2 (holE 2 5 false).1 (holE 2 5 false).2.1 (holE 2 5 false).2.2 := hol_ok (by kernel_rfl)
theorem hol1 : OK2 (holE 3 5 false).1 (holE 3 5 false).2.1 (holE 3 5 false).2.2 := hol_ok (by kernel_rfl)
theorem hol2 : OK2 (holE 1 5 false).1 (holE 1 5 false).2.1 (holE 1 5 false).2.2 := hol_ok (by kernel_rfl)
theorem hol3 : OK2 (holE 0 5 true).1 (holE 0 5 true).2.1 (holE 0 5 true).2.2 := hol_ok (by kernel_rfl)
theorem hol4 : OK2 (holE 2 25 false).1 (holE 2 25 false).2.1 (holE 2 25 false).2.2 := hol_ok (by kernel_rfl)
theorem hol5 : OK2 (holE 3 25 false).1 (holE 3 25 false).2.1 (holE 3 25 false).2.2 := hol_ok (by kernel_rfl)
theorem hol6 : OK2 (holE 1 25 true).1 (holE 1 25 true).2.1 (holE 1 25 true).2.2 := hol_ok (by kernel_rfl)
end Go.Pd
end
