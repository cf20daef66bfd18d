/-
  Chapter 2: what the cards of all its laws share: the world of the witness, the globals.
  Chapter 2: typed arguments of its laws, laid open.
-/
import Derived.Test.YtmhbhlbnlmbhlaaGreatDoorCards
import Derived.Test.YtmhbhlbnlmbhlaaGreatDoorTie
import Derived.Test.YtmhbhlbnlmbhlaaGreatDoorCrA
import Derived.Test.YtmhbhlbnlmbhlaaGreatDoorPdFf
import Derived.WalkKit
import Derived.ProofKit
import Derived.OpenShut
import Derived.FnData
import Derived.Deep.DeepHandedRow
import Derived.Lib.LaidTab
import Derived.Test.YtmhbhlbnlmbhlaaGreatDoorCrE
section
namespace Go.Proofs.YtmhbhlbnlmbhlaaGreatDoor
open Go Go.Pd Go.ChangeShapes Go.WideShapes Go.ChangeAt Go.RowKit
set_option maxRecDepth 100000
theorem own : ownKnob Tryz.prog.godebug = none := by kernel_rfl
theorem looks0 : true = Tryz.pinned.checked.prog.looks [] := by kernel_rfl
theorem main0 : Tryz.pinned.checked.prog.mainIs = some (true, "4ff72d5a0fb39f55855ba6dd7050c1bf8163202a223b41d630507daed42dba24".toList) := by kernel_rfl
theorem laidOut : laidOutB Tryz.prog = true := by kernel_rfl
def litCells (d : DataW Unit) : Array Value := match d with
  | .agg l => (l.map fun d => match d with
    | .lit (.int k x) => Value.int k x
    | .lit (.string s) => Value.string ⟨s.toArray⟩
    | _ => Value.bool false).toArray
  | _ => #[]
noncomputable def setCells (name : String) (d : DataW Unit) (w : World) : World := match Tryz.prog.globalNamed name with
  | some b => { w with heap := w.heap.modify b fun
    | .cells _ t frozen => .cells (litCells d) t frozen
    | o => o }
  | none => w
theorem cells_of_strs {H : Type} {enc : TypeId × Value → H} {P : Program} {w : World} {base : Nat} {sp : Nat → Bool} {held : Bool} {fuel : Nat} {t e : TypeId} {n : Nat} {cs : List Value} {zs : List (List UInt8)} {p : List MemPlace}
    (ht : P.underlying t = some (.array n e)) (he : P.underlying e = some .string) (hce : P.cellsOf e = 1) (hct : P.cellsOf t = n)
    (h : DataW.trod enc P w base sp held fuel t cs = some (.agg (zs.map fun z => .lit (.string z)), p)) : cs = zs.map fun z => Value.string ⟨z.toArray⟩ := by
  cases fuel with
  | zero => simp [DataW.trod] at h
  | succ fuel =>
    simp only [DataW.trod, ht, hce, hct, Nat.mul_one] at h
    split at h
    · rename_i hl
      obtain ⟨xs, hm, hx⟩ := Option.map_eq_some_iff.1 h
      have hxs : xs.map (·.1) = zs.map fun z => (DataW.lit (.string z) : DataW H) := by
        have := congrArg Prod.fst hx
        simpa using this
      have hxl : xs.length = n := by simpa using Lib.mapM_length hm
      have hzl : zs.length = n := by
        have := congrArg List.length hxs
        simp at this
        omega
      apply List.ext_getElem?
      intro i
      by_cases hi : i < n
      · obtain ⟨b, hb, hf⟩ := Lib.mapM_at hm i i (by simp [hi])
        obtain ⟨s, hc, rfl, _⟩ := DataW.trod_string he hf
        have h1 : cs[i]? = some (.string s) := by
          have := congrArg (·[0]?) hc
          simpa [List.getElem?_take, List.getElem?_drop] using this
        have h2 : (xs.map (·.1))[i]? = some (DataW.lit (.string s.data.toList) : DataW H) := by simp [hb]
        rw [hxs] at h2
        simp only [List.getElem?_map, Option.map_eq_some_iff, DataW.lit.injEq, Lit.string.injEq] at h2
        obtain ⟨z', hz', e⟩ := h2
        simp [h1, hz', e]
      · rw [List.getElem?_eq_none (by omega), List.getElem?_eq_none (by simp; omega)]
    · cases h
theorem laidVars_at {P : Program} {w : World} : ∀ {l : List (String × DataW Unit)} {ps : List MemPlace}, DataW.LaidVars P w l ps → ∀ n d, (n, d) ∈ l →
    ∃ g t cs fuel p, P.globalNamed n = some g ∧ (P.globals[g]?).map (·.type) = some t ∧ w.var? P n = some cs ∧ DataW.trod (fun _ => ()) P w 0 (fun _ => true) false fuel t cs.toList = some (d, p)
  | [], _, _, n, d, h => by cases h
  | (n0, d0) :: l, ps, h, n, d, hm => by
    obtain ⟨g, t, cs, fuel, p, q, h1, h2, h3, h4, h5, _⟩ := h
    rcases List.mem_cons.1 hm with e | hm
    · cases e; exact ⟨g, t, cs, fuel, p, h1, h2, h3, h4⟩
    · exact laidVars_at h5 n d hm
def kindZ : List (List UInt8) := [[103, 114, 101, 101, 110], [116, 101, 101], [98, 117, 110, 107, 101, 114], [119, 97, 116, 101, 114], [102, 97, 105, 114, 119, 97, 121], [114, 111, 117, 103, 104]]
theorem order0 : Tryz.prog.globalNamed "niblick/course.order" = some 0 := by kernel_rfl
theorem gl_of {l : List (String × DataW Unit)} (hl : ("niblick/course.order", Rows.laid_niblick_course_order) ∈ l) {W : World} (h : laidMet Tryz.prog l W) : Gl glO (fun b => b < W.heap.size) W := by
  obtain ⟨ps, hv, _⟩ := h
  obtain ⟨g, t, cs, fuel, p, h1, h2, h3, h4⟩ := laidVars_at hv _ _ hl
  obtain rfl := Option.some.inj (order0.symm.trans h1)
  have ht : ∃ e, Tryz.prog.underlying t = some (.array 6 e) ∧ Tryz.prog.underlying e = some .string ∧ Tryz.prog.cellsOf e = 1 ∧ Tryz.prog.cellsOf t = 6 := by
    have h5 : (Tryz.prog.globals[0]?).map (·.type) = some (((Tryz.prog.globals[0]?).map (·.type)).getD 0) := by kernel_rfl
    obtain rfl := Option.some.inj (h5.symm.trans h2)
    refine ⟨(match Tryz.prog.underlying (((Tryz.prog.globals[0]?).map (·.type)).getD 0) with | some (.array _ e) => e | _ => 0), ?_, ?_, ?_, ?_⟩ <;> kernel_rfl
  obtain ⟨e, t1, t2, t3, t4⟩ := ht
  have hcs : cs.toList = kindZ.map fun z => Value.string ⟨z.toArray⟩ := cells_of_strs (zs := kindZ) t1 t2 t3 t4 h4
  have hcell : ∀ i, W.cell? ⟨0, i, none⟩ = (kindZ.map fun z => Value.string ⟨z.toArray⟩)[i]? := fun i => by
    rw [World.var?_cell order0 h3 i, ← hcs, Array.getElem?_toList]
  intro g d hg
  unfold glO at hg
  split at hg
  · cases hg
    have hk : ∀ (j : Nat) (d : D), kindL[j]? = some d → ∃ z, kindZ[j]? = some z ∧ d = S z := fun j d hd => by
      have : kindL = kindZ.map S := rfl
      rw [this, List.getElem?_map, Option.map_eq_some_iff] at hd
      obtain ⟨z, h1, h2⟩ := hd
      exact ⟨z, h1, h2.symm⟩
    refine RelC.snap kindL 0 ⟨0, 0, none⟩ (fun j => ((kindZ.map fun z => Value.string ⟨z.toArray⟩)[j]?).getD undef) (fun _ => ?_) (fun j d hd => ?_) (fun j d hd => ?_)
    · have := hcell 0
      unfold World.cell? at this
      apply Classical.byContradiction
      intro hn
      rw [Array.getElem?_eq_none (by simpa using hn)] at this
      cases this
    · obtain ⟨z, hz, rfl⟩ := hk j d hd
      have := hcell j
      rw [show (⟨0, 0, none⟩ : Addr).add j = ⟨0, j, none⟩ by simp [Addr.add]; intro h; exact h.symm, this]
      simp [hz]
    · obtain ⟨z, hz, rfl⟩ := hk j d hd
      simp only [List.getElem?_map, hz, Option.map_some, Option.getD_some]
      exact .str _
  · cases hg
noncomputable def laidWorld (l : List (String × DataW Unit)) (os : Os) : World := l.foldr (fun x w => setCells x.1 x.2 w) (World.holding Tryz.prog os ⟨#[], #[], []⟩)
end Go.Proofs.YtmhbhlbnlmbhlaaGreatDoor
end
section
namespace Go.Pd
open Go Go.Proofs Go.RowKit
set_option maxRecDepth 100000
theorem ty_pt {n : Nat} {c : List D} (h : Ty Tryz.prog (n + 2) 23 c) : ∃ p : Pt, c = ptC p := by
  obtain ⟨g1, g2, rfl, h1, h2⟩ := ty_struct2 Tryz.underlying23 rfl h
  obtain ⟨x, rfl, _⟩ := ty_int Tryz.underlying3 h1
  obtain ⟨y, rfl, _⟩ := ty_int Tryz.underlying3 h2
  exact ⟨(x, y), rfl⟩
theorem ty_pts {n : Nat} {c : List D} (h : Ty Tryz.prog (n + 3) 24 c) : ∃ l : List Pt, c = [.slc false l.length (ptsC l)] := by
  obtain ⟨gs, rfl, _, h1⟩ := ty_slice Tryz.underlying24 h
  obtain ⟨l, h2, h3⟩ := rows_of ptC (p := Ty Tryz.prog (n + 2) 23) (fun d hd => ty_pt hd) gs h1
  exact ⟨l, by rw [h2, h3]; rfl⟩
end Go.Pd
end
