/-
  Iterators, run by trees: what one hands on.
  Functions that hand over a slice of their own.
  Rows that the library sorts or thins out in place, as functions that write into their first argument.
  The words of the plain side: what they say.
  Arguments: what reads as plain data (numbers, strings, slices, structs, arrays) is a datum of its type; and what a law's contract is, from what the interpreter says.
  A law's contract, from what the interpreter says of it.
  Tables of calls whose answers are known.
-/
import Derived.Test.YtanpmgfaieekhaaGreatDoorPdFe
import Derived.Test.YtanpmgfaieekhaaGreatDoorPdFc
import Derived.Sort.Grow
import Derived.Sort.Row
import Derived.Deep.Slices
import Derived.ChangeReads
import Derived.ChangeOld
import Derived.OpenShut
import Derived.Carry
import Derived.ProofKit
section
namespace Go.Pd
open Go.RowKit
def PosOK (ys : List (List D)) (J : Nat → (Nat → Prop) → (Nat → Prop) → World → Prop) (Jx : (Nat → Prop) → (Nat → Prop) → World → Prop) : Option Nat → (Nat → Prop) → (Nat → Prop) → World → Prop
  | some i, O, Fz, w => i ≤ ys.length ∧ J i O Fz w
  | none, O, Fz, w => Jx O Fz w
def remOf (ys : List (List D)) : Option Nat → List (List D)
  | some i => ys.drop i
  | none => []
def AtI (ys : List (List D)) (J : Nat → (Nat → Prop) → (Nat → Prop) → World → Prop) (Jx : (Nat → Prop) → (Nat → Prop) → World → Prop) (gl : Nat → Option D) (pos : Option Nat) (σ : St) (a : Act) (w : World) : Prop :=
  ∃ O Fz w0, PosOK ys J Jx pos O Fz w0 ∧ Gl gl Fz w0 ∧ (∀ b, Fz b → O b) ∧ (∀ b, O b → b < w0.heap.size) ∧ Good (fun x => x.defers = []) O Fz w0 σ a w
def YieldOK (P : Program) (ys : List (List D)) (J : Nat → (Nat → Prop) → (Nat → Prop) → World → Prop) (Jx : (Nat → Prop) → (Nat → Prop) → World → Prop) (n l : Nat) : Prop :=
  ∀ (i : Nat) (y : List D) (O Fz I1 : Nat → Prop) (W1 : World) (args : Array Value), ys[i]? = some y → J i O Fz W1 → (∀ b, O b → b < W1.heap.size) → (∀ b, I1 b → b < W1.heap.size) → (∀ b, I1 b → Fz b ∨ ¬ O b) → y.length = args.size →
      (∀ (j : Nat) (d : D) (v : Value), y[j]? = some d → args[j]? = some v → RelC I1 W1 d v) →
      YieldAt Fence.wide (n - 1) P l args W1 fun e W' => ∃ O' Fz', (∀ b, O' b → O b ∨ W1.heap.size ≤ b ∨ I1 b) ∧ (∀ b, O' b → b < W'.heap.size) ∧ (∀ b, Fz b ∨ I1 b → Fz' b) ∧ (∀ b, Fz' b → O' b) ∧
        Blw (fun b => b < W1.heap.size ∧ (¬ O b ∨ Fz b ∨ I1 b)) W1 W' ∧ ((e = .returned (.bool true) ∧ J (i + 1) O' Fz' W') ∨ (e = .returned (.bool false) ∧ Jx O' Fz' W'))
theorem fx_defers (ops : Array Oper) : FxOps (fun x => x.defers = []) ops := fun i o _ a v h => by
  cases hd : o.dst with
  | none => exact h
  | some t => exact h
theorem emitK_inv {ds : List D} {t f : Option (List (List D))} {r : List (List D)} (h : emitK ds t f = some r) : f = some [] ∧ ∃ ys, t = some ys ∧ r = ds :: ys := by
  unfold emitK at h
  split at h
  · split at h
    · cases h; exact ⟨rfl, _, rfl, rfl⟩
    · cases h
  · cases h
theorem yieldOf_inv {E : Env} {σ : St} {o : Oper} {l : Nat} {ds : List D} {ss : List Nat} (h : yieldOf E σ o = some (l, ds, ss)) :
    o.guard = none ∧ ∃ k f as, o.op = .call k ∧ k.callee = .value f ∧ σ.val E f = some (.fn (.yield l) [] []) ∧ argsD E σ k.args.toList = some as ∧ snapL (snapD σ.H depth) as = some (ds, ss) := by
  unfold yieldOf at h
  split at h
  · rename_i k hg ho
    split at h
    · rename_i f hc
      split at h
      · rename_i l' as hf ha
        split at h
        · rename_i p hs
          cases h
          exact ⟨hg, k, f, as, ho, hc, hf, ha, hs⟩
        · cases h
      · cases h
    · cases h
  · cases h
section
variable {ys : List (List D)} {J : Nat → (Nat → Prop) → (Nat → Prop) → World → Prop} {Jx : (Nat → Prop) → (Nat → Prop) → World → Prop} {E : Env} {n l : Nat}
theorem yield_ok (hJ : ∀ i, Stab (J i)) (hY : YieldOK E.P ys J Jx n l) {σ : St} {a : Act} {w : World} {i : Nat} (hat : AtI ys J Jx E.gl (some i) σ a w) {o : Oper} {ds : List D} {ss : List Nat} {rest : List (List D)} (hy : yieldOf E σ o = some (l, ds, ss)) (hrem : ys.drop i = ds :: rest)
    {K : Act → World → Prop} {Q : Exit → Act → World → Prop} (hK1 : ∀ a' w', AtI ys J Jx E.gl (some (i + 1)) ((σ.freeze ss).put o.dst (.bool true)) a' w' → K a' w')
    (hK2 : ∀ a' w', AtI ys J Jx E.gl none ((σ.freeze ss).put o.dst (.bool false)) a' w' → K a' w') : o.wpIn Fence.wide n E.P a w K Q := by
  obtain ⟨hg, c, f, as, ho, hc, hf, ha, hsn⟩ := yieldOf_inv hy
  obtain ⟨O, Fz, w0, ⟨hil, hj⟩, hgl, hFO, hO, I, A, h, hb, hdf⟩ := hat
  have hyi : ys[i]? = some ds := by
    have := congrArg (fun l => l[0]?) hrem
    simpa [List.getElem?_drop] using this
  have hlt : i < ys.length := (List.getElem?_eq_some_iff.1 hyi).1
  have hglw := gl_at hgl hFO h hb
  obtain ⟨vx, vy, hvf, hx, hy', _⟩ := (val_ok h hglw hf).fn_inv
  have ex : vx = #[] := Array.eq_empty_of_size_eq_zero hx.symm
  have ey : vy = #[] := Array.eq_empty_of_size_eq_zero hy'.symm
  subst ex ey
  obtain ⟨q1, q2⟩ := argsD_ok h hglw ha
  obtain ⟨a1, a2, a3⟩ := snapL_ok (I := I) (A := A) (w := w) (snapD_ok h depth) _ _ _ hsn
  obtain ⟨hfz, hRf⟩ := h.freeze ss a2.free
  have hOw : ∀ b, O b → b < w.heap.size := fun b hb' => Nat.lt_of_lt_of_le (hO b hb') hb.size
  obtain ⟨fn, tmps, assign, body, hrun, hround⟩ := hY i ds O Fz (frz I A ss) w (c.args.map a.eval) hyi (hJ i _ _ _ _ hj hb) hOw hfz.iw hfz.io (by simp [a1, q1]) (fun j d v hd hv => by
    obtain ⟨d0, hd0, hr0⟩ := a3 j d hd
    exact hr0 v (q2 j d0 v hd0 (by rw [← Array.getElem?_toList, Array.toList_map] at hv; exact hv)))
  refine ⟨fun f _ => trivial, ?_⟩
  have hexec : (execOp a.eval o).run E.P w = .ok (.round l fn tmps assign body) w := by
    unfold execOp; rw [ho]
    simp [resolve, hc, hvf, Deferred.ofValue, invoke, hrun]
  rw [Oper.semAt_plain Fence.wide _ _ (fun c e => by rw [ho] at e; cases e), hexec]
  refine ⟨(fun hs => by cases hs), hround.mono ?_⟩
  rintro e W' ⟨O', Fz', k1, k2, k3, k4, k5, k6⟩
  have hA : ∀ s g x, A s g = some x → x.b < w.heap.size ∧ (frz I A ss x.b ∨ ¬ O x.b) := fun s g x hx => by
    refine ⟨h.A_lt hx, ?_⟩
    obtain ⟨o', ho'⟩ := hfz.ar s g x hx
    obtain ⟨x', hx', hB, _⟩ := hfz.ob s g o' ho'
    rw [hx] at hx'
    cases hx'
    exact hB
  have hs1 := hfz.same (w' := W') k5.size (fun b hb' => k5.block b ⟨hfz.iw b hb', .inr (.inr hb')⟩) (fun s g x hx => k5.block _ ⟨(hA s g x hx).1, (hA s g x hx).2.elim (fun h1 => .inr (.inr h1)) .inl⟩) (fun b ⟨x, j, hb'⟩ => k5.block b ⟨(hfz.rw.sep x j b hb').1, .inl (hfz.rw.sep x j b hb').2.2.1⟩)
  have hOx : ∀ s g x, A s g = some x → O' x.b → frz I A ss x.b := fun s g x hx ho' => by
    rcases k1 _ ho' with h1 | h1 | h1
    · exact (hA s g x hx).2.elim id fun h2 => absurd h1 h2
    · have := (hA s g x hx).1; omega
    · exact h1
  have hOr : ∀ b, RowB A (σ.freeze ss).H W' b → ¬ Fz' b ∧ ¬ O' b := fun b hb' => by
    obtain ⟨x, j, hb'⟩ := hb'.back (w := w) fun s g x hx => k5.block _ ⟨(hA s g x hx).1, (hA s g x hx).2.elim (fun h1 => .inr (.inr h1)) .inl⟩
    obtain ⟨q1, q2, q3, _⟩ := hfz.rw.sep x j b hb'
    have hO' : ¬ O' b := fun ho' => by
      rcases k1 _ ho' with h1 | h1 | h1
      · exact q3 h1
      · omega
      · exact q2 h1
    exact ⟨fun hf => hO' (k4 _ hf), hO'⟩
  have hs2 : Inv Fz' O' Fz' A (σ.freeze ss) a W' := by
    refine hs1.re (I0' := Fz') (KK' := O') (I' := Fz') (T' := (σ.freeze ss).T) (a' := a) (fun b hb' => k3 b (.inr hb')) (fun s g x hx hf' => hOx s g x hx (k4 _ hf')) (fun b hb' => k2 b (k4 b hb')) (fun b hb' => .inl hb') (fun _ hb' => hb') (fun s g x hx => ?_) (by rw [hdf]; exact Marks.nil) hs1.tl
      (fun t d v hd hv => (hs1.tv t d v hd hv).mono (fun b hb' => k3 b (.inr hb')) (fun _ _ => rfl) (fun _ => Nat.le_refl _) (fun _ _ _ _ hx => hx)) (fun b hb' => hOr b hb')
    by_cases hox : O' x.b
    · exact .inl (k3 _ (.inr (hOx s g x hx hox)))
    · exact .inr hox
  have hgl' : Gl E.gl Fz' W' := fun g d hg' => (hgl g d hg').mono (fun b hb' => k3 b (.inl hb')) (fun b hb' => (k5.block b ⟨hOw b (hFO b hb'), .inr (.inl hb')⟩).trans (hb.block b (hFO b hb')))
  have hgood : ∀ (bb : Bool), Good (fun x => x.defers = []) O' Fz' W' ((σ.freeze ss).put o.dst (.bool bb)) (a.put o.dst (.bool bb)) W' := fun bb => by
    refine ⟨Fz', A, hs2.put o.dst (.clo (.bool bb)), Blw.refl _ _, ?_⟩
    cases hd : o.dst with
    | none => exact hdf
    | some t => exact hdf
  rcases k6 with ⟨rfl, hj'⟩ | ⟨rfl, hj'⟩
  · exact hK1 _ _ ⟨O', Fz', W', ⟨hlt, hj'⟩, hgl', k4, k2, hgood true⟩
  · exact hK2 _ _ ⟨O', Fz', W', hj', hgl', k4, k2, hgood false⟩
theorem AtI.imp {gl : Nat → Option D} {pos : Option Nat} {σ σ' : St} {a a' : Act} {w w' : World} (h : AtI ys J Jx gl pos σ a w) (hg : ∀ O Fz w0, Good (fun x => x.defers = []) O Fz w0 σ a w → Good (fun x => x.defers = []) O Fz w0 σ' a' w') : AtI ys J Jx gl pos σ' a' w' := by
  obtain ⟨O, Fz, w0, h1, h2, h3, h4, h5⟩ := h
  exact ⟨O, Fz, w0, h1, h2, h3, h4, hg _ _ _ h5⟩
theorem opsI_ok (hcall : EnvOK E) {cst : Cst} (hcst : ∀ k ds r, cst k ds = some r → E.call k ds = some r) (hJ : ∀ i, Stab (J i)) (hY : YieldOK E.P ys J Jx n l) {ops : Array Oper} {Q : Exit → Act → World → Prop} {c : St → Tree} (hQ : ∀ pos' σ' a' w', AtI ys J Jx E.gl pos' σ' a' w' → runI (c σ') = some (remOf ys pos') → Q .normal a' w') :
    ∀ (m : List Nat) (pos : Option Nat) (σ : St) (a : Act) (w : World), AtI ys J Jx E.gl pos σ a w → runI (opsI l E cst ops m σ c) = some (remOf ys pos) → wpOpsIn Fence.wide n E.P ops Q m a w
  | [], pos, σ, a, w, hat, he => hQ pos σ a w hat he
  | i :: m, pos, σ, a, w, hat, he => by
    rw [wpOpsIn_cons]
    simp only [opsI] at he
    split at he
    · cases he
    · rename_i o ho
      split at he
      · rename_i l' ds ss hy
        obtain ⟨hl, he⟩ := chk_inv he
        simp only [decide_eq_true_eq] at hl
        rw [hl] at hy
        rw [run_emit] at he
        obtain ⟨h1, ys', h2, h3⟩ := emitK_inv he
        simp only [forceS_eq] at h1 h2
        cases pos with
        | none => cases h3
        | some q =>
          unfold wpOpIn
          simp only [ho]
          have hw : Region.wanted o (yielded ops a.tmps) = true := by
            unfold Region.wanted
            rw [(yieldOf_inv hy).1]
          rw [if_pos hw]
          refine yield_ok hJ hY hat hy h3 (fun a' w' hat' => opsI_ok hcall hcst hJ hY hQ m _ _ _ _ hat' ?_) (fun a' w' hat' => opsI_ok hcall hcst hJ hY hQ m _ _ _ _ hat' ?_)
          · have h4 : ys.drop (q + 1) = ys' := by
              have := congrArg (List.drop 1) (show ys.drop q = ds :: ys' from h3)
              simpa [List.drop_drop] using this
            show _ = some (ys.drop (q + 1))
            rw [h4]
            exact h2
          · exact h1
      · obtain ⟨σ1, h1, h2⟩ := oneT_sound hcst he
        rw [forceS_eq] at h2
        obtain ⟨O, Fz, w0, k1, k2, k3, k4, hg⟩ := hat
        exact evOne_ok (.inl rfl) hcall k2 k3 k4 (fx_defers ops) hg h1 fun a' w' hg' => opsI_ok hcall hcst hJ hY hQ m pos σ1 a' w' ⟨O, Fz, w0, k1, k2, k3, k4, hg'⟩ h2
theorem opI_ok (hcall : EnvOK E) {cst : Cst} (hcst : ∀ k ds r, cst k ds = some r → E.call k ds = some r) (hJ : ∀ i, Stab (J i)) (hY : YieldOK E.P ys J Jx n l) {ops : Array Oper} {Q : Exit → Act → World → Prop} {K : Act → World → Prop} {c : St → Tree} {i : Nat} {pos : Option Nat} {σ : St} {a : Act} {w : World}
    (hat : AtI ys J Jx E.gl pos σ a w) (he : runI (opsI l E cst ops [i] σ c) = some (remOf ys pos)) (hK : ∀ pos' σ' a' w', AtI ys J Jx E.gl pos' σ' a' w' → runI (c σ') = some (remOf ys pos') → K a' w') : wpOpIn Fence.wide n E.P ops Q i K a w := by
  simp only [opsI] at he
  split at he
  · cases he
  · rename_i o ho
    split at he
    · rename_i l' ds ss hy
      obtain ⟨hl, he⟩ := chk_inv he
      simp only [decide_eq_true_eq] at hl
      rw [hl] at hy
      rw [run_emit] at he
      obtain ⟨h1, ys', h2, h3⟩ := emitK_inv he
      simp only [forceS_eq] at h1 h2
      cases pos with
      | none => cases h3
      | some q =>
        unfold wpOpIn
        simp only [ho]
        have hw : Region.wanted o (yielded ops a.tmps) = true := by
          unfold Region.wanted
          rw [(yieldOf_inv hy).1]
        rw [if_pos hw]
        refine yield_ok hJ hY hat hy h3 (fun a' w' hat' => hK _ _ _ _ hat' ?_) (fun a' w' hat' => hK _ _ _ _ hat' ?_)
        · have h4 : ys.drop (q + 1) = ys' := by
            have := congrArg (List.drop 1) (show ys.drop q = ds :: ys' from h3)
            simpa [List.drop_drop] using this
          show _ = some (ys.drop (q + 1))
          rw [h4]
          exact h2
        · exact h1
    · obtain ⟨σ1, h1, h2⟩ := oneT_sound hcst he
      rw [forceS_eq] at h2
      obtain ⟨O, Fz, w0, k1, k2, k3, k4, hg⟩ := hat
      exact evOne_ok (.inl rfl) hcall k2 k3 k4 (fx_defers ops) hg h1 fun a' w' hg' => hK pos σ1 a' w' ⟨O, Fz, w0, k1, k2, k3, k4, hg'⟩ h2
theorem bar_ok (hm : E.P.follows .mixedOrders = true) (hcall : EnvOK E) {cst : Cst} (hcst : ∀ k ds r, cst k ds = some r → E.call k ds = some r) (hJ : ∀ i, Stab (J i)) (hY : YieldOK E.P ys J Jx n l) {ops : Array Oper} {id b : Nat} {Q : Exit → Act → World → Prop} {c : St → Tree} {pos : Option Nat} {σ : St} {a : Act} {w : World}
    (hok : okRegion E.P ops (List.range ops.size) [] [] = true) (hb : barOf ops = some b) (hat : AtI ys J Jx E.gl pos σ a w)
    (he : runI (opsT E.still cst ops (List.range b) σ fun σ => opsI l E.still cst ops [b] σ fun σ => opsT E.still cst ops ((List.range ops.size).drop (b + 1)) σ c) = some (remOf ys pos))
    (hQ : ∀ pos' σ' a' w', AtI ys J Jx E.gl pos' σ' a' w' → runI (c σ') = some (remOf ys pos') → Q .normal a' w') : (Code.region id ops true).wpIn Fence.wide n E.P Q a w := by
  obtain ⟨hbs, hb1, hb2⟩ := barOf_inv hb
  simp only [okRegion, Bool.and_eq_true, List.all_eq_true, List.mem_range, decide_eq_true_eq] at hok
  obtain ⟨⟨⟨⟨_, _⟩, h3⟩, _⟩, h5⟩ := hok
  have hrs := range_split hbs
  obtain ⟨O, Fz, w0, k1, k2, k3, k4, hgd⟩ := hat
  obtain ⟨σ1, e1, e2⟩ := opsT_sound (E := E.still) hcst _ _ _ he
  have hfil : (List.range b).filter (unl (Array.replicate ops.size false)) = List.range b := List.filter_eq_self.2 fun i hi => by
    have : i < ops.size := by have := List.mem_range.1 hi; omega
    simp [unl, Array.getD, this]
  refine wpIn_region_any hm (region_pre (E := E.still) (Q := Q) (π1 := List.range b) (π2 := (List.range ops.size).drop (b + 1)) (b := b) (R := mkR ops) (m := ops.size - b) (.inl rfl) hcall.still (stl_still _ _) k2 k3 k4 (fx_defers ops)
    (fun i hi => by rw [← hrs]; simpa using hi) h3 (ks := []) rfl (by rw [← hrs]; exact h5) hb1 (σf := σ1) ?_ ops.size _ σ a _ (by simp) (by rw [hfil]; simp; omega) ?_ ?_ (fun _ _ _ _ _ _ _ hm => by cases hm) (by rw [hfil, evOpsF_nil]; exact e1) (hgd.drew k4 _ (Nat.le_succ _)))
  · intro fuel listed a' w' hfu hsz hnil hun hcl hg'
    have hlist : ∀ j, j < b → listed.getD j false = true := fun j hj => by
      have hn := List.filter_eq_nil_iff.1 hnil j (by simpa using hj)
      have hlt : j < listed.size := by omega
      simp only [unl, Bool.not_eq_true', Bool.not_eq_false] at hn
      simp only [Array.getD, hlt, dif_pos] at hn ⊢
      exact hn
    obtain ⟨fuel, rfl⟩ : ∃ f, fuel = f + 1 := ⟨fuel - 1, by omega⟩
    have hRi : ∀ i, i ∈ Region.ready .any ops listed → ∀ j, memR (mkR ops) i j = true → listed.getD j false = true := fun i hi j hj => by
      obtain ⟨hlt, _, hbef⟩ := ready_iff.1 hi
      obtain ⟨k, hk, h | h⟩ := okR_mem h3 hlt hj
      · subst h; exact hbef k hk
      · exact hcl k (hbef k hk) j h
    have hbl : listed.getD b false = false := by
      have := hun b (List.mem_cons_self ..)
      have hlt : b < listed.size := by omega
      simp only [unl, Bool.not_eq_true'] at this
      simp only [Array.getD, hlt, dif_pos] at this ⊢
      exact this
    have hready : b ∈ Region.ready .any ops listed := ready_iff.2 ⟨hbs, by
      have := hun b (List.mem_cons_self ..)
      simpa [unl] using this, fun k hk => by
      obtain ⟨oi, _, b2, _⟩ := goOK_split (List.range ops.size) [] h5 (List.range b) b _ hrs
      rcases b2 k hk with h | h
      · cases h
      · exact hlist k (List.mem_range.1 h)⟩
    refine ⟨fun hr => (by rw [hr] at hready; cases hready), fun i hi => ?_⟩
    have hib : i = b := by
      obtain ⟨hlt, hil, _⟩ := ready_iff.1 hi
      have hmem : i ∈ List.range b ++ b :: (List.range ops.size).drop (b + 1) := by rw [← hrs]; simpa using hlt
      rcases List.mem_append.1 hmem with h | h
      · have h1 := hlist i (List.mem_range.1 h)
        have hl : i < listed.size := by omega
        simp only [Array.getD, hl, dif_pos] at h1 hil
        rw [hil] at h1; cases h1
      · rcases List.mem_cons.1 h with h | h
        · exact h
        · have h1 := hRi i hi b (hb2 i h)
          rw [hbl] at h1; cases h1
    subst hib
    refine opI_ok (E := E.still) hcall.still hcst hJ hY ⟨O, Fz, w0, k1, k2, k3, k4, hg'⟩ e2 fun pos2 σ2 a2 w2 hat2 hr2 => ?_
    obtain ⟨O2, Fz2, w02, m1, m2, m3, m4, hg2⟩ := hat2
    obtain ⟨σ3, f1, f2⟩ := opsT_sound (E := E.still) hcst _ _ _ hr2
    have hls : ∀ k, (listed.setIfInBounds i true).getD k false = true ↔ k = i ∨ listed.getD k false = true := fun k => by
      simp only [Array.getD_eq_getD_getElem?, Array.getElem?_setIfInBounds]
      by_cases e : i = k
      · subst e; simp [hsz, hbs]
      · simp [e, Ne.symm e]
    have hfil2 : (List.range ops.size).filter (unl (listed.setIfInBounds i true)) = (List.range ops.size).drop (i + 1) := by
      have hu : ∀ k, k < ops.size → unl (listed.setIfInBounds i true) k = !(listed.setIfInBounds i true).getD k false := fun k hk => by
        simp [unl, Array.getD, hsz, hk]
      rw [hrs, List.filter_append, List.filter_cons]
      rw [List.filter_eq_nil_iff.2 (fun k hk => by
        have hk' := List.mem_range.1 hk
        rw [hu k (by omega), (hls k).2 (.inr (hlist k hk'))]; simp), hu i hbs, (hls i).2 (.inl rfl)]
      simp only [Bool.not_true, Bool.false_eq_true, if_false, List.nil_append]
      have hdd : (List.range i ++ i :: (List.range ops.size).drop (i + 1)).drop (i + 1) = (List.range ops.size).drop (i + 1) := by rw [← hrs]
      rw [hdd]
      refine List.filter_eq_self.2 fun k hk => ?_
      have h1 := hun k (List.mem_cons_of_mem _ hk)
      obtain ⟨hlt⟩ : k < ops.size ∧ True := ⟨by simpa using List.mem_of_mem_drop hk, trivial⟩
      have hne : k ≠ i := fun e => by
        subst e
        have := List.nodup_range (n := ops.size)
        rw [hrs] at this
        have := (List.nodup_append.1 this).2.1
        exact (List.nodup_cons.1 this).1 hk
      rw [hu k hlt]
      cases hx : (listed.setIfInBounds i true).getD k false with
      | false => rfl
      | true =>
        rcases (hls k).1 hx with h | h
        · exact absurd h hne
        · simp only [unl, Bool.not_eq_true'] at h1
          have hl : k < listed.size := by omega
          simp only [Array.getD, hl, dif_pos] at h1 h
          rw [h1] at h; cases h
    refine region_any (E := E.still) (.inl rfl) hcall.still (hst := stl_still _ _) m2 m3 m4 (fx_defers ops) (π := List.range ops.size) (ks := []) (fs := []) (R := mkR ops) (fun i hi => by simpa using hi) h3 rfl h5 (fun a3 w3 hg3 => hQ pos2 σ3 a3 w3 ⟨O2, Fz2, w02, m1, m2, m3, m4, hg3⟩ f2)
      fuel _ σ2 a2 w2 (by simp [hsz]) (by rw [hfil2]; simp; omega) ?_ (fun _ _ _ _ _ _ hm => by cases hm) (by rw [hfil2, evOpsF_nil]; exact f1) hg2
    intro k hk j hj
    rcases (hls k).1 hk with rfl | hk
    · exact (hls j).2 (.inr (hRi k hi j hj))
    · exact (hls j).2 (.inr (hcl k hk j hj))
  · intro k hk
    exfalso
    simp only [Array.getD, Array.size_replicate] at hk
    split at hk <;> simp at hk
  · intro i hi
    have : i < ops.size := by
      have : i ∈ List.range ops.size := by rw [hrs]; exact List.mem_append.2 (.inr hi)
      simpa using this
    simp [unl, Array.getD, this]
end
theorem evI_ok {Te : TE} {ys : List (List D)} {J : Nat → (Nat → Prop) → (Nat → Prop) → World → Prop} {Jx : (Nat → Prop) → (Nat → Prop) → World → Prop} {n l : Nat} (hm : Te.E.P.follows .mixedOrders = true) (hcall : EnvOK Te.E) (hcst : ∀ k ds r, Te.cst k ds = some r → Te.E.call k ds = some r) (hit : Te.it = some l)
    (hJ : ∀ i, Stab (J i)) (hY : YieldOK Te.E.P ys J Jx n l) {ord : Ord} {N : NTab} : ∀ (c : Code) (p : Nat), okC Te.E.P ord c = true → ∀ (pos : Option Nat) (σ : St) (k : Out → St → Tree) (a : Act) (w : World) (Q : Exit → Act → World → Prop), AtI ys J Jx Te.E.gl pos σ a w → runI (evT Te ord N c p σ k) = some (remOf ys pos) →
      (∀ r pos' σ' a' w', AtI ys J Jx Te.E.gl pos' σ' a' w' → runI (k r σ') = some (remOf ys pos') → Q (exOf r) a' w') → c.wpIn Fence.wide n Te.E.P Q a w
  | .skip, p, _, pos, σ, k, a, w, Q, hg, he, hQ => by
    exact wpIn_skip (hQ .norm pos σ _ _ hg he)
  | .region id ops false, p, _, pos, σ, k, a, w, Q, hg, he, hQ => by
    simp only [evT, hit] at he
    exact wpIn_region (opsI_ok hcall hcst hJ hY (fun pos' σ' a' w' hat hr => hQ .norm pos' σ' a' w' hat hr) _ pos σ a w hg he)
  | .region id ops true, p, hok, pos, σ, k, a, w, Q, hg, he, hQ => by
    simp only [evT, hit] at he
    simp only [okC] at hok
    split at he
    · rename_i ho
      simp only [ho] at hok
      split at he
      · obtain ⟨O, Fz, w0, k1, k2, k3, k4, hgd⟩ := hg
        obtain ⟨σ', h1, h2⟩ := opsT_sound (E := Te.E.still) hcst _ _ _ he
        exact draw_ok (.inl rfl) hm hcall k2 k3 k4 (ks := []) (fs := []) (fx_defers ops) hok hgd ((evOpsF_nil ..).trans h1) fun a' w' hg' => hQ .norm pos σ' a' w' ⟨O, Fz, w0, k1, k2, k3, k4, hg'⟩ h2
      · rename_i b hb
        exact bar_ok hm hcall hcst hJ hY hok hb hg he fun pos' σ' a' w' hat hr => hQ .norm pos' σ' a' w' hat hr
    · rename_i i ho
      simp only [ho] at hok
      split at he
      · cases he
      rename_i hbar
      simp only [hbar] at hok
      obtain ⟨O, Fz, w0, k1, k2, k3, k4, hgd⟩ := hg
      obtain ⟨σ', h1, h2⟩ := opsFT_sound (E := Te.E.stillF _) hcst _ _ _ _ he
      exact draw_ok (.inl rfl) hm hcall k2 k3 k4 (fx_defers ops) hok hgd h1 fun a' w' hg' => hQ .norm pos σ' a' w' ⟨O, Fz, w0, k1, k2, k3, k4, hg'⟩ h2
  | .seq x y, p, hok, pos, σ, k, a, w, Q, hg, he, hQ => by
    simp only [okC, Bool.and_eq_true] at hok
    simp only [evT] at he
    refine wpIn_seq (evI_ok hm hcall hcst hit hJ hY x (2 * p) hok.1 pos σ _ a w _ hg he fun r pos' σ' a' w' hg' hr => ?_)
    cases r with
    | norm =>
      simp only [seqK, cutT] at hr
      split at hr
      · exact evI_ok hm hcall hcst hit hJ hY y (2 * p + 1) hok.2 pos' σ' k a' w' Q hg' hr hQ
      · obtain ⟨i', σ1, _, hs, hr⟩ := normT_inv hr
        have hr2 : runI (evT Te ord N y (2 * p + 1) σ1 k) = some (remOf ys pos') := by
          cases hC : Te.C (2 * p + 1) with
          | zero => rw [hC] at hr; cases hr
          | succ m => rw [hC] at hr; exact hr
        exact evI_ok hm hcall hcst hit hJ hY y (2 * p + 1) hok.2 pos' σ1 k a' w' Q (hg'.imp fun _ _ _ h => h.norm hs) hr2 hQ
    | exit id => exact hQ (.exit id) pos' σ' a' w' hg' hr
    | ret => exact hQ .ret pos' σ' a' w' hg' hr
  | .cond c x y, p, hok, pos, σ, k, a, w, Q, hg, he, hQ => by
    simp only [okC, Bool.and_eq_true] at hok
    simp only [evT] at he
    obtain ⟨O, Fz, w0, k1, k2, k3, k4, I, A, h, hb, hfx⟩ := id hg
    split at he
    · rename_i t hc
      rcases ite_inv he with ⟨ht, he⟩ | ⟨ht, he⟩
      · subst ht
        rw [knowO_same hc] at he
        exact wpIn_cond_true (val_ok h (gl_at k2 k3 h hb) hc).bool_inv (evI_ok hm hcall hcst hit hJ hY x (2 * p) hok.1 pos σ k a w Q hg he hQ)
      · subst ht
        rw [knowO_same hc] at he
        exact wpIn_cond_false (val_ok h (gl_at k2 k3 h hb) hc).bool_inv (evI_ok hm hcall hcst hit hJ hY y (2 * p + 1) hok.2 pos σ k a w Q hg he hQ)
    · cases he
  | .block id c, p, hok, pos, σ, k, a, w, Q, hg, he, hQ => by
    simp only [okC] at hok
    simp only [evT] at he
    refine wpIn_block (evI_ok hm hcall hcst hit hJ hY c (2 * p) hok pos σ _ a w _ hg he fun r pos' σ' a' w' hg' hr => ?_)
    cases r with
    | norm => exact hQ .norm pos' σ' a' w' hg' hr
    | ret => exact hQ .ret pos' σ' a' w' hg' hr
    | exit i =>
      simp only [blkK] at hr
      simp only [exOf, Exit.inBlock]
      split at hr
      · rename_i e
        rw [if_pos e]
        exact hQ .norm pos' σ' a' w' hg' hr
      · rename_i e
        rw [if_neg e]
        exact hQ (.exit i) pos' σ' a' w' hg' hr
  | .loop c, p, hok, pos, σ, k, a, w, Q, hg, he, hQ => by
    simp only [okC] at hok
    simp only [evT] at he
    obtain ⟨i, σ1, hi, hs, he⟩ := normT_inv he
    have key : ∀ (m : Nat) (pos : Option Nat) (σ : St) (a : Act) (w : World), AtI ys J Jx Te.E.gl pos σ a w → runI (iterT (loopF (N p) p (evT Te ord N c (2 * p)) k) m σ) = some (remOf ys pos) → Code.roundsIn Fence.wide n Te.E.P c Q m a w := by
      intro m
      induction m with
      | zero => intro pos σ a w _ hl; cases hl
      | succ m ih =>
        intro pos σ a w hg hl
        have hl2 : runI (evT Te ord N c (2 * p) σ (seqK (fun σ' => normT (N p) p σ' (iterT (loopF (N p) p (evT Te ord N c (2 * p)) k) m)) k)) = some (remOf ys pos) := hl
        refine evI_ok hm hcall hcst hit hJ hY c (2 * p) hok pos σ _ a w _ hg hl2 fun r pos' σ' a' w' hg' hr => ?_
        cases r with
        | norm =>
          obtain ⟨i', σ2, _, hs2, hr⟩ := normT_inv (show runG endK (fun ds c => emitK ds (c true) (c false)) (normT (N p) p σ' (iterT (loopF (N p) p (evT Te ord N c (2 * p)) k) m)) = some (remOf ys pos') from hr)
          exact ih pos' σ2 a' w' (hg'.imp fun _ _ _ h => h.norm hs2) hr
        | exit id => exact hQ (.exit id) pos' σ' a' w' hg' hr
        | ret => exact hQ .ret pos' σ' a' w' hg' hr
    exact wpIn_loop_rounds Te.E.L (key Te.E.L pos σ1 a w (hg.imp fun _ _ _ h => h.norm hs) he)
  | .exit id, p, _, pos, σ, k, a, w, Q, hg, he, hQ => by
    exact wpIn_exit (hQ (.exit id) pos σ _ _ hg he)
  | .ret, p, _, pos, σ, k, a, w, Q, hg, he, hQ => by
    exact wpIn_ret (hQ .ret pos σ _ _ hg he)
  | .scope c, p, hok, pos, σ, k, a, w, Q, hg, he, hQ => by
    simp only [okC] at hok
    simp only [evT] at he
    refine wpIn_wide.2 (wp_scope_straight (wpIn_wide.1 (evI_ok hm hcall hcst hit hJ hY c (2 * p) hok pos σ k a w _ hg he fun r pos' σ' a' w' hg' hr => ?_)))
    have := hQ r pos' σ' a' w' hg' hr
    cases r <;> exact this
  | .label l, p, _, pos, σ, k, a, w, Q, hg, he, hQ => by
    simp only [evT] at he
    exact wpIn_label (hQ .norm pos σ _ _ hg he)
  | .rangeFunc .., _, _, _, _, _, _, _, _, _, he, _ => by
    simp only [evT, hit] at he
    cases he
  | .goto _, _, _, _, _, _, _, _, _, _, he, _ => by simp only [evT] at he; cases he
  | .refuse _, _, _, _, _, _, _, _, _, _, he, _ => by simp only [evT] at he; cases he
theorem sqOf_all {α : Type} {f : Nat → Option α} {r : α} (h : sqOf f = some r) (l : Nat) : f l = some r := by
  unfold sqOf at h
  split at h
  · rename_i hc; rw [hc l]; exact h
  · cases h
theorem sqOf_const {α : Type} (x : Option α) : sqOf (fun _ => x) = x := by simp [sqOf]
theorem evItT_ok {Te : TE} (hm : Te.E.P.follows .mixedOrders = true) (hcall : EnvOK Te.E) (hcst : ∀ k ds r, Te.cst k ds = some r → Te.E.call k ds = some r) {f : FuncId} {fn : Func} (hf : Te.E.P.funcs[f]? = some fn) {ord : Ord} {N : NTab} (hok : okFn Te.E.P ord fn = true) (hres : fn.results.toList = []) {caps : List D} {ys : List (List D)}
    (he : evItT Te ord N fn caps = some ys) : SeqOK Te.E.P Te.E.gl f caps ys := by
  unfold evItT at he
  split at he
  · cases he
  · rename_i c hb
    simp only [okFn, hb, Bool.and_eq_true, Bool.not_eq_true'] at hok
    refine ⟨fun vs w => ?_, fun n l I w vcaps O Fz J Jx hIF hFO hO hgl hl hr hJ hJx hY h0 => ?_⟩
    · unfold callFunc
      have hne : ¬ fn.name = "runtime.NumGoroutine" := by simpa using hok.1
      simp [hf, hne, hb]
    · have he' := sqOf_all he l
      refine callsIn_of_wp_marks (F := Fence.wide) (n := n) hf hb trivial ?_
      have hres' : fn.results = #[] := by rw [← Array.toArray_toList (xs := fn.results), hres]
      obtain ⟨vs0, hvs0⟩ : ∃ vs0 : Array Value, vs0 = #[Value.func (.yield l) #[] #[]] ++ vcaps := ⟨_, rfl⟩
      rw [← hvs0]
      have hstart : Inv Fz O Fz (fun _ _ => none) (startSt fn (.fn (.yield l) [] [] :: caps)) { tmps := vs0 ++ Array.replicate (fn.ntmps - vs0.size) undef, defers := [] } w := by
        refine start_inv (fun b hb' => hO b (hFO b hb')) (by rw [hvs0]; simp [hl]; omega) (fun j d v hd hv => ?_)
        rw [hvs0] at hv
        cases j with
        | zero =>
          simp at hd
          rw [Array.getElem?_append_left (by simp)] at hv
          simp at hv
          subst hd hv
          exact .fn _ [] [] #[] #[] rfl rfl (fun j d v hd => by simp at hd) (fun j d v hd => by simp at hd)
        | succ j =>
          simp at hd
          rw [Array.getElem?_append_right (by simp)] at hv
          exact (hr j d v hd (by simpa using hv)).mono hIF (fun _ _ => rfl)
      have hat : AtI ys J Jx Te.E.gl (some 0) (startSt fn (.fn (.yield l) [] [] :: caps)) { tmps := vs0 ++ Array.replicate (fn.ntmps - vs0.size) undef, defers := [] } w :=
        ⟨O, Fz, w, ⟨Nat.zero_le _, h0⟩, fun g d hg => (hgl g d hg).mono hIF (fun _ _ => rfl), hFO, hO, Fz, _, hstart, Blw.refl _ _, rfl⟩
      refine evI_ok (Te := { Te with it := some l }) hm hcall hcst rfl hJ (fun i y O Fz I1 W1 args a1 a2 a3 a4 a5 a6 a7 => hY i y O Fz I1 W1 args a1 a2 a3 a4 a5 a6 a7) c 1 hok.2 (some 0) _ _ _ w _ hat he' fun o pos σ a' w' hat' hk => ?_
      obtain ⟨O', Fz', w0', hp, _, _, _, I', A', hi', hb', hd'⟩ := hat'
      have key : LeavesInM Fence.wide n Te.E.P fn a'.tmps (fun e w' => (∃ v, e = .returned v) ∧ ((∃ O' Fz', J ys.length O' Fz' w') ∨ (∃ O' Fz', Jx O' Fz' w'))) a'.defers .returning w' := by
        rw [hd']
        refine ⟨.tuple #[], ?_, ⟨_, rfl⟩, ?_⟩
        · rw [results_eq, hres']
          simp
        · have hrem : remOf ys pos = [] := by
            cases o with
            | exit i => cases hk
            | norm =>
              simp only [finK] at hk
              split at hk
              · rename_i d0 _
                have : runI (.leaf (some d0)) = some [] := rfl
                rw [this] at hk
                exact (Option.some.inj hk).symm
              · cases hk
            | ret =>
              simp only [finK] at hk
              split at hk
              · rename_i d0 _
                have : runI (.leaf (some d0)) = some [] := rfl
                rw [this] at hk
                exact (Option.some.inj hk).symm
              · cases hk
          cases pos with
          | none => exact .inr ⟨O', Fz', hJx _ _ _ _ hp hb'⟩
          | some i =>
            have hi : i = ys.length := by
              have h1 := hp.1
              have h2 := congrArg List.length (show ys.drop i = [] from hrem)
              simp at h2
              omega
            subst hi
            exact .inl ⟨O', Fz', hJ _ _ _ _ _ hp.2 hb'⟩
      cases o with
      | norm => exact key
      | ret => exact key
      | exit i => cases hk
end Go.Pd
end
section
namespace Go.Pd
open Go.RowKit
def OwnOK (P : Program) (gl : Nat → Option D) (k : FuncId) (ds : List D) (r : D) : Prop :=
  (∀ vs w, (callFunc k vs).run P w = .ok (.enter k vs) w) ∧
  ∀ (I : Nat → Prop) (w : World) (vs : Array Value), (∀ b, I b → b < w.heap.size) → Gl gl I w → ds.length = vs.size → (∀ (j : Nat) (d : D) (v : Value), ds[j]? = some d → vs[j]? = some v → RelC I w d v) →
    Calls P k vs w fun en w' => Blw (· < w.heap.size) w w' ∧ ((r = .nils ∧ en = .returned (.slice none 0 0)) ∨ ∃ (e n : Nat) (len : Nat) (cs : List D) (b cap : Nat) (c : Array Value), r = .tup [.int .u64 e, .int .u64 n, .slc false len cs] ∧ en = .returned (.slice (some ⟨b, 0, none⟩) len cap) ∧
      w.heap.size ≤ b ∧ w'.heap[b]? = some (.cells c e (0, 0)) ∧ c.size = cap * n ∧ cap ≤ maxLen ∧ len ≤ cap ∧ cs.length = len * n ∧ ∀ (j : Nat) (d : D) (v : Value), cs[j]? = some d → c[j]? = some v → d.toV = some v)
section
variable {E : Env} {I0 : Nat → Prop} {w0 : World}
theorem leaves_gen {F : Fence} {n : Nat} {fn : Func} {σ : St} {R : Ending → World → Prop} (hI0 : ∀ b, I0 b → b < w0.heap.size)
    (hend : ∀ (I : Nat → Prop) (A : Nat → Nat → Option Gh) (a : Act) (w : World), Inv I0 (· < w0.heap.size) I A σ a w → Blw (· < w0.heap.size) w0 w → ∃ v, (results fn a.tmps).run E.P w = .ok v w ∧ R (.returned v) w) :
    ∀ (ds : List Deferred) (I : Nat → Prop) (A : Nat → Nat → Option Gh) (a : Act) (w : World), a.defers = ds → Inv I0 (· < w0.heap.size) I A σ a w → Blw (· < w0.heap.size) w0 w → LeavesInM F n E.P fn a.tmps R ds .returning w
  | [], I, A, a, w, _, h, hb => by
    obtain ⟨v, r1, r2⟩ := hend I A a w h hb
    exact ⟨v, r1, r2⟩
  | dd :: ds, I, A, a, w, hd, h, hb => by
    obtain ⟨r, q1, q2, q3, q4⟩ := h.shut (P := E.P) (fun b hb => hI0 b hb) hd
    refine ⟨by simp, .inl ⟨r, _, q1, q2, ?_⟩⟩
    exact leaves_gen hI0 hend ds _ A { a with defers := ds } _ rfl q4 (hb.trans ⟨rfl, rfl, ⟨rfl, Nat.le_refl _⟩, by simp [World.putObj], fun k hk => World.putObj_heap_other (fun e => q3 (e ▸ hk))⟩)
end
theorem evFnT_own {Te : TE} (hm : Te.E.P.follows .mixedOrders = true) (hcall : EnvOK Te.E) (hcst : ∀ k ds r, Te.cst k ds = some r → Te.E.call k ds = some r) (hit : Te.it = none) (hsq : ∀ g cs ys, Te.sq g cs = some ys → SeqOK Te.E.P Te.E.gl g cs ys) {f : FuncId} {fn : Func} (hf : Te.E.P.funcs[f]? = some fn) {ord : Ord} {N : NTab} (hok : okFn Te.E.P ord fn = true) {ds : List D} {r : D}
    (he : evFnT Te ord N .own fn ds = some r) : OwnOK Te.E.P Te.E.gl f ds r := by
  unfold evFnT at he
  split at he
  · cases he
  · rename_i c hb
    simp only [okFn, hb, Bool.and_eq_true, Bool.not_eq_true'] at hok
    refine ⟨fun vs w => ?_, fun I w vs hI hgl hl hr => ?_⟩
    · unfold callFunc
      have hne : ¬ fn.name = "runtime.NumGoroutine" := by simpa using hok.1
      simp [hf, hne, hb]
    · refine callsIn_wide.1 (callsIn_of_wp_marks (F := Fence.wide) (n := 0) hf hb trivial ?_)
      refine evT_ok hm hcall hcst hit hsq c 1 hok.2 (fun _ => True) (fun x => x < w.heap.size) I w Fence.wide 0 (.inl rfl) (.inl rfl) hgl hI (fun _ h => h) (fxC_true c) _ _ _ w _ (start_ok hI hl hr) he fun o σ a' w' hg hk0 => ?_
      obtain ⟨I', A', h, hbel, _⟩ := hg
      have key : run (ownEnd σ fn) = some r → LeavesInM Fence.wide 0 Te.E.P fn a'.tmps (fun en w' => Blw (· < w.heap.size) w w' ∧ ((r = .nils ∧ en = .returned (.slice none 0 0)) ∨ ∃ (e n : Nat) (len : Nat) (cs : List D) (b cap : Nat) (c : Array Value), r = .tup [.int .u64 e, .int .u64 n, .slc false len cs] ∧ en = .returned (.slice (some ⟨b, 0, none⟩) len cap) ∧
          w.heap.size ≤ b ∧ w'.heap[b]? = some (.cells c e (0, 0)) ∧ c.size = cap * n ∧ cap ≤ maxLen ∧ len ≤ cap ∧ cs.length = len * n ∧ ∀ (j : Nat) (d : D) (v : Value), cs[j]? = some d → c[j]? = some v → d.toV = some v)) a'.defers .returning w' := fun hend => by
        refine leaves_gen hI ?_ _ I' A' a' w' rfl h hbel
        intro I2 A2 a2 w2 h2 hb2
        unfold ownEnd at hend
        split at hend
        · rename_i t hres
          have hval : ∀ d, σ.T[t]? = some d → ∃ v, (results fn a2.tmps).run Te.E.P w2 = .ok v w2 ∧ RelV I2 A2 (genH σ.H) w2 d v := fun d hd => by
            have hlt : t < a2.tmps.size := by rw [← h2.tl]; exact (List.getElem?_eq_some_iff.1 hd).1
            refine ⟨a2.tmps[t], ?_, h2.tv t d _ hd (Array.getElem?_eq_getElem hlt)⟩
            have hres' : fn.results = #[.tmp t] := by rw [← Array.toArray_toList (xs := fn.results), hres]
            rw [results_eq, hres']
            simp [resF, hlt]
          split at hend
          · rename_i hd
            obtain ⟨v, r1, r2⟩ := hval _ hd
            refine ⟨v, r1, hb2, .inl ⟨(Option.some.inj hend).symm, ?_⟩⟩
            cases r2 with
            | clo h => cases h; rfl
          · rename_i s g len hd
            obtain ⟨v, r1, r2⟩ := hval _ hd
            split at hend
            · rename_i e n cs ho
              obtain ⟨hc1, hend⟩ := chk_inv hend
              obtain ⟨hc2, hend⟩ := chk_inv hend
              simp only [decide_eq_true_eq] at hc1
              obtain ⟨x, hx, hxB, cc, o1, o2, o3, o4, o5, o6, o7, o8⟩ := h2.ob s g _ ho
              refine ⟨v, r1, hb2, .inr ?_⟩
              cases r2 with
              | clo h => cases h
              | own _ _ _ ad cap hgs hlc hxx =>
                obtain ⟨rfl, rfl, rfl⟩ := hxx x hx
                refine ⟨e, n, x.len, cs, x.b, x.cap, cc, (Option.some.inj hend).symm, rfl, ?_, o1, o2, o3, o4, hc1, fun j d v hd hv => ?_⟩
                · have hnI : ¬ I2 x.b := fun hi => by have := o7.2 hi; cases this
                  have := hxB.resolve_left hnI
                  omega
                · have hp := List.all_eq_true.1 hc2 d (List.mem_of_getElem? hd)
                  obtain ⟨u, hu⟩ := Option.isSome_iff_exists.1 hp
                  rw [(o6 j d v hd hv).toV hu]
                  exact hu
            · cases hend
          · cases hend
        · cases hend
      cases o with
      | exit i => cases hk0
      | norm => exact key hk0
      | ret => exact key hk0
end Go.Pd
end
section
namespace Go.Pd
open Go.RowKit Go.Sort
def intsOf : List D → Option (List Int)
  | [] => some []
  | .int .i64 x :: l => match intsOf l with
    | some r => some (x :: r)
    | none => none
  | _ => none
theorem intsOf_eq : ∀ (cs : List D) (zs : List Int), intsOf cs = some zs → cs = zs.map (D.int .i64)
  | [], zs, h => by cases h; rfl
  | d :: l, zs, h => by
    unfold intsOf at h
    split at h
    · rename_i e; cases e
    · rename_i x l' e
      cases e
      split at h
      · rename_i r hr
        cases h
        rw [intsOf_eq l r hr]
        rfl
      · cases h
    · cases h
theorem ints_toV {zs : List Int} {j : Nat} {d : D} {v : Value} (hd : (zs.map (D.int .i64))[j]? = some d) (h : d.toVZ = some v) : d.toV = some v := by
  rw [List.getElem?_map, Option.map_eq_some_iff] at hd
  obtain ⟨z, _, rfl⟩ := hd
  exact h
theorem row_end {w : World} {b : Nat} {c : Array Value} {e : TypeId} (hb : w.heap[b]? = some (.cells c e (0, 0))) (q : Nat) (os : Array Obj) (d' : Array Int) (l : List Int) (hl : ∀ (j : Nat) (x : Int), l[j]? = some x → d'[j]? = some x) :
    ∃ c', (grow (putRow (Value.int .i64) (Sort.ahead w q) b 0 d') os).heap[b]? = some (.cells c' e (0, 0)) ∧ c'.size = c.size ∧ (∀ (j : Nat) (d : D) (v : Value), (l.map (D.int .i64))[j]? = some d → c'[j]? = some v → d.toV = some v) ∧
      w.heap.size ≤ (grow (putRow (Value.int .i64) (Sort.ahead w q) b 0 d') os).heap.size ∧ (∀ k, k < w.heap.size → k ≠ b → (grow (putRow (Value.int .i64) (Sort.ahead w q) b 0 d') os).heap[k]? = w.heap[k]?) ∧
      (grow (putRow (Value.int .i64) (Sort.ahead w q) b 0 d') os).os = w.os ∧ (grow (putRow (Value.int .i64) (Sort.ahead w q) b 0 d') os).tape = w.tape ∧ ((grow (putRow (Value.int .i64) (Sort.ahead w q) b 0 d') os).output = w.output ∧ w.drawn ≤ (grow (putRow (Value.int .i64) (Sort.ahead w q) b 0 d') os).drawn) := by
  have hlt : b < w.heap.size := (Array.getElem?_eq_some_iff.1 hb).1
  have hold : ∀ k, k < w.heap.size → (grow (putRow (Value.int .i64) (Sort.ahead w q) b 0 d') os).heap[k]? = (w.heap.modify b (onCells (putCells (Value.int .i64) 0 d')))[k]? := fun k hk => by
    rw [heap_grow_old _ _ (by rw [size_putRow]; exact hk)]
    rfl
  refine ⟨putCells (Value.int .i64) 0 d' c, ?_, by simp [putCells], fun j d v hd hv => ?_, by simp [Sort.ahead], fun k hk hne => ?_, rfl, rfl, rfl, Nat.le_add_right _ _⟩
  · rw [hold b hlt, Array.getElem?_modify, if_pos rfl, hb]
    rfl
  · rw [List.getElem?_map] at hd
    cases hx : l[j]? with
    | none => simp [hx] at hd
    | some x =>
      simp [hx] at hd
      subst hd
      have hdx := hl j x hx
      have hj : j < d'.size := (Array.getElem?_eq_some_iff.1 hdx).1
      simp only [putCells, Array.getElem?_mapIdx] at hv
      cases hc : c[j]? with
      | none => simp [hc] at hv
      | some y =>
        simp only [hc, Option.map_some] at hv
        rw [if_pos ⟨Nat.zero_le _, by omega⟩] at hv
        cases hv
        have : d'[j - 0]! = x := by
          rw [Nat.sub_zero, getElem!_pos d' j hj]
          rw [Array.getElem?_eq_getElem hj] at hdx
          exact Option.some.inj hdx
        rw [this]
        rfl
  · rw [hold k hk, Array.getElem?_modify, if_neg (Ne.symm hne)]
theorem row_holds {w : World} {b : Nat} {c : Array Value} {e : TypeId} (hb : w.heap[b]? = some (.cells c e (0, 0))) {zs : List Int} (hsz : zs.length ≤ c.size)
    (hc : ∀ (j : Nat) (d : D) (v : Value), (zs.map (D.int .i64))[j]? = some d → c[j]? = some v → d.toV = some v) : Holds (Value.int .i64) w b 0 zs.toArray := fun j hj => by
  have hj' : j < zs.length := by simpa using hj
  have hjc : j < c.size := by omega
  have h1 := hc j (.int .i64 zs[j]) c[j] (by simp [hj']) (Array.getElem?_eq_getElem hjc)
  have h2 : c[j] = .int .i64 zs[j] := by
    have : D.toV (.int .i64 zs[j]) = some (.int .i64 zs[j]) := rfl
    rw [this] at h1
    exact (Option.some.inj h1).symm
  refine ⟨?_, by simp [World.frozen?, hb]⟩
  simp only [World.cell?, hb, Nat.zero_add]
  rw [getElem!_pos _ j hj]
  simp [hjc, h2]
/-! ### Sorting -/
def insI (d : Int) : List Int → List Int
  | [] => [d]
  | x :: xs => match decide (d ≤ x) with
    | true => d :: x :: xs
    | false => x :: insI d xs
def sortI : List Int → List Int
  | [] => []
  | x :: xs => insI x (sortI xs)
theorem insI_perm (d : Int) : ∀ l, (insI d l).Perm (d :: l)
  | [] => .refl _
  | x :: xs => by
    unfold insI
    split
    · exact .refl _
    · exact ((insI_perm d xs).cons x).trans (.swap d x xs)
theorem sortI_perm : ∀ l, (sortI l).Perm l
  | [] => .refl _
  | x :: xs => (insI_perm x _).trans ((sortI_perm xs).cons x)
theorem insI_pw (d : Int) : ∀ l : List Int, l.Pairwise (· ≤ ·) → (insI d l).Pairwise (· ≤ ·)
  | [], _ => by simp [insI]
  | x :: xs, h => by
    rw [List.pairwise_cons] at h
    unfold insI
    split
    · rename_i hd
      simp only [decide_eq_true_eq] at hd
      exact .cons (fun y hy => by
        rcases List.mem_cons.1 hy with rfl | hy
        · exact hd
        · have := h.1 y hy; omega) (.cons h.1 h.2)
    · rename_i hd
      simp only [decide_eq_false_iff_not] at hd
      refine .cons (fun y hy => ?_) (insI_pw d xs h.2)
      rcases List.mem_cons.1 ((insI_perm d xs).mem_iff.1 hy) with rfl | hy
      · omega
      · exact h.1 y hy
theorem sortI_pw : ∀ l, (sortI l).Pairwise (· ≤ ·)
  | [] => .nil
  | x :: xs => insI_pw x _ (sortI_pw xs)
theorem sortI_eq (l : List Int) : l.mergeSort (fun x y => decide (x ≤ y)) = sortI l := by
  refine List.Perm.eq_of_pairwise (le := fun a b => a ≤ b) (fun a b _ _ h1 h2 => by omega) ?_ (sortI_pw l) ((List.mergeSort_perm l _).trans (sortI_perm l).symm)
  have := List.pairwise_mergeSort (le := fun x y : Int => decide (x ≤ y)) (fun a b c => by simp only [decide_eq_true_eq]; omega) (fun a b => by simp; omega) l
  exact this.imp fun {a b} h => by simpa using h
theorem sortI_len (l : List Int) : (sortI l).length = l.length := (sortI_perm l).length_eq
def sortG : MutFn := fun cs len rest => match rest with
  | [] => match intsOf cs with
    | some zs => match decide (zs.length = len ∧ len < 4611686018427387904) with
      | true => some ((sortI zs).map (D.int .i64), none)
      | false => none
    | none => none
  | _ => none
theorem sort_mut {P : Program} {gl : Nat → Option D} {k : FuncId} (henter : ∀ vs w, (callFunc k vs).run P w = .ok (.enter k vs) w)
    (h1 : ∀ (blk off cap : Nat) (zs : List Int) (w : World), Holds (Value.int .i64) w blk off zs.toArray → blk < w.heap.size → zs.length < 4611686018427387904 →
      Calls P k #[.slice (some ⟨blk, off, none⟩) zs.length cap] w fun e w' => e = .returned (.tuple #[]) ∧ ∃ n os, w' = grow (putRow (Value.int .i64) (Sort.ahead w n) blk off (zs.mergeSort fun x y => decide (x ≤ y)).toArray) os) : MutOK P gl k sortG := by
  refine ⟨henter, fun I w b cap n len e c cs rest cs' m vrest hI hgl hb hblk hcs hcap hlen hcl hpl hcell hrl hrr hg hpl' hm => ?_⟩
  unfold sortG at hg
  split at hg
  · have hv : vrest = #[] := Array.eq_empty_of_size_eq_zero hrl.symm
    subst hv
    split at hg
    · rename_i zs hz
      split at hg
      · rename_i hd
        simp only [decide_eq_true_eq] at hd
        obtain ⟨hzl, hlt⟩ := hd
        cases hg
        have hcs' := intsOf_eq _ _ hz
        subst hcs'
        have hsz : zs.length ≤ c.size := by
          simp only [List.length_map] at hcl
          rw [hcs]
          cases n with
          | zero => simp at hcl; simp [hcl]
          | succ n =>
            have h0 : cap * 1 ≤ cap * (n + 1) := Nat.mul_le_mul_left cap (by omega)
            omega
        have hcell : ∀ (j : Nat) (d : D) (v : Value), (zs.map (D.int .i64))[j]? = some d → c[j]? = some v → d.toV = some v := fun j d v hd hv => ints_toV hd (hcell j d v hd hv)
        have hH := row_holds hblk hsz hcell
        have := h1 b 0 cap zs w hH (Array.getElem?_eq_some_iff.1 hblk).1 (by omega)
        rw [hzl] at this
        refine this.mono ?_
        rintro en w' ⟨rfl, q, os, rfl⟩
        refine ⟨rfl, ?_⟩
        obtain ⟨c', p1, p2, p3, p4⟩ := row_end hblk q os (zs.mergeSort fun x y => decide (x ≤ y)).toArray (sortI zs) (fun j x hx => by rw [sortI_eq]; simpa using hx)
        exact ⟨c', p1, p2, fun j d v hd hv => toVZ_of (p3 j d v hd hv), p4⟩
      · cases hg
    · cases hg
  · cases hg
end Go.Pd
end
section
namespace Go.Pd
section
variable {α : Type} {r : α}
@[simp] theorem ifK_true (t e : α) : ifK true t e = t := rfl
@[simp] theorem ifK_false (t e : α) : ifK false t e = e := rfl
theorem ifK_eq (b : Bool) (t e : α) : ifK b t e = if b = true then t else e := by cases b <;> rfl
theorem ifK_congr {b : Bool} {t e t' e' : α} (h1 : b = true → t = t') (h2 : b = false → e = e') : ifK b t e = ifK b t' e' := by cases b; exact h2 rfl; exact h1 rfl
@[simp] theorem chkK_true (t : Option α) : chkK true t = t := rfl
@[simp] theorem chkK_false (t : Option α) : chkK false t = none := rfl
theorem chkK_congr {b b' : Bool} {t t' : Option α} (hb : b = b') (h : b = true → t = t') : chkK b t = chkK b' t' := by subst hb; cases b; rfl; exact h rfl
theorem chkK_inv {b : Bool} {t : Option α} (h : chkK b t = some r) : b = true ∧ t = some r := by cases b; cases h; exact ⟨rfl, h⟩
@[simp] theorem optK_some {β : Type} (x : β) (c : β → Option α) : optK (some x) c = c x := rfl
@[simp] theorem optK_none {β : Type} (c : β → Option α) : optK none c = none := rfl
theorem optK_inv {β : Type} {o : Option β} {c : β → Option α} (h : optK o c = some r) : ∃ x, o = some x ∧ c x = some r := by cases o; cases h; exact ⟨_, rfl, h⟩
@[simp] theorem intK_int (k : IntKind) (n : Int) (c : Int → Option α) : intK k (.int k n) c = c n := by simp [intK]
theorem intK_inv {k : IntKind} {d : D} {c : Int → Option α} (h : intK k d c = some r) : ∃ n, d = .int k n ∧ c n = some r := by
  unfold intK at h
  split at h
  · rename_i k' n
    split at h
    · rename_i e; subst e; exact ⟨n, rfl, h⟩
    · cases h
  · cases h
theorem intK_congr {k : IntKind} {d : D} {c c' : Int → Option α} (h : ∀ n, d = .int k n → c n = c' n) : intK k d c = intK k d c' := by
  unfold intK
  split
  · rename_i k' n
    by_cases e : k' = k
    · subst e; simp only [if_true]; exact h n rfl
    · simp only [e, if_false]
  · rfl
@[simp] theorem boolK_bool (b : Bool) (c : Bool → Option α) : boolK (.bool b) c = c b := rfl
@[simp] theorem strK_str (b : ByteArray) (c : ByteArray → Option α) : strK (.str b) c = c b := rfl
theorem strK_inv {d : D} {c : ByteArray → Option α} (h : strK d c = some r) : ∃ b, d = .str b ∧ c b = some r := by
  unfold strK at h
  split at h
  · exact ⟨_, rfl, h⟩
  · cases h
theorem strK_congr {d : D} {c c' : ByteArray → Option α} (h : ∀ b, d = .str b → c b = c' b) : strK d c = strK d c' := by
  unfold strK
  split
  · exact h _ rfl
  · rfl
@[simp] theorem slcK_slc (f : Bool) (n : Nat) (cs : List D) (c : Bool → Nat → List D → Option α) : slcK (.slc f n cs) c = c f n cs := rfl
@[simp] theorem aggK_agg (n : Nat) (cs : List D) (c : List D → Option α) : aggK (.agg cs) n c = if cs.length = n then c cs else none := rfl
@[simp] theorem tupK_tup (n : Nat) (cs : List D) (c : List D → Option α) : tupK (.tup cs) n c = if cs.length = n then c cs else none := rfl
theorem cellK_some {cs : List D} {i : Nat} {d : D} (h : cs[i]? = some d) (c : D → Option α) : cellK cs i c = c d := by simp [cellK, h]
theorem cellK_inv {cs : List D} {i : Nat} {c : D → Option α} (h : cellK cs i c = some r) : ∃ d, cs[i]? = some d ∧ c d = some r := by
  unfold cellK at h
  split at h
  · exact ⟨_, ‹_›, h⟩
  · cases h
theorem cellK_congr {cs : List D} {i i' : Nat} {c c' : D → Option α} (hi : i = i') (h : ∀ d, cs[i']? = some d → c d = c' d) : cellK cs i c = cellK cs i' c' := by
  subst hi
  unfold cellK
  split
  · exact h _ ‹_›
  · rfl
end
end Go.Pd
end
section
namespace Go.Pd
open Go.RowKit Go.ChangeShapes
def flatFs (P : Program) (fl : TypeId → Bool) : List Field → Nat → Option Nat
  | [], off => some off
  | f :: fs, off => if f.offset = off ∧ fl f.type = true then flatFs P fl fs (off + P.cellsOf f.type) else none
def flatB (P : Program) : Nat → TypeId → Bool
  | 0, _ => false
  | n + 1, t => match P.underlying t with
    | some .bool => P.cellsOf t == 1
    | some (.int _) => P.cellsOf t == 1
    | some .string => P.cellsOf t == 1
    | some (.slice e) => P.cellsOf t == 1 && flatB P n e
    | some (.struct fs) => flatFs P (flatB P n) fs.toList 0 == some (P.cellsOf t)
    | some (.array m e) => flatB P n e && P.cellsOf t == m * P.cellsOf e
    | _ => false
def Ty (P : Program) : Nat → TypeId → List D → Prop
  | 0, _, _ => False
  | n + 1, t, ds => match P.underlying t with
    | some .bool => ∃ b, ds = [.bool b]
    | some (.int k) => ∃ x, ds = [.int k x] ∧ (Lit.int k x).wf = true
    | some .string => ∃ s, ds = [.str s] ∧ s.size ≤ maxLen
    | some (.slice e) => ∃ gs : List (List D), ds = [.slc false gs.length gs.flatten] ∧ gs.length ≤ maxLen ∧ ∀ g ∈ gs, Ty P n e g
    | some (.struct fs) => ∃ gs : List (List D), ds = gs.flatten ∧ gs.length = fs.size ∧ ∀ (i : Nat) (f : Field) (g : List D), fs.toList[i]? = some f → gs[i]? = some g → Ty P n f.type g
    | some (.array m e) => ∃ gs : List (List D), ds = gs.flatten ∧ gs.length = m ∧ ∀ g ∈ gs, Ty P n e g
    | _ => False
def RowRel (I : Nat → Prop) (w : World) (ds : List D) (cs : List Value) : Prop :=
  ds.length = cs.length ∧ ∀ (j : Nat) (d : D) (v : Value), ds[j]? = some d → cs[j]? = some v → RelC I w d v
section
variable {I : Nat → Prop} {w : World} {P : Program}
theorem RowRel.one {d : D} {v : Value} (h : RelC I w d v) : RowRel I w [d] [v] :=
  ⟨rfl, fun j d' v' hd hv => by cases j with | zero => simp at hd hv; subst hd hv; exact h | succ j => simp at hd⟩
theorem RowRel.append {a b : List D} {x y : List Value} (h1 : RowRel I w a x) (h2 : RowRel I w b y) : RowRel I w (a ++ b) (x ++ y) := by
  refine ⟨by simp [h1.1, h2.1], fun j d v hd hv => ?_⟩
  by_cases hj : j < a.length
  · rw [List.getElem?_append_left hj] at hd
    rw [List.getElem?_append_left (by rw [← h1.1]; exact hj)] at hv
    exact h1.2 j d v hd hv
  · rw [List.getElem?_append_right (by omega)] at hd
    rw [List.getElem?_append_right (by rw [← h1.1]; omega), ← h1.1] at hv
    exact h2.2 _ d v hd hv
theorem RowRel.nil : RowRel I w [] [] := ⟨rfl, fun j d v h => by simp at h⟩
theorem fields_rel {fl : TypeId → Bool} {T : TypeId → List D → Prop} {cs : List Value} : ∀ (fs : List Field) (off total : Nat), flatFs P fl fs off = some total → total ≤ cs.length →
    (∀ f ∈ fs, fl f.type = true → ((cs.drop f.offset).take (P.cellsOf f.type)).length = P.cellsOf f.type → ∃ ds, T f.type ds ∧ RowRel I w ds ((cs.drop f.offset).take (P.cellsOf f.type))) →
    off ≤ total ∧ ∃ gs : List (List D), gs.length = fs.length ∧ (∀ (i : Nat) (f : Field) (g : List D), fs[i]? = some f → gs[i]? = some g → T f.type g) ∧ RowRel I w gs.flatten ((cs.drop off).take (total - off))
  | [], off, total, h, hl, _ => by
    simp only [flatFs, Option.some.injEq] at h
    subst h
    exact ⟨Nat.le_refl _, [], rfl, (fun i f g hf => by simp at hf), by simp [RowRel.nil]⟩
  | f :: fs, off, total, h, hl, hx => by
    simp only [flatFs] at h
    split at h
    · rename_i hc
      obtain ⟨ho, hfl⟩ := hc
      obtain ⟨h1, gs, h2, h3, h4⟩ := fields_rel fs (off + P.cellsOf f.type) total h hl (fun f' hf' => hx f' (List.mem_cons_of_mem _ hf'))
      obtain ⟨ds, h5, h6⟩ := hx f (by simp) hfl (by rw [List.length_take, List.length_drop]; omega)
      refine ⟨by omega, ds :: gs, by simp [h2], fun i f' g hf hg => ?_, ?_⟩
      · cases i with
        | zero => simp at hf hg; subst hf hg; exact h5
        | succ i => simp at hf hg; exact h3 i f' g hf hg
      · rw [List.flatten_cons]
        have e : total - off = P.cellsOf f.type + (total - (off + P.cellsOf f.type)) := by omega
        rw [e, List.take_add, List.drop_drop]
        rw [ho] at h6
        exact h6.append h4
    · cases h
theorem flatten_get {s : Nat} : ∀ (gs : List (List D)), (∀ g ∈ gs, g.length = s) → ∀ (j : Nat) (d : D), gs.flatten[j]? = some d → ∃ (i r : Nat) (g : List D), gs[i]? = some g ∧ g[r]? = some d ∧ j = i * s + r
  | [], _, j, d, h => by simp at h
  | g :: gs, hs, j, d, h => by
    rw [List.flatten_cons] at h
    by_cases hj : j < g.length
    · rw [List.getElem?_append_left hj] at h
      exact ⟨0, j, g, rfl, h, by simp⟩
    · rw [List.getElem?_append_right (by omega)] at h
      obtain ⟨i, r, g', h1, h2, h3⟩ := flatten_get gs (fun g hg => hs g (List.mem_cons_of_mem _ hg)) _ d h
      refine ⟨i + 1, r, g', by simpa using h1, h2, ?_⟩
      have := hs g (by simp)
      rw [Nat.add_mul]
      omega
theorem choose_n {α : Type} {p : Nat → α → Prop} : ∀ (n : Nat), (∀ i, i < n → ∃ x, p i x) → ∃ l : List α, l.length = n ∧ ∀ i x, l[i]? = some x → p i x
  | 0, _ => ⟨[], rfl, fun i x h => by simp at h⟩
  | n + 1, h => by
    obtain ⟨l, h1, h2⟩ := choose_n n (fun i hi => h i (by omega))
    obtain ⟨x, hx⟩ := h n (by omega)
    refine ⟨l ++ [x], by simp [h1], fun i y hy => ?_⟩
    by_cases hi : i < l.length
    · rw [List.getElem?_append_left hi] at hy; exact h2 i y hy
    · rw [List.getElem?_append_right (by omega)] at hy
      have : i - l.length = 0 := by
        have := (List.getElem?_eq_some_iff.1 hy).1
        simp at this
        omega
      rw [this] at hy
      simp at hy
      subst hy
      have : i = n := by omega
      subst this
      exact hx
theorem trod_ty {H : Type} {enc : TypeId × Value → H} {base : Nat} {spare : Nat → Bool} {held : Bool} (hI : ∀ b, b < w.heap.size → I b) : ∀ (n : Nat) (m : Nat) (t : TypeId) (cs : List Value) (x : DataW H × List MemPlace), flatB P n t = true →
    DataW.trod enc P w base spare held m t cs = some x → ∃ ds, Ty P n t ds ∧ RowRel I w ds cs ∧ ds.length = P.cellsOf t
  | 0, _, _, _, _, h, _ => by cases h
  | n + 1, m, t, cs, x, hf, h => by
    unfold flatB at hf
    unfold Ty
    split at hf
    · rename_i hu
      obtain ⟨b, rfl, _⟩ := DataW.trod_bool hu h
      exact ⟨[.bool b], ⟨b, rfl⟩, .one (.bool b), (beq_iff_eq.1 hf).symm⟩
    · rename_i k hu
      obtain ⟨x', rfl, _, hw⟩ := DataW.trod_int hu h
      exact ⟨[.int k x'], ⟨x', rfl, hw⟩, .one (.int k x'), (beq_iff_eq.1 hf).symm⟩
    · rename_i hu
      obtain ⟨s, rfl, _, hw⟩ := DataW.trod_string hu h
      exact ⟨[.str s], ⟨s, rfl, hw⟩, .one (.str s), (beq_iff_eq.1 hf).symm⟩
    · rename_i e hu
      simp only [Bool.and_eq_true, beq_iff_eq] at hf
      rcases Deep.open_slice hu h with ⟨rfl, _⟩ | ⟨a, len, cap, m', n', Dd, Pl, rfl, hb, hl, hm, hmm, _, hx⟩
      · exact ⟨[.slc false 0 []], ⟨[], rfl, Nat.zero_le _, fun g hg => by cases hg⟩, .one (.slcn false), by simpa using hf.1.symm⟩
      · have hlm : len ≤ m' := by rw [hmm]; split <;> omega
        obtain ⟨gs, g1, g2⟩ := choose_n (p := fun i (g : List D) => Ty P n e g ∧ g.length = P.cellsOf e ∧ ∀ (r : Nat) (d : D), g[r]? = some d → ∃ v, w.cell? (a.add (i * P.cellsOf e + r)) = some v ∧ RelC I w d v) len (fun i hi => by
          obtain ⟨cs', c1, c2⟩ := hx i (by omega)
          obtain ⟨ds, d1, d2, d3⟩ := trod_ty hI n n' e cs' _ hf.2 c2
          obtain ⟨_, e1, e2⟩ := World.cells?_some c1
          refine ⟨ds, d1, d3, fun r d hd => ?_⟩
          have hr : r < cs'.length := by rw [← d2.1]; exact (List.getElem?_eq_some_iff.1 hd).1
          have := e2 r (by omega)
          rw [add_off] at this
          refine ⟨cs'[r], ?_, d2.2 r d _ hd (List.getElem?_eq_getElem hr)⟩
          rw [this, List.getElem?_eq_getElem hr])
        have hlen : ∀ g ∈ gs, g.length = P.cellsOf e := fun g hg => by
          obtain ⟨i, hi, rfl⟩ := List.getElem_of_mem hg
          exact (g2 i _ (List.getElem?_eq_getElem hi)).2.1
        have key : ∀ (j : Nat) (d : D), gs.flatten[j]? = some d → ∃ v, w.cell? (a.add j) = some v ∧ RelC I w d v := fun j d hd => by
          obtain ⟨i, r, g, q1, q2, rfl⟩ := flatten_get gs hlen j d hd
          exact (g2 i g q1).2.2 r d q2
        refine ⟨[.slc false gs.length gs.flatten], ⟨gs, rfl, by omega, fun g hg => ?_⟩, .one ?_, by simpa using hf.1.symm⟩
        · obtain ⟨i, hi, rfl⟩ := List.getElem_of_mem hg
          exact (g2 i _ (List.getElem?_eq_getElem hi)).1
        · rw [g1]
          refine .slc false len gs.flatten a cap (fun j => (w.cell? (a.add j)).getD undef) (fun hp => ?_) (fun h => by cases h) hl (fun j d hd => ?_) (fun j d hd => ?_)
          · obtain ⟨v, hv, _⟩ := key 0 _ (List.getElem?_eq_getElem hp)
            refine hI _ ?_
            unfold World.cell? at hv
            rw [add_block] at hv
            cases hq : w.heap[a.block]? with
            | none => simp [hq] at hv
            | some o => exact (Array.getElem?_eq_some_iff.1 hq).1
          · obtain ⟨v, hv, _⟩ := key j d hd
            simp [hv]
          · obtain ⟨v, hv, hr⟩ := key j d hd
            simp only [hv, Option.getD_some]
            exact hr
    · rename_i fs hu
      simp only [beq_iff_eq] at hf
      obtain ⟨xs, n', _, _, hl, hxl, hx⟩ := DataW.trod_struct hu h
      obtain ⟨_, gs, g1, g2, g3⟩ := fields_rel (T := Ty P n) (cs := cs) fs.toList 0 _ hf (by omega) (fun f hff hfl hlen => by
        obtain ⟨i, hi, hfi⟩ := List.getElem_of_mem hff
        have hi' : i < fs.size := by simpa using hi
        have h1 := hx i f (by rw [← hfi]; simp [hi'])
        rw [List.getElem?_eq_getElem (by omega)] at h1
        obtain ⟨ds, d1, d2, _⟩ := trod_ty hI n n' f.type _ _ hfl h1
        exact ⟨ds, d1, d2⟩)
      have e : (cs.drop 0).take (P.cellsOf t - 0) = cs := by
        rw [Nat.sub_zero, List.drop_zero, ← hl, List.take_length]
      rw [e] at g3
      exact ⟨gs.flatten, ⟨gs, rfl, by simpa using g1, g2⟩, g3, by rw [g3.1, hl]⟩
    · rename_i m' e hu
      simp only [Bool.and_eq_true, beq_iff_eq] at hf
      obtain ⟨xs, n', _, _, hl, hxl, hx⟩ := DataW.trod_array hu h
      obtain ⟨gs, g1, g2⟩ := choose_n (p := fun i (g : List D) => Ty P n e g ∧ g.length = P.cellsOf e ∧ RowRel I w g ((cs.drop (i * P.cellsOf e)).take (P.cellsOf e))) m' (fun i hi => by
        have h1 := hx i hi
        rw [List.getElem?_eq_getElem (by omega)] at h1
        obtain ⟨ds, d1, d2, d3⟩ := trod_ty hI n n' e _ _ hf.1 h1
        exact ⟨ds, d1, d3, d2⟩)
      have key : ∀ (gs : List (List D)) (k : Nat), (∀ (i : Nat) (g : List D), gs[i]? = some g → RowRel I w g ((cs.drop ((k + i) * P.cellsOf e)).take (P.cellsOf e))) → (∀ g ∈ gs, g.length = P.cellsOf e) → (k + gs.length) * P.cellsOf e ≤ cs.length →
          RowRel I w gs.flatten ((cs.drop (k * P.cellsOf e)).take (gs.length * P.cellsOf e)) := by
        intro gs
        induction gs with
        | nil => intro k _ _ _; simp [RowRel.nil]
        | cons g gs ih =>
          intro k hg hgl hk
          have h1 := hg 0 g rfl
          have h2 := ih (k + 1) (fun i g' hg' => by
            have := hg (i + 1) g' (by simpa using hg')
            rwa [show k + 1 + i = k + (i + 1) by omega]) (fun g hg => hgl g (List.mem_cons_of_mem _ hg)) (by rw [show k + 1 + gs.length = k + (g :: gs).length by simp; omega]; exact hk)
          rw [List.flatten_cons, List.length_cons, Nat.add_mul, Nat.one_mul, Nat.add_comm (gs.length * P.cellsOf e), List.take_add, List.drop_drop]
          rw [Nat.add_zero] at h1
          rw [Nat.add_mul, Nat.one_mul] at h2
          exact h1.append h2
      have hgl : ∀ g ∈ gs, g.length = P.cellsOf e := fun g hg => by
        obtain ⟨i, hi, rfl⟩ := List.getElem_of_mem hg
        exact (g2 i _ (List.getElem?_eq_getElem hi)).2.1
      have h3 := key gs 0 (fun i g hg => by simpa using (g2 i g hg).2.2) hgl (by rw [Nat.zero_add, g1, hl, hf.2]; exact Nat.le_refl _)
      have e : (cs.drop (0 * P.cellsOf e)).take (gs.length * P.cellsOf e) = cs := by
        rw [Nat.zero_mul, List.drop_zero, g1, ← hf.2, ← hl, List.take_length]
      rw [e] at h3
      exact ⟨gs.flatten, ⟨gs, rfl, g1, fun g hg => by
        obtain ⟨i, hi, rfl⟩ := List.getElem_of_mem hg
        exact (g2 i _ (List.getElem?_eq_getElem hi)).1⟩, h3, by rw [h3.1, hl]⟩
    · cases hf
end
end Go.Pd
end
section
namespace Go.Pd
open Go.RowKit Go.ChangeShapes Go.WideShapes
def argOf (P : Program) (t : TypeId) (ds : List D) : D := match isAggD P t with
  | some true => .agg ds
  | _ => ds.headD .junk
def AllTy (P : Program) (n : Nat) : List TypeId → List (List D) → Prop
  | [], [] => True
  | t :: ts, c :: cs => Ty P n t c ∧ AllTy P n ts cs
  | _, _ => False
def argsOf (P : Program) : List TypeId → List (List D) → List D
  | t :: ts, c :: cs => argOf P t c :: argsOf P ts cs
  | _, _ => []
def carryB (P : Program) (t : TypeId) : Bool := P.readableRec t && decide (t < P.types.size) && flatB P 12 t
section
variable {I : Nat → Prop} {w : World} {P : Program} {H : Type} {enc : TypeId × Value → H}
theorem arg_ty {base b0 : Nat} {r : Reach} {spare : Nat → Bool} {held : Bool} {n : Nat} (hI : ∀ b, b < w.heap.size → I b) {t : TypeId} {v : Value} {d : DataW H} {ps : List MemPlace} (hf : flatB P n t = true) (hv : Value.okWide P w r b0 t v)
    (h : DataW.Trod enc P w base spare held t v d ps) : ∃ c, Ty P n t c ∧ RelC I w (argOf P t c) v := by
  obtain ⟨m, hm⟩ := h
  obtain ⟨c, c1, c2, c3⟩ := trod_ty hI n m t _ _ hf hm
  refine ⟨c, c1, ?_⟩
  cases n with
  | zero => cases hf
  | succ n =>
    have one : ∀ {u : Value}, v = u → u.cells = #[u] → isAggD P t ≠ some true → RelC I w (argOf P t c) v := fun {u} e1 e2 hag => by
      subst e1
      rw [e2] at c2
      obtain ⟨l, rr⟩ := c2
      have : argOf P t c = c.headD .junk := by
        unfold argOf
        split
        · rename_i h; exact absurd h hag
        · rfl
      rw [this]
      match c, l with
      | [x], _ => exact rr 0 x _ rfl rfl
    have many : ∀ {vs : Array Value}, v = .agg vs → isAggD P t = some true → RelC I w (argOf P t c) v := fun {vs} e hag => by
      subst e
      have : argOf P t c = .agg c := by unfold argOf; rw [hag]
      rw [this]
      exact .agg c vs (by simpa [Value.cells] using c2.1) fun j d u hd hu => c2.2 j d u hd (by simpa [Value.cells] using hu)
    have hf' := hf
    unfold flatB at hf'
    split at hf'
    · rename_i hu
      obtain ⟨b, rfl⟩ := okWide_bool hu hv
      exact one rfl rfl (by simp [isAggD, hu])
    · rename_i k hu
      obtain ⟨x, rfl⟩ := okWide_int hu hv
      exact one rfl rfl (by simp [isAggD, hu])
    · rename_i hu
      obtain ⟨s, rfl⟩ := okWide_string hu hv
      exact one rfl rfl (by simp [isAggD, hu])
    · rename_i e hu
      obtain ⟨a, len, cap, rfl⟩ := okWide_slice hu hv
      exact one rfl rfl (by simp [isAggD, hu])
    · rename_i fs hu
      obtain ⟨cs, rfl, _⟩ := okWide_struct hu hv
      exact many rfl (by simp [isAggD, hu])
    · rename_i m' e hu
      have : ∃ cs, v = .agg cs := by
        unfold Value.okWide at hv
        rw [hu] at hv
        obtain ⟨cs, rfl, _⟩ := hv
        exact ⟨cs, rfl⟩
      obtain ⟨cs, rfl⟩ := this
      exact many rfl (by simp [isAggD, hu])
    · cases hf'
theorem args_ty {base b0 : Nat} {r : Reach} {spare : Nat → Bool} {held : Bool} {n : Nat} (hI : ∀ b, b < w.heap.size → I b) : ∀ (ts : List TypeId) (vs : List Value) (ds : List (DataW H)) (ps : List MemPlace), (∀ t ∈ ts, flatB P n t = true) →
    (∀ (j : Nat) t v, ts[j]? = some t → vs[j]? = some v → Value.okWide P w r b0 t v) → DataW.TrodAll enc P w base spare held ts vs ds ps →
    ∃ cs, AllTy P n ts cs ∧ (argsOf P ts cs).length = vs.length ∧ ∀ (j : Nat) (d : D) (v : Value), (argsOf P ts cs)[j]? = some d → vs[j]? = some v → RelC I w d v
  | [], vs, ds, ps, _, _, h => by
    obtain ⟨rfl, rfl, rfl⟩ := trodAll_nil h
    exact ⟨[], trivial, rfl, fun j d v h => by simp [argsOf] at h⟩
  | t :: ts, vs, ds, ps, hf, hv, h => by
    obtain ⟨v, vs1, d, ds1, p, q, rfl, rfl, rfl, h1, h2⟩ := trodAll_cons h
    obtain ⟨c, c1, c2⟩ := arg_ty hI (hf t (by simp)) (hv 0 t v rfl rfl) h1
    obtain ⟨cs, e1, e2, e3⟩ := args_ty hI ts vs1 ds1 q (fun t ht => hf t (List.mem_cons_of_mem _ ht)) (fun j t v ht hvv => hv (j + 1) t v (by simpa using ht) (by simpa using hvv)) h2
    refine ⟨c :: cs, ⟨c1, e1⟩, by simp [argsOf, e2], fun j d u hd hu => ?_⟩
    cases j with
    | zero => simp [argsOf] at hd hu; subst hd hu; exact c2
    | succ j => simp [argsOf] at hd hu; exact e3 j d u hd hu
theorem trodAll_carry (hl : laidOutB P = true) {W W' : World} (hb : Below W.heap.size W W') : ∀ (ts : List TypeId) (vs : List Value) (ds : List (DataW H)) (ps : List MemPlace), (∀ t ∈ ts, carryB P t = true) →
    DataW.TrodAll enc P W 0 (fun _ => true) true ts vs ds ps → (∀ x ∈ ps, x.block < W.heap.size) → DataW.TrodAll enc P W' 0 (fun b => decide (b < W.heap.size)) true ts vs ds ps
  | [], vs, ds, ps, _, h, _ => by
    obtain ⟨rfl, rfl, rfl⟩ := trodAll_nil h
    exact trodAll_mk0
  | t :: ts, vs, ds, ps, hc, h, hlt => by
    obtain ⟨v, vs1, d, ds1, p, q, rfl, rfl, rfl, h1, h2⟩ := trodAll_cons h
    have h3 := hc t (by simp)
    simp only [carryB, Bool.and_eq_true, decide_eq_true_eq] at h3
    exact ⟨p, q, Below.trod hl h3.1.1 h3.1.2 h1 hb (fun x hx => hlt x (List.mem_append_left _ hx)),
      trodAll_carry hl hb ts vs1 ds1 q (fun t ht => hc t (List.mem_cons_of_mem _ ht)) h2 (fun x hx => hlt x (List.mem_append_right _ hx)), rfl⟩
end
theorem law_call {P : Program} {gl : Nat → Option D} (hgl : ∀ g, gl g = none) (hl : laidOutB P = true) {f : FuncId} {fn : Func} {tb : TypeId} (hbool : P.underlying tb = some .bool) (hres : fn.resultTypes = #[tb])
    (hc : ∀ t ∈ fn.params.toList, carryB P t = true) {H : Type} (enc : TypeId × Value → H) {s : ChangeSpec} (hvars : s.vars = []) (hfn : ∀ ds : List (DataW H), ds.length = fn.params.toList.length → s.fn H (ds ++ []) = { results := [.lit (.bool true)], args := ds })
    (W : World) (args : Array Value) (ds gs : List (DataW H)) (before : List MemPlace) (hval : ∀ (j : Nat) t v, fn.params[j]? = some t → args[j]? = some v → Value.okWide P W .any 0 t v)
    (hW : DataW.Whole enc P fn.params.toList s.vars false W args.toList ds gs before)
    (hplain : ∀ cs, AllTy P 12 fn.params.toList cs → CallOK P gl f (argsOf P fn.params.toList cs) (.bool true)) :
    Calls P f args W fun e W' => ∃ v, e = .returned v ∧ s.post enc P fn false true false false W args v W' := by
  have hW0 := hW
  obtain ⟨p, q, hA, hV, rfl, hfz, hnd⟩ := hW
  rw [hvars] at hV
  have hq : gs = [] ∧ q = [] := by
    cases gs with
    | nil => exact ⟨rfl, hV⟩
    | cons => exact hV.elim
  obtain ⟨rfl, rfl⟩ := hq
  have hf12 : ∀ t ∈ fn.params.toList, flatB P 12 t = true := fun t ht => by
    have := hc t ht
    simp only [carryB, Bool.and_eq_true] at this
    exact this.2
  obtain ⟨cs, c1, c2, c3⟩ := args_ty (I := fun b => b < W.heap.size) (w := W) (fun b hb => hb) _ _ _ _ hf12 (fun j t v ht hv => hval j t v (by simpa using ht) (by simpa using hv)) hA
  have hlen : ds.length = fn.params.toList.length := by
    clear hW0 hplain c1 c2 c3 hval hfz hnd
    have key : ∀ (ts : List TypeId) (vs : List Value) (ds : List (DataW H)) (ps : List MemPlace), DataW.TrodAll enc P W 0 (fun _ => true) true ts vs ds ps → ds.length = ts.length := by
      intro ts
      induction ts with
      | nil => intro vs ds ps h; obtain ⟨_, rfl, _⟩ := trodAll_nil h; rfl
      | cons t ts ih =>
        intro vs ds ps h
        obtain ⟨v, vs1, d, ds1, a, b, rfl, rfl, rfl, h1, h2⟩ := trodAll_cons h
        simp [ih _ _ _ h2]
    exact key _ _ _ _ hA
  have hcall := hplain cs c1
  have hF := hcall.2 (fun b => b < W.heap.size) W args (fun b hb => hb) (fun g d hg => by rw [hgl] at hg; cases hg) (by simpa using c2) (fun j d v hd hv => c3 j d v hd (by simpa using hv))
  refine hF.mono fun e W' ⟨v, he, hr, hb⟩ => ?_
  have hvt : v = .bool true := (RelV.clo (A := fun _ _ => none) (G := fun _ => 0) hr).bool_inv
  subst hvt
  have hold : ∀ x ∈ p ++ [], x.block < W.heap.size := fun x hx => by simpa using hW0.lt x hx
  have hs := hfn ds hlen
  refine ⟨_, he, ds, [], p ++ [], [], p, [], hW0, ?_, ?_, ?_, hb.below.frame _, fun h => by cases h⟩
  · rw [hs, hres]
    exact trodAll_cons_mk (shut_bool hbool _) trodAll_mk0
  · rw [hs]
    exact trodAll_carry hl hb.below _ _ _ _ hc hA fun x hx => hold x (by simpa using hx)
  · rw [hs, hvars]
    rfl
end Go.Pd
end
section
namespace Go.Pd
open Classical in
noncomputable def tabC : List (FuncId × List D × D) → FuncId → List D → Option D
  | [], _, _ => none
  | (k0, d0, r0) :: l, k, ds => if k = k0 ∧ ds = d0 then some r0 else tabC l k ds
theorem tabC_hit (k : FuncId) (ds : List D) (r : D) (l : List (FuncId × List D × D)) : tabC ((k, ds, r) :: l) k ds = some r := by simp [tabC]
theorem tabC_skip {k k0 : FuncId} (h : k ≠ k0) (ds d0 : List D) (r0 : D) (l : List (FuncId × List D × D)) : tabC ((k0, d0, r0) :: l) k ds = tabC l k ds := by simp [tabC, h]
theorem tabC_skip' {k k0 : FuncId} {ds d0 : List D} (h : ds ≠ d0) (r0 : D) (l : List (FuncId × List D × D)) : tabC ((k0, d0, r0) :: l) k ds = tabC l k ds := by simp [tabC, h]
theorem tabC_ok {P : Program} {gl : Nat → Option D} : ∀ {l : List (FuncId × List D × D)}, (∀ e ∈ l, CallOK P gl e.1 e.2.1 e.2.2) → ∀ k ds r, tabC l k ds = some r → CallOK P gl k ds r
  | [], _, _, _, _, h => by cases h
  | (k0, d0, r0) :: l, hl, k, ds, r, h => by
    unfold tabC at h
    split at h
    · rename_i hc
      cases h
      obtain ⟨rfl, rfl⟩ := hc
      exact hl _ (List.mem_cons_self ..)
    · exact tabC_ok (fun e he => hl e (List.mem_cons_of_mem _ he)) k ds r h
end Go.Pd
end
