/-
  DERIVED: THE SHELF's CONTRACTS AT THIS DUMP, IN PLAIN WORDS (tools/lay-plain.mjs out of 'ZzC5Shelf.lean', which tools/lay-shelf.mjs wrote): THE SAME DECLARATIONS UNDER THE SAME NAMES: 'import', 'namespace', 'open', 'def', 'theorem' AND NOTHING ELSE: no command of the shelf's: FOR A HAND-IN. Each laying: the table of numbers ('.._ren') and one theorem, a field a fact of the dump's own or the kernel's comparison; each contract: ONE APPLICATION.
  Itoa of small numbers, off the shelf.
  The closure that Playoff hands to slices.DeleteFunc, in whatever world holds its captured variables.
  slices.DeleteFunc with Playoff's closure, as a function that writes into its first argument.
  Chapter 5: what the equations of its functions are stated about.
  Chapter 5: functions that the interpreter is told of.
  Lists as cells: what a loop over a list meets at a place.
  Typed arguments, laid open.
-/
import Derived.Shelf.Strconv.Itoa3
import Derived.Ground.Names2Prog
import Derived.Shelf.SortM.Plain
import Derived.Ground.SlgmProg
import Derived.Shelf.SlicesE.DeleteFunc
import Derived.Ground.SlgfProg
import Derived.Test.YtanpmgfaieekhaaGreatDoorProg
import Derived.Test.YtanpmgfaieekhaaGreatDoorPdFc
import Derived.RegionTactic
import Derived.Test.YtanpmgfaieekhaaGreatDoorPdFf
import Derived.IntWalk
section
namespace Go.Proofs
open Go.Shelf
def Tryz.lays171_ren : Go.Shelf.Ren := ⟨fun | 171 => 117 | 243 => 145 | 246 => 174 | 283 => 200 | 284 => 201 | 285 => 202 | 286 => 203 | 129 => 188 | 317 => 219 | 318 => 220 | 319 => 221 | 320 => 222 | 337 => 225 | 338 => 226 | n => n, fun | 3 => 3 | 9 => 9 | 2 => 2 | 4 => 4 | 171 => 233 | 0 => 0 | 53 => 222 | 37 => 235 | 5 => 5 | 173 => 236 | 212 => 247 | 51 => 220 | 20 => 20 | 213 => 248 | 46 => 192 | 232 => 252 | 233 => 253 | n => n, fun | 17 => 0 | 18 => 1 | 19 => 2 | n => n⟩
theorem Tryz.lays171 : Go.Proofs.Lays.n171 Tryz.prog Tryz.lays171_ren := {
  mixed := by kernel_rfl
  f129 := Tryz.func188.trans (congrArg some (by kernel_rfl))
  f171 := Tryz.func117.trans (congrArg some (by kernel_rfl))
  f243 := Tryz.func145.trans (congrArg some (by kernel_rfl))
  f246 := Tryz.func174.trans (congrArg some (by kernel_rfl))
  f283 := Tryz.func200.trans (congrArg some (by kernel_rfl))
  f284 := Tryz.func201.trans (congrArg some (by kernel_rfl))
  f285 := Tryz.func202.trans (congrArg some (by kernel_rfl))
  f286 := Tryz.func203.trans (congrArg some (by kernel_rfl))
  f317 := Tryz.func219.trans (congrArg some (by kernel_rfl))
  f318 := Tryz.func220.trans (congrArg some (by kernel_rfl))
  f319 := Tryz.func221.trans (congrArg some (by kernel_rfl))
  f320 := Tryz.func222.trans (congrArg some (by kernel_rfl))
  f337 := Tryz.func225.trans (congrArg some (by kernel_rfl))
  f338 := Tryz.func226.trans (congrArg some (by kernel_rfl))
  t0 := Tryz.underlying0
  a0 := Tryz.isAgg0
  z0 := Tryz.sizeOf0
  v0 := Tryz.zeroValue0
  t2 := Tryz.underlying2
  a2 := Tryz.isAgg2
  z2 := Tryz.sizeOf2
  v2 := Tryz.zeroValue2
  t3 := Tryz.underlying3
  a3 := Tryz.isAgg3
  z3 := Tryz.sizeOf3
  v3 := Tryz.zeroValue3
  t4 := Tryz.underlying4
  a4 := Tryz.isAgg4
  z4 := Tryz.sizeOf4
  v4 := Tryz.zeroValue4
  t5 := Tryz.underlying5
  a5 := Tryz.isAgg5
  z5 := Tryz.sizeOf5
  v5 := Tryz.zeroValue5
  t9 := Tryz.underlying9
  a9 := Tryz.isAgg9
  z9 := Tryz.sizeOf9
  v9 := Tryz.zeroValue9
  t20 := Tryz.underlying20
  a20 := Tryz.isAgg20
  z20 := Tryz.sizeOf20
  v20 := Tryz.zeroValue20
  t37 := Tryz.underlying235
  a37 := Tryz.isAgg235
  z37 := Tryz.sizeOf235
  v37 := Tryz.zeroValue235
  t46 := Tryz.underlying192
  a46 := Tryz.isAgg192
  z46 := Tryz.sizeOf192
  v46 := Tryz.zeroValue192
  t51 := Tryz.underlying220
  a51 := Tryz.isAgg220
  z51 := Tryz.sizeOf220
  v51 := Tryz.zeroValue220
  t53 := Tryz.underlying222
  a53 := Tryz.isAgg222
  z53 := Tryz.sizeOf222
  v53 := Tryz.zeroValue222
  t171 := Tryz.underlying233
  a171 := Tryz.isAgg233
  z171 := Tryz.sizeOf233
  v171 := Tryz.zeroValue233
  t173 := Tryz.underlying236
  a173 := Tryz.isAgg236
  z173 := Tryz.sizeOf236
  v173 := Tryz.zeroValue236
  t212 := Tryz.underlying247
  a212 := Tryz.isAgg247
  z212 := Tryz.sizeOf247
  v212 := Tryz.zeroValue247
  t213 := Tryz.underlying248
  a213 := Tryz.isAgg248
  z213 := Tryz.sizeOf248
  t232 := Tryz.underlying252
  a232 := Tryz.isAgg252
  z232 := Tryz.sizeOf252
  v232 := Tryz.zeroValue252
  t233 := Tryz.underlying253
  a233 := Tryz.isAgg253
  z233 := Tryz.sizeOf253
  v233 := Tryz.zeroValue253
  g17 := by kernel_rfl
  g18 := by kernel_rfl
  g19 := by kernel_rfl }
def Tryz.lsort_ren : Go.Shelf.Ren := ⟨fun | 5 => 136 | 8 => 159 | 7 => 158 | 19 => 187 | 20 => 188 | 10 => 178 | 11 => 179 | 12 => 180 | 13 => 181 | 14 => 182 | 15 => 183 | 16 => 184 | 17 => 185 | 18 => 186 | 30 => 205 | 31 => 206 | 32 => 207 | 33 => 208 | 34 => 209 | 35 => 142 | 40 => 224 | n => n, fun | 23 => 25 | 25 => 3 | 3 => 3 | 32 => 192 | 22 => 25 | 0 => 0 | 44 => 220 | 46 => 222 | 4 => 4 | 36 => 214 | 35 => 213 | 41 => 90 | 5 => 5 | 9 => 9 | 53 => 238 | 57 => 242 | 63 => 249 | 64 => 250 | n => n, fun | n => n⟩
theorem Tryz.lsort : Go.Proofs.SlLaysM.n5 Tryz.prog Tryz.lsort_ren := {
  mixed := by kernel_rfl
  f5 := ⟨Tryz.f136.name, by decide, Tryz.func136.trans (congrArg some (by kernel_rfl))⟩
  f7 := ⟨Tryz.f158.name, by decide, Tryz.func158.trans (congrArg some (by kernel_rfl))⟩
  f8 := Tryz.func159.trans (congrArg some (by kernel_rfl))
  f10 := ⟨Tryz.f178.name, by decide, Tryz.func178.trans (congrArg some (by kernel_rfl))⟩
  f11 := ⟨Tryz.f179.name, by decide, Tryz.func179.trans (congrArg some (by kernel_rfl))⟩
  f12 := ⟨Tryz.f180.name, by decide, Tryz.func180.trans (congrArg some (by kernel_rfl))⟩
  f13 := ⟨Tryz.f181.name, by decide, Tryz.func181.trans (congrArg some (by kernel_rfl))⟩
  f14 := ⟨Tryz.f182.name, by decide, Tryz.func182.trans (congrArg some (by kernel_rfl))⟩
  f15 := ⟨Tryz.f183.name, by decide, Tryz.func183.trans (congrArg some (by kernel_rfl))⟩
  f16 := ⟨Tryz.f184.name, by decide, Tryz.func184.trans (congrArg some (by kernel_rfl))⟩
  f17 := ⟨Tryz.f185.name, by decide, Tryz.func185.trans (congrArg some (by kernel_rfl))⟩
  f18 := ⟨Tryz.f186.name, by decide, Tryz.func186.trans (congrArg some (by kernel_rfl))⟩
  f19 := Tryz.func187.trans (congrArg some (by kernel_rfl))
  f20 := Tryz.func188.trans (congrArg some (by kernel_rfl))
  f30 := ⟨Tryz.f205.name, by decide, Tryz.func205.trans (congrArg some (by kernel_rfl))⟩
  f31 := Tryz.func206.trans (congrArg some (by kernel_rfl))
  f32 := Tryz.func207.trans (congrArg some (by kernel_rfl))
  f33 := ⟨Tryz.f208.name, by decide, Tryz.func208.trans (congrArg some (by kernel_rfl))⟩
  f34 := ⟨Tryz.f209.name, by decide, Tryz.func209.trans (congrArg some (by kernel_rfl))⟩
  f35 := ⟨Tryz.f142.name, by decide, Tryz.func142.trans (congrArg some (by kernel_rfl))⟩
  f40 := ⟨Tryz.f224.name, by decide, Tryz.func224.trans (congrArg some (by kernel_rfl))⟩
  t0 := Tryz.underlying0
  a0 := Tryz.isAgg0
  z0 := Tryz.sizeOf0
  v0 := Tryz.zeroValue0
  t3 := Tryz.underlying3
  a3 := Tryz.isAgg3
  z3 := Tryz.sizeOf3
  v3 := Tryz.zeroValue3
  t4 := Tryz.underlying4
  a4 := Tryz.isAgg4
  z4 := Tryz.sizeOf4
  v4 := Tryz.zeroValue4
  t5 := Tryz.underlying5
  a5 := Tryz.isAgg5
  z5 := Tryz.sizeOf5
  v5 := Tryz.zeroValue5
  t9 := Tryz.underlying9
  a9 := Tryz.isAgg9
  z9 := Tryz.sizeOf9
  v9 := Tryz.zeroValue9
  t22 := Tryz.underlying25
  a22 := Tryz.isAgg25
  z22 := Tryz.sizeOf25
  v22 := Tryz.zeroValue25
  t23 := Tryz.underlying25
  a23 := Tryz.isAgg25
  z23 := Tryz.sizeOf25
  v23 := Tryz.zeroValue25
  t25 := Tryz.underlying3
  a25 := Tryz.isAgg3
  z25 := Tryz.sizeOf3
  v25 := Tryz.zeroValue3
  t32 := Tryz.underlying192
  a32 := Tryz.isAgg192
  z32 := Tryz.sizeOf192
  v32 := Tryz.zeroValue192
  t35 := Tryz.underlying213
  a35 := Tryz.isAgg213
  z35 := Tryz.sizeOf213
  v35 := Tryz.zeroValue213
  t36 := Tryz.underlying214
  a36 := Tryz.isAgg214
  z36 := Tryz.sizeOf214
  v36 := Tryz.zeroValue214
  t41 := Tryz.underlying90
  a41 := Tryz.isAgg90
  z41 := Tryz.sizeOf90
  v41 := Tryz.zeroValue90
  t44 := Tryz.underlying220
  a44 := Tryz.isAgg220
  z44 := Tryz.sizeOf220
  v44 := Tryz.zeroValue220
  t46 := Tryz.underlying222
  a46 := Tryz.isAgg222
  z46 := Tryz.sizeOf222
  v46 := Tryz.zeroValue222
  t53 := Tryz.underlying238
  a53 := Tryz.isAgg238
  z53 := Tryz.sizeOf238
  v53 := Tryz.zeroValue238
  t57 := Tryz.underlying242
  a57 := Tryz.isAgg242
  z57 := Tryz.sizeOf242
  v57 := Tryz.zeroValue242
  t63 := Tryz.underlying249
  a63 := Tryz.isAgg249
  z63 := Tryz.sizeOf249
  v63 := Tryz.zeroValue249
  t64 := Tryz.underlying250
  a64 := Tryz.isAgg250
  z64 := Tryz.sizeOf250
  v64 := Tryz.zeroValue250 }
def Tryz.ldel_ren : Go.Shelf.Ren := ⟨fun | 10 => 124 | 6 => 150 | n => n, fun | 22 => 25 | 23 => 3 | 25 => 132 | 3 => 3 | 4 => 4 | 0 => 0 | n => n, fun | n => n⟩
theorem Tryz.ldel : Go.Proofs.SlLaysH.n10 Tryz.prog Tryz.ldel_ren := {
  mixed := by kernel_rfl
  f6 := ⟨Tryz.f150.name, by decide, Tryz.func150.trans (congrArg some (by kernel_rfl))⟩
  f10 := ⟨Tryz.f124.name, by decide, Tryz.func124.trans (congrArg some (by kernel_rfl))⟩
  t0 := Tryz.underlying0
  a0 := Tryz.isAgg0
  z0 := Tryz.sizeOf0
  v0 := Tryz.zeroValue0
  t3 := Tryz.underlying3
  a3 := Tryz.isAgg3
  z3 := Tryz.sizeOf3
  v3 := Tryz.zeroValue3
  t4 := Tryz.underlying4
  a4 := Tryz.isAgg4
  z4 := Tryz.sizeOf4
  v4 := Tryz.zeroValue4
  t22 := Tryz.underlying25
  a22 := Tryz.isAgg25
  z22 := Tryz.sizeOf25
  v22 := Tryz.zeroValue25
  a23 := Tryz.isAgg3
  z23 := Tryz.sizeOf3
  t25 := Tryz.underlying132
  a25 := Tryz.isAgg132
  z25 := Tryz.sizeOf132
  v25 := Tryz.zeroValue132 }
end Go.Proofs
end
section
namespace Go.Proofs
open Go.Shelf
theorem Tryz.strconv_Itoa_small (i : Nat) (hi : i < 100) (w : World) :
    Calls Tryz.prog 117 #[.int .i64 i] w fun e w' => e = .returned (.string ⟨(Lib.decDigits i).toArray⟩) ∧ w' = w := Any.strconv_Itoa_small Tryz.lays171 i hi w
end Go.Proofs
end
section
namespace Go.Proofs
open Go.Shelf Go.RowKit Go.Lib Go.Sort
theorem Tryz.gives125 (x i v lim : Int) (n cap m cap' : Nat) (a1 a2 a3 T R : Addr) (W : World)
    (h1 : W.cell? a1 = some (.slice (some T) n cap)) (hx0 : 0 ≤ x) (hxn : x < n) (h2 : W.cell? (T.add x.toNat) = some (.slice (some R) m cap')) (h3 : W.cell? a2 = some (.int .i64 i)) (hi0 : 0 ≤ i) (him : i < m)
    (h4 : W.cell? (R.add i.toNat) = some (.int .i64 v)) (h5 : W.cell? a3 = some (.int .i64 lim)) :
    FnGives Tryz.prog 125 #[.pointer (some a1), .pointer (some a2), .pointer (some a3)] #[.int .i64 x] (.bool (decide (lim < v))) W := by
  show Calls Tryz.prog 125 #[.int .i64 x, .pointer (some a1), .pointer (some a2), .pointer (some a3)] W _
  go_enter Tryz.func125, Tryz.ntmps125
  go_wp2
  go_region
  go_wp2
  go_ret
  exact ⟨rfl, 1, rfl⟩
end Go.Proofs
end
section
namespace Go.Pd
open Go.RowKit Go.Sort Go.Proofs Go.Shelf Go.Lib
def valAt (n : Nat) (tbl : List D) (i x : Int) : Option Int := match decide (0 ≤ x ∧ x < n ∧ 0 ≤ i) with
  | true => match tbl[x.toNat]? with
    | some (.slc _ m row) => match decide (i < m) with
      | true => match row[i.toNat]? with
        | some (.int .i64 v) => some v
        | _ => none
      | false => none
    | _ => none
  | false => none
def keepI (n : Nat) (tbl : List D) (i lim : Int) : List Int → Option (List Int)
  | [] => some []
  | x :: l => match valAt n tbl i x with
    | none => none
    | some v => match keepI n tbl i lim l with
      | none => none
      | some r => match decide (lim < v) with
        | true => some r
        | false => some (x :: r)
def delG : MutFn := fun cs len rest => match rest with
  | [.fn (.func 125) [] [.snap [.slc _ n tbl] 0, .snap [.int .i64 i] 0, .snap [.int .i64 lim] 0]] => match intsOf cs with
    | some zs => match decide (zs.length = len ∧ len ≤ 4611686018427387904), valAt n tbl i 0, keepI n tbl i lim zs with
      | true, some _, some r => some (r.map (D.int .i64), some r.length)
      | _, _, _ => none
    | none => none
  | _ => none
section
variable {I : Nat → Prop} {w W : World}
theorem snap1 {d : D} {v : Value} (h : RelC I w (.snap [d] 0) v) : ∃ (a : Addr) (u : Value), v = .pointer (some a) ∧ w.cell? a = some u ∧ RelC I w d u := by
  cases h with
  | snap _ _ a us hI hc hr =>
    have h0 := hc 0 d rfl
    exact ⟨a.add 0, us 0, rfl, h0, hr 0 d rfl⟩
theorem int_inv {k : IntKind} {n : Int} {v : Value} (h : RelC I w (.int k n) v) : v = .int k n := by cases h; rfl
theorem valAt_inv {n : Nat} {tbl : List D} {i x v : Int} (h : valAt n tbl i x = some v) : 0 ≤ x ∧ x < n ∧ 0 ≤ i ∧ ∃ f m row, tbl[x.toNat]? = some (.slc f m row) ∧ i < m ∧ row[i.toNat]? = some (.int .i64 v) := by
  unfold valAt at h
  split at h
  · rename_i h1
    simp only [decide_eq_true_eq] at h1
    split at h
    · rename_i f m row h2
      split at h
      · rename_i h3
        simp only [decide_eq_true_eq] at h3
        split at h
        · rename_i v' h4
          cases h
          exact ⟨h1.1, h1.2.1, h1.2.2, f, m, row, h2, h3, h4⟩
        · cases h
      · cases h
    · cases h
  · cases h
theorem caps_inv {f : Bool} {n : Nat} {tbl : List D} {i lim : Int} {fv : Value} (h : RelC I w (.fn (.func 125) [] [.snap [.slc f n tbl] 0, .snap [.int .i64 i] 0, .snap [.int .i64 lim] 0]) fv) : ∃ a1 a2 a3 : Addr, fv = .func (.func 125) #[] #[.pointer (some a1), .pointer (some a2), .pointer (some a3)] := by
  cases h with
  | fn _ _ _ vx vy hx hy hrx hry =>
    have ex : vx = #[] := Array.eq_empty_of_size_eq_zero hx.symm
    subst ex
    have h3 : vy.size = 3 := hy.symm
    obtain ⟨l⟩ := vy
    match l, h3 with
    | [v1, v2, v3], _ =>
      obtain ⟨a1, _, rfl, _⟩ := snap1 (hry 0 _ v1 rfl rfl)
      obtain ⟨a2, _, rfl, _⟩ := snap1 (hry 1 _ v2 rfl rfl)
      obtain ⟨a3, _, rfl, _⟩ := snap1 (hry 2 _ v3 rfl rfl)
      exact ⟨a1, a2, a3, rfl⟩
theorem caps_gives {f : Bool} {n : Nat} {tbl : List D} {i lim x v : Int} {a1 a2 a3 : Addr} (h : RelC I W (.fn (.func 125) [] [.snap [.slc f n tbl] 0, .snap [.int .i64 i] 0, .snap [.int .i64 lim] 0]) (.func (.func 125) #[] #[.pointer (some a1), .pointer (some a2), .pointer (some a3)]))
    (hx : valAt n tbl i x = some v) : FnGives Tryz.prog 125 #[.pointer (some a1), .pointer (some a2), .pointer (some a3)] #[.int .i64 x] (.bool (decide (lim < v))) W := by
  obtain ⟨hx0, hxn, hi0, f', m, row, h2, h3, h4⟩ := valAt_inv hx
  cases h with
  | fn _ _ _ vx vy hx hy hrx hry =>
    obtain ⟨b1, u1, e1, c1, r1⟩ := snap1 (hry 0 _ (.pointer (some a1)) rfl rfl)
    obtain ⟨b2, u2, e2, c2, r2⟩ := snap1 (hry 1 _ (.pointer (some a2)) rfl rfl)
    obtain ⟨b3, u3, e3, c3, r3⟩ := snap1 (hry 2 _ (.pointer (some a3)) rfl rfl)
    cases e1; cases e2; cases e3
    have q2 := int_inv r2
    have q3 := int_inv r3
    subst q2 q3
    cases r1 with
    | slcn => simp at h2
    | slc _ _ _ T cap us hI hf hl hc hr =>
      have k1 := hc _ _ h2
      have k2 := hr _ _ h2
      generalize us x.toNat = ux at k1 k2
      cases k2 with
      | slcn => simp at h4
      | slc _ _ _ R cap' us' hI' hf' hl' hc' hr' =>
        have k3 := hc' _ _ h4
        have k4 := int_inv (hr' _ _ h4)
        rw [k4] at k3
        exact Tryz.gives125 x i v lim n cap m cap' a1 a2 a3 T R W c1 hx0 hxn k1 c2 hi0 h3 k3 c3
end
abbrev Asked (n : Nat) (tbl : List D) (i : Int) : Type := { x : Int // ∃ v, valAt n tbl i x = some v }
theorem keepI_all {n : Nat} {tbl : List D} {i lim : Int} : ∀ (zs : List Int) (r : List Int), keepI n tbl i lim zs = some r → (∀ x ∈ zs, ∃ v, valAt n tbl i x = some v) ∧ r = zs.filter fun x => !decide (lim < (valAt n tbl i x).getD 0)
  | [], r, h => by cases h; exact ⟨by simp, rfl⟩
  | x :: l, r, h => by
    unfold keepI at h
    split at h
    · cases h
    · rename_i v hv
      split at h
      · cases h
      · rename_i r' hr'
        obtain ⟨h1, h2⟩ := keepI_all l r' hr'
        refine ⟨fun y hy => ?_, ?_⟩
        · rcases List.mem_cons.1 hy with rfl | hy
          · exact ⟨v, hv⟩
          · exact h1 y hy
        · split at h
          · rename_i hd
            cases h
            rw [List.filter_cons_of_neg (by simp [hv]; simpa using hd)]
            exact h2
          · rename_i hd
            cases h
            rw [List.filter_cons_of_pos (by simp [hv]; simpa using hd), ← h2]
theorem asked_list {n : Nat} {tbl : List D} {i : Int} : ∀ zs : List Int, (∀ x ∈ zs, ∃ v, valAt n tbl i x = some v) → ∃ ds : List (Asked n tbl i), ds.map (fun x => x.1) = zs
  | [], _ => ⟨[], rfl⟩
  | x :: l, h => by
    obtain ⟨ds, hds⟩ := asked_list l fun y hy => h y (List.mem_cons_of_mem _ hy)
    exact ⟨⟨x, h x (by simp)⟩ :: ds, by simp [hds]⟩
theorem putRow_val {α : Type} [Inhabited α] (g : α → Int) (w : World) (b : Nat) (d : Array α) : putRow (fun x => Value.int .i64 (g x)) w b 0 d = putRow (Value.int .i64) w b 0 (d.map g) := by
  unfold putRow
  refine mapBlock_congr _ _ _ _ fun c e fr _ => ?_
  unfold putCells
  apply Array.ext_getElem?
  intro k
  simp only [Array.getElem?_mapIdx, Array.size_map]
  cases c[k]? with
  | none => rfl
  | some y =>
    simp only [Option.map_some]
    by_cases hk : 0 ≤ k ∧ k < 0 + d.size
    · rw [if_pos hk, if_pos hk, getElem!_pos d (k - 0) (by omega), getElem!_pos (d.map g) (k - 0) (by simp; omega)]
      simp
    · rw [if_neg hk, if_neg hk]
theorem del_mut {gl : Nat → Option D} : MutOK Tryz.prog gl 124 delG := by
  refine ⟨enters_of Tryz.func124 (by kernel_rfl) rfl, fun I w b cap n len e c cs rest cs' m vrest hI hgl hb hblk hcs hcap hlen hcl hpl hcell hrl hrr hg hpl' hm => ?_⟩
  unfold delG at hg
  split at hg
  · rename_i f nt tbl i lim
    split at hg
    · rename_i zs hz
      split at hg
      · rename_i v0 r hd hv0 hk
        simp only [decide_eq_true_eq] at hd
        obtain ⟨hzl, hlt⟩ := hd
        cases hg
        have hcs' := intsOf_eq _ _ hz
        subst hcs'
        obtain ⟨hall, hr⟩ := keepI_all _ _ hk
        have hv1 : vrest.size = 1 := hrl.symm
        obtain ⟨l⟩ := vrest
        match l, hv1 with
        | [fv], _ =>
          have hrel := hrr 0 _ fv rfl rfl
          obtain ⟨a1, a2, a3, rfl⟩ := caps_inv hrel
          have hsz : zs.length ≤ c.size := by
            simp only [List.length_map] at hcl
            rw [hcs]
            cases n with
            | zero => simp at hcl; simp [hcl]
            | succ n =>
              have h0 : cap * 1 ≤ cap * (n + 1) := Nat.mul_le_mul_left cap (by omega)
              omega
          have hH0 := row_holds hblk hsz fun j d v hd hv => ints_toV hd (hcell j d v hd hv)
          have hbl : b < w.heap.size := (Array.getElem?_eq_some_iff.1 hblk).1
          haveI : Inhabited (Asked nt tbl i) := ⟨⟨0, v0, hv0⟩⟩
          obtain ⟨enc, henc⟩ : ∃ enc : Asked nt tbl i → Value, enc = fun x => Value.int .i64 x.1 := ⟨_, rfl⟩
          obtain ⟨p, hpd⟩ : ∃ p : Asked nt tbl i → Bool, p = fun x => decide (lim < (valAt nt tbl i x.1).getD 0) := ⟨_, rfl⟩
          obtain ⟨z0, hz0⟩ : ∃ z0 : Asked nt tbl i, z0 = ⟨0, v0, hv0⟩ := ⟨_, rfl⟩
          obtain ⟨ds, hds0⟩ := asked_list zs hall
          obtain ⟨d, hd'⟩ : ∃ d : Array (Asked nt tbl i), d = ds.toArray := ⟨_, rfl⟩
          have hdm : d.map (fun x => x.1) = zs.toArray := by rw [hd']; simp [hds0]
          have hds : d.size = zs.length := by rw [hd', ← hds0]; simp
          have hH : Holds enc w b 0 d := fun j hj => by
            have h0 := hH0 j (by simpa [hds] using hj)
            refine ⟨h0.1.trans ?_, h0.2⟩
            have : zs.toArray[j]! = (d[j]!).1 := by
              rw [getElem!_pos d j hj, getElem!_pos zs.toArray j (by simpa [hds] using hj)]
              have h1 : (d.map fun x => x.1)[j]? = zs.toArray[j]? := by rw [hdm]
              rw [Array.getElem?_map, Array.getElem?_eq_getElem hj, Array.getElem?_eq_getElem (by simpa [hds] using hj)] at h1
              simpa using h1.symm
            rw [this, henc]
          have gives : ∀ (W : World) (x : Asked nt tbl i), (∀ k, I k → W.heap[k]? = w.heap[k]?) → FnGives Tryz.prog 125 #[.pointer (some a1), .pointer (some a2), .pointer (some a3)] #[enc x] (.bool (p x)) W := fun W x hs => by
            obtain ⟨x, v, hv⟩ := x
            have := caps_gives (lim := lim) (x := x) (v := v) (hrel.mono (fun _ h => h) hs) hv
            rw [henc, hpd]
            show FnGives _ _ _ #[.int .i64 x] (.bool (decide (lim < (valAt nt tbl i x).getD 0))) W
            rw [hv]
            exact this
          have hp : PredAt Tryz.prog 125 #[.pointer (some a1), .pointer (some a2), .pointer (some a3)] enc p w := fun W x hB => gives W x fun k hk => hB.block k (hI k hk)
          have hpo : PredOver Tryz.prog 125 #[.pointer (some a1), .pointer (some a2), .pointer (some a3)] enc p b 0 d.size w := fun q os dk x _ => gives _ x fun k hk => by
            have hkl := hI k hk
            unfold sortWorld
            rw [heap_grow_old _ _ (by rw [size_putRow]; exact hkl)]
            show (w.heap.modify b _)[k]? = _
            rw [Array.getElem?_modify, if_neg (fun (hbk : b = k) => hb (by rw [hbk]; exact hk))]
          have hcon := AnyE.slices_DeleteFunc Tryz.ldel enc (fun _ => by rw [henc]; rfl) p 125 #[.pointer (some a1), .pointer (some a2), .pointer (some a3)] (enters_of Tryz.func125 (by kernel_rfl) rfl) z0 (fun w => by rw [henc, hz0]; exact Tryz.zeroValue3 w) b 0 cap d w hp hpo hH (by omega) (by omega)
          rw [hds, hzl] at hcon
          refine Calls.mono (show Calls Tryz.prog 124 _ _ _ from hcon) ?_
          rintro en w' ⟨rfl, q, rfl⟩
          have hfl : (d.toList.filter fun x => !p x).map (fun x => x.1) = r := by
            rw [hr]
            have h1 : d.toList.map (fun x => x.1) = zs := by
              have := congrArg Array.toList hdm
              simpa using this
            rw [← h1, List.filter_map, hpd]
            rfl
          refine ⟨by rw [← hfl]; simp, ?_⟩
          have h2 := row_end hblk q #[] (((d.toList.filter fun x => !p x) ++ List.replicate (len - (d.toList.filter fun x => !p x).length) z0).toArray.map fun (x : Asked nt tbl i) => x.1) r (fun j x hx => by
            rw [← hfl] at hx
            simp only [List.map_toArray, List.map_append]
            have hj : j < ((d.toList.filter fun x => !p x).map fun x => x.1).length := (List.getElem?_eq_some_iff.1 hx).1
            rw [List.getElem?_toArray, List.getElem?_append_left hj]
            exact hx)
          rw [← putRow_val (fun x : Asked nt tbl i => x.1), grow_empty, ← henc] at h2
          obtain ⟨c', e1, e2, e3, e4⟩ := h2
          exact ⟨c', e1, e2, fun j d v hd hv => toVZ_of (e3 j d v hd hv), e4⟩
      · cases hg
    · cases hg
  · cases hg
end Go.Pd
end
section
namespace Go.Pd
open Go Go.Proofs
def cstG : Cst := fun k ds => match k, ds with
  | 129, [.slc f1 n1 c1, .slc f2 n2 c2] => some (.fn (.func 151) [] [.snap [.slc f1 n1 c1] 0, .snap [.slc f2 n2 c2] 0])
  | 96, [.slc f1 n1 c1] => some (.fn (.func 137) [] [.snap [.slc f1 n1 c1] 0])
  | _, _ => none
def M1 : FuncId → Option Mu := fun k => match decide (k = 124) with
  | true => some (.fn delG)
  | false => match decide (k = 136) with
    | true => some (.fn sortG)
    | false => none
def valsGo (a : List D) : Nat → Nat → Option (List (List D))
  | 0, _ => some []
  | k + 1, i => cellK a i fun d => intK .i64 d fun x => emitK [.int .i64 x] (valsGo a k (i + 1)) (some [])
def emptyB (s : ByteArray) : Bool := ByteArray.toList s == ByteArray.toList (ByteArray.mk #[])
def dashB (s : ByteArray) : Bool := ByteArray.toList s == ByteArray.toList (ByteArray.mk #[45])
def cmpV (x y : Int) : Int := ifK (decide (x < y)) (-1) (ifK (decide (x > y)) 1 0)
def holeV (x : Int) (s : ByteArray) (y : Int) (s' : ByteArray) : Int := ifK (emptyB s) (ifK (emptyB s') (cmpV y x) 1) (ifK (emptyB s') (-1) 0)
def overV (up to : Int) : Bool := ifK (decide ((if IntKind.wrap .i64 (0 - up) > up then IntKind.wrap .i64 (0 - up) else up) > to)) true (to == 0)
def stGo (m : Nat) (a b : List D) : Nat → Nat → Int → Int → Option (List (List D))
  | 0, _, _, _ => some []
  | k + 1, i, up, to => cellK a (i * 2 + 1) fun d => strK d fun s => ifK (dashB s) (some []) (chkK (decide (i < m)) (cellK b (i * 2 + 1) fun d1 => strK d1 fun s1 => ifK (dashB s1) (some [])
      (cellK a (i * 2 + 0) fun d2 => intK .i64 d2 fun x => cellK b (i * 2 + 0) fun d3 => intK .i64 d3 fun y =>
        emitK [.agg [.int .i64 (IntKind.wrap .i64 (up + holeV x s y s1)), .int .i64 (IntKind.wrap .i64 (to - 1)), .bool (overV (IntKind.wrap .i64 (up + holeV x s y s1)) (IntKind.wrap .i64 (to - 1)))]]
          (stGo m a b k (i + 1) (IntKind.wrap .i64 (up + holeV x s y s1)) (IntKind.wrap .i64 (to - 1))) (some []))))
def LL : Nat := 4611686018427387904
def sqT : FuncId → List D → Option (List (List D)) := fun g cs => match g, cs with
  | 137, [.snap [.slc _ n c] 0] => chkK (decide (n < 4611686018427387904)) (valsGo c n 0)
  | 151, [.snap [.slc _ n a] 0, .snap [.slc _ m b] 0] => chkK (decide (n < 4611686018427387904)) (stGo m a b n 0 0 n)
  | _, _ => none
noncomputable def TEs (call : CL) (L : Nat) (C : Nat → Nat) (sq : FuncId → List D → Option (List (List D))) : TE := { E := { P := Tryz.prog, gl := fun _ => none, call := call, L := L, wr := M1 }, cst := cstG, C := C, sq := sq }
noncomputable def TEf (call : CL) (L : Nat) (C : Nat → Nat) : TE := TEs call L C sqT
noncomputable def TEi (call : CL) (L : Nat) (C : Nat → Nat) (l : Nat) : TE := { TEf call L C with it := some l }
noncomputable def TEn (call : CL) (L : Nat) (C : Nat → Nat) : TE := { TEf call L C with E := { (TEf call L C).E with nst := true } }
noncomputable def TE0 (call : CL) (L : Nat) (C : Nat → Nat) : TE := { E := { P := Tryz.prog, gl := fun _ => none, call := call, L := L, wr := M1 }, cst := fun _ _ => none, C := C }
def O0 : Ord := fun _ => none
def N0 : NTab := fun _ => none
end Go.Pd
end
section
namespace Go.Pd
open Go Go.Proofs
def digs2 (n : Nat) : List UInt8 := match decide (n < 10) with
  | true => [(48 + n).toUInt8]
  | false => [(48 + n / 10).toUInt8, (48 + n % 10).toUInt8]
def itoaX : List D → Option D
  | [.int .i64 n] => match decide (0 ≤ n ∧ n < 100) with
    | true => some (.str ⟨(digs2 n.toNat).toArray⟩)
    | false => none
  | _ => none
def joinGo : List (List D) → Nat → List D → Option D
  | [], 0, _ => some (.slc true 0 [])
  | [], k + 1, acc => some (.slc false (k + 1) acc)
  | [.agg [.int .i64 x, .int .i64 y, .bool b]] :: l, k, acc => match b with
    | true => some (.slc false (k + 1) (acc ++ [.int .i64 x, .int .i64 y, .bool true]))
    | false => joinGo l (k + 1) (acc ++ [.int .i64 x, .int .i64 y, .bool false])
  | _, _, _ => none
def matchX : List D → Option D
  | [.slc f n a, .slc g m b] => match decide (n < 100) with
    | true => optK (sqT 151 [.snap [.slc f n a] 0, .snap [.slc g m b] 0]) fun ys => joinGo ys 0 []
    | false => none
  | _ => none
def sortedX : List D → Option D
  | [.fn (.func 137) [] [.snap [.slc _ n cs] 0]] => match intsOf cs with
    | some zs => match decide (zs.length = n ∧ n < 100) with
      | true => match zs with
        | [] => some (.slc true 0 [])
        | z :: zs => some (.slc false n ((sortI (z :: zs)).map (D.int .i64)))
      | false => none
    | none => none
  | _ => none
def X1 : Ext := fun f => match decide (f = 117) with
  | true => some (fun _ => itoaX)
  | false => match decide (f = 88) with
    | true => some (fun _ => matchX)
    | false => match decide (f = 95) with
      | true => some (fun _ => sortedX)
      | false => none
def ordA (f : Nat) : Option Ord := match decide (14 < f ∧ f < 227 ∧ f ≠ 72) with
  | true => some (match decide (f = 4) with
    | true => fun id => if id = 3 then some { l := some [0,1,2,3,4,5], ks := [7, 8] } else none
    | false => match decide (f = 14) with
      | true => fun id => if id = 1 then some { l := some [0,1,2,3,4,5,6,7], ks := [5] } else none
      | false => match decide (f = 45) with
        | true => fun id => if id = 6 then some { l := some [0,1,2,3,4,5,6,7,8,9,10,11,12,13], ks := [11] } else none
        | false => match decide (f = 75) with
          | true => fun id => if id = 17 then some { l := some [0,1,2,3,4,5,6,7,8,9,10], ks := [12] } else none
          | false => match decide (f = 173) with
            | true => fun id => if id = 1 then some { l := some [0,1,2,3,4,5,6,7,8,9], ks := [3] } else none
            | false => fun _ => none)
  | false => none
noncomputable def evA (f : Nat) (args : List D) : Option D := evF Tryz.prog (fun _ => none) X1 ordA M1 1000 40 f args
end Go.Pd
end
section
namespace Go.Pd
open Go Go.RowKit
def ints (l : List Int) : List D := l.map (D.int .i64)
def rows (l : List (List Int)) : List D := l.map fun x => D.slc false x.length (ints x)
section
variable {α β : Type} (pre : List α) (x : α) (r : List α)
theorem lt_pre : decide ((pre.length : Int) < ((pre ++ x :: r).length : Int)) = true := by simp; omega
theorem in_pre : decide ((0 : Int) ≤ (pre.length : Int) ∧ (pre.length : Int) < ((pre ++ x :: r).length : Int)) = true := by simp; omega
theorem end_pre : decide ((pre.length : Int) < ((pre ++ ([] : List α)).length : Int)) = false := by simp
theorem wrap_in {y : Int} (h : -9223372036854775808 ≤ y ∧ y ≤ 9223372036854775807) : IntKind.wrap .i64 y = y := IntWalk.i64_in y h
theorem step_pre (h : (pre ++ x :: r).length ≤ 4611686018427387904) : IntKind.wrap .i64 ((pre.length : Int) + 1) = ((pre ++ [x]).length : Int) := by
  simp at h
  rw [wrap_in (by omega)]
  simp
theorem app1 : (pre ++ [x]) ++ r = pre ++ x :: r := by simp
theorem cell_map {γ : Type} (g : α → D) (c : D → Option γ) : cellK ((pre ++ x :: r).map g) (Int.toNat (pre.length : Int) * 1) c = c (g x) := by
  refine cellK_some ?_ c
  simp
theorem cell_ints {γ : Type} (pre : List Int) (x : Int) (r : List Int) (c : D → Option γ) : cellK (ints (pre ++ x :: r)) (Int.toNat (pre.length : Int) * 1) c = c (.int .i64 x) := cell_map pre x r _ c
theorem cell_rows {γ : Type} (pre : List (List Int)) (x : List Int) (r : List (List Int)) (c : D → Option γ) : cellK (rows (pre ++ x :: r)) (Int.toNat (pre.length : Int) * 1) c = c (.slc false x.length (ints x)) := cell_map pre x r _ c
end
end Go.Pd
end
section
namespace Go.Pd
open Go Go.RowKit
section
variable {P : Program} {n : Nat} {t : TypeId} {ds : List D}
theorem ty_int {k : IntKind} (hu : P.underlying t = some (.int k)) (h : Ty P (n + 1) t ds) : ∃ x, ds = [.int k x] ∧ (Lit.int k x).wf = true := by
  unfold Ty at h; rw [hu] at h; exact h
theorem ty_slice {e : TypeId} (hu : P.underlying t = some (.slice e)) (h : Ty P (n + 1) t ds) : ∃ gs : List (List D), ds = [.slc false gs.length gs.flatten] ∧ gs.length ≤ maxLen ∧ ∀ g ∈ gs, Ty P n e g := by
  unfold Ty at h; rw [hu] at h; exact h
theorem rows_of {α : Type} (g : α → List D) {p : List D → Prop} (hp : ∀ d, p d → ∃ x, d = g x) : ∀ gs : List (List D), (∀ d ∈ gs, p d) → ∃ l : List α, l.length = gs.length ∧ gs.flatten = l.flatMap g
  | [], _ => ⟨[], rfl, rfl⟩
  | d :: gs, h => by
    obtain ⟨x, hx⟩ := hp d (h d (by simp))
    obtain ⟨l, h1, h2⟩ := rows_of g hp gs fun d hd => h d (List.mem_cons_of_mem _ hd)
    exact ⟨x :: l, by simp [h1], by rw [List.flatten_cons, List.flatMap_cons, h2, hx]⟩
end
theorem all_ty1 {P : Program} {n : Nat} {t1 : TypeId} {cs : List (List D)} (h : AllTy P n [t1] cs) : ∃ c1, cs = [c1] ∧ Ty P n t1 c1 := by
  match cs, h with
  | [c1], h => exact ⟨c1, rfl, h.1⟩
end Go.Pd
end
