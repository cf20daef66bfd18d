/-
  Chapter 2: the tables by which the fixed examples are run.
  Chapter 2: the fixed examples: the one list that is sorted and thinned.
  Chapter 2: what hands on a list from behind, as equations.
  Chapter 2: how the fixed examples are run.
  Chapter 2: calls told one by one; the hole of the examples.
-/
import Derived.Test.YtmhbhlbnlmbhlaaGreatDoorCrB
import Derived.Test.YtmhbhlbnlmbhlaaGreatDoorPdFd
import Derived.KernelRfl
import Derived.Test.YtmhbhlbnlmbhlaaGreatDoorCrA
import Derived.Test.YtmhbhlbnlmbhlaaGreatDoorPdFf
section
namespace Go.Pd
open Go Go.Proofs Go.RowKit
def NA26 : NTab := fun p => match p with
  | 122 => some { keep := [9, 26, 27, 28], kl := [3, 4, 5, 11], ren := [(3, 3), (4, 4), (5, 5), (11, 11), (43, 43)] }
  | _ => none
def NA27 : NTab := fun p => match p with
  | 58 => some { keep := [7, 8, 9], kl := [4, 5, 6, 12], ren := [(4, 4), (5, 5), (6, 6), (7, 7), (8, 8), (9, 9), (12, 12)] }
  | _ => none
def NA34 : NTab := fun p => match p with
  | 122 => some { keep := [2, 3, 4, 5, 8, 11, 12, 13], kl := [15], ren := [(4, 4), (5, 5), (8, 8), (11, 11), (15, 15)] }
  | 7826 => some { keep := [2, 3, 4, 5, 8, 11, 12, 13, 14], kl := [15], ren := [(4, 4), (5, 5), (8, 8), (11, 11), (15, 15)] }
  | _ => none
def NA36 : NTab := fun p => match p with
  | 122 => some { keep := [0, 1, 2, 9, 33, 34, 35], kl := [11, 18, 62, 109], ren := [(11, 11), (18, 18), (32, 32), (62, 62), (109, 109)] }
  | 2042 => some { keep := [0, 1, 13, 14, 63, 64], kl := [11, 18, 32], ren := [(11, 11), (18, 18), (32, 32), (62, 62), (109, 109)] }
  | 1045706 => some { keep := [0, 1, 13, 14, 15, 63, 64, 67, 68], kl := [11, 18, 32], ren := [(11, 11), (18, 18), (32, 32), (62, 62), (109, 109)] }
  | 2091418 => some { keep := [0, 1, 13, 14, 15, 63, 64, 82, 83, 84], kl := [11, 18, 32], ren := [(11, 11), (18, 18), (32, 32), (62, 62), (109, 109)] }
  | _ => none
def NA52 : NTab := fun p => match p with
  | 122 => some { keep := [5], kl := [7], ren := [(5, 5), (7, 7)] }
  | _ => none
def NA60 : NTab := fun p => match p with
  | 250 => some { keep := [2, 4, 9, 10, 34, 35, 36], kl := [], ren := [(4, 4)] }
  | _ => none
def NA76 : NTab := fun p => match p with
  | 26 => some { keep := [5, 6, 7], kl := [], ren := [] }
  | _ => none
def NA78 : NTab := fun p => match p with
  | 26 => some { keep := [1, 2, 10, 11], kl := [9], ren := [(2, 2), (9, 9)] }
  | 6758 => some { keep := [1, 2, 7, 10, 11, 15, 16, 17], kl := [9], ren := [(2, 2), (9, 9)] }
  | _ => none
def NA80 : NTab := fun p => match p with
  | 58 => some { keep := [3, 4, 5], kl := [7], ren := [(3, 3), (4, 4), (5, 5), (7, 7)] }
  | _ => none
def NA85 : NTab := fun p => match p with
  | 26 => some { keep := [0, 6], kl := [], ren := [(6, 6)] }
  | _ => none
def NA91 : NTab := fun p => match p with
  | 122 => some { keep := [3, 4, 5, 9, 39, 40, 41], kl := [11, 13, 14, 17, 18, 120], ren := [(3, 3), (4, 4), (5, 5), (9, 9), (11, 11), (13, 13), (14, 14), (17, 17), (18, 18), (55, 55), (120, 120)] }
  | 4090 => some { keep := [3, 4, 9, 14, 15, 16], kl := [5, 11, 13, 17, 18], ren := [(3, 3), (4, 4), (5, 5), (9, 9), (11, 11), (13, 13), (14, 14), (17, 17), (18, 18), (55, 55), (120, 120)] }
  | 31334 => some { keep := [3, 4, 5, 9, 39, 40, 41], kl := [11, 13, 14, 17, 18, 120], ren := [(3, 3), (4, 4), (5, 5), (9, 9), (11, 11), (13, 13), (14, 14), (17, 17), (18, 18), (55, 55), (120, 120)] }
  | _ => none
def OA91 : Ord := fun id => match id with
  | 19 => some { l := some [0, 1, 2, 3, 4, 5, 6, 7, 8, 9, 10, 11, 12, 13], ks := [17] }
  | 20 => some { l := some [0, 1, 2, 3, 4, 5, 6, 7, 8, 9, 10, 11, 12, 13, 14, 15, 16, 17, 18, 19, 20], ks := [18] }
  | _ => none
def NA107 : NTab := fun p => match p with
  | 218 => some { keep := [1, 2, 3], kl := [4, 5, 7], ren := [(1, 1), (2, 2), (3, 3), (4, 4), (5, 5), (7, 7)] }
  | 6998 => some { keep := [1, 2, 3, 4, 5], kl := [7], ren := [(1, 1), (2, 2), (3, 3), (4, 4), (5, 5), (7, 7)] }
  | _ => none
def NA113 : NTab := fun p => match p with
  | 58 => some { keep := [0, 21, 22, 23], kl := [7], ren := [(7, 7)] }
  | _ => none
def NA117 : NTab := fun p => match p with
  | 58 => some { keep := [2, 4, 5, 26, 27, 28], kl := [3, 7], ren := [(2, 2), (3, 3), (4, 4), (5, 5), (7, 7), (42, 42)] }
  | _ => none
def OA117 : Ord := fun id => match id with
  | 1 => some { l := some [0, 1, 2, 3, 4, 5, 6, 7, 8, 9, 10, 11, 12, 13, 14, 15, 16, 17, 18], ks := [5] }
  | _ => none
def NA118 : NTab := fun p => match p with
  | 26 => some { keep := [2, 3, 4, 5], kl := [], ren := [(2, 2), (3, 3)] }
  | _ => none
def NA142 : NTab := fun p => match p with
  | 26 => some { keep := [0, 1, 7, 8], kl := [], ren := [] }
  | _ => none
def NA145 : NTab := fun p => match p with
  | 506 => some { keep := [4, 7, 12, 67, 68, 69], kl := [3, 5, 8, 10, 11, 14, 15], ren := [(3, 3), (4, 4), (5, 5), (7, 7), (8, 8), (10, 10), (11, 11), (14, 14), (15, 15), (89, 89)] }
  | _ => none
def OA145 : Ord := fun id => match id with
  | 1 => some { l := some [0, 1, 2, 3, 4, 5, 6, 7, 8, 9, 10, 11], ks := [7, 8] }
  | 4 => some { l := some [0, 1, 2, 3, 4, 5, 6, 7, 8, 9, 10, 11], ks := [10] }
  | 5 => some { l := some [0, 1, 2, 3, 4, 5, 6, 7, 8, 9, 10, 11], ks := [11] }
  | 15 => some { l := some [0, 1, 2, 3, 4, 5, 6, 7, 8, 9, 10, 11, 12], ks := [15] }
  | _ => none
def NA154 : NTab := fun p => match p with
  | 58 => some { keep := [3, 4, 5], kl := [7], ren := [(3, 3), (4, 4), (5, 5), (7, 7)] }
  | _ => none
def NA155 : NTab := fun p => match p with
  | 58 => some { keep := [1, 2, 7, 11, 12, 13], kl := [9], ren := [(9, 9), (46, 46)] }
  | _ => none
def NA159 : NTab := fun p => match p with
  | 252 => some { keep := [3, 4, 5, 6], kl := [1, 10], ren := [(1, 1), (10, 10), (52, 52)] }
  | 4090 => some { keep := [6, 10, 11], kl := [1], ren := [(1, 1), (10, 10), (52, 52)] }
  | _ => none
def NA172 : NTab := fun p => match p with
  | 26 => some { keep := [0, 1, 7, 8], kl := [], ren := [] }
  | _ => none
def NA176 : NTab := fun p => match p with
  | 6 => some { keep := [0, 1, 5, 6, 7], kl := [4], ren := [(4, 4)] }
  | _ => none
def NA178 : NTab := fun p => match p with
  | 58 => some { keep := [2, 5, 8, 9, 10], kl := [7], ren := [(2, 2), (7, 7), (20, 20)] }
  | _ => none
def NA191 : NTab := fun p => match p with
  | 26 => some { keep := [0, 1, 7, 8], kl := [], ren := [] }
  | _ => none
def OA202 : Ord := fun id => match id with
  | 2 => some { l := some [0, 1, 2, 3, 4, 5, 6, 7, 8, 9, 10, 11, 12], ks := [6] }
  | _ => none
def NA236 : NTab := fun p => match p with
  | 28 => some { keep := [2, 3, 4], kl := [5, 6], ren := [(2, 2), (3, 3), (4, 4), (5, 5), (6, 6)] }
  | _ => none
def NA114 : NTab := fun p => match p with
  | 250 => some { keep := [0, 1, 4, 5, 6, 7, 16, 17], kl := [9], ren := [(9, 9), (13, 13), (14, 14), (74, 74)] }
  | 506 => some { keep := [1, 5, 6, 7, 57, 58], kl := [9, 13], ren := [(9, 9), (13, 13), (14, 14), (74, 74)] }
  | 1018 => some { keep := [1, 5, 6, 7, 11], kl := [9, 13], ren := [(9, 9), (13, 13), (14, 14), (74, 74)] }
  | 128202 => some { keep := [0, 1, 4, 5, 6, 7, 16, 17, 19, 20, 21], kl := [9], ren := [(9, 9), (13, 13), (14, 14), (74, 74)] }
  | _ => none
def NA148 : NTab := fun p => match p with
  | 58 => some { keep := [0, 1, 5], kl := [], ren := [] }
  | 59690 => some { keep := [0, 1, 5, 6, 7], kl := [], ren := [] }
  | _ => none
def NA196 : NTab := fun p => match p with
  | 14 => some { keep := [0, 1, 2, 3, 4, 10, 11], kl := [], ren := [] }
  | _ => none
def NA238 : NTab := fun p => match p with
  | 6 => some { keep := [0, 1, 2, 3, 8], kl := [], ren := [] }
  | 402 => some { keep := [0, 1, 2, 3, 8, 9], kl := [], ren := [] }
  | _ => none
def NA160 : NTab := fun p => match p with
  | 6 => some { keep := [0, 1, 3], kl := [], ren := [] }
  | _ => none
def NA42 : NTab := fun p => match p with
  | 58 => some { keep := [0, 1, 5], kl := [], ren := [] }
  | _ => none
def NA20 : NTab := fun p => match p with
  | 122 => some { keep := [5, 6, 24, 25, 26], kl := [1, 8], ren := [(1, 1), (6, 6), (8, 8), (24, 24)] }
  | _ => none
def OA20 : Ord := fun id => match id with
  | 4 => some { l := some [0, 1, 2, 3, 4], ks := [6] }
  | _ => none
def nA : FuncId → NTab := fun k => match k with
  | 20 => NA20
  | 26 => NA26
  | 27 => NA27
  | 34 => NA34
  | 36 => NA36
  | 42 => NA42
  | 52 => NA52
  | 60 => NA60
  | 76 => NA76
  | 78 => NA78
  | 80 => NA80
  | 85 => NA85
  | 91 => NA91
  | 107 => NA107
  | 113 => NA113
  | 114 => NA114
  | 117 => NA117
  | 118 => NA118
  | 142 => NA142
  | 145 => NA145
  | 148 => NA148
  | 154 => NA154
  | 155 => NA155
  | 159 => NA159
  | 160 => NA160
  | 172 => NA172
  | 176 => NA176
  | 178 => NA178
  | 191 => NA191
  | 196 => NA196
  | 236 => NA236
  | 238 => NA238
  | _ => N0
def listA : List FuncId := [17, 19, 20, 26, 27, 34, 36, 42, 45, 50, 52, 58, 60, 64, 74, 76, 77, 78, 79, 80, 81, 83, 84, 85, 86, 87, 88, 91, 92, 93, 94, 100, 101, 102, 107, 108, 109, 110, 113, 115, 117, 118, 135, 136, 137, 138, 139, 140, 141, 142, 143, 144, 145, 146, 147, 148, 149, 150, 151, 152, 153, 154, 155, 156, 157, 158, 159, 160, 172, 174, 175, 176, 178, 191, 192, 193, 194, 195, 196, 197, 198, 199, 200, 201, 202, 203, 234, 235, 237, 238, 246, 247, 248, 249, 250, 256, 257, 264, 286, 295]
def ordA : FuncId → Option Ord := fun k => match listA.contains k with
  | false => none
  | true => some (match k with
    | 20 => OA20
    | 91 => OA91
    | 117 => OA117
    | 145 => OA145
    | 202 => OA202
    | _ => O0)
/-! ### Small fractions, told -/
def unf : D → Option (Int × Int)
  | .agg [.int .i64 a, .nils, .int .i64 b, .nils] => some (a, b)
  | _ => none
def unz : D → Option Int
  | .agg [.int .i64 a, .nils] => some a
  | _ => none
def smB (x : Int × Int) : Bool := decide (x.1.natAbs < 2147483648) && (decide (0 < x.2) && decide (x.2 < 2147483648))
theorem smB_sm {x : Int × Int} (h : smB x = true) : Sm x := by
  simp only [smB, Bool.and_eq_true, decide_eq_true_eq] at h
  exact h
theorem unf_eq {d : D} {x : Int × Int} (h : unf d = some x) : d = fD x := by
  unfold unf at h
  split at h
  · cases h; rfl
  · cases h
theorem unz_eq {d : D} {x : Int} (h : unz d = some x) : d = zD x := by
  unfold unz at h
  split at h
  · cases h; rfl
  · cases h
def bin2 (q : Int × Int → Int × Int → Bool) (r : Int × Int → Int × Int → D) : List D → Option D
  | [a, b] => match unf a, unf b with
    | some x, some y => (match smB x && (smB y && q x y) with
      | true => some (r x y)
      | false => none)
    | _, _ => none
  | _ => none
theorem bin2_ok {k : FuncId} {q : Int × Int → Int × Int → Bool} {r : Int × Int → Int × Int → D} (h : ∀ x y, Sm x → Sm y → q x y = true → OK2 k [fD x, fD y] (r x y)) : ∀ ds d, bin2 q r ds = some d → OK2 k ds d := by
  intro ds d hd
  unfold bin2 at hd
  split at hd
  · split at hd
    · rename_i x y hx hy
      split at hd
      · rename_i hc
        simp only [Bool.and_eq_true] at hc
        cases hd
        rw [unf_eq hx, unf_eq hy]
        exact h x y (smB_sm hc.1) (smB_sm hc.2.1) hc.2.2
      · cases hd
    · cases hd
  · cases hd
def yes2 (_ _ : Int × Int) : Bool := true
def mkX : List D → Option D
  | [a, b] => match unz a, unz b with
    | some n, some d => (match decide (n.natAbs < 9223372036854775808) && (d != 0 && decide (d.natAbs < 4611686018427387904)) with
      | true => some (fD (mkF n d))
      | false => none)
    | _, _ => none
  | _ => none
theorem mkX_ok : ∀ ds d, mkX ds = some d → OK2 194 ds d := by
  intro ds d hd
  unfold mkX at hd
  split at hd
  · split at hd
    · rename_i x y hx hy
      split at hd
      · rename_i hc
        simp only [Bool.and_eq_true, decide_eq_true_eq, bne_iff_ne, ne_eq] at hc
        cases hd
        rw [unz_eq hx, unz_eq hy]
        exact ok194 x y ⟨hc.1, hc.2.1, hc.2.2⟩
      · cases hd
    · cases hd
  · cases hd
def fX : List D → Option D
  | [.int .i64 n] => some (fD (n, 1))
  | _ => none
theorem fX_ok : ∀ ds d, fX ds = some d → OK2 144 ds d := by
  intro ds d hd
  unfold fX at hd
  split at hd
  · cases hd; exact ok144 _
  · cases hd
def zX : List D → Option D
  | [.int .i64 n] => some (zD n)
  | _ => none
theorem zX_ok : ∀ ds d, zX ds = some d → OK2 193 ds d := by
  intro ds d hd
  unfold zX at hd
  split at hd
  · cases hd; exact ok193 _
  · cases hd
def sgX : List D → Option D
  | [a] => match unf a with
    | some x => some (.int .i64 (sg x.1))
    | none => none
  | _ => none
theorem sgX_ok : ∀ ds d, sgX ds = some d → OK2 257 ds d := by
  intro ds d hd
  unfold sgX at hd
  split at hd
  · split at hd
    · rename_i x hx
      cases hd
      rw [unf_eq hx]
      exact ok257 x
    · cases hd
  · cases hd
def divB (_ y : Int × Int) : Bool := y.1 != 0 && smB (invF y)
def fracX : FuncId → Option (List D → Option D) := fun k => match k with
  | 144 => some fX
  | 147 => some (bin2 yes2 fun x y => .int .i64 (cmpF x y))
  | 149 => some (bin2 yes2 fun x y => .bool (cmpF x y == 0))
  | 150 => some (bin2 yes2 fun x y => fD (addF x y))
  | 151 => some (bin2 divB fun x y => fD (mulF x (invF y)))
  | 152 => some (bin2 yes2 fun x y => fD (mulF x y))
  | 193 => some zX
  | 194 => some mkX
  | 256 => some (bin2 yes2 fun x y => fD (subF x y))
  | 257 => some sgX
  | _ => none
theorem fracX_ok : ∀ k g, fracX k = some g → ∀ ds d, g ds = some d → OK2 k ds d := by
  intro k g h
  unfold fracX at h
  split at h
  · cases h; exact fX_ok
  · cases h; exact bin2_ok fun x y hx hy _ => ok147 x y ⟨hx, hy⟩
  · cases h; exact bin2_ok fun x y hx hy _ => ok149 x y ⟨hx, hy⟩
  · cases h; exact bin2_ok fun x y hx hy _ => ok150 x y ⟨hx, hy⟩
  · cases h
    refine bin2_ok fun x y hx hy hq => ?_
    simp only [divB, Bool.and_eq_true, bne_iff_ne, ne_eq] at hq
    exact ok151 x y ⟨hx, ⟨hy, hq.1⟩, smB_sm hq.2⟩
  · cases h; exact bin2_ok fun x y hx hy _ => ok152 x y ⟨hx, hy⟩
  · cases h; exact zX_ok
  · cases h; exact mkX_ok
  · cases h; exact bin2_ok fun x y hx hy _ => ok256 x y ⟨hx, hy⟩
  · cases h; exact sgX_ok
  · cases h
/-! ### Texts of small numbers -/
def digs2 (n : Nat) : List UInt8 := match decide (n < 10) with
  | true => [(48 + n).toUInt8]
  | false => [(48 + n / 10).toUInt8, (48 + n % 10).toUInt8]
theorem digs2_eq : ∀ i, i < 100 → Go.Lib.decDigits i = digs2 i := by
  have : (List.range 100).all (fun i => Go.Lib.decDigits i == digs2 i) = true := by kernel_rfl
  intro i hi
  have := List.all_eq_true.1 this i (by simpa using hi)
  simpa using this
def itoaX : List D → Option D
  | [.int .i64 n] => match decide (0 ≤ n ∧ n < 100) with
    | true => some (.str ⟨(digs2 n.toNat).toArray⟩)
    | false => none
  | _ => none
theorem itoa_ok : ∀ ds r, itoaX ds = some r → OK2 125 ds r := by
  intro ds r h
  unfold itoaX at h
  split at h
  · rename_i n
    split at h
    · rename_i hn
      simp only [decide_eq_true_eq] at hn
      cases h
      refine ⟨enters_of Tryz.func125 (by kernel_rfl) rfl, fun I w vs hI hgl hl hr => ?_⟩
      obtain ⟨l⟩ := vs
      match l, hl with
      | [v], _ =>
        have hv := int_arg (hr 0 _ v rfl rfl)
        subst hv
        have := Tryz.strconv_Itoa_small n.toNat (by omega) w
        rw [digs2_eq _ (by omega), show ((n.toNat : Nat) : Int) = n by omega] at this
        refine this.mono ?_
        rintro e w' ⟨rfl, rfl⟩
        exact ⟨_, rfl, .str _, .refl _ _⟩
    · cases h
  · cases h
def X0 : Ext := fun k => match fracX k with
  | some g => some (fun _ => g)
  | none => (match k with
    | 125 => some (fun _ => itoaX)
    | _ => none)
theorem X0_ok : ∀ f g, X0 f = some g → ∀ call : FuncId → List D → Option D, (∀ k ds r, call k ds = some r → CallOK Tryz.prog glO k ds r) → ∀ ds r, g call ds = some r → CallOK Tryz.prog glO f ds r := by
  intro f g h call _ ds r hr
  unfold X0 at h
  split at h
  · rename_i g' hg
    cases h
    exact fracX_ok f g' hg ds r hr
  · split at h
    · cases h; exact itoa_ok ds r hr
    · cases h
/-! ### The tables of orders are kept -/
def okAll (P : Program) (od : Nat → Option Ord) : List Nat → Bool
  | [] => true
  | f :: l => match od f, P.funcs[f]? with
    | some o, some fn => (match okFn P o fn with
      | true => okAll P od l
      | false => false)
    | _, _ => okAll P od l
theorem okAll_get {P : Program} {od : Nat → Option Ord} : ∀ (l : List Nat), okAll P od l = true → ∀ f ∈ l, ∀ o fn, od f = some o → P.funcs[f]? = some fn → okFn P o fn = true
  | [], _, f, hf, _, _, _, _ => by cases hf
  | g :: l, h, f, hf, o, fn, ho, hfn => by
    unfold okAll at h
    rcases List.mem_cons.1 hf with rfl | hf
    · rw [ho, hfn] at h
      dsimp only at h
      split at h
      · assumption
      · cases h
    · split at h
      · split at h
        · exact okAll_get l h f hf o fn ho hfn
        · cases h
      · exact okAll_get l h f hf o fn ho hfn
end Go.Pd
end
section
namespace Go.Pd
open Go Go.Proofs Go.RowKit
set_option maxRecDepth 100000
def frsC (l : List (Int × Int)) : List D := l.flatMap fun x => [.int .i64 x.1, .nils, .int .i64 x.2, .nils]
def rawL : List (Int × Int) := [(0, 1), (1, 1), (9, 10), (1, 10), (9, 10), (1, 2), (2, 5)]
def srtL : List (Int × Int) := [(0, 1), (1, 10), (2, 5), (1, 2), (9, 10), (9, 10), (1, 1)]
def cmpL : List (Int × Int) := [(0, 1), (1, 10), (2, 5), (1, 2), (9, 10), (1, 1)]
def unL : List D → Option (List (Int × Int))
  | [] => some []
  | .int .i64 a :: .nils :: .int .i64 b :: .nils :: r => (match unL r with
    | some l => some ((a, b) :: l)
    | none => none)
  | _ => none
theorem unL_eq : ∀ (cs : List D) (l : List (Int × Int)), unL cs = some l → cs = frsC l := by
  intro cs
  induction cs using unL.induct with
  | case1 => intro l h; cases h; rfl
  | case2 a b r l' hl ih =>
    intro l h
    simp only [unL, hl] at h
    cases h
    rw [ih l' hl]
    rfl
  | case3 a b r hl ih => intro l h; simp only [unL, hl] at h; cases h
  | case4 cs h1 h2 => intro l h; unfold unL at h; split at h <;> first | exact absurd rfl h1 | (exact absurd rfl (h2 _ _ _)) | cases h
def tabM (k : FuncId) (n0 : Nat) (l0 : List (Int × Int)) (q : List D → Bool) (m : Nat) (l1 : List (Int × Int)) : FuncId → List D → Option D := fun k' ds => match k' == k, ds with
  | true, .slc false n cs :: rest => (match unL cs with
    | some l => (match (l == l0) && ((n == n0) && q rest) with
      | true => some (.slc false m (frsC l1))
      | false => none)
    | none => none)
  | _, _ => none
theorem tabM_ok {k : FuncId} {n0 : Nat} {l0 : List (Int × Int)} {q : List D → Bool} {m : Nat} {l1 : List (Int × Int)} {rest0 : List D} (hq : ∀ r, q r = true → r = rest0) (h : MutC Tryz.prog glO k (frsC l0) n0 rest0 (frsC l1) (match trimT k with | true => some m | false => none)) : MutsT trimT (tabM k n0 l0 q m l1) := by
  intro k' cs len rest f m' cs' he
  unfold tabM at he
  split at he
  · rename_i hk hd
    split at he
    · rename_i l hl
      split at he
      · rename_i hc
        simp only [Bool.and_eq_true, beq_iff_eq] at hc hk
        obtain ⟨c1, c2, c3⟩ := hc
        cases hd
        cases he
        rw [unL_eq _ _ hl, c1, hq _ c3, hk, c2]
        exact h
      · cases he
    · cases he
  · cases he
def ordL (l : List FuncId) : FuncId → Option Ord := fun k => match l.contains k with
  | true => ordA k
  | false => none
theorem ordL_sub {l : List FuncId} : ∀ f od, ordL l f = some od → f ∈ l ∧ ordA f = some od := by
  intro f od h
  unfold ordL at h
  split at h
  · rename_i hc; exact ⟨by simpa using hc, h⟩
  · cases h
noncomputable def base1 : FuncId → List D → Option D := fun k ds => match k with
  | 147 => bin2 yes2 (fun x y => .int .i64 (cmpF x y)) ds
  | 149 => bin2 yes2 (fun x y => .bool (cmpF x y == 0)) ds
  | 197 => evF Tryz.prog glO X0 (ordL [197, 246, 247]) (fun _ => none) LL 10 197 ds
  | _ => none
theorem okN : okAll Tryz.prog ordA [197, 246, 247] = true := by kernel_rfl
theorem evA_ok {l : List FuncId} (h : okAll Tryz.prog ordA l = true) {P : FuncId → Option Ord} (hP : ∀ f od, P f = some od → f ∈ l ∧ ordA f = some od) {n : Nat} {f : FuncId} {ds : List D} {r : D} (he : evF Tryz.prog glO X0 P (fun _ => none) LL n f ds = some r) : OK2 f ds r :=
  evF_ok mixedT X0_ok (fun _ _ h => by cases h) (fun _ _ _ h => by cases h) (fun f od fn _ ho hf => okAll_get l h f (hP f od ho).1 od fn (hP f od ho).2 hf) n f ds r he
theorem base1_ok : CallsT base1 := by
  intro k ds r h
  unfold base1 at h
  split at h
  · exact bin2_ok (fun x y hx hy _ => ok147 x y ⟨hx, hy⟩) ds r h
  · exact bin2_ok (fun x y hx hy _ => ok149 x y ⟨hx, hy⟩) ds r h
  · exact evA_ok okN ordL_sub h
  · cases h
def cmpD : D := .fn (.func 147) [] []
def sameD : D := .fn (.func 149) [] []
def endW (e : TypeId) (n len m : Nat) (cs : List D) : Option D := chkK (decide (e = e)) (chkK (decide (n = n)) (chkK (decide (cs.length = len * n)) (chkK (cs.all D.plain) (some (.slc false m cs)))))
theorem s238 (e n : Nat) : evFnTM (TEM (callOf base1) noMu LL C1 e n) O0 NA238 e n Tryz.f238 7 (frsC rawL) [.int .i64 0, .int .i64 7, cmpD] = endW e n 7 7 (frsC srtL) := by kernel_rfl
theorem endW_some {e n len m : Nat} {cs : List D} (h : cs.length = len * n) (hp : cs.all D.plain = true) : endW e n len m cs = some (.slc false m cs) := by
  unfold endW
  rw [show decide (e = e) = true by simp, show decide (n = n) = true by simp, show decide (cs.length = len * n) = true by simpa using h, hp]
  rfl
def mu1 : FuncId → List D → Option D := tabM 238 7 rawL (fun r => match r with
  | [.int .i64 0, .int .i64 7, .fn (.func 147) [] []] => true
  | _ => false) 7 srtL
theorem len_eq {a b : List (Int × Int)} (h : a.length = b.length) : (frsC a).length = (frsC b).length := by
  have : ∀ l : List (Int × Int), (frsC l).length = l.length * 4 := fun l => by
    induction l with
    | nil => rfl
    | cons x l ih =>
      show (_ :: _ :: _ :: _ :: frsC l).length = _
      simp only [List.length_cons, ih]
      omega
  rw [this, this, h]
theorem ok238 : okFn Tryz.prog O0 Tryz.f238 = true := by kernel_rfl
theorem mu1_ok : MutsT trimT mu1 := tabM_ok (rest0 := [.int .i64 0, .int .i64 7, cmpD]) (fun r hr => by
    split at hr
    · rfl
    · cases hr) (fnM base1_ok noMu_ok Tryz.func238 (ord := O0) (N := NA238) ok238 (by kernel_rfl) fun e n h => by
      rw [s238]
      exact endW_some ((len_eq (by rfl)).trans h) (by rfl))
theorem s196 (e n : Nat) : evFnTM (TEM (callOf base1) mu1 LL C1 e n) O0 NA196 e n Tryz.f196 7 (frsC rawL) [.int .i64 0, .int .i64 7, .int .i64 3, cmpD] = endW e n 7 7 (frsC srtL) := by kernel_rfl
def mu2 : FuncId → List D → Option D := tabM 196 7 rawL (fun r => match r with
  | [.int .i64 0, .int .i64 7, .int .i64 3, .fn (.func 147) [] []] => true
  | _ => false) 7 srtL
theorem ok196 : okFn Tryz.prog O0 Tryz.f196 = true := by kernel_rfl
theorem mu2_ok : MutsT trimT mu2 := tabM_ok (rest0 := [.int .i64 0, .int .i64 7, .int .i64 3, cmpD]) (fun r hr => by
    split at hr
    · rfl
    · cases hr) (fnM base1_ok mu1_ok Tryz.func196 (ord := O0) (N := NA196) ok196 (by kernel_rfl) fun e n h => by
      rw [s196]
      exact endW_some ((len_eq (by rfl)).trans h) (by rfl))
theorem s146 (e n : Nat) : evFnTM (TEM (callOf base1) mu2 LL C1 e n) O0 N0 e n Tryz.f146 7 (frsC rawL) [cmpD] = endW e n 7 7 (frsC srtL) := by kernel_rfl
def mu3 : FuncId → List D → Option D := tabM 146 7 rawL (fun r => match r with
  | [.fn (.func 147) [] []] => true
  | _ => false) 7 srtL
theorem mu3_ok : MutsT trimT mu3 := tabM_ok (rest0 := [cmpD]) (fun r hr => by
    split at hr
    · rfl
    · cases hr) (fnM base1_ok mu2_ok Tryz.func146 (ord := O0) (N := N0) (by kernel_rfl) (by kernel_rfl) fun e n h => by
      rw [s146]
      exact endW_some ((len_eq (by rfl)).trans h) (by rfl))
def endT (e n len len0 m : Nat) (cs : List D) : Option D := chkK (decide (e = e)) (chkK (decide (n = n)) (chkK (decide (0 < m)) (chkK (decide (m ≤ len0)) (chkK (decide (cs.length = len * n)) (chkK (cs.all D.plain) (some (.slc false m (cs.take (m * n)))))))))
def cmpC : List D := frsC cmpL ++ [.int .i64 0, .nils, .int .i64 0, .nils]
theorem s148 (e n : Nat) : evFnTR (TEM (callOf base1) noMu LL C1 e n) O0 NA148 e n Tryz.f148 7 (frsC srtL) [sameD] = endT e n 7 7 6 cmpC := by kernel_rfl
end Go.Pd
end
section
namespace Go.Pd
open Go Go.Proofs
set_option maxRecDepth 100000
def N160 : NTab := fun p => match p with
  | 6 => some { keep := [0, 1, 3], kl := [], ren := [] }
  | _ => none
noncomputable def F160_6 (call : CL) (L : Nat) (C : Nat → Nat) (l n : Nat) (M : Bool) (O : Nat) (K : List D) (z : Int) : Option (List (List D)) :=
 loopIAt (TEi call L C l) O0 N160 FinM.raw Tryz.f160 [true, false] []  n (St.mk (D.fn (Fn.yield l) [] [] :: D.snap [D.slc M O K] 0 :: J :: D.int .i64 z :: jn 15 []) (zn 19 []))
theorem F160_6_eq (call : CL) (L : Nat) (C : Nat → Nat) (l n : Nat) (M : Bool) (K : Nat) (J : List D) (z : Int) : F160_6 call L C l  (n + 1) M K J z =
 (ifK (decide (z ≥ 0))
 (chkK (decide (0 ≤ z ∧ z < (K : Int)))
 (cellK J (Int.toNat z * 9 + 0) fun d =>
 (intK .i64 d fun x =>
 (cellK J (Int.toNat z * 9 + 1) fun O =>
 (optK (nilO O) fun _ =>
 (cellK J (Int.toNat z * 9 + 2) fun S =>
 (intK .i64 S fun a0 =>
 (cellK J (Int.toNat z * 9 + 3) fun U =>
 (optK (nilO U) fun _ =>
 (cellK J (Int.toNat z * 9 + 4) fun V =>
 (intK .i64 V fun a1 =>
 (cellK J (Int.toNat z * 9 + 5) fun W =>
 (optK (nilO W) fun _ =>
 (cellK J (Int.toNat z * 9 + 6) fun X =>
 (intK .i64 X fun a2 =>
 (cellK J (Int.toNat z * 9 + 7) fun Y =>
 (optK (nilO Y) fun _ =>
 (cellK J (Int.toNat z * 9 + 8) fun Z =>
 (strK Z fun s =>
 (chkK (decide (l = l))
 (emitK [D.int .i64 z, D.agg [D.int .i64 x, D.nils, D.int .i64 a0, D.nils, D.int .i64 a1, D.nils, D.int .i64 a2, D.nils, D.str s]]
 (F160_6 call L C l n M K J (IntKind.wrap .i64 (z - 1)))
 (some []))))))))))))))))))))))
 (some [])) := by kernel_rfl
theorem F160_eq (call : CL) (L : Nat) (C : Nat → Nat) (l : Nat) (K : Bool) (z : Nat) (J : List D) : runI (evT (TEi call L C l) O0 N160 (bodyOf Tryz.f160) 1 (startSt Tryz.f160 [D.fn (Fn.yield l) [] [], D.snap [D.slc K z J] 0]) (finK (TEi call L C l).E FinM.raw Tryz.f160)) =
 (F160_6 call L C l L K z J (IntKind.wrap .i64 ((z : Int) - 1))) := by kernel_rfl
end Go.Pd
end
section
namespace Go.Pd
open Go Go.Proofs Go.RowKit
set_option maxRecDepth 100000
/-! ### The list, thinned -/
theorem fnTr {base mu : FuncId → List D → Option D} (hb : CallsT base) (hm : MutsT trimT mu) {f : FuncId} {fn : Func} (hf : Tryz.prog.funcs[f]? = some fn) {ord : Ord} {N : NTab} (hok : okFn Tryz.prog ord fn = true) (h0 : keeps0 fn = true) {cs rest cs' : List D} {len m : Nat}
    (he : ∀ e n, cs.length = len * n → evFnTR (TEM (callOf base) mu LL C1 e n) ord N e n fn len cs rest = some (.slc false m cs')) : MutC Tryz.prog glO f cs len rest cs' (some m) :=
  evFnTR_ok (Te := TEm (callOf base) mu LL C1) mixedT ⟨callOf_ok hb, wrM_ok hm, wrM_ow⟩ callOf_cst rfl sqT_ok hf hok h0 he
theorem ok148 : okFn Tryz.prog O0 Tryz.f148 = true := by kernel_rfl
def mu4 : FuncId → List D → Option D := tabM 148 7 srtL (fun r => match r with
  | [.fn (.func 149) [] []] => true
  | _ => false) 6 cmpL
theorem srt_len : (frsC srtL).length = 28 := by rfl
theorem mu4_ok : MutsT trimT mu4 := tabM_ok (rest0 := [sameD]) (fun r hr => by
    split at hr
    · rfl
    · cases hr) (fnTr base1_ok noMu_ok Tryz.func148 (ord := O0) (N := NA148) ok148 (by kernel_rfl) fun e n h => by
      rw [srt_len] at h
      have hn : n = 4 := by omega
      subst hn
      rw [s148]
      unfold endT
      rw [show decide (e = e) = true by simp]
      rfl)
def muA : FuncId → List D → Option D := fun k ds => match k with
  | 146 => mu3 146 ds
  | 148 => mu4 148 ds
  | _ => none
theorem muA_ok : MutsT trimT muA := by
  intro k cs len rest f m cs' h
  unfold muA at h
  split at h
  · exact mu3_ok _ cs len rest f m cs' h
  · exact mu4_ok _ cs len rest f m cs' h
  · cases h
/-! ### A list of parts, from behind -/
def backGo (c : List D) : Nat → Option (List (List D))
  | 0 => some []
  | k + 1 => cellK c (k * 9 + 0) fun d => intK .i64 d fun x => cellK c (k * 9 + 1) fun d1 => optK (nilO d1) fun _ => cellK c (k * 9 + 2) fun d2 => intK .i64 d2 fun x1 => cellK c (k * 9 + 3) fun d3 => optK (nilO d3) fun _ =>
      cellK c (k * 9 + 4) fun d4 => intK .i64 d4 fun x2 => cellK c (k * 9 + 5) fun d5 => optK (nilO d5) fun _ => cellK c (k * 9 + 6) fun d6 => intK .i64 d6 fun x3 => cellK c (k * 9 + 7) fun d7 => optK (nilO d7) fun _ => cellK c (k * 9 + 8) fun d8 => strK d8 fun s =>
        emitK [.int .i64 k, .agg [.int .i64 x, .nils, .int .i64 x1, .nils, .int .i64 x2, .nils, .int .i64 x3, .nils, .str s]] (backGo c k) (some [])
theorem back_eq (l : Nat) (f : Bool) (n : Nat) (c : List D) (hn : n < 4611686018427387904) : ∀ (k fuel : Nat), k ≤ n → k < fuel → F160_6 (callOf fun _ _ => none) LL C1 l fuel f n c ((k : Int) - 1) = backGo c k
  | 0, fuel + 1, _, _ => by
    rw [F160_6_eq]
    rfl
  | k + 1, fuel + 1, hk, hf => by
    have ih := back_eq l f n c hn k fuel (by omega) (by omega)
    have e0 : ((k + 1 : Nat) : Int) - 1 = (k : Int) := by omega
    have e1 : decide ((k : Int) ≥ 0) = true := by simp
    have e2 : decide ((0 : Int) ≤ (k : Int) ∧ (k : Int) < n) = true := by simp; omega
    have e3 : IntKind.wrap .i64 ((k : Int) - 1) = (k : Int) - 1 := wrap_in (by omega)
    rw [F160_6_eq, e0, e1, ifK_true, e2, chkK_true, e3, ih]
    simp only [backGo, Int.toNat_natCast, chkK_true, decide_true]
def sqA : FuncId → List D → Option (List (List D)) := fun g cs => match g, cs with
  | 160, [.snap [.slc _ n c] 0] => chkK (decide (n < 4611686018427387904)) (backGo c n)
  | g, cs => sqT g cs
theorem sqA_ok : SqT sqA := by
  intro g cs ys h
  unfold sqA at h
  split at h
  · rename_i f n c
    obtain ⟨hn, h⟩ := chkK_inv h
    simp only [decide_eq_true_eq] at hn
    refine itOK Tryz.func160 (ord := O0) (N := N160) (by kernel_rfl) rfl rfl fun l => ?_
    refine (F160_eq _ _ _ l f n c).trans ?_
    rw [show IntKind.wrap .i64 ((n : Int) - 1) = (n : Int) - 1 from wrap_in (by omega)]
    exact (back_eq l f n c hn n LL (Nat.le_refl _) (by unfold LL; omega)).trans h
  · exact sqT_ok _ _ _ h
/-! ### The examples are run -/
def rawK : FuncId → Bool := fun k => [92, 144, 147, 149, 150, 151, 152, 154, 156, 157, 158, 159, 193, 194, 195, 202, 256, 257].contains k
end Go.Pd
end
section
namespace Go.Pd
open Go Go.Proofs Go.RowKit
set_option maxRecDepth 100000
/-! ### Data that are the same -/
def beqZ (f : D → D → Bool) : List D → List D → Bool
  | [], [] => true
  | x :: xs, y :: ys => (match f x y with
    | true => beqZ f xs ys
    | false => false)
  | _, _ => false
def beqD : Nat → D → D → Bool
  | 0, _, _ => false
  | n + 1, a, b => match a, b with
    | .int k x, .int k' y => decide (k = k') && decide (x = y)
    | .str x, .str y => x.data.toList == y.data.toList
    | .bool x, .bool y => x == y
    | .nils, .nils => true
    | .slc f n1 cs, .slc f' n1' cs' => (f == f') && (decide (n1 = n1') && beqZ (beqD n) cs cs')
    | .agg cs, .agg cs' => beqZ (beqD n) cs cs'
    | .snap cs o, .snap cs' o' => decide (o = o') && beqZ (beqD n) cs cs'
    | .fn (.func g) x y, .fn (.func g') x' y' => decide (g = g') && (beqZ (beqD n) x x' && beqZ (beqD n) y y')
    | _, _ => false
theorem beqZ_eq {f : D → D → Bool} (hf : ∀ a b, f a b = true → a = b) : ∀ xs ys, beqZ f xs ys = true → xs = ys
  | [], [], _ => rfl
  | x :: xs, y :: ys, h => by
    simp only [beqZ] at h
    split at h
    · rename_i hx
      rw [hf _ _ hx, beqZ_eq hf xs ys h]
    · cases h
  | [], _ :: _, h => by cases h
  | _ :: _, [], h => by cases h
theorem beqD_eq : ∀ (n : Nat) (a b : D), beqD n a b = true → a = b
  | 0, _, _, h => by cases h
  | n + 1, a, b, h => by
    have ih := beqZ_eq (beqD_eq n)
    unfold beqD at h
    split at h
    · simp only [Bool.and_eq_true, decide_eq_true_eq] at h; rw [h.1, h.2]
    · rename_i x y
      have h2 : x.data = y.data := by
        have := eq_of_beq h
        rw [← Array.toArray_toList (xs := x.data), this]
      rw [ByteArray.ext h2]
    · rw [eq_of_beq h]
    · rfl
    · simp only [Bool.and_eq_true, decide_eq_true_eq, beq_iff_eq] at h
      rw [h.1, h.2.1, ih _ _ h.2.2]
    · rw [ih _ _ h]
    · simp only [Bool.and_eq_true, decide_eq_true_eq] at h
      rw [h.1, ih _ _ h.2]
    · simp only [Bool.and_eq_true, decide_eq_true_eq] at h
      rw [h.1, ih _ _ h.2.1, ih _ _ h.2.2]
    · cases h
/-! ### Calls, one by one -/
abbrev Ent := FuncId × List D × D
def tabX : List Ent → FuncId → List D → Option D
  | [], _, _ => none
  | e :: l, k, ds => match decide (e.1 = k) with
    | true => (match beqZ (beqD 8) e.2.1 ds with
      | true => some e.2.2
      | false => tabX l k ds)
    | false => tabX l k ds
theorem tabX_ok : ∀ {l : List Ent}, (∀ e ∈ l, OK2 e.1 e.2.1 e.2.2) → CallsT (tabX l)
  | [], _ => fun _ _ _ h => by cases h
  | e :: l, hl => fun k ds r h => by
    have ih := tabX_ok fun e he => hl e (List.mem_cons_of_mem _ he)
    simp only [tabX] at h
    split at h
    · rename_i hk
      simp only [decide_eq_true_eq] at hk
      split at h
      · rename_i hd
        cases h
        rw [← hk, ← beqZ_eq (beqD_eq 8) _ _ hd]
        exact hl e (List.mem_cons_self ..)
      · exact ih k ds r h
    · exact ih k ds r h
def X1 (l : List Ent) : Ext := fun k => match l.any fun e => decide (e.1 = k) with
  | true => some (fun _ => tabX l k)
  | false => X0 k
theorem X1_ok {l : List Ent} (hl : ∀ e ∈ l, OK2 e.1 e.2.1 e.2.2) : ∀ f g, X1 l f = some g → ∀ call : FuncId → List D → Option D, (∀ k ds r, call k ds = some r → CallOK Tryz.prog glO k ds r) → ∀ ds r, g call ds = some r → CallOK Tryz.prog glO f ds r := by
  intro f g h call hc ds r hr
  unfold X1 at h
  split at h
  · cases h
    exact tabX_ok hl f ds r hr
  · exact X0_ok f g h call hc ds r hr
noncomputable def RB (l : List Ent) : Run := { P := Tryz.prog, gl := glO, X := X1 l, ord := ordA, N := nA, K := rawK, cst := cstG, sq := sqA, M := wrM muA, L := LL, C := C1 }
/-! ### The hole of the examples -/
def holeA : D := .agg [S [111, 110, 101], .int .i64 0, .int .i64 0, .int .i64 100, .int .i64 0, .slc true 0 [], .slc true 4 [
  S [114, 111, 117, 103, 104], .slc true 4 [.int .i64 (-10), .int .i64 (-20), .int .i64 120, .int .i64 (-20), .int .i64 120, .int .i64 20, .int .i64 (-10), .int .i64 20],
  S [102, 97, 105, 114, 119, 97, 121], .slc true 4 [.int .i64 10, .int .i64 (-10), .int .i64 90, .int .i64 (-10), .int .i64 90, .int .i64 10, .int .i64 10, .int .i64 10],
  S [103, 114, 101, 101, 110], .slc true 4 [.int .i64 90, .int .i64 (-5), .int .i64 110, .int .i64 (-5), .int .i64 110, .int .i64 5, .int .i64 90, .int .i64 5],
  S [119, 97, 116, 101, 114], .slc true 4 [.int .i64 40, .int .i64 (-20), .int .i64 50, .int .i64 (-20), .int .i64 50, .int .i64 20, .int .i64 40, .int .i64 20]]]
def pl (a b : Int) : D := .agg [.int .i64 a, .int .i64 b]
end Go.Pd
end
