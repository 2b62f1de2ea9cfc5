import JvmDerived
import JvmDerived.Pilot.@@N@@Statement
import JvmDerived.Pilot.@@N@@Code
set_option linter.unusedVariables false
set_option linter.unusedSimpArgs false
namespace Jvm.Wp
open Jvm Jvm.ClassFile Sem Op Lib Jvm.Free Jvm.Stand Jvm.LawKit Jvm.RoadKit
def w32 (x : Int) : Int := (x + 2147483648) % 4294967296 - 2147483648
def w64 (x : Int) : Int := (x + 9223372036854775808) % 18446744073709551616 - 9223372036854775808
def InR (x : Int) : Prop := -2147483648 ≤ x ∧ x < 2147483648
def InL (x : Int) : Prop := -9223372036854775808 ≤ x ∧ x < 9223372036854775808
theorem w32_in (x : Int) : InR (w32 x) := by unfold InR w32; omega
theorem w64_in (x : Int) : InL (w64 x) := by unfold InL w64; omega
theorem w32_id {x : Int} (h1 : -2147483648 ≤ x) (h2 : x < 2147483648) : w32 x = x := by unfold w32; omega
theorem w64_id {x : Int} (h1 : -9223372036854775808 ≤ x) (h2 : x < 9223372036854775808) : w64 x = x := by unfold w64; omega
theorem bmod32 (x : Int) : x.bmod 4294967296 = w32 x := by unfold w32; rw [Int.bmod_def]; split <;> omega
theorem bmod64 (x : Int) : x.bmod 18446744073709551616 = w64 x := by unfold w64; rw [Int.bmod_def]; split <;> omega
abbrev o32 (x : Int) : Int32 := Int32.ofInt x
abbrev o64 (x : Int) : Int64 := Int64.ofInt x
theorem t32 (x : Int) : (o32 x).toInt = w32 x := by rw [← bmod32]; exact Int32.toInt_ofInt
theorem t64 (x : Int) : (o64 x).toInt = w64 x := by rw [← bmod64]; exact Int64.toInt_ofInt
theorem t32i {x : Int} (h : InR x) : (o32 x).toInt = x := by rw [t32, w32_id h.1 h.2]
theorem t64i {x : Int} (h : InL x) : (o64 x).toInt = x := by rw [t64, w64_id h.1 h.2]
theorem o32_w (x : Int) : o32 (w32 x) = o32 x := Int32.toInt_inj.mp (by rw [t32, t32, w32_id (w32_in x).1 (w32_in x).2])
theorem o64_w (x : Int) : o64 (w64 x) = o64 x := Int64.toInt_inj.mp (by rw [t64, t64, w64_id (w64_in x).1 (w64_in x).2])
theorem o32_t (x : Int32) : o32 x.toInt = x := Int32.ofInt_toInt x
theorem o64_t (x : Int64) : o64 x.toInt = x := Int64.ofInt_toInt x
theorem r32 (x : Int32) : InR x.toInt := ⟨x.le_toInt, x.toInt_lt⟩
theorem r64 (x : Int64) : InL x.toInt := ⟨x.le_toInt, x.toInt_lt⟩
/-! what the opcodes reckon -/
def aAdd (x y : Int) : Int := w32 (x + y)
def aSub (x y : Int) : Int := w32 (x - y)
def aMul (x y : Int) : Int := w32 (x * y)
def aNeg (x : Int) : Int := w32 (-x)
def aDiv (x y : Int) : Int := w32 (x.tdiv y)
def aRem (x y : Int) : Int := x.tmod y
def aAnd (x y : Int) : Int := (o32 x &&& o32 y).toInt
def aOr (x y : Int) : Int := (o32 x ||| o32 y).toInt
def aXor (x y : Int) : Int := (o32 x ^^^ o32 y).toInt
def aShl (x y : Int) : Int := (o32 x <<< (o32 y &&& 31)).toInt
def aShr (x y : Int) : Int := (o32 x >>> (o32 y &&& 31)).toInt
def aUshr (x y : Int) : Int := ((o32 x).toUInt32 >>> (o32 y &&& 31).toUInt32).toInt32.toInt
def lAdd (x y : Int) : Int := w64 (x + y)
def lSub (x y : Int) : Int := w64 (x - y)
def lMul (x y : Int) : Int := w64 (x * y)
def lDiv (x y : Int) : Int := w64 (x.tdiv y)
def lRem (x y : Int) : Int := x.tmod y
def lAnd (x y : Int) : Int := (o64 x &&& o64 y).toInt
def lOr (x y : Int) : Int := (o64 x ||| o64 y).toInt
def lXor (x y : Int) : Int := (o64 x ^^^ o64 y).toInt
def lShl (x y : Int) : Int := (o64 x <<< ((o32 y).toInt64 &&& 63)).toInt
def lShr (x y : Int) : Int := (o64 x >>> ((o32 y).toInt64 &&& 63)).toInt
def lUshr (x y : Int) : Int := ((o64 x).toUInt64 >>> ((o32 y).toInt64.toUInt64 &&& Int64.toUInt64 63)).toInt64.toInt
def lCmp (x y : Int) : Int := if x < y then -1 else if x = y then 0 else 1
def i2b (x : Int) : Int := (x + 128) % 256 - 128
def i2c (x : Int) : Int := x % 65536
def i2z (x : Int) : Int := x % 2
theorem e_add (x y : Int) : o32 (aAdd x y) = o32 x + o32 y := by unfold aAdd; rw [o32_w]; exact Int32.ofInt_add x y
theorem e_sub (x y : Int) : o32 (aSub x y) = o32 x - o32 y := by unfold aSub; rw [o32_w]; exact Int32.ofInt_sub x y
theorem e_mul (x y : Int) : o32 (aMul x y) = o32 x * o32 y := by unfold aMul; rw [o32_w]; exact Int32.ofInt_mul x y
theorem e_neg (x : Int) : o32 (aNeg x) = - o32 x := by unfold aNeg; rw [o32_w]; exact Int32.ofInt_neg x
theorem e_div {x y : Int} (hx : InR x) (hy : InR y) : o32 (aDiv x y) = o32 x / o32 y := by
  unfold aDiv; rw [o32_w]; apply Int32.toInt_inj.mp; rw [t32, Int32.toInt_div, t32i hx, t32i hy]; exact (bmod32 _).symm
theorem e_rem {x y : Int} (hx : InR x) (hy : InR y) : o32 (aRem x y) = o32 x % o32 y := by
  unfold aRem; apply Int32.toInt_inj.mp; rw [Int32.toInt_mod, t32i hx, t32i hy, t32]
  have q := r32 (o32 x % o32 y); rw [Int32.toInt_mod, t32i hx, t32i hy] at q; exact w32_id q.1 q.2
theorem in_rem {x y : Int} (hx : InR x) (hy : InR y) : InR (aRem x y) := by
  have q := r32 (o32 x % o32 y); rw [Int32.toInt_mod, t32i hx, t32i hy] at q; exact q
theorem e_ladd (x y : Int) : o64 (lAdd x y) = o64 x + o64 y := by unfold lAdd; rw [o64_w]; exact Int64.ofInt_add x y
theorem e_lsub (x y : Int) : o64 (lSub x y) = o64 x - o64 y := by unfold lSub; rw [o64_w]; exact Int64.ofInt_sub x y
theorem e_lmul (x y : Int) : o64 (lMul x y) = o64 x * o64 y := by unfold lMul; rw [o64_w]; exact Int64.ofInt_mul x y
theorem e_ldiv {x y : Int} (hx : InL x) (hy : InL y) : o64 (lDiv x y) = o64 x / o64 y := by
  unfold lDiv; rw [o64_w]; apply Int64.toInt_inj.mp; rw [t64, Int64.toInt_div, t64i hx, t64i hy]; exact (bmod64 _).symm
theorem e_lrem {x y : Int} (hx : InL x) (hy : InL y) : o64 (lRem x y) = o64 x % o64 y := by
  unfold lRem; apply Int64.toInt_inj.mp; rw [Int64.toInt_mod, t64i hx, t64i hy, t64]
  have q := r64 (o64 x % o64 y); rw [Int64.toInt_mod, t64i hx, t64i hy] at q; exact w64_id q.1 q.2
theorem in_lrem {x y : Int} (hx : InL x) (hy : InL y) : InL (lRem x y) := by
  have q := r64 (o64 x % o64 y); rw [Int64.toInt_mod, t64i hx, t64i hy] at q; exact q
theorem e_i2l {x : Int} (hx : InR x) : o64 x = (o32 x).toInt64 := by
  apply Int64.toInt_inj.mp; rw [Int32.toInt_toInt64, t32i hx, t64]; exact w64_id (by have := hx.1; omega) (by have := hx.2; omega)
theorem e_l2i {x : Int} (hx : InL x) : o32 (w32 x) = (o64 x).toInt32 := by
  apply Int32.toInt_inj.mp; rw [Int64.toInt_toInt32, t64i hx, t32, w32_id (w32_in x).1 (w32_in x).2]; exact (bmod32 x).symm
theorem e_i2b {x : Int} (hx : InR x) : o32 (i2b x) = (o32 x).toInt8.toInt32 := by
  apply Int32.toInt_inj.mp; rw [Int8.toInt_toInt32, Int32.toInt_toInt8, t32i hx, t32, w32_id (by unfold i2b; omega) (by unfold i2b; omega)]
  unfold i2b; show _ = x.bmod 256; rw [Int.bmod_def]; split <;> omega
theorem e_lcmp {x y : Int} (hx : InL x) (hy : InL y) : o32 (lCmp x y) = (if o64 y < o64 x then 1 else if o64 x = o64 y then 0 else -1 : Int32) := by
  have h1 : o64 y < o64 x ↔ y < x := by rw [Int64.lt_iff_toInt_lt, t64i hx, t64i hy]
  have h2 : o64 x = o64 y ↔ x = y := by rw [← Int64.toInt_inj, t64i hx, t64i hy]
  unfold lCmp
  by_cases a : x < y
  · rw [if_pos a, if_neg (by rw [h1]; omega), if_neg (by rw [h2]; omega)]; rfl
  · by_cases b : x = y
    · rw [if_neg a, if_pos b, if_neg (by rw [h1]; omega), if_pos (h2.mpr b)]; rfl
    · rw [if_neg a, if_neg b, if_pos (h1.mpr (by omega))]; rfl
theorem in_b (x : Int) : InR (i2b x) := by unfold InR i2b; omega
theorem in_c (x : Int) : InR (i2c x) := by unfold InR i2c; omega
theorem in_z (x : Int) : InR (i2z x) := by unfold InR i2z; omega
theorem in_cmp (x y : Int) : InR (lCmp x y) := by unfold InR lCmp; split <;> (try split) <;> omega
theorem e_i2c {x : Int} (hx : InR x) : o32 (i2c x) = (o32 x).toUInt32.toUInt16.toUInt32.toInt32 := by
  apply Int32.toInt_inj.mp
  have h1 : (o32 x).toUInt32.toUInt16.toUInt32.toInt32.toBitVec.toNat = (o32 x).toBitVec.toNat % 65536 := by
    show ((o32 x).toUInt32.toUInt16.toUInt32).toNat = _
    rw [UInt16.toNat_toUInt32, UInt32.toNat_toUInt16]; rfl
  have h2 := (o32 x).toBitVec.isLt
  have h3 : (o32 x).toBitVec.toInt = x := t32i hx
  rw [BitVec.toInt_eq_toNat_cond] at h3
  rw [t32, w32_id (in_c x).1 (in_c x).2]
  show i2c x = (o32 x).toUInt32.toUInt16.toUInt32.toInt32.toBitVec.toInt
  rw [BitVec.toInt_eq_toNat_cond, h1]; unfold i2c
  have h4 := hx.1
  have h5 := hx.2
  split at h3 <;> split <;> omega
theorem e_i2z {x : Int} (hx : InR x) : o32 (i2z x) = o32 x &&& 1 := by
  apply Int32.toInt_inj.mp
  have h2 := (o32 x).toBitVec.isLt
  have h3 : (o32 x).toBitVec.toInt = x := t32i hx
  have h1 : (o32 x &&& 1).toBitVec.toNat = (o32 x).toBitVec.toNat % 2 := by
    show ((o32 x).toBitVec &&& 1#32).toNat = _
    rw [BitVec.toNat_and]; exact Nat.and_one_is_mod _
  rw [BitVec.toInt_eq_toNat_cond] at h3
  rw [t32, w32_id (in_z x).1 (in_z x).2]
  show i2z x = (o32 x &&& 1).toBitVec.toInt
  rw [BitVec.toInt_eq_toNat_cond, h1]; unfold i2z
  have h4 := hx.1
  have h5 := hx.2
  split at h3 <;> split <;> omega
/-! values and frames -/
abbrev AV : Type := Sum Int (Sum Int Nat)
abbrev I (x : Int) : AV := .inl x
abbrev J (x : Int) : AV := .inr (.inl x)
abbrev Rf (n : Nat) : AV := .inr (.inr n)
def cval (cv : Nat → Addr) : AV → Value
  | .inl x => .int (o32 x)
  | .inr (.inl x) => .long (o64 x)
  | .inr (.inr n) => .ref (cv n)
def good : AV → Prop
  | .inl x => InR x
  | .inr (.inl x) => InL x
  | .inr (.inr _) => True
def SOk (S : List AV) : Prop := ∀ v ∈ S, good v
def WF (Ls : Array Slot) : Prop := (∀ i : Nat, Ls[i]? = some Slot.second → ∃ (j : Nat) (x : Value), i = j + 1 ∧ Ls[j]? = some (Slot.val x) ∧ x.category = 2) ∧ ∀ (i : Nat) (x : Value), Ls[i]? = some (Slot.val x) → x.category = 2 → Ls[i + 1]? = some Slot.second
def LRel (cv : Nat → Addr) (L : List (Option AV)) (Ls : Array Slot) : Prop := Ls.size = L.length ∧ WF Ls ∧ ∀ (i : Nat) (v : AV), L[i]? = some (some v) → Ls[i]? = some (Slot.val (cval cv v)) ∧ good v
/-- a store wipes a long that it cuts in two -/
def clr (L : List (Option AV)) : Nat → List (Option AV)
  | 0 => L
  | j + 1 => match L[j]? with
    | some (some (.inr (.inl _))) => L.set j none
    | _ => L
def st1 (L : List (Option AV)) (i : Nat) (v : AV) : List (Option AV) := (clr L i).set i (some v)
def st2 (L : List (Option AV)) (i : Nat) (v : AV) : List (Option AV) := ((clr L i).set i (some v)).set (i + 1) none
theorem cat_cval {cv : Nat → Addr} (v : AV) : (cval cv v).category = 2 ↔ ∃ x, v = J x := by
  rcases v with x | x | n <;> simp [cval, Value.category]
theorem clr_len (L : List (Option AV)) (i : Nat) : (clr L i).length = L.length := by
  cases i <;> simp [clr]; split <;> simp
theorem clr_get {L : List (Option AV)} {i k : Nat} {v : AV} (h : (clr L i)[k]? = some (some v)) : L[k]? = some (some v) ∧ ((∃ x, v = J x) → k + 1 ≠ i) := by
  cases i with
  | zero => exact ⟨h, fun _ => by omega⟩
  | succ j =>
    simp only [clr] at h
    split at h
    · rename_i x hx
      rw [List.getElem?_set] at h
      split at h
      · split at h <;> simp at h
      · exact ⟨h, fun _ q => by omega⟩
    · rename_i hx
      refine ⟨h, fun ⟨x, hv⟩ q => ?_⟩
      have : k = j := by omega
      subst this; subst hv
      exact hx x h
theorem WF.tab {Ls : Array Slot} (h : WF Ls) {i : Nat} {x : Value} (hx : Ls[i]? = some (.val x)) (hc : x.category = 2) : Ls[i + 1]? = some .second := h.2 i x hx hc
theorem store_one {cv : Nat → Addr} {L : List (Option AV)} {Ls : Array Slot} (h : LRel cv L Ls) {i : Nat} (hi : i < L.length) {v : AV} (hg : good v) (hv : ∀ x, v ≠ J x) :
    ∃ Ls', storeLocals Ls i (cval cv v) = some Ls' ∧ LRel cv (st1 L i v) Ls' := by
  obtain ⟨hs, ⟨w1, w2⟩, hr⟩ := h
  have hi' : i < Ls.size := by omega
  have hcat : ¬ (cval cv v).category = 2 := fun q => by obtain ⟨x, e⟩ := (cat_cval v).mp q; exact hv x e
  have key : ∀ (Lm : Array Slot), Lm.size = Ls.size → (∀ (k : Nat) (x : Value), k ≠ i → Lm[k]? = some (Slot.val x) → Ls[k]? = some (Slot.val x)) → (∀ k : Nat, k ≠ i → Lm[k]? = some Slot.second → Ls[k]? = some Slot.second) →
      (∀ (k : Nat) (x : Value), k ≠ i → Ls[k]? = some (Slot.val x) → (x.category = 2 → k + 1 ≠ i) → Lm[k]? = some (Slot.val x)) → (∀ x : Value, Ls[i]? = some (Slot.val x) → x.category = 2 → Lm[i + 1]? ≠ some Slot.second) → (∀ (j : Nat) (x : Value), i = j + 1 → Ls[j]? = some (Slot.val x) → x.category = 2 → Lm[j]? ≠ some (Slot.val x)) →
      (∀ (k : Nat) (x : Value), k ≠ i → k + 1 ≠ i → Lm[k]? = some (Slot.val x) → x.category = 2 → Lm[k + 1]? = some Slot.second) →
      ∃ Ls', storeSelf Lm i (cval cv v) = some Ls' ∧ LRel cv (st1 L i v) Ls' := by
    intro Lm hsz c1 c2 c3 c4 c5 c6
    have him : i < Lm.size := by omega
    refine ⟨Lm.setIfInBounds i (.val (cval cv v)), by simp [storeSelf, setAt, him, hcat], by simp [st1, clr_len]; omega, ⟨fun k hk => ?_, fun k x hk hx => ?_⟩, fun k u hu => ?_⟩
    · by_cases e : k = i
      · subst e; rw [Array.getElem?_setIfInBounds_self_of_lt him] at hk; simp at hk
      · rw [Array.getElem?_setIfInBounds_ne (Ne.symm e)] at hk
        obtain ⟨j, x, e1, e2, e3⟩ := w1 k (c2 k e hk)
        by_cases ej : j = i
        · subst ej; subst e1; exact absurd hk (c4 x e2 e3)
        · exact ⟨j, x, e1, by rw [Array.getElem?_setIfInBounds_ne (Ne.symm ej)]; exact c3 j x ej e2 (fun _ => by omega), e3⟩
    · by_cases e : k = i
      · subst e; rw [Array.getElem?_setIfInBounds_self_of_lt him] at hk; simp at hk; subst hk; exact absurd hx hcat
      · rw [Array.getElem?_setIfInBounds_ne (Ne.symm e)] at hk
        by_cases e1 : k + 1 = i
        · exact absurd hk (c5 k x e1.symm (c1 k x e hk) hx)
        · rw [Array.getElem?_setIfInBounds_ne (fun q => e1 q.symm)]; exact c6 k x e e1 hk hx
    · simp only [st1, List.getElem?_set] at hu
      split at hu
      · rename_i e
        subst e
        split at hu
        · simp at hu; subst hu; exact ⟨by rw [Array.getElem?_setIfInBounds_self_of_lt him], hg⟩
        · simp at hu
      · rename_i e
        obtain ⟨q1, q2⟩ := clr_get hu
        obtain ⟨q3, q4⟩ := hr k u q1
        refine ⟨?_, q4⟩
        rw [Array.getElem?_setIfInBounds_ne e]
        exact c3 k _ (fun q => e q.symm) q3 (fun hc => q2 ((cat_cval u).mp hc))
  have hget : Ls[i]? = some Ls[i] := Array.getElem?_eq_getElem hi'
  cases hsl : Ls[i] with
  | unset =>
    rw [hsl] at hget
    obtain ⟨Ls', e1, e2⟩ := key Ls rfl (fun _ _ _ q => q) (fun _ _ q => q) (fun _ _ _ q _ => q) (fun x q => by rw [hget] at q; simp at q) (fun j x e q1 q2 q3 => by subst e; have := w2 j x q1 q2; rw [hget] at this; simp at this) (fun k x _ _ q1 q2 => w2 k x q1 q2)
    exact ⟨Ls', by simp [storeLocals, hget, e1], e2⟩
  | second =>
    rw [hsl] at hget
    obtain ⟨j, x, e, q1, q2⟩ := w1 i hget
    subst e
    have hj : j < Ls.size := by omega
    obtain ⟨Ls', e1, e2⟩ := key (Ls.setIfInBounds j .unset) (by simp) (fun k y hk q => by
        by_cases e : k = j
        · subst e; rw [Array.getElem?_setIfInBounds_self_of_lt hj] at q; simp at q
        · rwa [Array.getElem?_setIfInBounds_ne (Ne.symm e)] at q) (fun k hk q => by
        by_cases e : k = j
        · subst e; rw [Array.getElem?_setIfInBounds_self_of_lt hj] at q; simp at q
        · rwa [Array.getElem?_setIfInBounds_ne (Ne.symm e)] at q) (fun k y hk q hc => by
        by_cases e : k = j
        · subst e; rw [q1] at q; cases q; exact absurd rfl (hc q2)
        · rwa [Array.getElem?_setIfInBounds_ne (Ne.symm e)]) (fun y q => by rw [hget] at q; simp at q) (fun j' y e q q' => by
        have : j' = j := by omega
        subst this
        rw [Array.getElem?_setIfInBounds_self_of_lt hj]; simp) (fun k y hk hk1 q hc => by
        have e : k ≠ j := fun e => hk1 (by omega)
        rw [Array.getElem?_setIfInBounds_ne (Ne.symm e)] at q
        have := w2 k y q hc
        by_cases e2 : k + 1 = j
        · rw [e2, q1] at this; simp at this
        · rwa [Array.getElem?_setIfInBounds_ne (fun q => e2 q.symm)])
    exact ⟨Ls', by simp [storeLocals, hget, setAt, hj, e1], e2⟩
  | val old =>
    rw [hsl] at hget
    by_cases ho : old.category = 2
    · have hs2 := w2 i old hget ho
      have hi1 : i + 1 < Ls.size := (Array.getElem?_eq_some_iff.mp hs2).1
      obtain ⟨Ls', e1, e2⟩ := key (Ls.setIfInBounds (i + 1) .unset) (by simp) (fun k y hk q => by
          by_cases e : k = i + 1
          · subst e; rw [Array.getElem?_setIfInBounds_self_of_lt hi1] at q; simp at q
          · rwa [Array.getElem?_setIfInBounds_ne (Ne.symm e)] at q) (fun k hk q => by
          by_cases e : k = i + 1
          · subst e; rw [Array.getElem?_setIfInBounds_self_of_lt hi1] at q; simp at q
          · rwa [Array.getElem?_setIfInBounds_ne (Ne.symm e)] at q) (fun k y hk q hc => by
          by_cases e : k = i + 1
          · subst e; rw [hs2] at q; simp at q
          · rwa [Array.getElem?_setIfInBounds_ne (Ne.symm e)]) (fun y q _ => by rw [Array.getElem?_setIfInBounds_self_of_lt hi1]; simp) (fun j y e q1 q2 => by
          subst e; have := w2 j y q1 q2; rw [hget] at this; simp at this) (fun k y hk hk1 q hc => by
          by_cases e : k = i + 1
          · subst e; rw [Array.getElem?_setIfInBounds_self_of_lt hi1] at q; simp at q
          · rw [Array.getElem?_setIfInBounds_ne (Ne.symm e)] at q
            have := w2 k y q hc
            rwa [Array.getElem?_setIfInBounds_ne (by omega)])
      exact ⟨Ls', by simp [storeLocals, hget, setAt, hi1, ho, e1], e2⟩
    · obtain ⟨Ls', e1, e2⟩ := key Ls rfl (fun _ _ _ q => q) (fun _ _ q => q) (fun _ _ _ q _ => q) (fun x q hc => by rw [hget] at q; cases q; exact absurd hc ho) (fun j x e q1 q2 q3 => by subst e; have := w2 j x q1 q2; rw [hget] at this; simp at this) (fun k x _ _ q1 q2 => w2 k x q1 q2)
      exact ⟨Ls', by simp [storeLocals, hget, ho, e1], e2⟩
theorem store_two {cv : Nat → Addr} {L : List (Option AV)} {Ls : Array Slot} (h : LRel cv L Ls) {i : Nat} (hi : i + 1 < L.length) {x0 : Int} (hg : InL x0) :
    ∃ Ls', storeLocals Ls i (cval cv (J x0)) = some Ls' ∧ LRel cv (st2 L i (J x0)) Ls' := by
  obtain ⟨hs, ⟨w1, w2⟩, hr⟩ := h
  have hi1 : i + 1 < Ls.size := by omega
  have hi' : i < Ls.size := by omega
  have key : ∀ (E : Array Slot), E.size = Ls.size → E[i]? = some (Slot.val (cval cv (J x0))) → E[i + 1]? = some Slot.second → (∀ k : Nat, k ≠ i → k ≠ i + 1 → E[k]? = Ls[k]? ∨ E[k]? = some Slot.unset) →
      (∀ (k : Nat) (x : Value), k ≠ i → k ≠ i + 1 → Ls[k]? = some (Slot.val x) → (x.category = 2 → k + 1 ≠ i) → E[k]? = some (Slot.val x)) → (∀ (k : Nat) (x : Value), k + 1 = i → Ls[k]? = some (Slot.val x) → x.category = 2 → E[k]? = some Slot.unset) →
      (Ls[i + 2]? = some Slot.second → E[i + 2]? = some Slot.unset) → (∀ k : Nat, k ≠ i → k ≠ i + 1 → k ≠ i + 2 → Ls[k]? = some Slot.second → E[k]? = some Slot.second) → LRel cv (st2 L i (J x0)) E := by
    intro E hE a b c d e f g
    refine ⟨by simp [st2, clr_len]; omega, ⟨fun k hk => ?_, fun k x hk hx => ?_⟩, fun k u hu => ?_⟩
    · by_cases e1 : k = i + 1
      · exact ⟨i, _, e1, a, rfl⟩
      · by_cases e2 : k = i
        · subst e2; rw [a] at hk; simp at hk
        · have q : Ls[k]? = some Slot.second := by
            rcases c k e2 e1 with q | q
            · rw [← q]; exact hk
            · rw [q] at hk; simp at hk
          obtain ⟨j, x, q1, q2, q3⟩ := w1 k q
          have e3 : k ≠ i + 2 := fun z => by subst z; rw [f q] at hk; simp at hk
          exact ⟨j, x, q1, d j x (by omega) (by omega) q2 (fun _ => by omega), q3⟩
    · by_cases e1 : k = i
      · subst e1; exact b
      · by_cases e2 : k = i + 1
        · subst e2; rw [b] at hk; simp at hk
        · have q : Ls[k]? = some (Slot.val x) := by
            rcases c k e1 e2 with q | q
            · rw [← q]; exact hk
            · rw [q] at hk; simp at hk
          have e3 : k + 1 ≠ i := fun z => by rw [e k x z q hx] at hk; simp at hk
          exact g (k + 1) e3 (by omega) (by omega) (w2 k x q hx)
    · simp only [st2, List.getElem?_set, List.length_set, clr_len] at hu
      split at hu
      · simp at hu
      · rename_i e1
        split at hu
        · rename_i e2
          subst e2
          split at hu
          · simp at hu; subst hu; exact ⟨a, hg⟩
          · simp at hu
        · rename_i e2
          obtain ⟨q1, q2⟩ := clr_get hu
          obtain ⟨q3, q4⟩ := hr k u q1
          exact ⟨d k _ (fun q => e2 q.symm) (fun q => e1 q.symm) q3 (fun hc => q2 ((cat_cval u).mp hc)), q4⟩
  have self : ∀ (Lm : Array Slot), Lm.size = Ls.size → (∀ k : Nat, k ≠ i → k + 1 ≠ i → k ≠ i + 1 → Lm[k]? = Ls[k]?) → (Lm[i + 1]? = Ls[i + 1]? ∨ (Lm[i + 1]? = some Slot.unset ∧ Ls[i + 1]? = some Slot.second)) →
      (∀ k : Nat, k + 1 = i → (∀ x : Value, Ls[k]? = some (Slot.val x) → x.category = 2 → Lm[k]? = some Slot.unset) ∧ (Lm[k]? = Ls[k]? ∨ (Lm[k]? = some Slot.unset ∧ ∃ x : Value, Ls[k]? = some (Slot.val x) ∧ x.category = 2))) →
      ∃ Ls', storeSelf Lm i (cval cv (J x0)) = some Ls' ∧ LRel cv (st2 L i (J x0)) Ls' := by
    intro Lm hsz c1 c2 c3
    have him : i < Lm.size := by omega
    have him1 : i + 1 < Lm.size := by omega
    have hcat : (cval cv (J x0)).category = 2 := rfl
    have hg1 : (Lm.setIfInBounds i (Slot.val (cval cv (J x0))))[i + 1]? = Lm[i + 1]? := Array.getElem?_setIfInBounds_ne (by omega)
    have fin : ∀ (E : Array Slot), E.size = Ls.size → E[i]? = some (Slot.val (cval cv (J x0))) → E[i + 1]? = some Slot.second → (∀ k : Nat, k ≠ i → k ≠ i + 1 → k ≠ i + 2 → E[k]? = Lm[k]?) → (E[i + 2]? = Lm[i + 2]? ∧ (∀ x : Value, Lm[i + 1]? = some (Slot.val x) → x.category ≠ 2) ∨ E[i + 2]? = some Slot.unset ∧ Lm[i + 2]? = some Slot.second) → LRel cv (st2 L i (J x0)) E := by
      intro E hE a b c4 c5
      refine key E hE a b (fun k h1 h2 => ?_) (fun k x h1 h2 h3 h4 => ?_) (fun k x h1 h2 h3 => ?_) (fun h1 => ?_) (fun k h1 h2 h3 h4 => ?_)
      · by_cases e : k = i + 2
        · subst e
          have q := c1 (i + 2) h1 (by omega) h2
          rcases c5 with ⟨c5, -⟩ | ⟨c5, -⟩
          · exact Or.inl (c5.trans q)
          · exact Or.inr c5
        · rw [c4 k h1 h2 e]
          by_cases e3 : k + 1 = i
          · rcases (c3 k e3).2 with q | q
            · exact Or.inl q
            · exact Or.inr q.1
          · exact Or.inl (c1 k h1 e3 h2)
      · by_cases e : k = i + 2
        · subst e
          have q := c1 (i + 2) h1 (by omega) h2
          rcases c5 with ⟨c5, -⟩ | ⟨-, c5⟩
          · rw [c5, q]; exact h3
          · rw [q, h3] at c5; simp at c5
        · rw [c4 k h1 h2 e]
          by_cases e3 : k + 1 = i
          · rcases (c3 k e3).2 with q | ⟨-, y, q1, q2⟩
            · rw [q]; exact h3
            · rw [h3] at q1; cases q1; exact absurd e3 (h4 q2)
          · rw [c1 k h1 e3 h2]; exact h3
      · rw [c4 k (by omega) (by omega) (by omega)]; exact (c3 k h1).1 x h2 h3
      · rcases c5 with ⟨c5, c6⟩ | ⟨c5, -⟩
        · obtain ⟨j, y, q1, q2, q3⟩ := w1 (i + 2) h1
          have : j = i + 1 := by omega
          subst this
          rcases c2 with c2 | ⟨-, c2⟩
          · exact absurd q3 (c6 y (c2.trans q2))
          · rw [q2] at c2; simp at c2
        · exact c5
      · rw [c4 k h1 h2 h3]
        by_cases e3 : k + 1 = i
        · rcases (c3 k e3).2 with q | ⟨-, y, q1, q2⟩
          · rw [q]; exact h4
          · rw [h4] at q1; simp at q1
        · rw [c1 k h1 e3 h2]; exact h4
    have hget : Lm[i + 1]? = some Lm[i + 1] := Array.getElem?_eq_getElem him1
    have plain : (∀ x : Value, Lm[i + 1]? = some (Slot.val x) → x.category ≠ 2) → LRel cv (st2 L i (J x0)) ((Lm.setIfInBounds i (Slot.val (cval cv (J x0)))).setIfInBounds (i + 1) Slot.second) := fun hno =>
      fin _ (by simp; omega) (by rw [Array.getElem?_setIfInBounds_ne (by omega), Array.getElem?_setIfInBounds_self_of_lt him]) (by rw [Array.getElem?_setIfInBounds_self_of_lt (by simp; omega)]) (fun k h1 h2 h3 => by rw [Array.getElem?_setIfInBounds_ne (by omega), Array.getElem?_setIfInBounds_ne (by omega)]) (Or.inl ⟨by rw [Array.getElem?_setIfInBounds_ne (by omega), Array.getElem?_setIfInBounds_ne (by omega)], hno⟩)
    have e0 : ∀ y, storeSelf Lm i (cval cv (J x0)) = some y ↔ (match Lm[i + 1] with
      | .val old => if old.category = 2 then (setAt (Lm.setIfInBounds i (Slot.val (cval cv (J x0)))) (i + 2) .unset).bind fun z => setAt z (i + 1) .second else setAt (Lm.setIfInBounds i (Slot.val (cval cv (J x0)))) (i + 1) .second
      | _ => setAt (Lm.setIfInBounds i (Slot.val (cval cv (J x0)))) (i + 1) .second) = some y := by
      intro y
      simp only [storeSelf, setAt, him, if_true, Option.bind_eq_bind, Option.bind_some, hcat, hg1, hget]
      cases Lm[i + 1] <;> simp
    cases hsl : Lm[i + 1] with
    | unset =>
      rw [hsl] at hget
      exact ⟨_, (e0 _).mpr (by rw [hsl]; simp [setAt, him1]), plain (fun x q => by rw [hget] at q; simp at q)⟩
    | second =>
      rw [hsl] at hget
      exact ⟨_, (e0 _).mpr (by rw [hsl]; simp [setAt, him1]), plain (fun x q => by rw [hget] at q; simp at q)⟩
    | val old =>
      rw [hsl] at hget
      by_cases ho : old.category = 2
      · have q : Ls[i + 1]? = some (Slot.val old) := by
          rcases c2 with c2 | ⟨c2, -⟩
          · rw [← c2]; exact hget
          · rw [hget] at c2; simp at c2
        have q2 := w2 (i + 1) old q ho
        have hi2 : i + 2 < Ls.size := (Array.getElem?_eq_some_iff.mp q2).1
        have q3 : Lm[i + 2]? = some Slot.second := by rw [c1 (i + 2) (by omega) (by omega) (by omega)]; exact q2
        refine ⟨((Lm.setIfInBounds i (Slot.val (cval cv (J x0)))).setIfInBounds (i + 2) Slot.unset).setIfInBounds (i + 1) Slot.second, (e0 _).mpr (by rw [hsl]; simp [ho, setAt, show i + 2 < Lm.size by omega, him1]), ?_⟩
        exact fin _ (by simp; omega) (by rw [Array.getElem?_setIfInBounds_ne (by omega), Array.getElem?_setIfInBounds_ne (by omega), Array.getElem?_setIfInBounds_self_of_lt him]) (by rw [Array.getElem?_setIfInBounds_self_of_lt (by simp; omega)]) (fun k h1 h2 h3 => by rw [Array.getElem?_setIfInBounds_ne (by omega), Array.getElem?_setIfInBounds_ne (by omega), Array.getElem?_setIfInBounds_ne (by omega)])
          (Or.inr ⟨by rw [Array.getElem?_setIfInBounds_ne (by omega), Array.getElem?_setIfInBounds_self_of_lt (by simp; omega)], q3⟩)
      · exact ⟨_, (e0 _).mpr (by rw [hsl]; simp [ho, setAt, him1]), plain (fun x q => by rw [hget] at q; cases q; exact ho)⟩
  have hget : Ls[i]? = some Ls[i] := Array.getElem?_eq_getElem hi'
  cases hsl : Ls[i] with
  | unset =>
    rw [hsl] at hget
    obtain ⟨Ls', e1, e2⟩ := self Ls rfl (fun _ _ _ _ => rfl) (Or.inl rfl) (fun k hk => ⟨fun x q1 q2 => by subst hk; have := w2 k x q1 q2; rw [hget] at this; simp at this, Or.inl rfl⟩)
    exact ⟨Ls', by simp [storeLocals, hget, e1], e2⟩
  | second =>
    rw [hsl] at hget
    obtain ⟨j, x, e, q1, q2⟩ := w1 i hget
    subst e
    have hj : j < Ls.size := by omega
    obtain ⟨Ls', e1, e2⟩ := self (Ls.setIfInBounds j .unset) (by simp) (fun k h1 h2 h3 => Array.getElem?_setIfInBounds_ne (by omega)) (Or.inl (Array.getElem?_setIfInBounds_ne (by omega))) (fun k hk => by
      have : k = j := by omega
      subst this
      rw [Array.getElem?_setIfInBounds_self_of_lt hj]
      exact ⟨fun _ _ _ => rfl, Or.inr ⟨rfl, x, q1, q2⟩⟩)
    exact ⟨Ls', by simp [storeLocals, hget, setAt, hj, e1], e2⟩
  | val old =>
    rw [hsl] at hget
    have nosec : ∀ k : Nat, k + 1 = i → ∀ x : Value, Ls[k]? = some (Slot.val x) → x.category ≠ 2 := fun k hk x q1 q2 => by subst hk; have := w2 k x q1 q2; rw [hget] at this; simp at this
    by_cases ho : old.category = 2
    · have hs2 := w2 i old hget ho
      obtain ⟨Ls', e1, e2⟩ := self (Ls.setIfInBounds (i + 1) .unset) (by simp) (fun k h1 h2 h3 => Array.getElem?_setIfInBounds_ne (by omega)) (Or.inr ⟨Array.getElem?_setIfInBounds_self_of_lt hi1, hs2⟩) (fun k hk => ⟨fun x q1 q2 => absurd q2 (nosec k hk x q1), Or.inl (Array.getElem?_setIfInBounds_ne (by omega))⟩)
      exact ⟨Ls', by simp [storeLocals, hget, setAt, hi1, ho, e1], e2⟩
    · obtain ⟨Ls', e1, e2⟩ := self Ls rfl (fun _ _ _ _ => rfl) (Or.inl rfl) (fun k hk => ⟨fun x q1 q2 => absurd q2 (nosec k hk x q1), Or.inl rfl⟩)
      exact ⟨Ls', by simp [storeLocals, hget, ho, e1], e2⟩
/-! the frame at the entry -/
def spread : List AV → List (Option AV)
  | [] => []
  | .inr (.inl x) :: r => some (J x) :: none :: spread r
  | v :: r => some v :: spread r
def entry (args : List AV) (mx : Nat) : List (Option AV) := spread args ++ List.replicate (mx - (spread args).length) none
def spreadS : List Value → List Slot
  | [] => []
  | v :: r => if v.category = 2 then .val v :: .second :: spreadS r else .val v :: spreadS r
theorem argsTo_eq (vs : List Value) (mx : Nat) : argsToLocals vs.toArray mx = (spreadS vs ++ List.replicate (mx - (spreadS vs).length) Slot.unset).toArray := by
  have h : ∀ (vs : List Value) (acc : Array Slot), vs.foldl (fun acc v => if v.category = 2 then (acc.push (.val v)).push .second else acc.push (.val v)) acc = acc ++ (spreadS vs).toArray := by
    intro vs
    induction vs with
    | nil => intro acc; simp [spreadS]
    | cons v r ih =>
      intro acc
      rw [List.foldl_cons, ih]
      simp only [spreadS]
      split <;> simp
  unfold argsToLocals
  rw [List.foldl_toArray, h]
  apply Array.ext'
  simp
theorem spread_len (cv : Nat → Addr) (args : List AV) : (spreadS (args.map (cval cv))).length = (spread args).length := by
  induction args with
  | nil => rfl
  | cons v r ih => rcases v with x | x | n <;> simp [spread, spreadS, cval, Value.category, ih]
theorem spread_rel (cv : Nat → Addr) : ∀ (args : List AV), (∀ v ∈ args, good v) → ∀ (tl : List Slot), (∀ s ∈ tl, s = Slot.unset) →
    (∀ i : Nat, (spreadS (args.map (cval cv)) ++ tl)[i]? = some Slot.second → ∃ (j : Nat) (x : Value), i = j + 1 ∧ (spreadS (args.map (cval cv)) ++ tl)[j]? = some (Slot.val x) ∧ x.category = 2) ∧
    (∀ (i : Nat) (x : Value), (spreadS (args.map (cval cv)) ++ tl)[i]? = some (Slot.val x) → x.category = 2 → (spreadS (args.map (cval cv)) ++ tl)[i + 1]? = some Slot.second) ∧
    ∀ (i : Nat) (v : AV) (tn : List (Option AV)), (∀ s ∈ tn, s = none) → (spread args ++ tn)[i]? = some (some v) → (spreadS (args.map (cval cv)) ++ tl)[i]? = some (Slot.val (cval cv v)) ∧ good v
  | [], _, tl, ht => by
    refine ⟨fun i h => ?_, fun i x h => ?_, fun i v tn hn h => ?_⟩
    · have := ht _ (List.mem_of_getElem? h); simp at this
    · have := ht _ (List.mem_of_getElem? h); simp at this
    · have := hn _ (List.mem_of_getElem? h); simp at this
  | v :: r, hg, tl, ht => by
    obtain ⟨h1, h2, h3⟩ := spread_rel cv r (fun v hv => hg v (List.mem_cons_of_mem _ hv)) tl ht
    have hv := hg v (List.mem_cons_self ..)
    rcases v with x | x | n
    · refine ⟨fun i h => ?_, fun i y h hc => ?_, fun i u tn hn h => ?_⟩
      · cases i with
        | zero => simp [spreadS, cval, Value.category] at h
        | succ i => simp [spreadS, cval, Value.category] at h; obtain ⟨j, y, e1, e2, e3⟩ := h1 i (by simpa using h); exact ⟨j + 1, y, by omega, by simpa [spreadS, cval, Value.category] using e2, e3⟩
      · cases i with
        | zero => simp [spreadS, cval, Value.category] at h; subst h; simp [Value.category] at hc
        | succ i => simp [spreadS, cval, Value.category] at h; simpa [spreadS, cval, Value.category] using h2 i y (by simpa using h) hc
      · cases i with
        | zero => simp [spread] at h; subst h; exact ⟨by simp [spreadS, cval, Value.category], hv⟩
        | succ i => simp [spread] at h; obtain ⟨e1, e2⟩ := h3 i u tn hn (by simpa using h); exact ⟨by simpa [spreadS, cval, Value.category] using e1, e2⟩
    · refine ⟨fun i h => ?_, fun i y h hc => ?_, fun i u tn hn h => ?_⟩
      · match i, h with
        | 0, h => simp [spreadS, cval, Value.category] at h
        | 1, h => exact ⟨0, .long (o64 x), rfl, by simp [spreadS, cval, Value.category], rfl⟩
        | i + 2, h => simp [spreadS, cval, Value.category] at h; obtain ⟨j, y, e1, e2, e3⟩ := h1 i (by simpa using h); exact ⟨j + 2, y, by omega, by simpa [spreadS, cval, Value.category] using e2, e3⟩
      · match i, h with
        | 0, h => simp [spreadS, cval, Value.category]
        | 1, h => simp [spreadS, cval, Value.category] at h
        | i + 2, h => simp [spreadS, cval, Value.category] at h; simpa [spreadS, cval, Value.category] using h2 i y (by simpa using h) hc
      · match i, h with
        | 0, h => simp [spread] at h; subst h; exact ⟨by simp [spreadS, cval, Value.category], hv⟩
        | 1, h => simp [spread] at h
        | i + 2, h => simp [spread] at h; obtain ⟨e1, e2⟩ := h3 i u tn hn (by simpa using h); exact ⟨by simpa [spreadS, cval, Value.category] using e1, e2⟩
    · refine ⟨fun i h => ?_, fun i y h hc => ?_, fun i u tn hn h => ?_⟩
      · cases i with
        | zero => simp [spreadS, cval, Value.category] at h
        | succ i => simp [spreadS, cval, Value.category] at h; obtain ⟨j, y, e1, e2, e3⟩ := h1 i (by simpa using h); exact ⟨j + 1, y, by omega, by simpa [spreadS, cval, Value.category] using e2, e3⟩
      · cases i with
        | zero => simp [spreadS, cval, Value.category] at h; subst h; simp [Value.category] at hc
        | succ i => simp [spreadS, cval, Value.category] at h; simpa [spreadS, cval, Value.category] using h2 i y (by simpa using h) hc
      · cases i with
        | zero => simp [spread] at h; subst h; exact ⟨by simp [spreadS, cval, Value.category], hv⟩
        | succ i => simp [spread] at h; obtain ⟨e1, e2⟩ := h3 i u tn hn (by simpa using h); exact ⟨by simpa [spreadS, cval, Value.category] using e1, e2⟩
theorem entry_rel (cv : Nat → Addr) {args : List AV} {mx : Nat} (hg : ∀ v ∈ args, good v) (hm : (spread args).length ≤ mx) : LRel cv (entry args mx) (argsToLocals (args.map (cval cv)).toArray mx) := by
  rw [argsTo_eq]
  obtain ⟨h1, h2, h3⟩ := spread_rel cv args hg (List.replicate (mx - (spreadS (args.map (cval cv))).length) Slot.unset) (fun s hs => (List.mem_replicate.mp hs).2)
  refine ⟨by simp [entry, spread_len], ⟨fun i h => ?_, fun i x h hc => ?_⟩, fun i v h => ?_⟩
  · obtain ⟨j, x, e1, e2, e3⟩ := h1 i (by simpa using h); exact ⟨j, x, e1, by simpa using e2, e3⟩
  · simpa using h2 i x (by simpa using h) hc
  · simpa using h3 i v _ (fun s hs => (List.mem_replicate.mp hs).2) h
/-! the judgement: from here the method returns, as the plain function says -/
abbrev Mi : Type := MethodName × ByteArray × Nat × Option FieldType × Nat × Nat
abbrev Cx (μ : Type) : Type := Launch × State × Nat × (Nat → Addr) × (μ → Heap → Prop)
abbrev Cx.cv {μ : Type} (X : Cx μ) : Nat → Addr := X.2.2.2.1
abbrev Cx.rep {μ : Type} (X : Cx μ) : μ → Heap → Prop := X.2.2.2.2
def rval (rt : Option FieldType) (z : Int) : Option AV := match rt with
  | none => none
  | some .long => some (J z)
  | some _ => some (I z)
def Goes {μ : Type} (X : Cx μ) (M : Mi) (kc ks : Nat) (pc : Nat) (L : List (Option AV)) (S : List AV) (σ : μ) (v : Option AV) (σ' : μ) : Prop :=
  ∀ (p : Program) (e : Env) (R : Room) (s : State) (m : MethodId) (args : Array Value) (below : List Frame) (meth : Method) (c : Code) (T : State) (locs : List Loc) (cells slots : Nat) (Ls : Array Slot),
    Stand p X.1 e R s m args below meth c T locs cells slots → p.tables.exec = Jvm.exec → X.2.1.Warmed39 s.vm → s.vm.findClass M.1.cls = some m.cls → meth.name = M.1.name → c.code = M.2.1 → c.maxLocals = M.2.2.1 → meth.sig.returnType = M.2.2.2.1 →
    M.2.2.2.2.1 ≤ R.frames → M.2.2.2.2.2 ≤ R.locals → cells + kc ≤ R.cells → slots + ks ≤ R.slots → X.rep σ T.heap → LRel X.cv L Ls → SOk S → L.length = M.2.2.1 → Fr X.2.2.1 locs →
    ∃ (T' : State) (locs' : List Loc), Stand p X.1 e R s m args below meth c T' locs' (cells + kc) (slots + ks) ∧ X.rep σ' T'.heap ∧ Fr X.2.2.1 locs' ∧ (M.2.2.2.1 = none → v = none) ∧ (∀ w, v = some w → good w) ∧
      ∀ fs, (∀ (f : JFrame) (acts : List Action), f.method = m → f.locked = none → f.entered = [] → (doReturn e (T'.setTop f) acts (v.map (cval X.cv))).1 = T'.setFrames fs) →
        Steps p.tables e below (T.setTop (mkF m pc Ls (S.map (cval X.cv)))) (T'.setFrames fs)
def GQ {μ : Type} (X : Cx μ) (M : Mi) (kc ks : Nat) (pc : Nat) (L : List (Option AV)) (S : List AV) (σ : μ) (o : Option (Int × μ)) : Prop :=
  ∀ z σ', o = some (z, σ') → Goes X M kc ks pc L S σ (rval M.2.2.2.1 z) σ'
/-! how a plain function goes on behind a step that may fail -/
def cB {μ : Type} (q : Option (Int × μ)) (f : Int → μ → Option (Int × μ)) : Option (Int × μ) := match q with
  | none => none
  | some r => f r.1 r.2
def lB {α β : Type} (x : α) (f : α → β) : β := f x
def dB {α : Type} (y : Int) (q : Option α) : Option α := if y = 0 then none else q
theorem cB_some {μ : Type} (z : Int) (σ : μ) (f : Int → μ → Option (Int × μ)) : cB (some (z, σ)) f = f z σ := rfl
theorem cB_none {μ : Type} (f : Int → μ → Option (Int × μ)) : cB (none : Option (Int × μ)) f = none := rfl
theorem lB_eq {α β : Type} (x : α) (f : α → β) : lB x f = f x := rfl
section Rules
variable {μ : Type} {X : Cx μ} {M : Mi} {kc ks pc pc' : Nat} {L L' : List (Option AV)} {S S' : List AV} {σ : μ} {o oT oF : Option (Int × μ)} {x y : Int}
theorem SOk.cons {v : AV} (h : good v) (hS : SOk S) : SOk (v :: S) := fun w hw => (List.mem_cons.mp hw).elim (fun q => q ▸ h) (hS w)
theorem SOk.tl {v : AV} (hS : SOk (v :: S)) : SOk S := fun w hw => hS w (List.mem_cons_of_mem _ hw)
theorem SOk.hd {v : AV} (hS : SOk (v :: S)) : good v := hS v (List.mem_cons_self ..)
theorem SOk.hd2 {u v : AV} (hS : SOk (u :: v :: S)) : good v := hS.tl.hd
theorem st1_len (L : List (Option AV)) (i : Nat) (v : AV) : (st1 L i v).length = L.length := by simp [st1, clr_len]
theorem st2_len (L : List (Option AV)) (i : Nat) (v : AV) : (st2 L i v).length = L.length := by simp [st2, clr_len]
theorem GQ.no : GQ X M kc ks pc L S σ none := fun _ _ h => nomatch h
theorem GQ.plain (nx : GQ X M kc ks pc' L' S' σ o) (hlen : L'.length = L.length)
    (h : ∀ {tb : Tables} [Ours tb] {e : Env} {below : List Frame} {T : State} {m : MethodId} {c : Code} {Ls : Array Slot}, At T m c below → tb.exec = Jvm.exec → c.code = M.2.1 → LRel X.cv L Ls → SOk S →
      ∃ Ls', LRel X.cv L' Ls' ∧ SOk S' ∧ ∀ target, (Steps tb e below (T.setTop (mkF m pc' Ls' (S'.map (cval X.cv)))) target → Steps tb e below (T.setTop (mkF m pc Ls (S.map (cval X.cv)))) target)) : GQ X M kc ks pc L S σ o := by
  intro z σ' ho p e R s m args below meth c T locs cells slots Ls Y hx hZ hown hnm hby hml hrt hf hl hc hs hrep hL hS hLl hF
  obtain ⟨Ls1, hL1, hS1, st⟩ := h (e := e) Y.here hx hby hL hS
  obtain ⟨T', locs', Y', hrep', hF', hv1, hv2, st'⟩ := nx z σ' ho p e R s m args below meth c T locs cells slots Ls1 Y hx hZ hown hnm hby hml hrt hf hl hc hs hrep hL1 hS1 (by omega) hF
  exact ⟨T', locs', Y', hrep', hF', hv1, hv2, fun fs hfs => st _ (st' fs hfs)⟩
/-- what is known of the variables may be forgotten -/
def Sub (L' L : List (Option AV)) : Prop := L'.length = L.length ∧ ∀ (i : Nat) (v : AV), L'[i]? = some (some v) → L[i]? = some (some v)
theorem Sub.nil : Sub [] [] := ⟨rfl, fun i v h => by simp at h⟩
theorem Sub.keep {a : Option AV} (h : Sub L' L) : Sub (a :: L') (a :: L) := ⟨by simp [h.1], fun i v q => by cases i with | zero => simpa using q | succ i => simpa using h.2 i v (by simpa using q)⟩
theorem Sub.drop {a : Option AV} (h : Sub L' L) : Sub (none :: L') (a :: L) := ⟨by simp [h.1], fun i v q => by cases i with | zero => simp at q | succ i => simpa using h.2 i v (by simpa using q)⟩
theorem GQ.weak (hs : Sub L' L) (nx : GQ X M kc ks pc L' S σ o) : GQ X M kc ks pc L S σ o :=
  GQ.plain nx hs.1 (fun _ _ _ hL hS => ⟨_, ⟨by rw [hL.1, hs.1], hL.2.1, fun i v q => hL.2.2 i v (hs.2 i v q)⟩, hS, fun _ st => st⟩)
theorem GQ.letI {e : Int} {f : Int → Option (Int × μ)} (nx : ∀ z, GQ X M kc ks pc L (I z :: S) σ (f z)) : GQ X M kc ks pc L (I e :: S) σ (lB e f) := nx e
theorem GQ.letJ {e : Int} {f : Int → Option (Int × μ)} (nx : ∀ z, GQ X M kc ks pc L (J z :: S) σ (f z)) : GQ X M kc ks pc L (J e :: S) σ (lB e f) := nx e
theorem GQ.letM {e : μ} {f : μ → Option (Int × μ)} (nx : ∀ z, GQ X M kc ks pc L S z (f z)) : GQ X M kc ks pc L S e (lB e f) := nx e
theorem GQ.iload {k : Nat} (hd : decode M.2.1 pc = .ok (.iload k, 2)) (hl : L[k]? = some (some (I x))) (hp : pc + 2 = pc') (nx : GQ X M kc ks pc' L (I x :: S) σ o) : GQ X M kc ks pc L S σ o := by
  subst hp; exact GQ.plain nx rfl (fun hA hx hc hL hS => ⟨_, hL, hS.cons (hL.2.2 _ _ hl).2, fun _ st => XS.iload hA hx rfl (hb hc hd) (hL.2.2 _ _ hl).1 st⟩)
theorem GQ.iloadN {k : Fin 4} (hd : decode M.2.1 pc = .ok (.iload_n k, 1)) (hl : L[k.val]? = some (some (I x))) (hp : pc + 1 = pc') (nx : GQ X M kc ks pc' L (I x :: S) σ o) : GQ X M kc ks pc L S σ o := by
  subst hp; exact GQ.plain nx rfl (fun hA hx hc hL hS => ⟨_, hL, hS.cons (hL.2.2 _ _ hl).2, fun _ st => XS.iloadN hA hx rfl (hb hc hd) (hL.2.2 _ _ hl).1 st⟩)
theorem GQ.lload {k : Nat} (hd : decode M.2.1 pc = .ok (.lload k, 2)) (hl : L[k]? = some (some (J x))) (hp : pc + 2 = pc') (nx : GQ X M kc ks pc' L (J x :: S) σ o) : GQ X M kc ks pc L S σ o := by
  subst hp; exact GQ.plain nx rfl (fun hA hx hc hL hS => ⟨_, hL, hS.cons (hL.2.2 _ _ hl).2, fun _ st => XT.lload hA hx rfl (hb hc hd) (hL.2.2 _ _ hl).1 st⟩)
theorem GQ.lloadN {k : Fin 4} (hd : decode M.2.1 pc = .ok (.lload_n k, 1)) (hl : L[k.val]? = some (some (J x))) (hp : pc + 1 = pc') (nx : GQ X M kc ks pc' L (J x :: S) σ o) : GQ X M kc ks pc L S σ o := by
  subst hp; exact GQ.plain nx rfl (fun hA hx hc hL hS => ⟨_, hL, hS.cons (hL.2.2 _ _ hl).2, fun _ st => XT.lloadN hA hx rfl (hb hc hd) (hL.2.2 _ _ hl).1 st⟩)
theorem GQ.aload {k r : Nat} (hd : decode M.2.1 pc = .ok (.aload k, 2)) (hl : L[k]? = some (some (Rf r))) (hp : pc + 2 = pc') (nx : GQ X M kc ks pc' L (Rf r :: S) σ o) : GQ X M kc ks pc L S σ o := by
  subst hp; exact GQ.plain nx rfl (fun hA hx hc hL hS => ⟨_, hL, hS.cons (hL.2.2 _ _ hl).2, fun _ st => XS.aload hA hx rfl (hb hc hd) (hL.2.2 _ _ hl).1 rfl st⟩)
theorem GQ.aloadN {k : Fin 4} {r : Nat} (hd : decode M.2.1 pc = .ok (.aload_n k, 1)) (hl : L[k.val]? = some (some (Rf r))) (hp : pc + 1 = pc') (nx : GQ X M kc ks pc' L (Rf r :: S) σ o) : GQ X M kc ks pc L S σ o := by
  subst hp; exact GQ.plain nx rfl (fun hA hx hc hL hS => ⟨_, hL, hS.cons (hL.2.2 _ _ hl).2, fun _ st => XS.aloadN hA hx rfl (hb hc hd) (hL.2.2 _ _ hl).1 rfl st⟩)
theorem GQ.istore {k : Nat} (hd : decode M.2.1 pc = .ok (.istore k, 2)) (hk : Nat.blt k L.length = true) (hl : st1 L k (I x) = L') (hp : pc + 2 = pc') (nx : GQ X M kc ks pc' L' S σ o) : GQ X M kc ks pc L (I x :: S) σ o := by
  subst hp hl; refine GQ.plain nx (st1_len ..) (fun hA hx hc hL hS => ?_)
  obtain ⟨Ls', h1, h2⟩ := store_one hL (Nat.blt_eq.mp hk) hS.hd (by simp)
  exact ⟨Ls', h2, hS.tl, fun _ st => XS.istore hA hx rfl (hb hc hd) rfl h1 st⟩
theorem GQ.istoreN {k : Fin 4} (hd : decode M.2.1 pc = .ok (.istore_n k, 1)) (hk : Nat.blt k.val L.length = true) (hl : st1 L k.val (I x) = L') (hp : pc + 1 = pc') (nx : GQ X M kc ks pc' L' S σ o) : GQ X M kc ks pc L (I x :: S) σ o := by
  subst hp hl; refine GQ.plain nx (st1_len ..) (fun hA hx hc hL hS => ?_)
  obtain ⟨Ls', h1, h2⟩ := store_one hL (Nat.blt_eq.mp hk) hS.hd (by simp)
  exact ⟨Ls', h2, hS.tl, fun _ st => XS.istoreN hA hx rfl (hb hc hd) rfl h1 st⟩
theorem GQ.lstore {k : Nat} (hd : decode M.2.1 pc = .ok (.lstore k, 2)) (hk : Nat.blt (k + 1) L.length = true) (hl : st2 L k (J x) = L') (hp : pc + 2 = pc') (nx : GQ X M kc ks pc' L' S σ o) : GQ X M kc ks pc L (J x :: S) σ o := by
  subst hp hl; refine GQ.plain nx (st2_len ..) (fun hA hx hc hL hS => ?_)
  obtain ⟨Ls', h1, h2⟩ := store_two hL (Nat.blt_eq.mp hk) (x0 := x) hS.hd
  exact ⟨Ls', h2, hS.tl, fun _ st => XT.lstore hA hx rfl (hb hc hd) rfl h1 st⟩
theorem GQ.lstoreN {k : Fin 4} (hd : decode M.2.1 pc = .ok (.lstore_n k, 1)) (hk : Nat.blt (k.val + 1) L.length = true) (hl : st2 L k.val (J x) = L') (hp : pc + 1 = pc') (nx : GQ X M kc ks pc' L' S σ o) : GQ X M kc ks pc L (J x :: S) σ o := by
  subst hp hl; refine GQ.plain nx (st2_len ..) (fun hA hx hc hL hS => ?_)
  obtain ⟨Ls', h1, h2⟩ := store_two hL (Nat.blt_eq.mp hk) (x0 := x) hS.hd
  exact ⟨Ls', h2, hS.tl, fun _ st => XT.lstoreN hA hx rfl (hb hc hd) rfl h1 st⟩
theorem GQ.astore {k r : Nat} (hd : decode M.2.1 pc = .ok (.astore k, 2)) (hk : Nat.blt k L.length = true) (hl : st1 L k (Rf r) = L') (hp : pc + 2 = pc') (nx : GQ X M kc ks pc' L' S σ o) : GQ X M kc ks pc L (Rf r :: S) σ o := by
  subst hp hl; refine GQ.plain nx (st1_len ..) (fun hA hx hc hL hS => ?_)
  obtain ⟨Ls', h1, h2⟩ := store_one hL (Nat.blt_eq.mp hk) hS.hd (by simp)
  exact ⟨Ls', h2, hS.tl, fun _ st => XS.astore hA hx rfl (hb hc hd) rfl rfl h1 st⟩
theorem GQ.astoreN {k : Fin 4} {r : Nat} (hd : decode M.2.1 pc = .ok (.astore_n k, 1)) (hk : Nat.blt k.val L.length = true) (hl : st1 L k.val (Rf r) = L') (hp : pc + 1 = pc') (nx : GQ X M kc ks pc' L' S σ o) : GQ X M kc ks pc L (Rf r :: S) σ o := by
  subst hp hl; refine GQ.plain nx (st1_len ..) (fun hA hx hc hL hS => ?_)
  obtain ⟨Ls', h1, h2⟩ := store_one hL (Nat.blt_eq.mp hk) hS.hd (by simp)
  exact ⟨Ls', h2, hS.tl, fun _ st => XS.astoreN hA hx rfl (hb hc hd) rfl rfl h1 st⟩
theorem GQ.iinc {k : Nat} {cst : Int} (hd : decode M.2.1 pc = .ok (.iinc k cst, 3)) (hk : Nat.blt k L.length = true) (hl : L[k]? = some (some (I x))) (hl' : st1 L k (I (aAdd x cst)) = L') (hp : pc + 3 = pc') (nx : GQ X M kc ks pc' L' S σ o) : GQ X M kc ks pc L S σ o := by
  subst hp hl'; refine GQ.plain nx (st1_len ..) (fun hA hx hc hL hS => ?_)
  obtain ⟨Ls', h1, h2⟩ := store_one hL (Nat.blt_eq.mp hk) (v := I (aAdd x cst)) (w32_in _) (by simp)
  exact ⟨Ls', h2, hS, fun _ st => XS.iinc hA hx rfl (hb hc hd) (hL.2.2 _ _ hl).1 (by rw [← e_add]; exact h1) st⟩
theorem GQ.iconst {i : Int} (hd : decode M.2.1 pc = .ok (.iconst i, 1)) (hi : decide (-2147483648 ≤ i ∧ i < 2147483648) = true) (hp : pc + 1 = pc') (nx : GQ X M kc ks pc' L (I i :: S) σ o) : GQ X M kc ks pc L S σ o := by
  subst hp; exact GQ.plain nx rfl (fun hA hx hc hL hS => ⟨_, hL, hS.cons (show InR i from (of_decide_eq_true hi : -2147483648 ≤ i ∧ i < 2147483648)), fun _ st => XS.iconst hA hx rfl (hb hc hd) st⟩)
theorem GQ.bipush {i : Int} (hd : decode M.2.1 pc = .ok (.bipush i, 2)) (hi : decide (-128 ≤ i ∧ i < 128) = true) (hp : pc + 2 = pc') (nx : GQ X M kc ks pc' L (I i :: S) σ o) : GQ X M kc ks pc L S σ o := by
  have hi := of_decide_eq_true hi
  have he : o32 i = (Int8.ofInt i).toInt32 := by
    apply Int32.toInt_inj.mp; rw [Int8.toInt_toInt32, t32, w32_id (by omega) (by omega), Int8.toInt_ofInt_of_le (by omega) (by omega)]
  subst hp; exact GQ.plain nx rfl (fun hA hx hc hL hS => ⟨_, hL, hS.cons (show InR i from ⟨by omega, by omega⟩), fun _ st => XS.bipush hA hx rfl (hb hc hd) (by rw [← he]; exact st)⟩)
theorem GQ.sipush {i : Int} (hd : decode M.2.1 pc = .ok (.sipush i, 3)) (hi : decide (-32768 ≤ i ∧ i < 32768) = true) (hp : pc + 3 = pc') (nx : GQ X M kc ks pc' L (I i :: S) σ o) : GQ X M kc ks pc L S σ o := by
  have hi := of_decide_eq_true hi
  have he : o32 i = (Int16.ofInt i).toInt32 := by
    apply Int32.toInt_inj.mp; rw [Int16.toInt_toInt32, t32, w32_id (by omega) (by omega), Int16.toInt_ofInt_of_le (by omega) (by omega)]
  subst hp; exact GQ.plain nx rfl (fun hA hx hc hL hS => ⟨_, hL, hS.cons (show InR i from ⟨by omega, by omega⟩), fun _ st => XS.sipush hA hx rfl (hb hc hd) (by rw [← he]; exact st)⟩)
theorem GQ.lconst {k : Fin 2} {i : Int} (hd : decode M.2.1 pc = .ok (.lconst k, 1)) (hi : (k.val : Int) = i) (hp : pc + 1 = pc') (nx : GQ X M kc ks pc' L (J i :: S) σ o) : GQ X M kc ks pc L S σ o := by
  have hk := k.isLt
  subst hp hi; exact GQ.plain nx rfl (fun hA hx hc hL hS => ⟨_, hL, hS.cons (show InL _ from ⟨by omega, by omega⟩), fun _ st => XT.lconst hA hx rfl (hb hc hd) st⟩)
theorem GQ.goto {off : Int} (hd : decode M.2.1 pc = .ok (.goto off, 3)) (ho : decide (0 ≤ (pc : Int) + off) = true) (hp : ((pc : Int) + off).toNat = pc') (nx : GQ X M kc ks pc' L S σ o) : GQ X M kc ks pc L S σ o :=
  GQ.plain nx rfl (fun hA hx hc hL hS => ⟨_, hL, hS, fun _ st => XS.goto hA hx rfl (pc0 := pc) rfl (hb hc hd) (of_decide_eq_true ho) hp st⟩)
theorem GQ.popI (hd : decode M.2.1 pc = .ok (.pop, 1)) (hp : pc + 1 = pc') (nx : GQ X M kc ks pc' L S σ o) : GQ X M kc ks pc L (I x :: S) σ o := by
  subst hp; exact GQ.plain nx rfl (fun hA hx hc hL hS => ⟨_, hL, hS.tl, fun _ st => XT.pop hA hx rfl (hb hc hd) rfl rfl st⟩)
theorem GQ.dupI (hd : decode M.2.1 pc = .ok (.dup, 1)) (hp : pc + 1 = pc') (nx : GQ X M kc ks pc' L (I x :: I x :: S) σ o) : GQ X M kc ks pc L (I x :: S) σ o := by
  subst hp; exact GQ.plain nx rfl (fun hA hx hc hL hS => ⟨_, hL, hS.cons hS.hd, fun _ st => XS.dup hA hx rfl (hb hc hd) rfl rfl st⟩)
theorem GQ.dupR {r : Nat} (hd : decode M.2.1 pc = .ok (.dup, 1)) (hp : pc + 1 = pc') (nx : GQ X M kc ks pc' L (Rf r :: Rf r :: S) σ o) : GQ X M kc ks pc L (Rf r :: S) σ o := by
  subst hp; exact GQ.plain nx rfl (fun hA hx hc hL hS => ⟨_, hL, hS.cons hS.hd, fun _ st => XS.dup hA hx rfl (hb hc hd) rfl rfl st⟩)
theorem GQ.dup2 {r : Nat} (hd : decode M.2.1 pc = .ok (.dup2, 1)) (hp : pc + 1 = pc') (nx : GQ X M kc ks pc' L (I x :: Rf r :: I x :: Rf r :: S) σ o) : GQ X M kc ks pc L (I x :: Rf r :: S) σ o := by
  subst hp; exact GQ.plain nx rfl (fun hA hx hc hL hS => ⟨_, hL, (hS.cons hS.hd2).cons hS.hd, fun _ st => XT.dup2 hA hx rfl (hb hc hd) rfl rfl rfl st⟩)
/-! ints -/
theorem GQ.iadd (hd : decode M.2.1 pc = .ok (.iadd, 1)) (hp : pc + 1 = pc') (nx : GQ X M kc ks pc' L (I (aAdd x y) :: S) σ o) : GQ X M kc ks pc L (I y :: I x :: S) σ o := by
  subst hp; exact GQ.plain nx rfl (fun hA hx hc hL hS => ⟨_, hL, hS.tl.tl.cons (w32_in _), fun _ st => XS.iadd hA hx rfl (hb hc hd) rfl (by rw [← e_add]; exact st)⟩)
theorem GQ.isub (hd : decode M.2.1 pc = .ok (.isub, 1)) (hp : pc + 1 = pc') (nx : GQ X M kc ks pc' L (I (aSub x y) :: S) σ o) : GQ X M kc ks pc L (I y :: I x :: S) σ o := by
  subst hp; exact GQ.plain nx rfl (fun hA hx hc hL hS => ⟨_, hL, hS.tl.tl.cons (w32_in _), fun _ st => XS.isub hA hx rfl (hb hc hd) rfl (by rw [← e_sub]; exact st)⟩)
theorem GQ.imul (hd : decode M.2.1 pc = .ok (.imul, 1)) (hp : pc + 1 = pc') (nx : GQ X M kc ks pc' L (I (aMul x y) :: S) σ o) : GQ X M kc ks pc L (I y :: I x :: S) σ o := by
  subst hp; exact GQ.plain nx rfl (fun hA hx hc hL hS => ⟨_, hL, hS.tl.tl.cons (w32_in _), fun _ st => XS.imul hA hx rfl (hb hc hd) rfl (by rw [← e_mul]; exact st)⟩)
theorem GQ.ineg (hd : decode M.2.1 pc = .ok (.ineg, 1)) (hp : pc + 1 = pc') (nx : GQ X M kc ks pc' L (I (aNeg x) :: S) σ o) : GQ X M kc ks pc L (I x :: S) σ o := by
  subst hp; exact GQ.plain nx rfl (fun hA hx hc hL hS => ⟨_, hL, hS.tl.cons (w32_in _), fun _ st => XS.ineg hA hx rfl (hb hc hd) rfl (by rw [← e_neg]; exact st)⟩)
theorem GQ.iand (hd : decode M.2.1 pc = .ok (.iand, 1)) (hp : pc + 1 = pc') (nx : GQ X M kc ks pc' L (I (aAnd x y) :: S) σ o) : GQ X M kc ks pc L (I y :: I x :: S) σ o := by
  subst hp; exact GQ.plain nx rfl (fun hA hx hc hL hS => ⟨_, hL, hS.tl.tl.cons (r32 _), fun _ st => XS.iand hA hx rfl (hb hc hd) rfl (by rw [← o32_t (o32 x &&& o32 y)]; exact st)⟩)
theorem GQ.ior (hd : decode M.2.1 pc = .ok (.ior, 1)) (hp : pc + 1 = pc') (nx : GQ X M kc ks pc' L (I (aOr x y) :: S) σ o) : GQ X M kc ks pc L (I y :: I x :: S) σ o := by
  subst hp; exact GQ.plain nx rfl (fun hA hx hc hL hS => ⟨_, hL, hS.tl.tl.cons (r32 _), fun _ st => XT.ior hA hx rfl (hb hc hd) rfl (by rw [← o32_t (o32 x ||| o32 y)]; exact st)⟩)
theorem GQ.ixor (hd : decode M.2.1 pc = .ok (.ixor, 1)) (hp : pc + 1 = pc') (nx : GQ X M kc ks pc' L (I (aXor x y) :: S) σ o) : GQ X M kc ks pc L (I y :: I x :: S) σ o := by
  subst hp; exact GQ.plain nx rfl (fun hA hx hc hL hS => ⟨_, hL, hS.tl.tl.cons (r32 _), fun _ st => XT.ixor hA hx rfl (hb hc hd) rfl (by rw [← o32_t (o32 x ^^^ o32 y)]; exact st)⟩)
theorem GQ.ishl (hd : decode M.2.1 pc = .ok (.ishl, 1)) (hp : pc + 1 = pc') (nx : GQ X M kc ks pc' L (I (aShl x y) :: S) σ o) : GQ X M kc ks pc L (I y :: I x :: S) σ o := by
  subst hp; exact GQ.plain nx rfl (fun hA hx hc hL hS => ⟨_, hL, hS.tl.tl.cons (r32 _), fun _ st => XT.ishl hA hx rfl (hb hc hd) rfl (by rw [← o32_t (o32 x <<< (o32 y &&& 31))]; exact st)⟩)
theorem GQ.ishr (hd : decode M.2.1 pc = .ok (.ishr, 1)) (hp : pc + 1 = pc') (nx : GQ X M kc ks pc' L (I (aShr x y) :: S) σ o) : GQ X M kc ks pc L (I y :: I x :: S) σ o := by
  subst hp; exact GQ.plain nx rfl (fun hA hx hc hL hS => ⟨_, hL, hS.tl.tl.cons (r32 _), fun _ st => XT.ishr hA hx rfl (hb hc hd) rfl (by rw [← o32_t (o32 x >>> (o32 y &&& 31))]; exact st)⟩)
theorem GQ.iushr (hd : decode M.2.1 pc = .ok (.iushr, 1)) (hp : pc + 1 = pc') (nx : GQ X M kc ks pc' L (I (aUshr x y) :: S) σ o) : GQ X M kc ks pc L (I y :: I x :: S) σ o := by
  subst hp; exact GQ.plain nx rfl (fun hA hx hc hL hS => ⟨_, hL, hS.tl.tl.cons (r32 _), fun _ st => XT.iushr hA hx rfl (hb hc hd) rfl (by rw [← o32_t (XT.ushr (o32 x) (o32 y))]; exact st)⟩)
theorem ne0 {y : Int} (hy : InR y) (h : ¬ y = 0) : o32 y ≠ 0 := fun q => h (by have := congrArg Int32.toInt q; rw [t32i hy] at this; exact this)
theorem ne0L {y : Int} (hy : InL y) (h : ¬ y = 0) : o64 y ≠ 0 := fun q => h (by have := congrArg Int64.toInt q; rw [t64i hy] at this; exact this)
theorem GQ.guard {P : Prop} [Decidable P] (h : P → GQ X M kc ks pc L S σ o) : GQ X M kc ks pc L S σ (if P then o else none) := by
  by_cases q : P
  · rw [if_pos q]; exact h q
  · rw [if_neg q]; exact GQ.no
theorem GQ.idiv (hd : decode M.2.1 pc = .ok (.idiv, 1)) (hp : pc + 1 = pc') (nx : GQ X M kc ks pc' L (I (aDiv x y) :: S) σ o) : GQ X M kc ks pc L (I y :: I x :: S) σ (dB y o) := by
  unfold dB
  by_cases q : y = 0
  · rw [if_pos q]; exact GQ.no
  · rw [if_neg q]; subst hp; exact GQ.plain nx rfl (fun hA hx hc hL hS => ⟨_, hL, hS.tl.tl.cons (w32_in _), fun _ st => XS.idiv hA hx rfl (hb hc hd) rfl (ne0 hS.hd q) (by rw [← e_div hS.hd2 hS.hd]; exact st)⟩)
theorem GQ.irem (hd : decode M.2.1 pc = .ok (.irem, 1)) (hp : pc + 1 = pc') (nx : GQ X M kc ks pc' L (I (aRem x y) :: S) σ o) : GQ X M kc ks pc L (I y :: I x :: S) σ (dB y o) := by
  unfold dB
  by_cases q : y = 0
  · rw [if_pos q]; exact GQ.no
  · rw [if_neg q]; subst hp; exact GQ.plain nx rfl (fun hA hx hc hL hS => ⟨_, hL, hS.tl.tl.cons (in_rem hS.hd2 hS.hd), fun _ st => XS.irem hA hx rfl (hb hc hd) rfl (ne0 hS.hd q) (by rw [irem_eq_mod, ← e_rem hS.hd2 hS.hd]; exact st)⟩)
theorem GQ.i2l (hd : decode M.2.1 pc = .ok (.i2l, 1)) (hp : pc + 1 = pc') (nx : GQ X M kc ks pc' L (J x :: S) σ o) : GQ X M kc ks pc L (I x :: S) σ o := by
  subst hp; exact GQ.plain nx rfl (fun hA hx hc hL hS => ⟨_, hL, hS.tl.cons (show InL x from ⟨by have : InR x := hS.hd; have := this.1; omega, by have : InR x := hS.hd; have := this.2; omega⟩), fun _ st => XT.i2l hA hx rfl (hb hc hd) rfl (by rw [← e_i2l hS.hd]; exact st)⟩)
theorem GQ.l2i (hd : decode M.2.1 pc = .ok (.l2i, 1)) (hp : pc + 1 = pc') (nx : GQ X M kc ks pc' L (I (w32 x) :: S) σ o) : GQ X M kc ks pc L (J x :: S) σ o := by
  subst hp; exact GQ.plain nx rfl (fun hA hx hc hL hS => ⟨_, hL, hS.tl.cons (w32_in _), fun _ st => XT.l2i hA hx rfl (hb hc hd) rfl (by rw [← e_l2i hS.hd]; exact st)⟩)
theorem GQ.i2b (hd : decode M.2.1 pc = .ok (.i2b, 1)) (hp : pc + 1 = pc') (nx : GQ X M kc ks pc' L (I (Wp.i2b x) :: S) σ o) : GQ X M kc ks pc L (I x :: S) σ o := by
  subst hp; exact GQ.plain nx rfl (fun hA hx hc hL hS => ⟨_, hL, hS.tl.cons (in_b _), fun _ st => XT.i2b hA hx rfl (hb hc hd) rfl (by rw [← e_i2b hS.hd]; exact st)⟩)
theorem GQ.i2c (hd : decode M.2.1 pc = .ok (.i2c, 1)) (hp : pc + 1 = pc') (nx : GQ X M kc ks pc' L (I (Wp.i2c x) :: S) σ o) : GQ X M kc ks pc L (I x :: S) σ o := by
  subst hp; exact GQ.plain nx rfl (fun hA hx hc hL hS => ⟨_, hL, hS.tl.cons (in_c _), fun _ st => XT.i2c hA hx rfl (hb hc hd) rfl (by rw [← e_i2c hS.hd]; exact st)⟩)
/-! longs -/
theorem GQ.ladd (hd : decode M.2.1 pc = .ok (.ladd, 1)) (hp : pc + 1 = pc') (nx : GQ X M kc ks pc' L (J (lAdd x y) :: S) σ o) : GQ X M kc ks pc L (J y :: J x :: S) σ o := by
  subst hp; exact GQ.plain nx rfl (fun hA hx hc hL hS => ⟨_, hL, hS.tl.tl.cons (w64_in _), fun _ st => XT.ladd hA hx rfl (hb hc hd) rfl (by rw [← e_ladd]; exact st)⟩)
theorem GQ.lsub (hd : decode M.2.1 pc = .ok (.lsub, 1)) (hp : pc + 1 = pc') (nx : GQ X M kc ks pc' L (J (lSub x y) :: S) σ o) : GQ X M kc ks pc L (J y :: J x :: S) σ o := by
  subst hp; exact GQ.plain nx rfl (fun hA hx hc hL hS => ⟨_, hL, hS.tl.tl.cons (w64_in _), fun _ st => XT.lsub hA hx rfl (hb hc hd) rfl (by rw [← e_lsub]; exact st)⟩)
theorem GQ.lmul (hd : decode M.2.1 pc = .ok (.lmul, 1)) (hp : pc + 1 = pc') (nx : GQ X M kc ks pc' L (J (lMul x y) :: S) σ o) : GQ X M kc ks pc L (J y :: J x :: S) σ o := by
  subst hp; exact GQ.plain nx rfl (fun hA hx hc hL hS => ⟨_, hL, hS.tl.tl.cons (w64_in _), fun _ st => XT.lmul hA hx rfl (hb hc hd) rfl (by rw [← e_lmul]; exact st)⟩)
theorem GQ.land (hd : decode M.2.1 pc = .ok (.land, 1)) (hp : pc + 1 = pc') (nx : GQ X M kc ks pc' L (J (lAnd x y) :: S) σ o) : GQ X M kc ks pc L (J y :: J x :: S) σ o := by
  subst hp; exact GQ.plain nx rfl (fun hA hx hc hL hS => ⟨_, hL, hS.tl.tl.cons (r64 _), fun _ st => XT.land hA hx rfl (hb hc hd) rfl (by rw [← o64_t (o64 x &&& o64 y)]; exact st)⟩)
theorem GQ.lor (hd : decode M.2.1 pc = .ok (.lor, 1)) (hp : pc + 1 = pc') (nx : GQ X M kc ks pc' L (J (lOr x y) :: S) σ o) : GQ X M kc ks pc L (J y :: J x :: S) σ o := by
  subst hp; exact GQ.plain nx rfl (fun hA hx hc hL hS => ⟨_, hL, hS.tl.tl.cons (r64 _), fun _ st => XT.lor hA hx rfl (hb hc hd) rfl (by rw [← o64_t (o64 x ||| o64 y)]; exact st)⟩)
theorem GQ.lxor (hd : decode M.2.1 pc = .ok (.lxor, 1)) (hp : pc + 1 = pc') (nx : GQ X M kc ks pc' L (J (lXor x y) :: S) σ o) : GQ X M kc ks pc L (J y :: J x :: S) σ o := by
  subst hp; exact GQ.plain nx rfl (fun hA hx hc hL hS => ⟨_, hL, hS.tl.tl.cons (r64 _), fun _ st => XT.lxor hA hx rfl (hb hc hd) rfl (by rw [← o64_t (o64 x ^^^ o64 y)]; exact st)⟩)
theorem GQ.lshl (hd : decode M.2.1 pc = .ok (.lshl, 1)) (hp : pc + 1 = pc') (nx : GQ X M kc ks pc' L (J (lShl x y) :: S) σ o) : GQ X M kc ks pc L (I y :: J x :: S) σ o := by
  subst hp; exact GQ.plain nx rfl (fun hA hx hc hL hS => ⟨_, hL, hS.tl.tl.cons (r64 _), fun _ st => XT.lshl hA hx rfl (hb hc hd) rfl (by rw [← o64_t (o64 x <<< ((o32 y).toInt64 &&& 63))]; exact st)⟩)
theorem GQ.lshr (hd : decode M.2.1 pc = .ok (.lshr, 1)) (hp : pc + 1 = pc') (nx : GQ X M kc ks pc' L (J (lShr x y) :: S) σ o) : GQ X M kc ks pc L (I y :: J x :: S) σ o := by
  subst hp; exact GQ.plain nx rfl (fun hA hx hc hL hS => ⟨_, hL, hS.tl.tl.cons (r64 _), fun _ st => XT.lshr hA hx rfl (hb hc hd) rfl (by rw [← o64_t (o64 x >>> ((o32 y).toInt64 &&& 63))]; exact st)⟩)
theorem GQ.lushr (hd : decode M.2.1 pc = .ok (.lushr, 1)) (hp : pc + 1 = pc') (nx : GQ X M kc ks pc' L (J (lUshr x y) :: S) σ o) : GQ X M kc ks pc L (I y :: J x :: S) σ o := by
  subst hp; exact GQ.plain nx rfl (fun hA hx hc hL hS => ⟨_, hL, hS.tl.tl.cons (r64 _), fun _ st => XT.lushr hA hx rfl (hb hc hd) rfl (by rw [← o64_t (XT.ushrL (o64 x) (o32 y))]; exact st)⟩)
theorem GQ.ldiv (hd : decode M.2.1 pc = .ok (.ldiv, 1)) (hp : pc + 1 = pc') (nx : GQ X M kc ks pc' L (J (lDiv x y) :: S) σ o) : GQ X M kc ks pc L (J y :: J x :: S) σ (dB y o) := by
  unfold dB
  by_cases q : y = 0
  · rw [if_pos q]; exact GQ.no
  · rw [if_neg q]; subst hp; exact GQ.plain nx rfl (fun hA hx hc hL hS => ⟨_, hL, hS.tl.tl.cons (w64_in _), fun _ st => XT.ldiv hA hx rfl (hb hc hd) rfl (ne0L hS.hd q) (by rw [← e_ldiv hS.hd2 hS.hd]; exact st)⟩)
theorem GQ.lcmp (hd : decode M.2.1 pc = .ok (.lcmp, 1)) (hp : pc + 1 = pc') (nx : GQ X M kc ks pc' L (I (lCmp x y) :: S) σ o) : GQ X M kc ks pc L (J y :: J x :: S) σ o := by
  subst hp; exact GQ.plain nx rfl (fun hA hx hc hL hS => ⟨_, hL, hS.tl.tl.cons (in_cmp ..), fun _ st => XT.lcmp hA hx rfl (hb hc hd) rfl (by rw [XT.cmpL, ← e_lcmp hS.hd2 hS.hd]; exact st)⟩)
/-! branches -/
theorem GQ.br {P : Prop} [Decidable P] {pcT pcF : Nat} (nT : GQ X M kc ks pcT L S' σ oT) (nF : GQ X M kc ks pcF L S' σ oF) (hS' : SOk S → SOk S')
    (h : ∀ {tb : Tables} [Ours tb] {e : Env} {below : List Frame} {T : State} {m : MethodId} {c : Code} {Ls : Array Slot} {target : State}, At T m c below → tb.exec = Jvm.exec → c.code = M.2.1 → SOk S →
      (P → Steps tb e below (T.setTop (mkF m pcT Ls (S'.map (cval X.cv)))) target → Steps tb e below (T.setTop (mkF m pc Ls (S.map (cval X.cv)))) target) ∧
      (¬ P → Steps tb e below (T.setTop (mkF m pcF Ls (S'.map (cval X.cv)))) target → Steps tb e below (T.setTop (mkF m pc Ls (S.map (cval X.cv)))) target)) : GQ X M kc ks pc L S σ (if P then oT else oF) := by
  by_cases q : P
  · rw [if_pos q]; exact GQ.plain nT rfl (fun hA hx hc hL hS => ⟨_, hL, hS' hS, fun t st => (h hA hx hc hS).1 q st⟩)
  · rw [if_neg q]; exact GQ.plain nF rfl (fun hA hx hc hL hS => ⟨_, hL, hS' hS, fun t st => (h hA hx hc hS).2 q st⟩)
theorem o_lt {x y : Int} (hx : InR x) (hy : InR y) : o32 x < o32 y ↔ x < y := by rw [Int32.lt_iff_toInt_lt, t32i hx, t32i hy]
theorem o_le {x y : Int} (hx : InR x) (hy : InR y) : o32 x ≤ o32 y ↔ ¬ y < x := by rw [Int32.le_iff_toInt_le, t32i hx, t32i hy]; omega
theorem o_eq {x y : Int} (hx : InR x) (hy : InR y) : o32 x = o32 y ↔ x = y := by rw [← Int32.toInt_inj, t32i hx, t32i hy]
theorem GQ.icmpT {P : Prop} [Decidable P] {cd : ClassFile.Cond} {off : Int} {pcT pcF : Nat} (hP : InR x → InR y → (if_icmp.holds cd (o32 x) (o32 y) = true ↔ P)) (hd : decode M.2.1 pc = .ok (.if_icmp cd off, 3)) (ho : decide (0 ≤ (pc : Int) + off) = true) (hpT : ((pc : Int) + off).toNat = pcT) (hpF : pc + 3 = pcF)
    (nT : GQ X M kc ks pcT L S σ oT) (nF : GQ X M kc ks pcF L S σ oF) : GQ X M kc ks pc L (I y :: I x :: S) σ (if P then oT else oF) := by
  subst hpF
  refine GQ.br nT nF (fun h => h.tl.tl) (fun hA hx hc hS => ⟨fun q st => XS.icmpYes hA hx rfl (pc0 := pc) rfl (hb hc hd) rfl ((hP hS.hd2 hS.hd).mpr q) (of_decide_eq_true ho) hpT st, fun q st => XS.icmpNo hA hx rfl (hb hc hd) rfl ?_ st⟩)
  cases hh : if_icmp.holds cd (o32 x) (o32 y) with
  | false => rfl
  | true => exact absurd ((hP hS.hd2 hS.hd).mp hh) q
theorem GQ.icmpF {P : Prop} [Decidable P] {cd : ClassFile.Cond} {off : Int} {pcT pcF : Nat} (hP : InR x → InR y → (if_icmp.holds cd (o32 x) (o32 y) = true ↔ ¬ P)) (hd : decode M.2.1 pc = .ok (.if_icmp cd off, 3)) (ho : decide (0 ≤ (pc : Int) + off) = true) (hpT : ((pc : Int) + off).toNat = pcT) (hpF : pc + 3 = pcF)
    (nT : GQ X M kc ks pcT L S σ oT) (nF : GQ X M kc ks pcF L S σ oF) : GQ X M kc ks pc L (I y :: I x :: S) σ (if P then oF else oT) := by
  subst hpF
  refine GQ.br nF nT (fun h => h.tl.tl) (fun hA hx hc hS => ⟨fun q st => XS.icmpNo hA hx rfl (hb hc hd) rfl ?_ st, fun q st => XS.icmpYes hA hx rfl (pc0 := pc) rfl (hb hc hd) rfl ((hP hS.hd2 hS.hd).mpr q) (of_decide_eq_true ho) hpT st⟩)
  cases hh : if_icmp.holds cd (o32 x) (o32 y) with
  | false => rfl
  | true => exact absurd q ((hP hS.hd2 hS.hd).mp hh)
theorem h_eq (hx : InR x) (hy : InR y) : if_icmp.holds .eq (o32 x) (o32 y) = true ↔ x = y := by rw [← o_eq hx hy]; simp [if_icmp.holds]
theorem h_ne (hx : InR x) (hy : InR y) : if_icmp.holds .ne (o32 x) (o32 y) = true ↔ ¬ x = y := by rw [← o_eq hx hy]; simp [if_icmp.holds]
theorem h_lt (hx : InR x) (hy : InR y) : if_icmp.holds .lt (o32 x) (o32 y) = true ↔ x < y := by rw [← o_lt hx hy]; simp [if_icmp.holds]
theorem h_ge (hx : InR x) (hy : InR y) : if_icmp.holds .ge (o32 x) (o32 y) = true ↔ ¬ x < y := by rw [← o_le hy hx]; simp [if_icmp.holds]
theorem h_gt (hx : InR x) (hy : InR y) : if_icmp.holds .gt (o32 x) (o32 y) = true ↔ y < x := by rw [← o_lt hy hx]; simp [if_icmp.holds]
theorem h_le (hx : InR x) (hy : InR y) : if_icmp.holds .le (o32 x) (o32 y) = true ↔ ¬ y < x := by rw [← o_le hx hy]; simp [if_icmp.holds]
theorem h_if0 (cd : ClassFile.Cond) (x : Int) : ifCond.holds cd (o32 x) = if_icmp.holds cd (o32 x) (o32 0) := by cases cd <;> rfl
theorem GQ.ifT {P : Prop} [Decidable P] {cd : ClassFile.Cond} {off : Int} {pcT pcF : Nat} (hP : InR x → InR 0 → (if_icmp.holds cd (o32 x) (o32 0) = true ↔ P)) (hd : decode M.2.1 pc = .ok (.ifCond cd off, 3)) (ho : decide (0 ≤ (pc : Int) + off) = true) (hpT : ((pc : Int) + off).toNat = pcT) (hpF : pc + 3 = pcF)
    (nT : GQ X M kc ks pcT L S σ oT) (nF : GQ X M kc ks pcF L S σ oF) : GQ X M kc ks pc L (I x :: S) σ (if P then oT else oF) := by
  subst hpF
  have z0 : InR 0 := ⟨by omega, by omega⟩
  refine GQ.br nT nF (fun h => h.tl) (fun hA hx hc hS => ⟨fun q st => XS.ifYes hA hx rfl (pc0 := pc) rfl (hb hc hd) rfl ((h_if0 cd x).trans ((hP hS.hd z0).mpr q)) (of_decide_eq_true ho) hpT st, fun q st => XS.ifNo hA hx rfl (hb hc hd) rfl ?_ st⟩)
  rw [h_if0]
  cases hh : if_icmp.holds cd (o32 x) (o32 0) with
  | false => rfl
  | true => exact absurd ((hP hS.hd z0).mp hh) q
theorem GQ.ifF {P : Prop} [Decidable P] {cd : ClassFile.Cond} {off : Int} {pcT pcF : Nat} (hP : InR x → InR 0 → (if_icmp.holds cd (o32 x) (o32 0) = true ↔ ¬ P)) (hd : decode M.2.1 pc = .ok (.ifCond cd off, 3)) (ho : decide (0 ≤ (pc : Int) + off) = true) (hpT : ((pc : Int) + off).toNat = pcT) (hpF : pc + 3 = pcF)
    (nT : GQ X M kc ks pcT L S σ oT) (nF : GQ X M kc ks pcF L S σ oF) : GQ X M kc ks pc L (I x :: S) σ (if P then oF else oT) := by
  subst hpF
  have z0 : InR 0 := ⟨by omega, by omega⟩
  refine GQ.br nF nT (fun h => h.tl) (fun hA hx hc hS => ⟨fun q st => XS.ifNo hA hx rfl (hb hc hd) rfl ?_ st, fun q st => XS.ifYes hA hx rfl (pc0 := pc) rfl (hb hc hd) rfl ((h_if0 cd x).trans ((hP hS.hd z0).mpr q)) (of_decide_eq_true ho) hpT st⟩)
  rw [h_if0]
  cases hh : if_icmp.holds cd (o32 x) (o32 0) with
  | false => rfl
  | true => exact absurd q ((hP hS.hd z0).mp hh)
/-! returns -/
theorem GQ.out {v : Option AV} {z : Int} (hv : rval M.2.2.2.1 z = v) (hg : SOk S → ∀ w, v = some w → good w) (hn : M.2.2.2.1 = none → v = none)
    (h : ∀ {p : Program} {e : Env} {R : Room} {s : State} {m : MethodId} {args : Array Value} {below : List Frame} {meth : Method} {c : Code} {T : State} {locs : List Loc} {cells slots : Nat} {Ls : Array Slot} {fs : List Frame},
      Stand p X.1 e R s m args below meth c T locs cells slots → p.tables.exec = Jvm.exec → c.code = M.2.1 → meth.sig.returnType = M.2.2.2.1 → SOk S →
      (∀ (f : JFrame) (acts : List Action), f.method = m → f.locked = none → f.entered = [] → (doReturn e (T.setTop f) acts (v.map (cval X.cv))).1 = T.setFrames fs) → Steps p.tables e below (T.setTop (mkF m pc Ls (S.map (cval X.cv)))) (T.setFrames fs)) :
    GQ X M kc ks pc L S σ (some (z, σ)) := by
  subst hv
  intro z' σ' ho p e R s m args below meth c T locs cells slots Ls Y hx hZ hown hnm hby hml hrt hf hl hc hs hrep hL hS hLl hF
  cases ho
  exact ⟨T, locs, Y.more (Nat.le_add_right _ _) (Nat.le_add_right _ _), hrep, hF, hn, hg hS, fun fs hfs => h Y hx hby hrt hS hfs⟩
theorem GQ.ret (hr : M.2.2.2.1 = none) (hd : decode M.2.1 pc = .ok (.return_, 1)) : GQ X M kc ks pc L [] σ (some (0, σ)) :=
  GQ.out (v := none) (by rw [hr]; rfl) (fun _ w h => nomatch h) (fun _ => rfl) (fun Y hx hc hrt _ hfs => Y.returnOut hx (hrt.trans hr) (hb hc hd) hfs)
theorem GQ.iret (hr : M.2.2.2.1 = some .int) (hd : decode M.2.1 pc = .ok (.ireturn, 1)) : GQ X M kc ks pc L (I x :: S) σ (some (x, σ)) :=
  GQ.out (v := some (I x)) (by rw [hr]; rfl) (fun hS w h => by cases h; exact hS.hd) (fun h => by rw [hr] at h; cases h) (fun {p e R s m args below meth c T locs cells slots Ls fs} Y hx hc hrt _ hfs => by
    have hm' : T.vm.method? m = some meth := Y.method'
    have hret := hrt.trans hr
    have hd' := hb hc hd
    have hn : narrow .int (.int (o32 x)) = .int (o32 x) := rfl
    have hfs' : ∀ (f : JFrame) (acts : List Action), f.method = m → f.locked = none → f.entered = [] → (doReturn e (T.setTop f) acts (some (.int (o32 x)))).1 = T.setFrames fs := hfs
    show Steps p.tables e below (T.setTop { method := m, pc := pc, locals := Ls, stack := .int (o32 x) :: S.map (cval X.cv), locked := none }) _
    jvm_step Y.here [Y.here.top, hx, hd', hm', hret, hn]
    first | (intro acts; rw [hfs' _ acts rfl rfl rfl]) | rw [hfs' _ _ rfl rfl rfl]
    exact Steps.refl _)
theorem GQ.zret (hr : M.2.2.2.1 = some .boolean) (hd : decode M.2.1 pc = .ok (.ireturn, 1)) : GQ X M kc ks pc L (I x :: S) σ (some (i2z x, σ)) :=
  GQ.out (v := some (I (i2z x))) (by rw [hr]; rfl) (fun hS w h => by cases h; exact in_z x) (fun h => by rw [hr] at h; cases h) (fun {p e R s m args below meth c T locs cells slots Ls fs} Y hx hc hrt hS hfs => by
    have hm' : T.vm.method? m = some meth := Y.method'
    have hret := hrt.trans hr
    have hd' := hb hc hd
    have hn : narrow .boolean (.int (o32 x)) = .int (o32 (i2z x)) := by rw [e_i2z hS.hd]; rfl
    have hfs' : ∀ (f : JFrame) (acts : List Action), f.method = m → f.locked = none → f.entered = [] → (doReturn e (T.setTop f) acts (some (.int (o32 (i2z x))))).1 = T.setFrames fs := hfs
    show Steps p.tables e below (T.setTop { method := m, pc := pc, locals := Ls, stack := .int (o32 x) :: S.map (cval X.cv), locked := none }) _
    jvm_step Y.here [Y.here.top, hx, hd', hm', hret, hn]
    first | (intro acts; rw [hfs' _ acts rfl rfl rfl]) | rw [hfs' _ _ rfl rfl rfl]
    exact Steps.refl _)
theorem GQ.lret (hr : M.2.2.2.1 = some .long) (hd : decode M.2.1 pc = .ok (.lreturn, 1)) : GQ X M kc ks pc L [J x] σ (some (x, σ)) :=
  GQ.out (v := some (J x)) (by rw [hr]; rfl) (fun hS w h => by cases h; exact hS.hd) (fun h => by rw [hr] at h; cases h) (fun Y hx hc hrt _ hfs => Y.lreturnOut hx (hrt.trans hr) (hb hc hd) hfs)
end Rules
/-! calls by contract -/
section Calls
variable {μ : Type} {X : Cx μ} {M Mc : Mi} {kc ks pc pc' : Nat} {L L' : List (Option AV)} {S S' : List AV} {σ σ1 : μ} {o oc : Option (Int × μ)} {x y z1 : Int} {a0 : Array Value}
def Rm (M : Mi) (kc ks : Nat) : Room := { frames := M.2.2.2.2.1, cells := kc, slots := ks, locals := M.2.2.2.2.2 }
theorem met_of {args0 : List AV} (H : GQ X M kc ks 0 (entry args0 M.2.2.1) [] σ o) (ho : o = some (z1, σ1)) (hpl : plainName M.1.cls = true) (hg : ∀ w ∈ args0, good w) (hm : (spread args0).length ≤ M.2.2.1) {h : Heap} (hr : X.rep σ h) (ws : List Jvm.Cond) (rm : Room)
    (h1 : M.2.2.2.2.1 ≤ rm.frames) (h2 : M.2.2.2.2.2 ≤ rm.locals) (h3 : kc ≤ rm.cells) (h4 : ks ≤ rm.slots) :
    MetFree X.1 M.1 (head1 (Jvm.Cond.code M.1 M.2.1 M.2.2.1 M.2.2.2.1 :: ws) rm) (fun a U => a = (args0.map (cval X.cv)).toArray ∧ X.2.1.Warmed39 U.vm ∧ U.heap = h) (fun _ _ _ _ _ => True)
      (fun _ U o U' => ∃ v L, o = .returned v ∧ (v = (rval M.2.2.2.1 z1).map (cval X.cv) ∧ X.rep σ1 U'.heap ∧ Fr X.2.2.1 L ∧ ∀ w, rval M.2.2.2.1 z1 = some w → good w) ∧ FrameEnd U o U' L kc ks) := by
  refine MetFree.of_bodySF (plainFor_of_name hpl) hisR ?_
  intro p e s m args below meth c s₁ Bd hml0 hP hK
  obtain ⟨rfl, hZ, hh⟩ := hP
  have Y0 := Stand.of_body Bd
  have e0 : s₁.heap = h := by rw [← hh, Bd.state]; rfl
  have hlen : (entry args0 M.2.2.1).length = M.2.2.1 := by simp only [entry, List.length_append, List.length_replicate]; omega
  obtain ⟨T', locs', Y', hr', hF', hv1, hv2, st⟩ := H z1 σ1 ho p e _ s m _ below meth c s₁ [] 0 0 _ Y0 Bd.exec hZ (findClass_of_methodNamed Bd.named) (name_of_methodNamed Bd.named Bd.method).1 Bd.bytes hml0 Bd.returns h1 h2 (by show 0 + kc ≤ rm.cells; omega) (by show 0 + ks ≤ rm.slots; omega) (by rw [e0]; exact hr) (entry_rel X.cv hg hm) (fun _ q => nomatch q) hlen (Fr.nil _)
  obtain ⟨fs, hret, hrun, hended, hW, hsame⟩ := Y'.leave (v := (rval M.2.2.2.1 z1).map (cval X.cv)) (fun q => by rw [hv1 (Bd.returns.symm.trans q)]; rfl)
  exact ⟨_, _, st fs hret, hrun, hended, _, _, rfl, ⟨rfl, hr', hF', hv2⟩, ⟨_, rfl⟩, hW, hsame.mono (by omega) (by omega)⟩
theorem back_of {args0 : List AV} (H : GQ X Mc kc ks 0 (entry args0 Mc.2.2.1) [] σ oc) (ho : oc = some (z1, σ1)) (hpl : plainName Mc.1.cls = true) (hg : ∀ w ∈ args0, good w) (hm : (spread args0).length ≤ Mc.2.2.1) {h : Heap} (hr : X.rep σ h)
    {s : State} (hZ : X.2.1.Warmed39 s.vm) (wc : (Jvm.Cond.code Mc.1 Mc.2.1 Mc.2.2.1 Mc.2.2.2.1).before a0 X.2.1 = true) (wz : (Jvm.Cond.initialized Mc.1.cls).before a0 X.2.1 = true) {R : Room} {W : Nat} (hf : Mc.2.2.2.2.1 + 1 ≤ R.frames) (hl : W + (Mc.2.2.1 + 11) + Mc.2.2.2.2.2 ≤ R.locals) {p : Program} {e : Env} {below : List Frame} {args : Array Value} {len : Nat} :
    Back X.1 R p e below s args Mc.1 len W (fun A a => a = (args0.map (cval X.cv)).toArray ∧ A.U.heap = h ∧ A.cells + kc ≤ R.cells ∧ A.slots + ks ≤ R.slots)
      (fun A _ v B => ∃ L, (v = (rval Mc.2.2.2.1 z1).map (cval X.cv) ∧ X.rep σ1 B.U.heap ∧ Fr X.2.2.1 L ∧ ∀ w, rval Mc.2.2.2.1 z1 = some w → good w) ∧ B.locs = A.locs ++ L ∧ B.cells = A.cells + kc ∧ B.slots = A.slots + ks) :=
  backOf (rm := Rm Mc kc ks) (Q := fun v h L => v = (rval Mc.2.2.2.1 z1).map (cval X.cv) ∧ X.rep σ1 h ∧ Fr X.2.2.1 L ∧ ∀ w, rval Mc.2.2.2.1 z1 = some w → good w) (as' := (args0.map (cval X.cv)).toArray) (met_of H ho hpl hg hm hr [] (Rm Mc kc ks) (Nat.le_refl _) (Nat.le_refl _) (Nat.le_refl _) (Nat.le_refl _)) hZ wc wz hf hl
def cat (S : List AV) : Nat := (S.map fun v => match v with | .inr (.inl _) => 2 | _ => 1).sum
theorem cat_eq (cv : Nat → Addr) (S : List AV) : ((S.map (cval cv)).map fun v => v.category).sum = cat S := by
  induction S with
  | nil => rfl
  | cons v r ih => rcases v with x | x | n <;> simp only [cat, List.map_cons, List.sum_cons] at ih ⊢ <;> rw [ih] <;> rfl
theorem SOk.app {A B : List AV} (h : SOk (A ++ B)) : SOk A ∧ SOk B := ⟨fun v hv => h v (List.mem_append_left _ hv), fun v hv => h v (List.mem_append_right _ hv)⟩
theorem SOk.res {v : Option AV} (h : ∀ w, v = some w → good w) (hS : SOk S) : SOk (v.toList ++ S) := by
  cases v with
  | none => exact hS
  | some w => exact SOk.cons (h w rfl) hS
/-- what is known of a callee, by its words -/
def Callee (a0 : Array Value) (Z : State) (M Mc : Mi) (na : Nat) : Prop :=
  plainName Mc.1.cls = true ∧ (Jvm.Cond.code Mc.1 Mc.2.1 Mc.2.2.1 Mc.2.2.2.1).before a0 Z = true ∧ (Jvm.Cond.initialized Mc.1.cls).before a0 Z = true ∧ Mc.2.2.2.2.1 + 1 ≤ M.2.2.2.2.1 ∧ (Mc.1.cls ≠ "java/lang/invoke/MethodHandle" ∧ Mc.1.cls ≠ "java/lang/invoke/VarHandle") ∧ (∀ sig, parseMethodDescriptor Mc.1.desc = some sig → na = sig.parameters.length)
theorem GQ.callP {idx nI r : Nat} {args0 : List AV} {f : Int → μ → Option (Int × μ)} (K : Callee a0 X.2.1 M Mc args0.length) (hroom0 : Nat.ble (cat S + (Mc.2.2.1 + 11) + Mc.2.2.2.2.2) M.2.2.2.2.2 = true) (hd : decode M.2.1 pc = .ok (.invokevirtual idx, 3)) (hp : pc + 3 = pc')
    (w1 : (Jvm.Cond.methodLink M.1.cls idx Mc.1).before a0 X.2.1 = true) (w2 : (Jvm.Cond.instanceMethod Mc.1).before a0 X.2.1 = true) (w3 : (Jvm.Cond.privateMethod Mc.1).before a0 X.2.1 = true) (w4 : (Jvm.Cond.instantiable Mc.1.cls nI).before a0 X.2.1 = true)
    (hrecv : ∀ h, X.rep σ h → ∃ cell, h[X.cv r]? = some cell ∧ ∀ q, cell.vm ≠ .statics q) (hm0 : Nat.ble (spread (Rf r :: args0)).length Mc.2.2.1 = true)
    (H : GQ X Mc 0 0 0 (entry (Rf r :: args0) Mc.2.2.1) [] σ oc) (hst : S' = args0.reverse ++ Rf r :: S) (nx : ∀ z σ1, GQ X M kc ks pc' L ((rval Mc.2.2.2.1 z).toList ++ S) σ1 (f z σ1)) : GQ X M kc ks pc L S' σ (cB oc f) := by
  intro z σ' ho p e R s m args below meth c T locs cells slots Ls Y hx hZ hown hnm hby hml hrt hf hl hc hs hrep hL hS hLl hF
  subst hst hp
  obtain ⟨k1, k2, k3, k4, k5, k6⟩ := K
  have hroom := Nat.le_of_ble_eq_true hroom0
  have hm := Nat.le_of_ble_eq_true hm0
  cases hoc : oc with
  | none => rw [hoc] at ho; exact nomatch ho
  | some q =>
    obtain ⟨z1, σ1⟩ := q
    rw [hoc] at ho H
    have hS0 := hS.app
    obtain ⟨cell, hc1, hc2⟩ := hrecv _ hrep
    have hg : ∀ w ∈ Rf r :: args0, good w := fun w hw => (List.mem_cons.mp hw).elim (fun q => q ▸ trivial) (fun q => hS0.1 w (List.mem_reverse.mpr q))
    have hpriv := Cond.privateMethod_at (mvP hZ w3 (args := #[]))
    have hsel : (Jvm.Cond.selects Mc.1.cls Mc.1 Mc.1).before args s = true := by
      obtain ⟨cc, kk, i1, i2, -, i4, -⟩ := Cond.instantiable_spec (mvT hZ w4 (args := #[]))
      exact selects_self_of_private i1 i2 (by simp at i4; exact i4.1) hpriv (mvT hZ w2) k5
    obtain ⟨v, vm1, ⟨T1, L1, c1, n1⟩, -, Y1, ⟨Lc, ⟨hv, hr1, hF1, hg1⟩, l1, l2, l3⟩, st⟩ := Y.privateBack hx (y := Mc.1) hown (mvT hZ w1) (mvT hZ w2) hsel hpriv (mvT hZ k2) k5
      (back_of (W := cat S) H rfl k1 hg hm hrep hZ k2 k3 (by omega) (by omega)) (g := mkF m pc Ls ((args0.reverse ++ Rf r :: S).map (cval X.cv))) rfl (by show Ls.size = _; rw [hL.1, hLl, hml]) (Steps.refl _) (a := X.cv r) hc1 hc2 (argsL := args0.map (cval X.cv)) (rest := S.map (cval X.cv)) (fun sig q => by rw [List.length_map]; exact k6 sig q) (by simp [cval]) (by show 2 * 0 + _ ≤ _; rw [cat_eq]; omega) (hb hby hd) (fun _ _ => ⟨rfl, rfl, by show cells + 0 ≤ _; omega, by show slots + 0 ≤ _; omega⟩)
    dsimp only [Pt.U, Pt.locs, Pt.cells, Pt.slots] at Y1 l1 l2 l3 st hr1
    subst l1 l2 l3 hv
    obtain ⟨T', locs', Y', hrep', hF', hv1, hv2, st'⟩ := nx z1 σ1 z σ' ho p e R s m args below meth c T1 _ _ _ Ls Y1 hx hZ hown hnm hby hml hrt hf hl hc hs hr1 hL (SOk.res hg1 hS0.2.tl) hLl (Fr.app hF hF1)
    refine ⟨T', locs', Y', hrep', hF', hv1, hv2, fun fs hfs => ?_⟩
    have q := st' fs hfs
    refine st.trans ?_
    have e1 : ((rval Mc.2.2.2.1 z1).toList ++ S).map (cval X.cv) = ((rval Mc.2.2.2.1 z1).map (cval X.cv)).toList ++ S.map (cval X.cv) := by cases rval Mc.2.2.2.1 z1 <;> simp
    rw [e1] at q; exact q
theorem GQ.callV {idx r : Nat} {args0 : List AV} {f : Int → μ → Option (Int × μ)} (K : Callee a0 X.2.1 M Mc args0.length) (hroom0 : Nat.ble (cat S + (Mc.2.2.1 + 11) + Mc.2.2.2.2.2) M.2.2.2.2.2 = true) (hd : decode M.2.1 pc = .ok (.invokevirtual idx, 3)) (hp : pc + 3 = pc')
    (w1 : (Jvm.Cond.methodLink M.1.cls idx Mc.1).before a0 X.2.1 = true) (w2 : (Jvm.Cond.instanceMethod Mc.1).before a0 X.2.1 = true) (w3 : (Jvm.Cond.declares Mc.1).before a0 X.2.1 = true) (w4 : (Jvm.Cond.selects Mc.1.cls Mc.1 Mc.1).before a0 X.2.1 = true)
    (hrecv : ∀ h, X.rep σ h → Exa X.2.1 h (X.cv r) Mc.1.cls) (hm0 : Nat.ble (spread (Rf r :: args0)).length Mc.2.2.1 = true)
    (H : GQ X Mc 0 0 0 (entry (Rf r :: args0) Mc.2.2.1) [] σ oc) (hst : S' = args0.reverse ++ Rf r :: S) (nx : ∀ z σ1, GQ X M kc ks pc' L ((rval Mc.2.2.2.1 z).toList ++ S) σ1 (f z σ1)) : GQ X M kc ks pc L S' σ (cB oc f) := by
  intro z σ' ho p e R s m args below meth c T locs cells slots Ls Y hx hZ hown hnm hby hml hrt hf hl hc hs hrep hL hS hLl hF
  subst hst hp
  obtain ⟨k1, k2, k3, k4, k5, k6⟩ := K
  have hroom := Nat.le_of_ble_eq_true hroom0
  have hm := Nat.le_of_ble_eq_true hm0
  cases hoc : oc with
  | none => rw [hoc] at ho; exact nomatch ho
  | some q =>
    obtain ⟨z1, σ1⟩ := q
    rw [hoc] at ho H
    have hS0 := hS.app
    have hg : ∀ w ∈ Rf r :: args0, good w := fun w hw => (List.mem_cons.mp hw).elim (fun q => q ▸ trivial) (fun q => hS0.1 w (List.mem_reverse.mpr q))
    obtain ⟨cq, kq, qa, qb, qc⟩ := isOf (T := T) hZ rfl (hrecv _ hrep)
    obtain ⟨v, vm1, ⟨T1, L1, c1, n1⟩, -, Y1, ⟨Lc, ⟨hv, hr1, hF1, hg1⟩, l1, l2, l3⟩, st⟩ := Y.virtualBack hx (y := Mc.1) (z := Mc.1) hown (mvT hZ w1) (mvT hZ w3) (notFace_of_selects (args := #[]) (mvT hZ w4)) (mvT hZ w4) (mvT hZ w2) k5
      (back_of (W := cat S) H rfl k1 hg hm hrep hZ k2 k3 (by omega) (by omega)) qa qc (g := mkF m pc Ls ((args0.reverse ++ Rf r :: S).map (cval X.cv))) rfl (by show Ls.size = _; rw [hL.1, hLl, hml]) (Steps.refl _) (argsL := args0.map (cval X.cv)) (rest := S.map (cval X.cv)) (fun sig q => by rw [List.length_map]; exact k6 sig q) (by simp [cval]) (by show 2 * 0 + _ ≤ _; rw [cat_eq]; omega) (hb hby hd) (fun _ _ => ⟨rfl, rfl, by show cells + 0 ≤ _; omega, by show slots + 0 ≤ _; omega⟩)
    dsimp only [Pt.U, Pt.locs, Pt.cells, Pt.slots] at Y1 l1 l2 l3 st hr1
    subst l1 l2 l3 hv
    obtain ⟨T', locs', Y', hrep', hF', hv1, hv2, st'⟩ := nx z1 σ1 z σ' ho p e R s m args below meth c T1 _ _ _ Ls Y1 hx hZ hown hnm hby hml hrt hf hl hc hs hr1 hL (SOk.res hg1 hS0.2.tl) hLl (Fr.app hF hF1)
    refine ⟨T', locs', Y', hrep', hF', hv1, hv2, fun fs hfs => ?_⟩
    have q := st' fs hfs
    refine st.trans ?_
    have e1 : ((rval Mc.2.2.2.1 z1).toList ++ S).map (cval X.cv) = ((rval Mc.2.2.2.1 z1).map (cval X.cv)).toList ++ S.map (cval X.cv) := by cases rval Mc.2.2.2.1 z1 <;> simp
    rw [e1] at q; exact q
theorem GQ.callS {idx : Nat} {args0 : List AV} {f : Int → μ → Option (Int × μ)} (K : Callee a0 X.2.1 M Mc args0.length) (hroom0 : Nat.ble (cat S + (Mc.2.2.1 + 11) + Mc.2.2.2.2.2) M.2.2.2.2.2 = true) (hd : decode M.2.1 pc = .ok (.invokestatic idx, 3)) (hp : pc + 3 = pc')
    (w1 : (Jvm.Cond.methodLink M.1.cls idx Mc.1).before a0 X.2.1 = true) (w2 : (Jvm.Cond.static Mc.1).before a0 X.2.1 = true) (hm0 : Nat.ble (spread args0).length Mc.2.2.1 = true)
    (H : GQ X Mc 0 0 0 (entry args0 Mc.2.2.1) [] σ oc) (hst : S' = args0.reverse ++ S) (nx : ∀ z σ1, GQ X M kc ks pc' L ((rval Mc.2.2.2.1 z).toList ++ S) σ1 (f z σ1)) : GQ X M kc ks pc L S' σ (cB oc f) := by
  intro z σ' ho p e R s m args below meth c T locs cells slots Ls Y hx hZ hown hnm hby hml hrt hf hl hc hs hrep hL hS hLl hF
  subst hst hp
  obtain ⟨k1, k2, k3, k4, k5, k6⟩ := K
  have hroom := Nat.le_of_ble_eq_true hroom0
  have hm := Nat.le_of_ble_eq_true hm0
  cases hoc : oc with
  | none => rw [hoc] at ho; exact nomatch ho
  | some q =>
    obtain ⟨z1, σ1⟩ := q
    rw [hoc] at ho H
    have hS0 := hS.app
    have hg : ∀ w ∈ args0, good w := fun w hw => hS0.1 w (List.mem_reverse.mpr hw)
    obtain ⟨v, vm1, ⟨T1, L1, c1, n1⟩, -, Y1, ⟨Lc, ⟨hv, hr1, hF1, hg1⟩, l1, l2, l3⟩, st⟩ := Jvm.LawKit.callS Y hx (y := Mc.1) hown (mvT hZ w1) (mvT hZ w2) (mvT hZ k3) (mvT hZ k2) k5
      (back_of (W := cat S) H rfl k1 hg hm hrep hZ k2 k3 (by omega) (by omega)) (g := mkF m pc Ls ((args0.reverse ++ S).map (cval X.cv))) rfl (by show Ls.size = _; rw [hL.1, hLl, hml]) (argsL := args0.map (cval X.cv)) (rest := S.map (cval X.cv)) (fun sig q => by rw [List.length_map]; exact k6 sig q) (by simp [cval]) (by show 2 * 0 + _ ≤ _; rw [cat_eq]; omega) (hb hby hd) (fun _ _ => ⟨rfl, rfl, by show cells + 0 ≤ _; omega, by show slots + 0 ≤ _; omega⟩)
    dsimp only [Pt.U, Pt.locs, Pt.cells, Pt.slots] at Y1 l1 l2 l3 st hr1
    subst l1 l2 l3 hv
    obtain ⟨T', locs', Y', hrep', hF', hv1, hv2, st'⟩ := nx z1 σ1 z σ' ho p e R s m args below meth c T1 _ _ _ Ls Y1 hx hZ hown hnm hby hml hrt hf hl hc hs hr1 hL (SOk.res hg1 hS0.2) hLl (Fr.app hF hF1)
    refine ⟨T', locs', Y', hrep', hF', hv1, hv2, fun fs hfs => ?_⟩
    have q := st' fs hfs
    refine st _ ?_
    have e1 : ((rval Mc.2.2.2.1 z1).toList ++ S).map (cval X.cv) = ((rval Mc.2.2.2.1 z1).map (cval X.cv)).toList ++ S.map (cval X.cv) := by cases rval Mc.2.2.2.1 z1 <;> simp
    rw [e1] at q; exact q
end Calls
section Ldc
variable {μ : Type} {X : Cx μ} {M Mc : Mi} {kc ks pc pc' : Nat} {L L' : List (Option AV)} {S S' : List AV} {σ σ1 : μ} {o oc : Option (Int × μ)} {x y z1 : Int} {a0 : Array Value}
/-- a step that needs the tables or the heap -/
theorem GQ.heap {σ1 : μ} (nx : GQ X M kc ks pc' L S' σ1 o)
    (h : ∀ {p : Program} {e : Env} {R : Room} {s : State} {m : MethodId} {args : Array Value} {below : List Frame} {meth : Method} {c : Code} {T : State} {locs : List Loc} {cells slots : Nat} {Ls : Array Slot},
      Stand p X.1 e R s m args below meth c T locs cells slots → p.tables.exec = Jvm.exec → X.2.1.Warmed39 s.vm → s.vm.findClass M.1.cls = some m.cls → meth.name = M.1.name → c.code = M.2.1 → X.rep σ T.heap → SOk S → Fr X.2.2.1 locs →
      ∃ (T1 : State) (locs1 : List Loc), Stand p X.1 e R s m args below meth c T1 locs1 cells slots ∧ X.rep σ1 T1.heap ∧ SOk S' ∧ Fr X.2.2.1 locs1 ∧
        ∀ target, Steps p.tables e below (T1.setTop (mkF m pc' Ls (S'.map (cval X.cv)))) target → Steps p.tables e below (T.setTop (mkF m pc Ls (S.map (cval X.cv)))) target) : GQ X M kc ks pc L S σ o := by
  intro z σ' ho p e R s m args below meth c T locs cells slots Ls Y hx hZ hown hnm hby hml hrt hf hl hc hs hrep hL hS hLl hF
  obtain ⟨T1, locs1, Y1, hr1, hS1, hF1, st⟩ := h (Ls := Ls) Y hx hZ hown hnm hby hrep hS hF
  obtain ⟨T', locs', Y', hrep', hF', hv1, hv2, st'⟩ := nx z σ' ho p e R s m args below meth c T1 locs1 cells slots Ls Y1 hx hZ hown hnm hby hml hrt hf hl hc hs hr1 hL hS1 hLl hF1
  exact ⟨T', locs', Y', hrep', hF', hv1, hv2, fun fs hfs => st _ (st' fs hfs)⟩
theorem GQ.ldc {idx : Nat} {i : Int} {v : Int32} (hd : decode M.2.1 pc = .ok (.ldc idx, 2)) (w : (Jvm.Cond.constant M.1.cls idx v).before a0 X.2.1 = true) (hi : v.toInt = i) (hp : pc + 2 = pc') (nx : GQ X M kc ks pc' L (I i :: S) σ o) : GQ X M kc ks pc L S σ o := by
  subst hp hi
  refine GQ.heap nx (fun {p e R s m args below meth c T locs cells slots Ls} Y hx hZ hown hnm hby hr hS hF => ⟨T, locs, Y, hr, hS.cons (r32 v), hF, fun t st => ?_⟩)
  have w' : (Jvm.Cond.constant M.1.cls idx v).before args s = true := mvT hZ w
  have q := Y.ldcInt hx hown w' (g := mkF m pc Ls (S.map (cval X.cv))) rfl (hb hby hd) t
  have e1 : cval X.cv (I v.toInt) = Value.int v := congrArg Value.int (o32_t v)
  rw [List.map_cons, e1] at st
  exact q st
theorem GQ.ldc2 {idx : Nat} {i : Int} {v : Int64} (hd : decode M.2.1 pc = .ok (.ldc2_w idx, 3)) (w : (Jvm.Cond.constantLong M.1.cls idx v).before a0 X.2.1 = true) (hi : v.toInt = i) (hp : pc + 3 = pc') (nx : GQ X M kc ks pc' L (J i :: S) σ o) : GQ X M kc ks pc L S σ o := by
  subst hp hi
  refine GQ.heap nx (fun {p e R s m args below meth c T locs cells slots Ls} Y hx hZ hown hnm hby hr hS hF => ⟨T, locs, Y, hr, hS.cons (r64 v), hF, fun t st => ?_⟩)
  have w' : (Jvm.Cond.constantLong M.1.cls idx v).before args s = true := mvT hZ w
  have q := Y.ldc2Long hx hown w' (g := mkF m pc Ls (S.map (cval X.cv))) rfl (hb hby hd) t
  have e1 : cval X.cv (J v.toInt) = Value.long v := congrArg Value.long (o64_t v)
  rw [List.map_cons, e1] at st
  exact q st
end Ldc
/-! an object of the project's class: its plain fields and its arrays -/
abbrev Obj : Type := (Nat → Int) × (Nat → Nat → Int)
abbrev Fe : Type := String × String × FieldType × Nat
def upd {α : Type} (f : Nat → α) (k : Nat) (v : α) : Nat → α := fun j => if j = k then v else f j
theorem upd_same {α : Type} (f : Nat → α) (k : Nat) (v : α) : upd f k v k = v := if_pos rfl
theorem upd_ne {α : Type} (f : Nat → α) {k j : Nat} (v : α) (h : j ≠ k) : upd f k v j = f j := if_neg h
def setF (σ : Obj) (k : Nat) (v : Int) : Obj := (upd σ.1 k v, σ.2)
def setA (σ : Obj) (k i : Nat) (v : Int) : Obj := (σ.1, upd σ.2 k (upd (σ.2 k) i v))
def fitI (ty : FieldType) (x : Int) : Prop := match ty with
  | .boolean => x = 0 ∨ x = 1
  | .byte => -128 ≤ x ∧ x ≤ 127
  | .char => 0 ≤ x ∧ x ≤ 65535
  | .int => InR x
  | _ => False
def nrw (ty : FieldType) (x : Int) : Int := match ty with
  | .boolean => i2z x
  | .byte => i2b x
  | .char => i2c x
  | _ => x
def intK (ty : FieldType) : Bool := match ty with
  | .boolean | .byte | .char | .int => true
  | _ => false
theorem fitI_in {ty : FieldType} {x : Int} (h : fitI ty x) : InR x := by
  cases ty <;> simp only [fitI] at h <;> first | exact h.elim | exact h | (unfold InR; omega)
theorem fit_nrw {ty : FieldType} (ht : intK ty = true) {x : Int} (hx : InR x) : fitI ty (nrw ty x) := by
  cases ty <;> simp only [intK] at ht <;> first | cases ht | skip
  all_goals simp only [fitI, nrw, i2z, i2b, i2c] <;> first | exact hx | omega
theorem narrow_nrw {ty : FieldType} (ht : intK ty = true) {x : Int} (hx : InR x) : narrow ty (.int (o32 x)) = .int (o32 (nrw ty x)) := by
  cases ty <;> simp only [intK] at ht <;> first | cases ht | skip
  all_goals first | rfl | (simp only [nrw, e_i2z hx]; rfl) | (simp only [nrw, e_i2b hx]; rfl) | (simp only [nrw, e_i2c hx]; rfl)
theorem nar_nrw {ty : FieldType} (ht : intK ty = true) {x : Int} (hx : InR x) : nar ty (o32 x) = o32 (nrw ty x) := by
  cases ty <;> simp only [intK] at ht <;> first | cases ht | skip
  all_goals first | (simp only [nrw, nar, e_i2z hx]; done) | (simp only [nrw, nar, e_i2b hx]; done) | (simp only [nrw, nar, e_i2c hx]; done) | rfl
theorem fits_of {ty : FieldType} {x : Int} (h : fitI ty x) : fits ty (.int (o32 x)) = true := by
  have hx := fitI_in h
  cases ty <;> simp only [fitI] at h <;> first | exact h.elim | skip
  all_goals first | rfl | (rcases h with rfl | rfl <;> decide) | skip
  all_goals
    simp only [fits, Bool.and_eq_true, decide_eq_true_eq, Int32.le_iff_toInt_le, t32i hx]
    exact h
/-- the words on the class -/
def CA (a0 : Array Value) (Z : State) (C : String) (nI : Nat) (F : List (Option Fe)) : Prop :=
  (∀ (k : Nat) (e : Fe), F[k]? = some (some e) → Laid Z a0 C C e.1 e.2.1 ∧ intK e.2.2.1 = true ∧ parseFieldDescriptor e.2.1 = some (if e.2.2.2 = 0 then e.2.2.1 else .array e.2.2.1)) ∧
  (∀ (k k' : Nat) (e e' : Fe), F[k]? = some (some e) → F[k']? = some (some e') → e.1 = e'.1 → k = k') ∧ (Jvm.Cond.instantiable C nI).before a0 Z = true
def okJ (F : List (Option Fe)) (j : Nat) : Prop := j = 0 ∨ ∃ (k : Nat) (e : Fe), j = k + 1 ∧ F[k]? = some (some e) ∧ 0 < e.2.2.2
def Inj (F : List (Option Fe)) (cv : Nat → Addr) : Prop := ∀ j j', okJ F j → okJ F j' → cv j = cv j' → j = j'
def ARep (Z : State) (h : Heap) (a : Addr) (ty : FieldType) (len : Nat) (f : Nat → Int) : Prop := ∃ c, Arr Z h a c ty ∧ c.slots.size = len ∧ ∀ i, i < len → c.slots[i]? = some (.int (o32 (f i))) ∧ fitI ty (f i)
def ORep (Z : State) (C : String) (F : List (Option Fe)) (cv : Nat → Addr) (σ : Obj) (h : Heap) : Prop :=
  Exa Z h (cv 0) C ∧ ∀ (k : Nat) (e : Fe), F[k]? = some (some e) → (e.2.2.2 = 0 → Fld Z h (cv 0) C e.1 e.2.1 (.int (o32 (σ.1 k))) ∧ fitI e.2.2.1 (σ.1 k)) ∧ (0 < e.2.2.2 → Fld Z h (cv 0) C e.1 e.2.1 (.ref (cv (k + 1))) ∧ ARep Z h (cv (k + 1)) e.2.2.1 e.2.2.2 (σ.2 k))
def wsOf (F : List (Option Fe)) (cv : Nat → Addr) : List Addr := (List.range (F.length + 1)).map cv
theorem ARep.other {Z : State} {h h' : Heap} {a b : Addr} {ty : FieldType} {len sl : Nat} {f : Nat → Int} {v : Value} (A : ARep Z h b ty len f) (W : Wr h h' a sl v) (ne : b ≠ a) : ARep Z h' b ty len f := by
  obtain ⟨c, h1, h2⟩ := A; exact ⟨c, h1.other W ne, h2⟩
theorem ARep.set {Z : State} {h h' : Heap} {a : Addr} {ty : FieldType} {len i : Nat} {f : Nat → Int} {x : Int} (A : ARep Z h a ty len f) (W : Wr h h' a i (.int (o32 x))) (hx : fitI ty x) : ARep Z h' a ty len (upd f i x) := by
  obtain ⟨c, h1, h2, h3⟩ := A
  refine ⟨_, h1.same W, by simp [Cell.setSlot, h2], fun j hj => ?_⟩
  by_cases e : j = i
  · subst e; simp [Cell.setSlot, upd_same, hx, h2, hj]
  · rw [upd_ne f x e]
    exact ⟨by rw [← (h3 j hj).1]; exact Array.getElem?_setIfInBounds_ne (Ne.symm e), (h3 j hj).2⟩
section Mem
variable {Z : State} {C : String} {F : List (Option Fe)} {cv : Nat → Addr} {σ : Obj} {h h' : Heap} {a0 : Array Value} {nI : Nat}
theorem okJ.arr {k : Nat} {e : Fe} (hF : F[k]? = some (some e)) (hl : 0 < e.2.2.2) : okJ F (k + 1) := Or.inr ⟨k, e, rfl, hF, hl⟩
theorem okJ.mem {j : Nat} (hj : okJ F j) : cv j ∈ wsOf F cv := by
  refine List.mem_map.mpr ⟨j, List.mem_range.mpr ?_, rfl⟩
  rcases hj with rfl | ⟨k, e, rfl, hF, -⟩
  · omega
  · have := (List.getElem?_eq_some_iff.mp hF).1; omega
theorem ORep.putF (R : ORep Z C F cv σ h) (hI : Inj F cv) (K : CA a0 Z C nI F) {k : Nat} {e : Fe} (hF : F[k]? = some (some e)) (hl : e.2.2.2 = 0) {x : Int} (hx : fitI e.2.2.1 x) (W : Wr h h' (cv 0) (Jvm.RoadKit.slotOf Z C e.1 e.2.1) (.int (o32 x))) : ORep Z C F cv (setF σ k x) h' := by
  refine ⟨R.1.wr W, fun j e' hF' => ⟨fun hl' => ?_, fun hl' => ?_⟩⟩
  · obtain ⟨q1, q2⟩ := (R.2 j e' hF').1 hl'
    by_cases ej : j = k
    · subst ej
      cases hF.symm.trans hF'
      show Fld Z h' (cv 0) C e.1 e.2.1 (.int (o32 (upd σ.1 j x j))) ∧ fitI e.2.2.1 (upd σ.1 j x j)
      rw [upd_same]; exact ⟨q1.same W, hx⟩
    · show Fld Z h' (cv 0) C e'.1 e'.2.1 (.int (o32 (upd σ.1 k x j))) ∧ fitI e'.2.2.1 (upd σ.1 k x j)
      rw [upd_ne _ _ ej]
      exact ⟨q1.other W (Or.inr (slot_ne (K.1 j e' hF').1 (K.1 k e hF).1 (fun q => ej (K.2.1 j k e' e hF' hF q)) (K.1 j e' hF').2.2 (K.1 k e hF).2.2)), q2⟩
  · obtain ⟨q1, q2⟩ := (R.2 j e' hF').2 hl'
    have ej : j ≠ k := fun q => by subst q; cases hF.symm.trans hF'; omega
    exact ⟨q1.other W (Or.inr (slot_ne (K.1 j e' hF').1 (K.1 k e hF).1 (fun q => ej (K.2.1 j k e' e hF' hF q)) (K.1 j e' hF').2.2 (K.1 k e hF).2.2)), q2.other W (fun q => by have := hI _ _ (okJ.arr hF' hl') (Or.inl rfl) q; omega)⟩
theorem ORep.putA (R : ORep Z C F cv σ h) (hI : Inj F cv) {k i : Nat} {e : Fe} (hF : F[k]? = some (some e)) (hl : 0 < e.2.2.2) {x : Int} (hx : fitI e.2.2.1 x) (W : Wr h h' (cv (k + 1)) i (.int (o32 x))) : ORep Z C F cv (setA σ k i x) h' := by
  have n0 : cv 0 ≠ cv (k + 1) := fun q => by have := hI _ _ (Or.inl rfl) (okJ.arr hF hl) q; omega
  refine ⟨R.1.wr W, fun j e' hF' => ⟨fun hl' => ?_, fun hl' => ?_⟩⟩
  · obtain ⟨q1, q2⟩ := (R.2 j e' hF').1 hl'
    exact ⟨q1.other W (Or.inl n0), q2⟩
  · obtain ⟨q1, q2⟩ := (R.2 j e' hF').2 hl'
    refine ⟨q1.other W (Or.inl n0), ?_⟩
    by_cases ej : j = k
    · subst ej
      cases hF.symm.trans hF'
      show ARep Z h' (cv (j + 1)) e.2.2.1 e.2.2.2 (upd σ.2 j (upd (σ.2 j) i x) j)
      rw [upd_same]; exact q2.set W hx
    · show ARep Z h' (cv (j + 1)) e'.2.2.1 e'.2.2.2 (upd σ.2 k (upd (σ.2 k) i x) j)
      rw [upd_ne _ _ ej]
      exact q2.other W (fun q => by have := hI _ _ (okJ.arr hF' hl') (okJ.arr hF hl) q; omega)
theorem ORep.keep {ws : List Addr} (R : ORep Z C F cv σ h) (K : Keep h h' ws) (hn : ∀ j, okJ F j → cv j ∉ ws) : ORep Z C F cv σ h' := by
  refine ⟨R.1.keep K, fun j e' hF' => ⟨fun hl' => ?_, fun hl' => ?_⟩⟩
  · obtain ⟨q1, q2⟩ := (R.2 j e' hF').1 hl'
    exact ⟨q1.keep K (hn 0 (Or.inl rfl)), q2⟩
  · obtain ⟨q1, c, q2, q3⟩ := (R.2 j e' hF').2 hl'
    exact ⟨q1.keep K (hn 0 (Or.inl rfl)), c, ⟨K.2.1 _ c q2.1 (hn _ (okJ.arr hF' hl')), q2.2⟩, q3⟩
end Mem
/-- a method of the project's class at work on its own object -/
def XA (l : Launch) (Z : State) (n0 : Nat) (C : String) (F : List (Option Fe)) (cv : Nat → Addr) (h0 : Heap) : Cx Obj := (l, Z, n0, cv, fun σ h => ORep Z C F cv σ h ∧ Keep h0 h (wsOf F cv) ∧ h.size = h0.size)
/-- what every walk of such a method knows -/
def KA (a0 : Array Value) (Z : State) (n0 : Nat) (C : String) (nI : Nat) (F : List (Option Fe)) (cv : Nat → Addr) : Prop := CA a0 Z C nI F ∧ Inj F cv ∧ ∀ j, n0 ≤ cv j
def rB (f : Nat → Int) (len : Nat) (i : Int) (g : Int → Option α) : Option α := if 0 ≤ i ∧ i < len then g (f i.toNat) else none
def wB (σ : Obj) (k len : Nat) (i v : Int) (g : Obj → Option α) : Option α := if 0 ≤ i ∧ i < len then g (setA σ k i.toNat v) else none
section MemRules
variable {l : Launch} {Z : State} {n0 : Nat} {C : String} {F : List (Option Fe)} {cv : Nat → Addr} {h0 : Heap} {M : Mi} {kc ks pc pc' idx k nI : Nat} {L L' : List (Option AV)} {S S' : List AV} {σ : Obj} {o : Option (Int × Obj)} {x y i : Int} {a0 : Array Value} {n d : String} {ty : FieldType} {len : Nat}
theorem GQ.getI (hF : F[k]? = some (some (n, d, ty, 0))) (w : (Jvm.Cond.fieldLink M.1.cls idx C n d).before a0 Z = true) (hd : decode M.2.1 pc = .ok (.getfield idx, 3)) (hp : pc + 3 = pc')
    (nx : GQ (XA l Z n0 C F cv h0) M kc ks pc' L (I (σ.1 k) :: S) σ o) : GQ (XA l Z n0 C F cv h0) M kc ks pc L (Rf 0 :: S) σ o := by
  subst hp
  refine GQ.heap nx (fun {p e R s m args below meth c T locs cells slots Ls} Y hx hZ hown hnm hby hr hS hF' => ?_)
  obtain ⟨q1, q2⟩ := (hr.1.2 k _ hF).1 rfl
  obtain ⟨T1, Y1, e1, st⟩ := getF Y hx hZ hown (host := "") (Or.inl w) Via.refl rfl q1 (g := mkF m pc Ls ((Rf 0 :: S).map (cval cv))) rfl rfl (hb hby hd)
  exact ⟨T1, locs, Y1, by rw [e1]; exact hr, hS.tl.cons (fitI_in q2), hF', st⟩
theorem GQ.getA (hF : F[k]? = some (some (n, d, ty, len))) (hl : 0 < len) (w : (Jvm.Cond.fieldLink M.1.cls idx C n d).before a0 Z = true) (hd : decode M.2.1 pc = .ok (.getfield idx, 3)) (hp : pc + 3 = pc')
    (nx : GQ (XA l Z n0 C F cv h0) M kc ks pc' L (Rf (k + 1) :: S) σ o) : GQ (XA l Z n0 C F cv h0) M kc ks pc L (Rf 0 :: S) σ o := by
  subst hp
  refine GQ.heap nx (fun {p e R s m args below meth c T locs cells slots Ls} Y hx hZ hown hnm hby hr hS hF' => ?_)
  obtain ⟨q1, q2⟩ := (hr.1.2 k _ hF).2 hl
  obtain ⟨T1, Y1, e1, st⟩ := getF Y hx hZ hown (host := "") (Or.inl w) Via.refl rfl q1 (g := mkF m pc Ls ((Rf 0 :: S).map (cval cv))) rfl rfl (hb hby hd)
  exact ⟨T1, locs, Y1, by rw [e1]; exact hr, hS.tl.cons trivial, hF', st⟩
theorem GQ.putI (K : KA a0 Z n0 C nI F cv) (hF : F[k]? = some (some (n, d, ty, 0))) (w : (Jvm.Cond.fieldLink M.1.cls idx C n d).before a0 Z = true) (wl : (Jvm.Cond.lays C C n d).before a0 Z = true) (hd : decode M.2.1 pc = .ok (.putfield idx, 3)) (hp : pc + 3 = pc')
    (nx : GQ (XA l Z n0 C F cv h0) M kc ks pc' L S (setF σ k (nrw ty x)) o) : GQ (XA l Z n0 C F cv h0) M kc ks pc L (I x :: Rf 0 :: S) σ o := by
  subst hp
  refine GQ.heap nx (fun {p e R s m args below meth c T locs cells slots Ls} Y hx hZ hown hnm hby hr hS hF' => ?_)
  obtain ⟨⟨K1, K2, K3⟩, hI, hn⟩ := K
  obtain ⟨q1, q2⟩ := (hr.1.2 k _ hF).1 rfl
  obtain ⟨c1, c2, c3⟩ := K1 k _ hF
  have hxx : InR x := hS.hd
  obtain ⟨T1, h1, Y1, e1, W1, st⟩ := putFN Y hx hZ hown w Via.refl rfl q1 hr.1.1 (Or.inl wl) K3 (ty := ty) c3 (narrow_nrw c2 hxx) (fits_of (fit_nrw c2 hxx)) (g := mkF m pc Ls ((I x :: Rf 0 :: S).map (cval cv))) rfl rfl (hb hby hd)
  exact ⟨T1, _, Y1, by rw [e1]; exact ⟨hr.1.putF hI ⟨K1, K2, K3⟩ hF rfl (fit_nrw c2 hxx) W1, hr.2.1.wr W1 (Or.inl (okJ.mem (Or.inl rfl))), W1.size.trans hr.2.2⟩, hS.tl.tl, Fr.snoc Y1 hF' (hn 0), st⟩
theorem i_in {i : Int} (hi : InR i) {cs : Nat} (h : 0 ≤ i ∧ i < cs) : (¬ (o32 i < 0 ∨ cs ≤ (o32 i).toNatClampNeg)) ∧ (o32 i).toNatClampNeg = i.toNat := by
  have e1 : (o32 i).toNatClampNeg = i.toNat := by simp only [Int32.toNatClampNeg, t32i hi]
  refine ⟨fun q => ?_, e1⟩
  rw [e1] at q
  rcases q with q | q
  · have := Int32.lt_iff_toInt_lt.mp q; rw [t32i hi] at this; have e0 : (0 : Int32).toInt = 0 := rfl; omega
  · omega
theorem GQ.rd {ins : Instr} {g : Int → Option (Int × Obj)} (hF : F[k]? = some (some (n, d, ty, len))) (hl : 0 < len) (hi : (ins = .iaload ∧ ty = .int) ∨ (ins = .baload ∧ ty = .byte) ∨ (ins = .baload ∧ ty = .boolean) ∨ (ins = .caload ∧ ty = .char)) (hd : decode M.2.1 pc = .ok (ins, 1)) (hp : pc + 1 = pc')
    (nx : ∀ z, GQ (XA l Z n0 C F cv h0) M kc ks pc' L (I z :: S) σ (g z)) : GQ (XA l Z n0 C F cv h0) M kc ks pc L (I i :: Rf (k + 1) :: S) σ (rB (σ.2 k) len i g) := by
  subst hp
  unfold rB
  refine GQ.guard (fun hin => ?_)
  refine GQ.heap (nx _) (fun {p e R s m args below meth c T locs cells slots Ls} Y hx hZ hown hnm hby hr hS hF' => ?_)
  obtain ⟨-, cl, A, q3, q4⟩ := (hr.1.2 k _ hF).2 hl
  obtain ⟨j1, j2⟩ := i_in (cs := cl.slots.size) hS.hd (by rw [q3]; exact hin)
  obtain ⟨v1, v2⟩ := q4 i.toNat (by show i.toNat < len; omega)
  have v1 : cl.slots[(o32 i).toNatClampNeg]? = some (.int (o32 (σ.2 k i.toNat))) := by rw [j2]; exact v1
  have hA : ∀ t, ty = t → s.isArrayOf cl t := fun t e => e ▸ State.isArrayOf_alike hZ.alike A.2.1
  refine ⟨T, locs, Y, hr, hS.tl.tl.cons (fitI_in v2), hF', fun t st => ?_⟩
  have st' : Steps p.tables e below (T.setTop { (mkF m pc Ls ((I i :: Rf (k + 1) :: S).map (cval cv))) with pc := pc + 1, stack := .int (o32 (σ.2 k i.toNat)) :: S.map (cval cv) }) t := st
  rcases hi with ⟨rfl, rfl⟩ | ⟨rfl, rfl⟩ | ⟨rfl, rfl⟩ | ⟨rfl, rfl⟩
  · exact Y.iaload hx A.1 (hA _ rfl) A.2.2 j1 v1 (g := mkF m pc Ls ((I i :: Rf (k + 1) :: S).map (cval cv))) rfl rfl (hb hby hd) t st'
  · exact Y.baloadBytes hx A.1 (hA _ rfl) A.2.2 j1 v1 (g := mkF m pc Ls ((I i :: Rf (k + 1) :: S).map (cval cv))) rfl rfl (hb hby hd) t st'
  · exact Y.baloadBooleans hx A.1 (hA _ rfl) A.2.2 j1 v1 (g := mkF m pc Ls ((I i :: Rf (k + 1) :: S).map (cval cv))) rfl rfl (hb hby hd) t st'
  · exact Y.caload hx A.1 (hA _ rfl) A.2.2 j1 v1 (g := mkF m pc Ls ((I i :: Rf (k + 1) :: S).map (cval cv))) rfl rfl (hb hby hd) t st'
theorem GQ.wr {ins : Instr} {g : Obj → Option (Int × Obj)} (K : KA a0 Z n0 C nI F cv) (hF : F[k]? = some (some (n, d, ty, len))) (hl : 0 < len) (hi : (ins = .iastore ∧ ty = .int) ∨ (ins = .bastore ∧ ty = .byte) ∨ (ins = .bastore ∧ ty = .boolean) ∨ (ins = .castore ∧ ty = .char)) (hd : decode M.2.1 pc = .ok (ins, 1)) (hp : pc + 1 = pc')
    (nx : ∀ s, GQ (XA l Z n0 C F cv h0) M kc ks pc' L S s (g s)) : GQ (XA l Z n0 C F cv h0) M kc ks pc L (I x :: I i :: Rf (k + 1) :: S) σ (wB σ k len i (nrw ty x) g) := by
  subst hp
  unfold wB
  refine GQ.guard (fun hin => ?_)
  refine GQ.heap (nx _) (fun {p e R s m args below meth c T locs cells slots Ls} Y hx hZ hown hnm hby hr hS hF' => ?_)
  obtain ⟨⟨K1, K2, K3⟩, hI, hn⟩ := K
  obtain ⟨-, cl, A, q3, q4⟩ := (hr.1.2 k _ hF).2 hl
  obtain ⟨c1, c2, c3⟩ := K1 k _ hF
  have hxx : InR x := hS.hd
  obtain ⟨j1, j2⟩ := i_in (cs := cl.slots.size) hS.hd2 (by rw [q3]; exact hin)
  have fin : (∃ T' h', Stand p l e R s m args below meth c T' (locs ++ [⟨cv (k + 1), (o32 i).toNatClampNeg⟩]) cells slots ∧ T'.heap = h' ∧ Wr T.heap h' (cv (k + 1)) (o32 i).toNatClampNeg (.int (nar ty (o32 x))) ∧ ∀ target, Steps p.tables e below (T'.setTop { (mkF m pc Ls ((I x :: I i :: Rf (k + 1) :: S).map (cval cv))) with pc := pc + 1, stack := S.map (cval cv) }) target → Steps p.tables e below (T.setTop (mkF m pc Ls ((I x :: I i :: Rf (k + 1) :: S).map (cval cv)))) target) →
      ∃ (T1 : State) (locs1 : List Loc), Stand p l e R s m args below meth c T1 locs1 cells slots ∧ (XA l Z n0 C F cv h0).rep (setA σ k i.toNat (nrw ty x)) T1.heap ∧ SOk S ∧ Fr n0 locs1 ∧ ∀ target, Steps p.tables e below (T1.setTop (mkF m (pc + 1) Ls (S.map (cval cv)))) target → Steps p.tables e below (T.setTop (mkF m pc Ls ((I x :: I i :: Rf (k + 1) :: S).map (cval cv)))) target := by
    rintro ⟨T1, h1, Y1, e1, W1, st⟩
    rw [j2, nar_nrw c2 hxx] at W1
    exact ⟨T1, _, Y1, by rw [e1]; exact ⟨hr.1.putA hI hF hl (fit_nrw c2 hxx) W1, hr.2.1.wr W1 (Or.inl (okJ.mem (okJ.arr hF hl))), W1.size.trans hr.2.2⟩, hS.tl.tl.tl, Fr.snoc Y1 hF' (hn _), st⟩
  rcases hi with ⟨rfl, rfl⟩ | ⟨rfl, rfl⟩ | ⟨rfl, rfl⟩ | ⟨rfl, rfl⟩
  · exact fin (stI Y hx hZ rfl A j1 rfl rfl (hb hby hd))
  · exact fin (stB Y hx hZ rfl A j1 rfl rfl (hb hby hd))
  · exact fin (stZ Y hx hZ rfl A j1 rfl rfl (hb hby hd))
  · exact fin (stC Y hx hZ rfl A j1 rfl rfl (hb hby hd))
theorem GQ.lenA (hF : F[k]? = some (some (n, d, ty, len))) (hl : decide (0 < len ∧ len < 2147483648) = true) (hd : decode M.2.1 pc = .ok (.arraylength, 1)) (hp : pc + 1 = pc')
    (nx : GQ (XA l Z n0 C F cv h0) M kc ks pc' L (I (len : Int) :: S) σ o) : GQ (XA l Z n0 C F cv h0) M kc ks pc L (Rf (k + 1) :: S) σ o := by
  subst hp
  obtain ⟨hl1, hl2⟩ := of_decide_eq_true hl
  refine GQ.heap nx (fun {p e R s m args below meth c T locs cells slots Ls} Y hx hZ hown hnm hby hr hS hF' => ?_)
  obtain ⟨-, cl, A, q3, q4⟩ := (hr.1.2 k _ hF).2 hl1
  refine ⟨T, locs, Y, hr, hS.tl.cons (show InR (len : Int) from ⟨by omega, by omega⟩), hF', fun t st => ?_⟩
  refine Y.arraylength hx A.1 (State.isArrayOf_alike hZ.alike A.2.1) (g := mkF m pc Ls ((Rf (k + 1) :: S).map (cval cv))) rfl rfl (hb hby hd) t ?_
  have e1 : cl.slots.size.toInt32 = o32 (len : Int) := by rw [q3]; apply Int32.toInt_inj.mp; rw [len_toInt (by show len < 2 ^ 31; omega), t32i ⟨by omega, by omega⟩]
  rw [e1]; exact st
theorem XA.recv (h : Heap) (hr : (XA l Z n0 C F cv h0).rep σ h) : ∃ cell, h[(XA l Z n0 C F cv h0).cv 0]? = some cell ∧ ∀ q, cell.vm ≠ .statics q := hr.1.1.cell
theorem XA.exa (h : Heap) (hr : (XA l Z n0 C F cv h0).rep σ h) : Exa (XA l Z n0 C F cv h0).2.1 h ((XA l Z n0 C F cv h0).cv 0) C := hr.1.1
end MemRules
/-! the constructor: its field initialisers, then its body -/
def cvO (pos : Nat → Nat) (a : Nat) : Nat → Nat
  | 0 => a
  | k + 1 => a + 1 + pos k
abbrev PS : Type := (Nat → Int) × (Nat → Bool) × Nat
def IRep (Z : State) (C : String) (F : List (Option Fe)) (cv : Nat → Nat) (h0 : Heap) (q : PS) (h : Heap) : Prop :=
  Exa Z h (cv 0) C ∧ h.size = h0.size + q.2.2 ∧ Keep h0 h [cv 0] ∧ cv 0 < h0.size ∧ (∀ (k : Nat) (e : Fe), F[k]? = some (some e) → (e.2.2.2 = 0 → Fld Z h (cv 0) C e.1 e.2.1 (.int (o32 (q.1 k))) ∧ fitI e.2.2.1 (q.1 k)) ∧ (0 < e.2.2.2 → (q.2.1 k = true → Fld Z h (cv 0) C e.1 e.2.1 (.ref (cv (k + 1))) ∧ ARep Z h (cv (k + 1)) e.2.2.1 e.2.2.2 (fun _ => 0) ∧ h0.size ≤ cv (k + 1)) ∧ (q.2.1 k = false → Fld Z h (cv 0) C e.1 e.2.1 .null)))
def XP (l : Launch) (Z : State) (n0 : Nat) (C : String) (F : List (Option Fe)) (pos : Nat → Nat) (a : Nat) (h0 : Heap) (nA : Nat) : Cx (Sum PS Obj) :=
  (l, Z, n0, cvO pos a, fun q h => match q with
    | .inl q => IRep Z C F (cvO pos a) h0 q h
    | .inr σ => ORep Z C F (cvO pos a) σ h ∧ Keep h0 h [a] ∧ h.size = h0.size + nA)
theorem ARep.new {Z : State} {h : Heap} {a : Nat} {cA : ClassId} {ty : FieldType} {n : Int} (hi : intK ty = true) (A : Arr Z h a (newA cA ty (o32 n)) ty) (hn : 0 ≤ n) (hb : n < 2147483648) : ARep Z h a ty n.toNat (fun _ => 0) := by
  have e : (o32 n).toNatClampNeg = n.toNat := by simp only [Int32.toNatClampNeg, t32i (show InR n from ⟨by omega, hb⟩)]
  refine ⟨_, A, by rw [sz_new, e], fun i hi' => ⟨?_, ?_⟩⟩
  · have : (newA cA ty (o32 n)).slots[i]? = some (defaultValue ty) := by simp [newA, e, hi']
    rw [this]
    cases ty <;> first | rfl | (exact absurd hi (by decide)) | (simp [intK] at hi)
  · cases ty <;> first | (exact Or.inl rfl) | (simp only [fitI, InR]; omega) | (simp [intK] at hi)
theorem ARep.ext {Z : State} {h h' : Heap} {a : Nat} {ty : FieldType} {len : Nat} {f : Nat → Int} (E : Ext h h') (A : ARep Z h a ty len f) : ARep Z h' a ty len f := by
  obtain ⟨c, h1, h2⟩ := A; exact ⟨c, h1.ext E, h2⟩
section Init
variable {l : Launch} {Z : State} {n0 : Nat} {C : String} {F : List (Option Fe)} {pos : Nat → Nat} {a : Nat} {h0 : Heap} {nA : Nat} {M : Mi} {kc ks pc pc' idx k nI : Nat} {L L' : List (Option AV)} {S S' : List AV} {q : PS} {o : Option (Int × Sum PS Obj)} {x y i : Int} {a0 : Array Value} {n d : String} {ty : FieldType} {len : Nat}
theorem GQ.init0 (w1 : (Jvm.Cond.methodLink M.1.cls idx Lib.objectInit).before a0 Z = true) (w2 : (Jvm.Cond.instanceMethod Lib.objectInit).before a0 Z = true) (w3 : (Jvm.Cond.code Lib.objectInit ⟨#[0xb1]⟩ 1 none).before a0 Z = true) (hf : 1 ≤ M.2.2.2.2.1) (hl : 12 ≤ M.2.2.2.2.2) (hd : decode M.2.1 pc = .ok (.invokespecial idx, 3)) (hp : pc + 3 = pc') {σ : Sum PS Obj}
    (nx : GQ (XP l Z n0 C F pos a h0 nA) M kc ks pc' L [] σ o) : GQ (XP l Z n0 C F pos a h0 nA) M kc ks pc L [Rf 0] σ o := by
  intro z σ' ho p e R s m args below meth c T locs cells slots Ls Y hx hZ hown hnm hby hml hrt hf' hl' hc hs hrep hL hS hLl hF
  subst hp
  obtain ⟨T1, Y1, e1, st⟩ := initO Y hx hZ hown w1 w2 w3 rfl (g := mkF m pc Ls ([Rf 0].map (cval (cvO pos a)))) rfl (by show Ls.size = _; rw [hL.1, hLl, hml]) (a := a) (rest := []) rfl (hb hby hd) (by omega) (W := 0) (by show 2 * 0 + _ ≤ _; exact Nat.le_refl _) (by omega)
  obtain ⟨T', locs', Y', hrep', hF', hv1, hv2, st'⟩ := nx z σ' ho p e R s m args below meth c T1 locs cells slots Ls Y1 hx hZ hown hnm hby hml hrt hf' hl' hc hs (by rw [e1]; exact hrep) hL hS.tl hLl hF
  exact ⟨T', locs', Y', hrep', hF', hv1, hv2, fun fs hfs => st _ (st' fs hfs)⟩
theorem GQ.ini (K : CA a0 Z C nI F) (hn0 : n0 ≤ a) (hF : F[k]? = some (some (n, d, ty, 0))) (w : (Jvm.Cond.fieldLink M.1.cls idx C n d).before a0 Z = true) (wl : (Jvm.Cond.lays C C n d).before a0 Z = true ∨ ((Jvm.Cond.laysFinal C C n d).before a0 Z = true ∧ M.1.cls = C ∧ M.1.name = "<init>")) (hd : decode M.2.1 pc = .ok (.putfield idx, 3)) (hp : pc + 3 = pc')
    (nx : GQ (XP l Z n0 C F pos a h0 nA) M kc ks pc' L S (.inl (upd q.1 k (nrw ty x), q.2)) o) : GQ (XP l Z n0 C F pos a h0 nA) M kc ks pc L (I x :: Rf 0 :: S) (.inl q) o := by
  subst hp
  refine GQ.heap nx (fun {p e R s m args below meth c T locs cells slots Ls} Y hx hZ hown hnm hby hr hS hF' => ?_)
  obtain ⟨r1, r2, r3, r4, r5⟩ := hr
  have r4 : h0.size > cvO pos a 0 := r4
  obtain ⟨q1, q2⟩ := (r5 k _ hF).1 rfl
  obtain ⟨K1, K2, K3⟩ := K
  obtain ⟨c1, c2, c3⟩ := K1 k _ hF
  have hxx : InR x := hS.hd
  obtain ⟨T1, h1, Y1, e1, W1, st⟩ := putFN Y hx hZ hown w Via.refl rfl q1 r1 (wl.imp id fun g => ⟨g.1, g.2.1, hnm.trans g.2.2⟩) K3 (ty := ty) c3 (narrow_nrw c2 hxx) (fits_of (fit_nrw c2 hxx)) (g := mkF m pc Ls ((I x :: Rf 0 :: S).map (cval (cvO pos a)))) rfl rfl (hb hby hd)
  have ne : ∀ j, h0.size ≤ cvO pos a (j + 1) → cvO pos a (j + 1) ≠ cvO pos a 0 := fun j hj q => by rw [q] at hj; omega
  refine ⟨T1, _, Y1, ?_, hS.tl.tl, Fr.snoc Y1 hF' hn0, st⟩
  rw [e1]
  refine ⟨r1.wr W1, W1.size.trans r2, r3.wr W1 (Or.inl (List.mem_singleton.mpr rfl)), r4, fun j e' hj => ⟨fun hl' => ?_, fun hl' => ⟨fun ha => ?_, fun ha => ?_⟩⟩⟩
  · obtain ⟨p1, p2⟩ := (r5 j e' hj).1 hl'
    by_cases ej : j = k
    · subst ej
      cases hF.symm.trans hj
      show Fld Z h1 _ C n d (.int (o32 (upd q.1 j (nrw ty x) j))) ∧ fitI ty (upd q.1 j (nrw ty x) j)
      rw [upd_same]; exact ⟨p1.same W1, fit_nrw c2 hxx⟩
    · show Fld Z h1 _ C e'.1 e'.2.1 (.int (o32 (upd q.1 k (nrw ty x) j))) ∧ fitI e'.2.2.1 (upd q.1 k (nrw ty x) j)
      rw [upd_ne _ _ ej]
      exact ⟨p1.other W1 (Or.inr (slot_ne (K1 j e' hj).1 c1 (fun z => ej (K2 j k e' _ hj hF z)) (K1 j e' hj).2.2 c3)), p2⟩
  all_goals have ej : j ≠ k := fun z => by subst z; cases hF.symm.trans hj; exact absurd hl' (Nat.lt_irrefl 0)
  · obtain ⟨p1, p2, p3⟩ := ((r5 j e' hj).2 hl').1 ha
    exact ⟨p1.other W1 (Or.inr (slot_ne (K1 j e' hj).1 c1 (fun z => ej (K2 j k e' _ hj hF z)) (K1 j e' hj).2.2 c3)), p2.other W1 (ne j p3), p3⟩
  · exact (((r5 j e' hj).2 hl').2 ha).other W1 (Or.inr (slot_ne (K1 j e' hj).1 c1 (fun z => ej (K2 j k e' _ hj hF z)) (K1 j e' hj).2.2 c3))
theorem GQ.newA {aty : ArrayType} {pc1 : Nat} (K : CA a0 Z C nI F) (hn0 : n0 ≤ a) (hF : F[k]? = some (some (n, d, newarray.typeOf aty, x.toNat))) (hx0 : decide (0 < x ∧ x * 8 ≤ 536870912) = true) (hal : q.2.1 k = false) (hcv : h0.size = a + 1) (hpos : pos k = q.2.2) (wa : (Jvm.Cond.arrayClass (newarray.typeOf aty)).before a0 Z = true)
    (w : (Jvm.Cond.fieldLink M.1.cls idx C n d).before a0 Z = true) (wl : (Jvm.Cond.lays C C n d).before a0 Z = true ∨ ((Jvm.Cond.laysFinal C C n d).before a0 Z = true ∧ M.1.cls = C ∧ M.1.name = "<init>"))
    (hd : decode M.2.1 pc = .ok (.newarray aty, 2)) (hp1 : pc + 2 = pc1) (hd' : decode M.2.1 pc1 = .ok (.putfield idx, 3)) (hp : pc1 + 3 = pc')
    (nx : GQ (XP l Z n0 C F pos a h0 nA) M kc ks pc' L S (.inl (q.1, upd q.2.1 k true, q.2.2 + 1)) o) : GQ (XP l Z n0 C F pos a h0 nA) M (kc + 1) (ks + x.toNat) pc L (I x :: Rf 0 :: S) (.inl q) o := by
  subst hp hp1
  intro z σ' ho p e R s m args below meth c T locs cells slots Ls Y hx hZ hown hnm hby hml hrt hf' hl' hc hs hrep hL hS hLl hF'
  obtain ⟨r1, r2, r3, r4, r5⟩ := hrep
  have r2 : T.heap.size = h0.size + q.2.2 := r2
  have r4 : h0.size > cvO pos a 0 := r4
  obtain ⟨K1, K2, K3⟩ := K
  obtain ⟨c1, c2, c3⟩ := K1 k _ hF
  obtain ⟨x1, x2⟩ := of_decide_eq_true hx0
  have hxx : InR x := hS.hd
  have hxn : (o32 x).toNatClampNeg = x.toNat := by simp only [Int32.toNatClampNeg, t32i hxx]
  have hxneg : ¬ o32 x < 0 := fun q => by have := Int32.lt_iff_toInt_lt.mp q; rw [t32i hxx] at this; have e0 : (0 : Int32).toInt = 0 := rfl; omega
  have p0 := ((r5 k _ hF).2 (by show 0 < x.toNat; omega)).2 hal
  obtain ⟨cA, kA, comp, f1, f2, f3, Y1, st1⟩ := Y.newarrayPrim hx (mvA hZ wa) (g := mkF m pc Ls ((I x :: Rf 0 :: S).map (cval (cvO pos a)))) rfl (hb hby hd) (n := o32 x) (rest := (Rf 0 :: S).map (cval (cvO pos a))) rfl hxneg (Nat.le_trans (Nat.mul_le_mul (Nat.le_of_eq hxn) (show componentBytes (newarray.typeOf aty) ≤ 8 by cases aty <;> decide)) (by omega)) (by omega) (by omega)
  obtain ⟨h1, e1⟩ : ∃ h1, (T.pushCell { cls := cA, slots := Array.replicate (o32 x).toNatClampNeg (defaultValue (newarray.typeOf aty)), vm := .none }).heap = h1 := ⟨_, rfl⟩
  have e1' : h1 = T.heap.push (newA cA (newarray.typeOf aty) (o32 x)) := e1.symm
  have hk2 : h1.size = T.heap.size + 1 := by rw [e1']; simp
  have E1 : Ext T.heap h1 := ⟨by omega, fun b c hb => by rw [e1', Array.getElem?_push_lt (Array.getElem?_eq_some_iff.mp hb).1]; exact (Array.getElem?_eq_getElem _).symm.trans hb⟩
  have A1 : Arr Z h1 T.heap.size (newA cA (newarray.typeOf aty) (o32 x)) (newarray.typeOf aty) := by
    rw [hZ.alike.findClass] at f1
    obtain ⟨kZ, z1, -⟩ := Vm.findClass_spec f1
    obtain ⟨k', z2, z3⟩ := hZ.alike.2.2 _ _ z1
    cases f2.symm.trans z2
    exact ⟨by rw [e1']; simp, ⟨by simp [newA], kZ, z1, comp, by rw [← f3, z3]⟩, by simp [newA]⟩
  have hsz : T.heap.size = cvO pos a (k + 1) := by rw [r2, hcv, ← hpos]; rfl
  rw [hsz] at A1 st1
  have p0' : Fld Z h1 (cvO pos a 0) C n d .null := p0.ext E1
  have c3' : parseFieldDescriptor d = some (.array (newarray.typeOf aty)) := by
    have q0 : ¬ x.toNat = 0 := by omega
    simpa [q0] using c3
  obtain ⟨T2, h2, Y2, e2, W2, st2⟩ := putF Y1 hx hZ hown (host := "") (Or.inl w) Via.refl e1 p0' (r1.ext E1) (wl.imp id fun g => ⟨g.1, g.2.1, hnm.trans g.2.2⟩) K3 (ty := .array (newarray.typeOf aty)) c3' (v := .ref (cvO pos a (k + 1))) rfl rfl (g := mkF m (pc + 2) Ls (.ref (cvO pos a (k + 1)) :: (Rf 0 :: S).map (cval (cvO pos a)))) rfl rfl (hb hby hd')
  have nek : h0.size ≤ cvO pos a (k + 1) := by rw [← hsz]; omega
  have ne : ∀ j, h0.size ≤ cvO pos a (j + 1) → cvO pos a (j + 1) ≠ cvO pos a 0 := fun j hj q => by rw [q] at hj; omega
  have hrep2 : IRep Z C F (cvO pos a) h0 (q.1, upd q.2.1 k true, q.2.2 + 1) T2.heap := by
    rw [e2]
    refine ⟨(r1.ext E1).wr W2, by rw [W2.size, hk2, r2]; show _ = h0.size + (q.2.2 + 1); omega, (r3.ext E1).wr W2 (Or.inl (List.mem_singleton.mpr rfl)), r4, fun j e' hj => ⟨fun hl' => ?_, fun hl' => ⟨fun ha => ?_, fun ha => ?_⟩⟩⟩
    · obtain ⟨p1, p2⟩ := (r5 j e' hj).1 hl'
      have ej : j ≠ k := fun z => by subst z; cases hF.symm.trans hj; simp at hl'; omega
      exact ⟨(p1.ext E1).other W2 (Or.inr (slot_ne (K1 j e' hj).1 c1 (fun z => ej (K2 j k e' _ hj hF z)) (K1 j e' hj).2.2 c3)), p2⟩
    · by_cases ej : j = k
      · subst ej
        cases hF.symm.trans hj
        exact ⟨p0'.same W2, (ARep.new c2 A1 (by omega) (by omega)).other W2 (ne j nek), nek⟩
      · have ha' : q.2.1 j = true := by have : upd q.2.1 k true j = true := ha; rwa [upd_ne _ _ ej] at this
        obtain ⟨p1, p2, p3⟩ := ((r5 j e' hj).2 hl').1 ha'
        exact ⟨(p1.ext E1).other W2 (Or.inr (slot_ne (K1 j e' hj).1 c1 (fun z => ej (K2 j k e' _ hj hF z)) (K1 j e' hj).2.2 c3)), (p2.ext E1).other W2 (ne j p3), p3⟩
    · have ej : j ≠ k := fun z => by subst z; have : upd q.2.1 j true j = false := ha; rw [upd_same] at this; cases this
      have ha' : q.2.1 j = false := by have : upd q.2.1 k true j = false := ha; rwa [upd_ne _ _ ej] at this
      exact ((((r5 j e' hj).2 hl').2 ha').ext E1).other W2 (Or.inr (slot_ne (K1 j e' hj).1 c1 (fun z => ej (K2 j k e' _ hj hF z)) (K1 j e' hj).2.2 c3))
  obtain ⟨T', locs', Y', hrep', hF'', hv1, hv2, st'⟩ := nx z σ' ho p e R s m args below meth c T2 _ _ _ Ls Y2 hx hZ hown hnm hby hml hrt hf' hl' (by omega) (by omega) hrep2 hL hS.tl.tl hLl (Fr.snoc Y2 hF' hn0)
  refine ⟨T', locs', by rw [show cells + (kc + 1) = cells + 1 + kc by omega, show slots + (ks + x.toNat) = slots + (o32 x).toNatClampNeg + ks by omega]; exact Y', hrep', hF'', hv1, hv2, fun fs hfs => st1 _ (st2 _ (st' fs hfs))⟩
end Init
section Init2
variable {l : Launch} {Z : State} {n0 : Nat} {C : String} {F : List (Option Fe)} {pos : Nat → Nat} {a : Nat} {h0 : Heap} {nA : Nat} {M : Mi} {pc : Nat} {L : List (Option AV)} {S : List AV} {q : PS} {o : Option (Int × Obj)}
def emb (o : Option (Int × Obj)) : Option (Int × Sum PS Obj) := o.map fun r => (r.1, .inr r.2)
theorem GQ.body (hal : ∀ (k : Nat) (e : Fe), F[k]? = some (some e) → 0 < e.2.2.2 → q.2.1 k = true) (hcnt : q.2.2 = nA) (hcv : h0.size = a + 1)
    (H : ∀ h1, GQ (XA l Z n0 C F (cvO pos a) h1) M 0 0 pc L S (q.1, fun _ _ => 0) o) : GQ (XP l Z n0 C F pos a h0 nA) M 0 0 pc L S (.inl q) (emb o) := by
  intro z σ' ho p e R s m args below meth c T locs cells slots Ls Y hx hZ hown hnm hby hml hrt hf' hl' hc hs hrep hL hS hLl hF'
  cases hoo : o with
  | none => rw [hoo] at ho; exact nomatch ho
  | some r =>
    obtain ⟨z1, σ1⟩ := r
    rw [hoo] at ho
    cases ho
    obtain ⟨r1, r2, r3, r4, r5⟩ := hrep
    have hO : ORep Z C F (cvO pos a) (q.1, fun _ _ => 0) T.heap := ⟨r1, fun k e hk => ⟨(r5 k e hk).1, fun hl => by
      obtain ⟨p1, p2, -⟩ := ((r5 k e hk).2 hl).1 (hal k e hk hl)
      exact ⟨p1, p2⟩⟩⟩
    obtain ⟨T', locs', Y', ⟨g1, g2, g3⟩, hF'', hv1, hv2, st'⟩ := H T.heap z1 σ1 hoo p e R s m args below meth c T locs cells slots Ls Y hx hZ hown hnm hby hml hrt hf' hl' hc hs ⟨hO, Keep.refl _ _, rfl⟩ hL hS hLl hF'
    refine ⟨T', locs', Y', ⟨g1, r3.trans g2 (fun x hx => ?_), ?_⟩, hF'', hv1, hv2, st'⟩
    · obtain ⟨j, -, rfl⟩ := List.mem_map.mp hx
      cases j with
      | zero => exact Or.inl (List.mem_singleton.mpr rfl)
      | succ j => refine Or.inr ?_; rw [hcv]; show a + 1 ≤ a + 1 + pos j; omega
    · rw [g3, r2, hcnt]
end Init2
/-! the law: objects made, methods called, the script read -/
abbrev MB : Type := List Obj × Bool
def Fresh (Z : State) (C : String) (F : List (Option Fe)) (a : Nat) (h : Heap) : Prop := Exa Z h a C ∧ ∀ (k : Nat) (e : Fe), F[k]? = some (some e) → (e.2.2.2 = 0 → Fld Z h a C e.1 e.2.1 (.int (o32 0))) ∧ (0 < e.2.2.2 → Fld Z h a C e.1 e.2.1 .null)
def cvB (n0 nA : Nat) (sa : Nat) : Nat → Nat
  | 0 => sa
  | j + 1 => n0 + j * (nA + 1)
def RepB (Z : State) (n0 : Nat) (C : String) (F : List (Option Fe)) (pos : Nat → Nat) (nA : Nat) (sa : Nat) (scr : Option (Nat × (Nat → Int))) (w : MB) (h : Heap) : Prop :=
  h.size = n0 + w.1.length * (nA + 1) + (if w.2 then 1 else 0) ∧ (∀ (j : Nat) (σ : Obj), w.1[j]? = some σ → ORep Z C F (cvO pos (n0 + j * (nA + 1))) σ h) ∧ (w.2 = true → Fresh Z C F (n0 + w.1.length * (nA + 1)) h) ∧ ∀ n f, scr = some (n, f) → ARep Z h sa .int n f ∧ n0 > sa ∧ n < 2147483648
def XB (l : Launch) (Z : State) (n0 : Nat) (C : String) (F : List (Option Fe)) (pos : Nat → Nat) (nA : Nat) (sa : Nat) (scr : Option (Nat × (Nat → Int))) : Cx MB := (l, Z, n0, cvB n0 nA sa, RepB Z n0 C F pos nA sa scr)
/-- the words on the class, and where a new object's arrays lie -/
def KB (a0 : Array Value) (Z : State) (C : String) (nI : Nat) (F : List (Option Fe)) (pos : Nat → Nat) (nA : Nat) : Prop :=
  CA a0 Z C nI F ∧ (∀ k, pos k < nA) ∧ ∀ (k k' : Nat) (e e' : Fe), F[k]? = some (some e) → F[k']? = some (some e') → 0 < e.2.2.2 → 0 < e'.2.2.2 → pos k = pos k' → k = k'
def newB (n : Nat) (w : MB) (f : MB → Option (Int × MB)) : Option (Int × MB) := if w.1.length = n ∧ w.2 = false then f (w.1, true) else none
def iniB (n : Nat) (m : Option (Int × Obj)) (w : MB) (f : MB → Option (Int × MB)) : Option (Int × MB) := if w.1.length = n ∧ w.2 = true then (match m with
  | none => none
  | some r => f (w.1 ++ [r.2], false)) else none
def virB (j : Nat) (m : Obj → Option (Int × Obj)) (w : MB) (f : Int → MB → Option (Int × MB)) : Option (Int × MB) := match w.1[j]? with
  | none => none
  | some σ => match m σ with
    | none => none
    | some r => f r.1 (w.1.set j r.2, w.2)
theorem cval_nr {cv cv' : Nat → Nat} {v : AV} (h : ∀ n, v ≠ Rf n) : cval cv v = cval cv' v := by
  rcases v with x | x | n
  · rfl
  · rfl
  · exact absurd rfl (h n)
theorem map_nr {cv cv' : Nat → Nat} {A : List AV} (h : ∀ v ∈ A, ∀ n, v ≠ Rf n) : A.map (cval cv) = A.map (cval cv') := List.map_congr_left fun v hv => cval_nr (h v hv)
theorem KB.inj {a0 : Array Value} {Z : State} {C : String} {nI : Nat} {F : List (Option Fe)} {pos : Nat → Nat} {nA : Nat} (K : KB a0 Z C nI F pos nA) (a : Nat) : Inj F (cvO pos a) := by
  intro j j' hj hj' e
  rcases hj with rfl | ⟨k, f, rfl, h1, h2⟩ <;> rcases hj' with rfl | ⟨k', f', rfl, h1', h2'⟩
  · rfl
  · exfalso; have e : a = a + 1 + pos k' := e; omega
  · exfalso; have e : a + 1 + pos k = a := e; omega
  · have e : a + 1 + pos k = a + 1 + pos k' := e
    rw [K.2.2 k k' f f' h1 h1' h2 h2' (by omega)]
theorem cvO_ge (pos : Nat → Nat) (a : Nat) (j : Nat) : a ≤ cvO pos a j := by cases j with | zero => exact Nat.le_refl _ | succ j => show a ≤ a + 1 + pos j; omega
theorem cvO_lt {pos : Nat → Nat} {nA : Nat} (hp : ∀ k, pos k < nA) (a : Nat) (j : Nat) : cvO pos a j < a + (nA + 1) := by cases j with | zero => show a < a + (nA + 1); omega | succ j => have := hp j; show a + 1 + pos j < a + (nA + 1); omega
theorem box_ne {n0 nA j j' x : Nat} (h : j ≠ j') (h1 : n0 + j * (nA + 1) ≤ x) (h2 : x < n0 + j * (nA + 1) + (nA + 1)) (h3 : n0 + j' * (nA + 1) ≤ x) (h4 : x < n0 + j' * (nA + 1) + (nA + 1)) : False := by
  rcases Nat.lt_or_gt_of_ne h with q | q
  · have := Nat.mul_le_mul_right (nA + 1) (show j + 1 ≤ j' from q); rw [Nat.add_mul] at this; omega
  · have := Nat.mul_le_mul_right (nA + 1) (show j' + 1 ≤ j from q); rw [Nat.add_mul] at this; omega
section Law
variable {l : Launch} {Z : State} {n0 : Nat} {C : String} {F : List (Option Fe)} {pos : Nat → Nat} {nA : Nat} {sa : Nat} {scr : Option (Nat × (Nat → Int))} {M Mc : Mi} {kc ks pc pc' idx nI n : Nat} {L L' : List (Option AV)} {S S' : List AV} {w : MB} {o : Option (Int × MB)} {x y i : Int} {a0 : Array Value}
theorem RepB.size_le {h : Heap} (R : RepB Z n0 C F pos nA sa scr w h) {j : Nat} {σ : Obj} (hj : w.1[j]? = some σ) : n0 + j * (nA + 1) + (nA + 1) ≤ h.size := by
  have h1 := (List.getElem?_eq_some_iff.mp hj).1
  have := Nat.mul_le_mul_right (nA + 1) (show j + 1 ≤ w.1.length from h1)
  rw [Nat.add_mul] at this
  rw [R.1]; omega
/-- a method of object j by its walk -/
theorem GQ.vir {j : Nat} {args0 : List AV} {m : Obj → Option (Int × Obj)} {f : Int → MB → Option (Int × MB)} (KB0 : KB a0 Z C nI F pos nA) (K : Callee a0 Z M Mc args0.length) (hroom0 : Nat.ble (cat S + (Mc.2.2.1 + 11) + Mc.2.2.2.2.2) M.2.2.2.2.2 = true) (hC : Mc.1.cls = C) (hd : decode M.2.1 pc = .ok (.invokevirtual idx, 3)) (hp : pc + 3 = pc')
    (w1 : (Jvm.Cond.methodLink M.1.cls idx Mc.1).before a0 Z = true) (w2 : (Jvm.Cond.instanceMethod Mc.1).before a0 Z = true) (w3 : (Jvm.Cond.declares Mc.1).before a0 Z = true) (w4 : (Jvm.Cond.selects Mc.1.cls Mc.1 Mc.1).before a0 Z = true)
    (hnr : ∀ v ∈ args0, ∀ n, v ≠ Rf n) (hm0 : Nat.ble (spread (Rf 0 :: args0)).length Mc.2.2.1 = true)
    (H : ∀ (cv : Nat → Nat) (h0 : Heap) (σ : Obj), KA a0 Z n0 C nI F cv → GQ (XA l Z n0 C F cv h0) Mc 0 0 0 (entry (Rf 0 :: args0) Mc.2.2.1) [] σ (m σ)) (hst : S' = args0.reverse ++ Rf (j + 1) :: S)
    (nx : ∀ z w', GQ (XB l Z n0 C F pos nA sa scr) M kc ks pc' L ((rval Mc.2.2.2.1 z).toList ++ S) w' (f z w')) : GQ (XB l Z n0 C F pos nA sa scr) M kc ks pc L S' w (virB j m w f) := by
  intro z σ' ho p e R s mm args below meth c T locs cells slots Ls Y hx hZ hown hnm hby hml hrt hf hl hc hs hrep hL hS hLl hF
  subst hst hp
  obtain ⟨k1, k2, k3, k4, k5, k6⟩ := K
  have hroom := Nat.le_of_ble_eq_true hroom0
  have hm := Nat.le_of_ble_eq_true hm0
  unfold virB at ho
  cases hj : w.1[j]? with
  | none => rw [hj] at ho; exact nomatch ho
  | some σ =>
  rw [hj] at ho
  cases hoc : m σ with
  | none => simp only [hoc] at ho; exact nomatch ho
  | some q =>
    obtain ⟨z1, σ1⟩ := q
    simp only [hoc] at ho
    have hS0 := hS.app
    have hrep' : RepB Z n0 C F pos nA sa scr w T.heap := hrep
    obtain ⟨b1, b2, b3, b4⟩ := hrep'
    have hO := b2 j σ hj
    have hka : KA a0 Z n0 C nI F (cvO pos (n0 + j * (nA + 1))) := ⟨KB0.1, KB0.inj _, fun i => Nat.le_trans (Nat.le_add_right _ _) (cvO_ge pos _ i)⟩
    have Hc := H (cvO pos (n0 + j * (nA + 1))) T.heap σ hka
    rw [hoc] at Hc
    have hg : ∀ w ∈ Rf 0 :: args0, good w := fun w hw => (List.mem_cons.mp hw).elim (fun q => q ▸ trivial) (fun q => hS0.1 w (List.mem_reverse.mpr q))
    have hE : Exa Z T.heap (n0 + j * (nA + 1)) Mc.1.cls := by rw [hC]; exact hO.1
    obtain ⟨cq, kq, qa, qb, qc⟩ := isOf (T := T) hZ rfl hE
    obtain ⟨v, vm1, ⟨T1, L1, c1, n1⟩, -, Y1, ⟨Lc, ⟨hv, hr1, hF1, hg1⟩, l1, l2, l3⟩, st⟩ := Y.virtualBack hx (y := Mc.1) (z := Mc.1) hown (mvT hZ w1) (mvT hZ w3) (notFace_of_selects (args := #[]) (mvT hZ w4)) (mvT hZ w4) (mvT hZ w2) k5
      (back_of (X := XA l Z n0 C F (cvO pos (n0 + j * (nA + 1))) T.heap) (W := cat S) Hc rfl k1 hg hm (h := T.heap) ⟨hO, Keep.refl _ _, rfl⟩ hZ k2 k3 (by omega) (by omega)) qa qc (g := mkF mm pc Ls ((args0.reverse ++ Rf (j + 1) :: S).map (cval (cvB n0 nA sa)))) rfl (by show Ls.size = _; rw [hL.1, hLl, hml]) (Steps.refl _) (argsL := args0.map (cval (cvB n0 nA sa))) (rest := S.map (cval (cvB n0 nA sa))) (fun sig q => by rw [List.length_map]; exact k6 sig q) (by simp [cval, cvB]) (by show 2 * 0 + _ ≤ _; rw [cat_eq]; omega) (hb hby hd)
      (fun _ _ => ⟨by show _ = ((Rf 0 :: args0).map (cval (cvO pos (n0 + j * (nA + 1))))).toArray; rw [List.map_cons, map_nr (cv := cvO pos (n0 + j * (nA + 1))) (cv' := cvB n0 nA sa) hnr]; rfl, rfl, by show cells + 0 ≤ _; omega, by show slots + 0 ≤ _; omega⟩)
    dsimp only [Pt.U, Pt.locs, Pt.cells, Pt.slots] at Y1 l1 l2 l3 st hr1
    subst l1 l2 l3 hv
    obtain ⟨g1, g2, g3⟩ := hr1
    have hjl := (List.getElem?_eq_some_iff.mp hj).1
    have wsin : ∀ x : Nat, x ∈ wsOf F (cvO pos (n0 + j * (nA + 1))) → n0 + j * (nA + 1) ≤ x ∧ x < n0 + j * (nA + 1) + (nA + 1) := fun x hx => by
      obtain ⟨i, -, rfl⟩ := List.mem_map.mp hx
      exact ⟨cvO_ge pos _ i, cvO_lt KB0.2.1 _ i⟩
    have hrep1 : RepB Z n0 C F pos nA sa scr (w.1.set j σ1, w.2) T1.heap := by
      refine ⟨by rw [g3, b1]; simp, fun i τ hi => ?_, fun hb' => ?_, fun n f hs' => ?_⟩
      · by_cases e1 : i = j
        · subst e1
          simp [hjl] at hi; subst hi
          exact g1
        · have hi' : w.1[i]? = some τ := by rw [← hi]; exact (List.getElem?_set_ne (Ne.symm e1)).symm
          exact (b2 i τ hi').keep g2 (fun q _ hx => by
            obtain ⟨x1, x2⟩ := wsin _ hx
            exact box_ne e1 (cvO_ge pos _ q) (cvO_lt KB0.2.1 _ q) x1 x2)
      · obtain ⟨f1, f2⟩ := b3 hb'
        have hne : (n0 + w.1.length * (nA + 1)) ∉ wsOf F (cvO pos (n0 + j * (nA + 1))) := fun hx => by
          obtain ⟨x1, x2⟩ := wsin _ hx
          have := Nat.mul_le_mul_right (nA + 1) (show j + 1 ≤ w.1.length from hjl)
          rw [Nat.add_mul] at this; omega
        simp only [List.length_set]
        exact ⟨f1.keep g2, fun k e hk => ⟨fun hl => ((f2 k e hk).1 hl).keep g2 hne, fun hl => ((f2 k e hk).2 hl).keep g2 hne⟩⟩
      · obtain ⟨⟨cl, s1, s2⟩, s3, s4⟩ := b4 n f hs'
        exact ⟨⟨cl, ⟨g2.2.1 _ cl s1.1 (fun hx => by have := (wsin _ hx).1; omega), s1.2⟩, s2⟩, s3, s4⟩
    obtain ⟨T', locs', Y', hrep', hF', hv1, hv2, st'⟩ := nx z1 _ z σ' ho p e R s mm args below meth c T1 _ _ _ Ls Y1 hx hZ hown hnm hby hml hrt hf hl hc hs hrep1 hL (SOk.res hg1 hS0.2.tl) hLl (Fr.app hF hF1)
    refine ⟨T', locs', Y', hrep', hF', hv1, hv2, fun fs hfs => ?_⟩
    have q := st' fs hfs
    refine st.trans ?_
    have e1 : ((rval Mc.2.2.2.1 z1).toList ++ S).map (cval (cvB n0 nA sa)) = ((rval Mc.2.2.2.1 z1).map (cval (cvO pos (n0 + j * (nA + 1))))).toList ++ S.map (cval (cvB n0 nA sa)) := by
      unfold rval; split <;> simp [cval]
    have q' := q
    rw [show (XB l Z n0 C F pos nA sa scr).cv = cvB n0 nA sa from rfl, e1] at q'; exact q'
end Law
/-! small checks by evaluation -/
def distF : List (Option Fe) → Bool
  | [] => true
  | none :: r => distF r
  | some e :: r => r.all (fun o => match o with
    | none => true
    | some e' => e'.1 != e.1) && distF r
theorem distF_ok : ∀ {F : List (Option Fe)}, distF F = true → ∀ (k k' : Nat) (e e' : Fe), F[k]? = some (some e) → F[k']? = some (some e') → e.1 = e'.1 → k = k'
  | [], _, k, k', e, e', h1, _, _ => by simp at h1
  | none :: r, h, k, k', e, e', h1, h2, h3 => by
    cases k with
    | zero => simp at h1
    | succ k => cases k' with
      | zero => simp at h2
      | succ k' => rw [distF_ok (F := r) h k k' e e' (by simpa using h1) (by simpa using h2) h3]
  | some a :: r, h, k, k', e, e', h1, h2, h3 => by
    simp only [distF, Bool.and_eq_true] at h
    obtain ⟨ha, hr⟩ := h
    have key : ∀ (i : Nat) (f : Fe), r[i]? = some (some f) → f.1 ≠ a.1 := fun i f hi q => by
      have := List.all_eq_true.mp ha _ (List.mem_of_getElem? hi)
      simp [q] at this
    cases k with
    | zero =>
      simp at h1; subst h1
      cases k' with
      | zero => rfl
      | succ k' => exact absurd h3.symm (key k' e' (by simpa using h2))
    | succ k => cases k' with
      | zero => simp at h2; subst h2; exact absurd h3 (key k e (by simpa using h1))
      | succ k' => rw [distF_ok (F := r) hr k k' e e' (by simpa using h1) (by simpa using h2) h3]
def alF (al : Nat → Bool) : Nat → List (Option Fe) → Bool
  | _, [] => true
  | k, o :: r => (match o with
    | none => true
    | some e => e.2.2.2 == 0 || al k) && alF al (k + 1) r
theorem alF_ok {al : Nat → Bool} : ∀ {F : List (Option Fe)} {j : Nat}, alF al j F = true → ∀ (k : Nat) (e : Fe), F[k]? = some (some e) → 0 < e.2.2.2 → al (j + k) = true
  | [], _, _, k, e, h1, _ => by simp at h1
  | o :: r, j, h, k, e, h1, h2 => by
    simp only [alF, Bool.and_eq_true] at h
    cases k with
    | zero =>
      simp at h1; subst h1
      have := h.1
      simp only [Bool.or_eq_true, beq_iff_eq] at this
      rcases this with q | q
      · omega
      · exact q
    | succ k =>
      have := alF_ok (F := r) (j := j + 1) h.2 k e (by simpa using h1) h2
      rwa [show j + 1 + k = j + (k + 1) by omega] at this
def posF (P : List Nat) (k : Nat) : Nat := P.getD k 0
theorem posF_lt {P : List Nat} {nA : Nat} (h : P.all (fun x => Nat.blt x nA) = true) (h0 : 0 < nA) (k : Nat) : posF P k < nA := by
  unfold posF
  rw [List.getD_eq_getElem?_getD]
  cases hk : P[k]? with
  | none => exact h0
  | some x => exact Nat.blt_eq.mp (List.all_eq_true.mp h x (List.mem_of_getElem? hk))
/-- the arrays of the table lie one behind the other -/
def seqF : Nat → List (Option Fe) → List Nat → Bool
  | _, [], _ => true
  | c, o :: r, P => (match o with
    | none => seqF c r P.tail
    | some e => if e.2.2.2 = 0 then seqF c r P.tail else Nat.ble c (P.headD 0) && seqF (P.headD 0 + 1) r P.tail)
theorem seqF_ge : ∀ {F : List (Option Fe)} {P : List Nat} {c : Nat}, seqF c F P = true → ∀ (k : Nat) (e : Fe), F[k]? = some (some e) → 0 < e.2.2.2 → c ≤ posF P k
  | [], _, _, _, k, e, h1, _ => by simp at h1
  | o :: r, P, c, h, k, e, h1, h2 => by
    have hp : ∀ k, posF P (k + 1) = posF P.tail k := fun k => by cases P <;> simp [posF]
    cases k with
    | zero =>
      simp at h1; subst h1
      simp only [seqF] at h
      rw [if_neg (by omega)] at h
      simp only [Bool.and_eq_true] at h
      have := Nat.le_of_ble_eq_true h.1
      cases P <;> simpa [posF] using this
    | succ k =>
      rw [hp]
      cases o with
      | none => exact seqF_ge (F := r) h k e (by simpa using h1) h2
      | some a =>
        simp only [seqF] at h
        split at h
        · exact seqF_ge (F := r) h k e (by simpa using h1) h2
        · simp only [Bool.and_eq_true] at h
          have q1 := Nat.le_of_ble_eq_true h.1
          have := seqF_ge (F := r) h.2 k e (by simpa using h1) h2
          omega
theorem seqF_lt : ∀ {F : List (Option Fe)} {P : List Nat} {c : Nat}, seqF c F P = true → ∀ (k k' : Nat) (e e' : Fe), F[k]? = some (some e) → F[k']? = some (some e') → 0 < e.2.2.2 → 0 < e'.2.2.2 → k < k' → posF P k < posF P k'
  | [], _, _, _, k, k', e, e', h1, _, _, _, _ => by simp at h1
  | o :: r, P, c, h, k, k', e, e', h1, h1', h2, h2', hlt => by
    have hp : ∀ k, posF P (k + 1) = posF P.tail k := fun k => by cases P <;> simp [posF]
    cases k' with
    | zero => omega
    | succ k' =>
      cases k with
      | zero =>
        simp at h1; subst h1
        simp only [seqF] at h
        rw [if_neg (by omega)] at h
        simp only [Bool.and_eq_true] at h
        have := seqF_ge (F := r) h.2 k' e' (by simpa using h1') h2'
        rw [hp]
        have e0 : posF P 0 = P.headD 0 := by cases P <;> simp [posF]
        omega
      | succ k =>
        rw [hp, hp]
        cases o with
        | none => exact seqF_lt (F := r) h k k' e e' (by simpa using h1) (by simpa using h1') h2 h2' (by omega)
        | some a =>
          simp only [seqF] at h
          split at h
          · exact seqF_lt (F := r) h k k' e e' (by simpa using h1) (by simpa using h1') h2 h2' (by omega)
          · simp only [Bool.and_eq_true] at h
            exact seqF_lt (F := r) h.2 k k' e e' (by simpa using h1) (by simpa using h1') h2 h2' (by omega)
theorem seqF_inj {F : List (Option Fe)} {P : List Nat} (h : seqF 0 F P = true) (k k' : Nat) (e e' : Fe) (h1 : F[k]? = some (some e)) (h1' : F[k']? = some (some e')) (h2 : 0 < e.2.2.2) (h2' : 0 < e'.2.2.2) (q : posF P k = posF P k') : k = k' := by
  rcases Nat.lt_trichotomy k k' with z | z | z
  · have := seqF_lt h k k' e e' h1 h1' h2 h2' z; omega
  · exact z
  · have := seqF_lt h k' k e' e h1' h1 h2' h2 z; omega
section Law2
variable {l : Launch} {Z : State} {n0 : Nat} {C : String} {F : List (Option Fe)} {pos : Nat → Nat} {nA : Nat} {sa : Nat} {scr : Option (Nat × (Nat → Int))} {M Mc : Mi} {kc ks pc pc' idx nI n : Nat} {L L' : List (Option AV)} {S S' : List AV} {w : MB} {o : Option (Int × MB)} {x y i : Int} {a0 : Array Value}
theorem Fresh.made {h : Heap} {cC : ClassId} {kZ : Class} (K : CA a0 Z C nI F) (h1 : Z.vm.findClass C = some cC) (h2 : Z.vm.classes[cC]? = some kZ) (a : Nat) (hN : h[a]? = some { cls := cC, slots := kZ.instanceTypes.map defaultValue, vm := .none }) : Fresh Z C F a h := by
  have key : ∀ (k : Nat) (e : Fe) (ty : FieldType), F[k]? = some (some e) → parseFieldDescriptor e.2.1 = some ty → Fld Z h a C e.1 e.2.1 (defaultValue ty) := fun k e ty hk ht => by
    obtain ⟨c1, k1, cf, kf, i, f, b1, b2, b3, b4, b5, b6, -⟩ := (K.1 k e hk).1.spec
    cases h1.symm.trans b1
    cases h2.symm.trans b2
    refine ⟨_, cf, kf, i, f, hN, b3, b4, by simp, rfl, b5, ?_⟩
    simp [b6, (State.fieldFound?_type b3 ht).2]
  refine ⟨⟨_, kZ, hN, h1, h2, rfl, fun _ => by simp⟩, fun k e hk => ⟨fun hl => ?_, fun hl => ?_⟩⟩
  · have q := (K.1 k e hk).2.2
    rw [if_pos hl] at q
    have r := key k e _ hk q
    have q2 := (K.1 k e hk).2.1
    revert r q2
    cases e.2.2.1 <;> intro r q2 <;> first | exact r | (simp [intK] at q2)
  · have q := (K.1 k e hk).2.2
    rw [if_neg (by omega)] at q
    exact key k e _ hk q
theorem ORep.ext {σ : Obj} {cv : Nat → Nat} {h h' : Heap} (E : Ext h h') (R : ORep Z C F cv σ h) : ORep Z C F cv σ h' :=
  ⟨R.1.ext E, fun k e hk => ⟨fun hl => ⟨((R.2 k e hk).1 hl).1.ext E, ((R.2 k e hk).1 hl).2⟩, fun hl => ⟨((R.2 k e hk).2 hl).1.ext E, ((R.2 k e hk).2 hl).2.ext E⟩⟩⟩
theorem GQ.new {f : MB → Option (Int × MB)} (KB0 : KB a0 Z C nI F pos nA) (w1 : (Jvm.Cond.classLink M.1.cls idx C).before a0 Z = true) (w2 : (Jvm.Cond.initialized C).before a0 Z = true) (hd : decode M.2.1 pc = .ok (.new idx, 3)) (hp : pc + 3 = pc')
    (nx : ∀ w', GQ (XB l Z n0 C F pos nA sa scr) M kc ks pc' L (Rf (n + 1) :: S) w' (f w')) : GQ (XB l Z n0 C F pos nA sa scr) M (kc + 1) (ks + nI) pc L S w (newB n w f) := by
  subst hp
  unfold newB
  refine GQ.guard (fun hq => ?_)
  obtain ⟨hq1, hq2⟩ := hq
  intro z σ' ho p e R s mm args below meth c T locs cells slots Ls Y hx hZ hown hnm hby hml hrt hf hl hc hs hrep hL hS hLl hF
  have hrep' : RepB Z n0 C F pos nA sa scr w T.heap := hrep
  obtain ⟨b1, b2, b3, b4⟩ := hrep'
  obtain ⟨vm', cC, kC, h1, h2, h3, h4, Y', st⟩ := Y.newCold hx hown (mv hZ w1) (mv hZ KB0.1.2.2) (mv hZ w2) (g := mkF mm pc Ls (S.map (cval (cvB n0 nA sa)))) rfl (hb hby hd) (by omega) (by omega)
  rw [hZ.alike.findClass] at h1
  obtain ⟨kZ, z1, -⟩ := Vm.findClass_spec h1
  obtain ⟨k', z2, z3⟩ := hZ.alike.2.2 _ _ z1
  cases h2.symm.trans z2
  have ei : kC.instanceTypes = kZ.instanceTypes := by rw [z3]
  obtain ⟨h', e1⟩ : ∃ h', ((T.setVm vm').pushCell { cls := cC, slots := kC.instanceTypes.map defaultValue, vm := .none }).heap = h' := ⟨_, rfl⟩
  have e1' : h' = T.heap.push { cls := cC, slots := kC.instanceTypes.map defaultValue, vm := .none } := e1.symm
  have hsz : h'.size = T.heap.size + 1 := by rw [e1']; simp
  have E1 : Ext T.heap h' := ⟨by omega, fun b c hb => by rw [e1', Array.getElem?_push_lt (Array.getElem?_eq_some_iff.mp hb).1]; exact (Array.getElem?_eq_getElem _).symm.trans hb⟩
  have hat : T.heap.size = n0 + w.1.length * (nA + 1) := by rw [b1, hq2]; rfl
  have hfr : Fresh Z C F (n0 + w.1.length * (nA + 1)) h' := Fresh.made KB0.1 h1 z1 _ (by rw [← hat, e1', ← ei]; simp)
  have hrep1 : RepB Z n0 C F pos nA sa scr (w.1, true) ((T.setVm vm').pushCell { cls := cC, slots := kC.instanceTypes.map defaultValue, vm := .none }).heap := by
    rw [e1]
    refine ⟨by rw [hsz, hat]; rfl, fun j σ hj => (b2 j σ hj).ext E1, fun _ => hfr, fun n f hs' => ?_⟩
    obtain ⟨s1, s2⟩ := b4 n f hs'
    exact ⟨s1.ext E1, s2⟩
  obtain ⟨T', locs', Y2, hrep2, hF', hv1, hv2, st'⟩ := nx (w.1, true) z σ' ho p e R s mm args below meth c _ locs _ _ Ls Y' hx hZ hown hnm hby hml hrt hf hl (by omega) (by omega) hrep1 hL (hS.cons trivial) hLl hF
  refine ⟨T', locs', by rw [show cells + (kc + 1) = cells + 1 + kc by omega, show slots + (ks + nI) = slots + nI + ks by omega]; exact Y2, hrep2, hF', hv1, hv2, fun fs hfs => st _ ?_⟩
  have q := st' fs hfs
  have e2 : cval (cvB n0 nA sa) (Rf (n + 1)) = Value.ref T.heap.size := by rw [hat, hq1]; rfl
  rw [show (XB l Z n0 C F pos nA sa scr).cv = cvB n0 nA sa from rfl, List.map_cons, e2] at q
  exact q
theorem GQ.init {args0 : List AV} {oc : Option (Int × Obj)} {f : MB → Option (Int × MB)} {sl : Nat} (KB0 : KB a0 Z C nI F pos nA) (K : Callee a0 Z M Mc args0.length) (hroom0 : Nat.ble (cat S + (Mc.2.2.1 + 11) + Mc.2.2.2.2.2) M.2.2.2.2.2 = true) (hrt : Mc.2.2.2.1 = none) (hnm0 : Mc.1.name = "<init>") (hd : decode M.2.1 pc = .ok (.invokespecial idx, 3)) (hp : pc + 3 = pc')
    (w1 : (Jvm.Cond.methodLink M.1.cls idx Mc.1).before a0 Z = true) (w2 : (Jvm.Cond.instanceMethod Mc.1).before a0 Z = true) (hnr : ∀ v ∈ args0, ∀ n, v ≠ Rf n) (hm0 : Nat.ble (spread (Rf 0 :: args0)).length Mc.2.2.1 = true)
    (H : ∀ (a : Nat) (h0 : Heap), n0 ≤ a → h0.size = a + 1 → GQ (XP l Z n0 C F pos a h0 nA) Mc nA sl 0 (entry (Rf 0 :: args0) Mc.2.2.1) [] (.inl (fun _ => 0, fun _ => false, 0)) (emb oc)) (hst : S' = args0.reverse ++ Rf (n + 1) :: S)
    (nx : ∀ w', GQ (XB l Z n0 C F pos nA sa scr) M kc ks pc' L S w' (f w')) : GQ (XB l Z n0 C F pos nA sa scr) M (kc + nA) (ks + sl) pc L S' w (iniB n oc w f) := by
  subst hst hp
  unfold iniB
  refine GQ.guard (fun hq => ?_)
  obtain ⟨hq1, hq2⟩ := hq
  intro z σ' ho p e R s mm args below meth c T locs cells slots Ls Y hx hZ hown hnm hby hml hrt' hf hl hc hs hrep hL hS hLl hF
  obtain ⟨k1, k2, k3, k4, k5, k6⟩ := K
  have hroom := Nat.le_of_ble_eq_true hroom0
  have hm := Nat.le_of_ble_eq_true hm0
  cases hoc : oc with
  | none => rw [hoc] at ho; exact nomatch ho
  | some q =>
    obtain ⟨z1, σ1⟩ := q
    rw [hoc] at ho
    have ho : f (w.1 ++ [σ1], false) = some (z, σ') := ho
    have hS0 := hS.app
    have hrep' : RepB Z n0 C F pos nA sa scr w T.heap := hrep
    obtain ⟨b1, b2, b3, b4⟩ := hrep'
    obtain ⟨a, ha⟩ : ∃ a, a = n0 + w.1.length * (nA + 1) := ⟨_, rfl⟩
    have hsz : T.heap.size = a + 1 := by rw [b1, hq2, ha]; rfl
    obtain ⟨fr1, fr2⟩ := b3 hq2
    rw [← ha] at fr1 fr2
    have Hc := H a T.heap (by omega) hsz
    rw [hoc] at Hc
    have hg : ∀ w ∈ Rf 0 :: args0, good w := fun w hw => (List.mem_cons.mp hw).elim (fun q => q ▸ trivial) (fun q => hS0.1 w (List.mem_reverse.mpr q))
    have hfit0 : ∀ (k : Nat) (e : Fe), F[k]? = some (some e) → fitI e.2.2.1 0 := fun k e hk => by
      have q2 := (KB0.1.1 k e hk).2.1
      revert q2
      cases e.2.2.1 <;> intro q2 <;> first | exact Or.inl rfl | (simp only [fitI, InR]; omega) | (simp [intK] at q2)
    have hI : IRep Z C F (cvO pos a) T.heap (fun _ => 0, fun _ => false, 0) T.heap := ⟨fr1, rfl, Keep.refl _ _, by show a < T.heap.size; omega, fun k e hk => ⟨fun hl => ⟨(fr2 k e hk).1 hl, hfit0 k e hk⟩, fun hl => ⟨(fun q => by cases q), fun _ => (fr2 k e hk).2 hl⟩⟩⟩
    obtain ⟨v, vm1, ⟨T1, L1, c1, n1⟩, -, Y1, ⟨Lc, ⟨hv, hr1, hF1, hg1⟩, l1, l2, l3⟩, st⟩ := Y.specialBack hx (y := Mc.1) hnm0 hown (mvT hZ w1) (mvT hZ w2) (mvT hZ (hrt ▸ k2)) k5
      (back_of (X := XP l Z n0 C F pos a T.heap nA) (W := cat S) Hc rfl k1 hg hm (h := T.heap) hI hZ k2 k3 (by omega) (by omega)) (g := mkF mm pc Ls ((args0.reverse ++ Rf (n + 1) :: S).map (cval (cvB n0 nA sa)))) rfl (by show Ls.size = _; rw [hL.1, hLl, hml]) (Steps.refl _) (a := a) (argsL := args0.map (cval (cvB n0 nA sa))) (rest := S.map (cval (cvB n0 nA sa))) (fun sig q => by rw [List.length_map]; exact k6 sig q) (by rw [ha, hq1]; simp [cval, cvB]) (by show 2 * 0 + _ ≤ _; rw [cat_eq]; omega) (hb hby hd)
      (fun _ _ => ⟨by show _ = ((Rf 0 :: args0).map (cval (cvO pos a))).toArray; rw [List.map_cons, map_nr (cv := cvO pos a) (cv' := cvB n0 nA sa) hnr]; rfl, rfl, by show cells + nA ≤ _; omega, by show slots + sl ≤ _; omega⟩)
    dsimp only [Pt.U, Pt.locs, Pt.cells, Pt.slots] at Y1 l1 l2 l3 st hr1
    subst l1 l2 l3 hv
    rw [hrt] at st hg1
    obtain ⟨g1, g2, g3⟩ := hr1
    have hrep1 : RepB Z n0 C F pos nA sa scr (w.1 ++ [σ1], false) T1.heap := by
      refine ⟨?_, fun i τ hi => ?_, (fun hb' => by cases hb'), fun n f hs' => ?_⟩
      · rw [g3, hsz, ha]; show _ = n0 + (w.1 ++ [σ1]).length * (nA + 1) + 0; rw [List.length_append, List.length_singleton, Nat.add_mul]; omega
      · have hi : (w.1 ++ [σ1])[i]? = some τ := hi
        rcases Nat.lt_or_ge i w.1.length with hlt | hge
        · rw [List.getElem?_append_left hlt] at hi
          refine (b2 i τ hi).keep g2 (fun q _ hx => ?_)
          have hx := List.mem_singleton.mp hx
          have r1 := cvO_lt KB0.2.1 (n0 + i * (nA + 1)) q
          rw [hx, ha] at r1
          have := Nat.mul_le_mul_right (nA + 1) (show i + 1 ≤ w.1.length from hlt)
          rw [Nat.add_mul] at this; omega
        · rw [List.getElem?_append_right hge] at hi
          have e0 : i = w.1.length := by
            have := (List.getElem?_eq_some_iff.mp hi).1
            simp at this; omega
          subst e0
          simp at hi; subst hi
          rw [← ha]; exact g1
      · obtain ⟨⟨cl, s1, s2⟩, s3, s4⟩ := b4 n f hs'
        exact ⟨⟨cl, ⟨g2.2.1 _ cl s1.1 (fun hx => absurd (List.mem_singleton.mp hx) (Nat.ne_of_lt (by omega))), s1.2⟩, s2⟩, s3, s4⟩
    obtain ⟨T', locs', Y', hrep', hF', hv1, hv2, st'⟩ := nx _ z σ' ho p e R s mm args below meth c T1 _ _ _ Ls Y1 hx hZ hown hnm hby hml hrt' hf hl (by omega) (by omega) hrep1 hL hS0.2.tl hLl (Fr.app hF hF1)
    refine ⟨T', locs', by rw [show cells + (kc + nA) = cells + nA + kc by omega, show slots + (ks + sl) = slots + sl + ks by omega]; exact Y', hrep', hF', hv1, hv2, fun fs hfs => ?_⟩
    exact st.trans (st' fs hfs)
theorem GQ.scrLen {fs : Nat → Int} (hs : scr = some (n, fs)) (hd : decode M.2.1 pc = .ok (.arraylength, 1)) (hp : pc + 1 = pc')
    (nx : GQ (XB l Z n0 C F pos nA sa scr) M kc ks pc' L (I (n : Int) :: S) w o) : GQ (XB l Z n0 C F pos nA sa scr) M kc ks pc L (Rf 0 :: S) w o := by
  subst hp
  refine GQ.heap nx (fun {p e R s m args below meth c T locs cells slots Ls} Y hx hZ hown hnm hby hr hS hF' => ?_)
  obtain ⟨⟨cl, A, q3, q4⟩, s3, s4⟩ := hr.2.2.2 n fs hs
  refine ⟨T, locs, Y, hr, hS.tl.cons (show InR (n : Int) from ⟨by omega, by omega⟩), hF', fun t st => ?_⟩
  refine Y.arraylength hx A.1 (State.isArrayOf_alike hZ.alike A.2.1) (g := mkF m pc Ls ((Rf 0 :: S).map (cval (cvB n0 nA sa)))) rfl rfl (hb hby hd) t ?_
  have e1 : cl.slots.size.toInt32 = o32 (n : Int) := by rw [q3]; apply Int32.toInt_inj.mp; rw [len_toInt (by omega), t32i ⟨by omega, by omega⟩]
  rw [e1]; exact st
theorem GQ.scrAt {fs : Nat → Int} {g : Int → Option (Int × MB)} (hs : scr = some (n, fs)) (hd : decode M.2.1 pc = .ok (.iaload, 1)) (hp : pc + 1 = pc')
    (nx : ∀ z, GQ (XB l Z n0 C F pos nA sa scr) M kc ks pc' L (I z :: S) w (g z)) : GQ (XB l Z n0 C F pos nA sa scr) M kc ks pc L (I i :: Rf 0 :: S) w (rB fs n i g) := by
  subst hp
  unfold rB
  refine GQ.guard (fun hin => ?_)
  refine GQ.heap (nx _) (fun {p e R s m args below meth c T locs cells slots Ls} Y hx hZ hown hnm hby hr hS hF' => ?_)
  obtain ⟨⟨cl, A, q3, q4⟩, s3, s4⟩ := hr.2.2.2 n fs hs
  obtain ⟨j1, j2⟩ := i_in (cs := cl.slots.size) hS.hd (by rw [q3]; exact hin)
  obtain ⟨v1, v2⟩ := q4 i.toNat (by omega)
  have v1 : cl.slots[(o32 i).toNatClampNeg]? = some (.int (o32 (fs i.toNat))) := by rw [j2]; exact v1
  refine ⟨T, locs, Y, hr, hS.tl.tl.cons (fitI_in v2), hF', fun t st => ?_⟩
  exact Y.iaload hx A.1 (State.isArrayOf_alike hZ.alike A.2.1) A.2.2 j1 v1 (g := mkF m pc Ls ((I i :: Rf 0 :: S).map (cval (cvB n0 nA sa)))) rfl rfl (hb hby hd) t st
end Law2
/-! small helps of the closing rows -/
theorem nr0 : ∀ v ∈ ([] : List AV), ∀ n, v ≠ Rf n := fun _ h => nomatch h
theorem nrI {x : Int} : ∀ n, I x ≠ Rf n := fun n h => nomatch h
theorem nrJ {x : Int} : ∀ n, J x ≠ Rf n := fun n h => nomatch h
theorem nrS {v : AV} {A : List AV} (h1 : ∀ n, v ≠ Rf n) (h2 : ∀ v ∈ A, ∀ n, v ≠ Rf n) : ∀ u ∈ v :: A, ∀ n, u ≠ Rf n := fun u hu => (List.mem_cons.mp hu).elim (fun q => q ▸ h1) (h2 u)
def scrF (c : Cell) (i : Nat) : Int := match c.slots[i]? with
  | some (.int x) => x.toInt
  | _ => 0
theorem scrF_in (c : Cell) (i : Nat) : InR (scrF c i) := by
  unfold scrF
  split
  · exact r32 _
  · exact ⟨by omega, by omega⟩
theorem len_small {s : State} {args : Array Value} {t : Term} {a : Nat} {c : Cell} {ty : FieldType} {x : Int32} (e0 : t.eval args s none [] s = some (.ref a)) (A : Arr s s.heap a c ty) (e1 : (Term.length t).eval args s none [] s = some (.int x)) : c.slots.size < 2147483648 ∧ x = c.slots.size.toInt32 := by
  have q := A.fin (Vm.Alike.refl _)
  simp only [Term.eval, e0, q] at e1
  by_cases h : c.slots.size < 2 ^ 31
  · simp [h, q] at e1
    exact ⟨by omega, (by simpa [show c.slots.size < 2147483648 by omega] using e1 : _ = x).symm⟩
  · have h' : ¬ c.slots.size < 2147483648 := by omega
    simp [h', q] at e1
theorem le_small {s : State} {args : Array Value} {t : Term} {x : Int32} {k : Nat} (e1 : t.eval args s none [] s = some (.int x)) (e2 : x = k.toInt32) (hk : k < 2147483648) (h : (Jvm.Cond.le t (.int 260)).value args s none s [] = some true) : k ≤ 260 := by
  simp only [Cond.value, e1, Term.eval] at h
  have h := of_decide_eq_true (Option.some.inj h)
  rw [Int32.le_iff_toInt_le, e2, len_toInt (by omega)] at h
  have e3 : (260 : Int32).toInt = 260 := rfl
  omega
theorem scr_rep {s : State} {a : Nat} {c : Cell} (hf : Fit s) (A : Arr s s.heap a c .int) (hk : c.slots.size < 2147483648) : ARep s s.heap a .int c.slots.size (scrF c) := by
  refine ⟨c, A, rfl, fun i hi => ?_⟩
  have q := hf A.1 hi
  obtain ⟨hs, k, hkk, comp, hkind⟩ := A.2.1
  have e : s.slotType? c.cls c.vm i = some .int := by
    cases hq : c.vm <;> first | exact absurd hq (hs _) | simp [State.slotType?, hkk, hkind]
  have hfit : fits .int c.slots[i] = true := by simpa [State.fitsSlot, e] using q
  obtain ⟨x, hx⟩ := fit_I hfit (Or.inl rfl)
  have e2 : c.slots[i]? = some (.int x) := by rw [Array.getElem?_eq_getElem hi, hx]
  have e3 : scrF c i = x.toInt := by simp [scrF, e2]
  exact ⟨by rw [e2, e3, o32_t], scrF_in c i⟩
end Jvm.Wp
namespace Jvm.Pilot.@@N@@
open Jvm Jvm.ClassFile Sem Op Lib Jvm.Free Jvm.Stand Jvm.LawKit Jvm.RoadKit Bundle Jvm.Pilot.@@N@@.Jvm.D Jvm.Wp
def FU : Nat := 1000000000
def clamp_M (x1 : Int) (x2 : Int) (x3 : Int) (s : Obj) : Option (Int × Obj) :=
  if x1 < x2 then
    some (x2, s)
  else
    if x3 < x1 then
      some (x3, s)
    else
      some (x1, s)
def ctor_B (x1 : Int) (x2 : Int) (s : Obj) : Option (Int × Obj) :=
  cB (clamp_M x1 4 32 s) fun z289 s289 =>
  lB (setF s289 28 z289) fun s292 =>
  cB (clamp_M x2 2 16 s292) fun z301 s301 =>
  lB (setF s301 29 z301) fun s304 =>
  lB (setF s304 30 0) fun s309 =>
  lB (setF s309 31 1) fun s314 =>
  wB s314 32 16 0 1 fun s323 =>
  wB s323 33 16 0 0 fun s330 =>
  wB s330 34 16 0 0 fun s337 =>
  wB s337 36 16 0 0 fun s344 =>
  lB (setF s344 38 0) fun s347 =>
  lB (setF s347 40 0) fun s352 =>
  lB (setF s352 43 0) fun s357 =>
  lB (setF s357 47 0) fun s362 =>
  lB (setF s362 55 (-1)) fun s367 =>
  lB (setF s367 56 0) fun s372 =>
  some (0, s372)
def ctor_M (x1 : Int) (x2 : Int) : Option (Int × Obj) := ctor_B x1 x2 ((@upd Int (@upd Int (@upd Int (@upd Int (@upd Int (@upd Int (@upd Int (@upd Int (@upd Int (@upd Int (@upd Int (@upd Int (@upd Int (@upd Int (@upd Int (@upd Int (@upd Int (@upd Int (@upd Int (@upd Int (@upd Int (@upd Int (@upd Int (@upd Int (@upd Int (@upd Int (@upd Int (@upd Int (fun _ => 0) 0 16) 1 8) 2 10) 3 4) 4 32) 5 64) 6 83) 7 0) 8 1) 9 2) 10 3) 11 0) 12 2) 13 4) 14 6) 15 8) 16 9) 17 10) 18 11) 19 12) 20 0) 21 1) 22 2) 23 2) 24 4) 25 4) 26 5) 27 7), fun _ _ => 0)
def nodeCount_M (s : Obj) : Option (Int × Obj) :=
  some ((s.1 31), s)
def isValid_M (x1 : Int) (s : Obj) : Option (Int × Obj) :=
  if x1 < 0 then
    some (0, s)
  else
    if x1 < (s.1 31) then
      if x1 < 16 then
        some (1, s)
      else
        some (0, s)
    else
      some (0, s)
def kind_M (x1 : Int) (s : Obj) : Option (Int × Obj) :=
  cB (isValid_M x1 s) fun z2 s2 =>
  if z2 = 0 then
    some ((-2), s2)
  else
    rB (s2.2 32) 16 x1 fun z16 =>
    some (z16, s2)
def parentOf_M (x1 : Int) (s : Obj) : Option (Int × Obj) :=
  cB (isValid_M x1 s) fun z2 s2 =>
  if z2 = 0 then
    some ((-2), s2)
  else
    rB (s2.2 33) 16 x1 fun z16 =>
    some (z16, s2)
def nameChar_M (x1 : Int) (x2 : Int) (s : Obj) : Option (Int × Obj) :=
  cB (isValid_M x1 s) fun z2 s2 =>
  if z2 = 0 then
    some ((-2), s2)
  else
    if x2 < 0 then
      some ((-3), s2)
    else
      rB (s2.2 34) 16 x1 fun z21 =>
      if x2 < z21 then
        if x2 < 8 then
          rB (s2.2 35) 128 (aAdd (aMul x1 8) x2) fun z44 =>
          some (z44, s2)
        else
          some ((-3), s2)
      else
        some ((-3), s2)
def entryCount_M (x1 : Int) (s : Obj) : Option (Int × Obj) :=
  if (s.1 30) = 0 then
    some ((-1), s)
  else
    none
def readByte_M (x1 : Int) (x2 : Int) (s : Obj) : Option (Int × Obj) :=
  if (s.1 30) = 0 then
    some ((-1), s)
  else
    none
def law_j91 (x2 : Int) (y0 : Int) (y1 : Int) (w : MB) : Option (Int × MB) :=
  if y1 = y0 then
    virB 0 (fun q => entryCount_M x2 q) w fun z98 w98 =>
    if z98 = (-1) then
      virB 0 (fun q => readByte_M x2 0 q) w98 fun z110 w110 =>
      if z110 = (-1) then
        some (1, w110)
      else
        some (0, w110)
    else
      some (0, w98)
  else
    some (0, w)
def law_j68 (x2 : Int) (x4 : Int) (y0 : Int) (y1 : Int) (w : MB) : Option (Int × MB) :=
  if y1 = y0 then
    virB 0 (fun q => nameChar_M x2 0 q) w fun z76 w76 =>
    if x4 = 0 then
      law_j91 x2 (-2) z76 w76
    else
      law_j91 x2 (-3) z76 w76
  else
    some (0, w)
def law_j47 (x2 : Int) (x4 : Int) (y0 : Int) (y1 : Int) (w : MB) : Option (Int × MB) :=
  if y1 = y0 then
    virB 0 (fun q => parentOf_M x2 q) w fun z54 w54 =>
    if x4 = 0 then
      law_j68 x2 x4 (-2) z54 w54
    else
      law_j68 x2 x4 0 z54 w54
  else
    some (0, w)
def law_j19 (x2 : Int) (y0 : Int) (w : MB) : Option (Int × MB) :=
  virB 0 (fun q => nodeCount_M q) w fun z22 w22 =>
  if z22 = 1 then
    virB 0 (fun q => kind_M x2 q) w22 fun z33 w33 =>
    if y0 = 0 then
      law_j47 x2 y0 (-2) z33 w33
    else
      law_j47 x2 y0 1 z33 w33
  else
    some (0, w22)
def law_M (x0 : Int) (x1 : Int) (x2 : Int) (w : MB) : Option (Int × MB) :=
  newB 0 w fun w0 =>
  iniB 0 (ctor_M x0 x1) w0 fun w6 =>
  if x2 = 0 then
    law_j19 x2 1 w6
  else
    law_j19 x2 0 w6
/-! plain Lean: reckoning and loops -/
theorem aAdd_id {x y : Int} (h1 : -2147483648 ≤ x + y) (h2 : x + y < 2147483648) : aAdd x y = x + y := w32_id h1 h2
theorem aSub_id {x y : Int} (h1 : -2147483648 ≤ x - y) (h2 : x - y < 2147483648) : aSub x y = x - y := w32_id h1 h2
theorem aMul_id {x y : Int} (h1 : -2147483648 ≤ x * y) (h2 : x * y < 2147483648) : aMul x y = x * y := w32_id h1 h2
theorem rB_in {α : Type} {f : Nat → Int} {len : Nat} {i : Int} {g : Int → Option α} (h1 : 0 ≤ i) (h2 : i < len) : rB f len i g = g (f i.toNat) := if_pos ⟨h1, h2⟩
theorem wB_in {α : Type} {σ : Obj} {k len : Nat} {i v : Int} {g : Obj → Option α} (h1 : 0 ≤ i) (h2 : i < len) : wB σ k len i v g = g (setA σ k i.toNat v) := if_pos ⟨h1, h2⟩
theorem setF_1 (σ : Obj) (k : Nat) (v : Int) : (setF σ k v).1 = upd σ.1 k v := rfl
theorem setF_2 (σ : Obj) (k : Nat) (v : Int) : (setF σ k v).2 = σ.2 := rfl
theorem setA_1 (σ : Obj) (k i : Nat) (v : Int) : (setA σ k i v).1 = σ.1 := rfl
theorem setA_2 (σ : Obj) (k i : Nat) (v : Int) : (setA σ k i v).2 = upd σ.2 k (upd (σ.2 k) i v) := rfl
theorem upd_apply {α : Type} (f : Nat → α) (k : Nat) (v : α) (j : Nat) : upd f k v j = if j = k then v else f j := rfl
theorem FU_pos : FU = 999999999 + 1 := rfl
/-- a loop: P holds at each turn, m falls, Q of the answer -/
theorem loop_ind {α R : Type} (lp : Nat → α → Option R) (m : α → Nat) (P : α → Prop) (Q : Option R → Prop)
    (h : ∀ fu a, P a → Q (lp (fu + 1) a) ∨ ∃ a', lp (fu + 1) a = lp fu a' ∧ P a' ∧ m a' < m a) : ∀ (fu : Nat) (a : α), P a → m a < fu → Q (lp fu a) := by
  intro fu
  induction fu with
  | zero => intro a _ hm; omega
  | succ fu ih =>
    intro a ha hm
    rcases h fu a ha with q | ⟨a', e, ha', hm'⟩
    · exact q
    · rw [e]; exact ih a' ha' (by omega)
theorem new0 (f : MB → Option (Int × MB)) : newB 0 ([], false) f = f ([], true) := rfl
theorem ini0 (r : Int) (s : Obj) (f : MB → Option (Int × MB)) : iniB 0 (some (r, s)) ([], true) f = f ([s], false) := rfl
theorem new1 (s : Obj) (f : MB → Option (Int × MB)) : newB 1 ([s], false) f = f ([s], true) := rfl
theorem ini1 (r : Int) (s t : Obj) (f : MB → Option (Int × MB)) : iniB 1 (some (r, t)) ([s], true) f = f ([s, t], false) := rfl
theorem vir0 {m : Obj → Option (Int × Obj)} {s s' : Obj} {z : Int} (h : m s = some (z, s')) (f : Int → MB → Option (Int × MB)) : virB 0 m ([s], false) f = f z ([s'], false) := by
  show (match m s with
    | none => none
    | some r => f r.1 ([s].set 0 r.2, false)) = _
  rw [h]; rfl
theorem virL {m : Obj → Option (Int × Obj)} {s s' t : Obj} {z : Int} (h : m s = some (z, s')) (f : Int → MB → Option (Int × MB)) : virB 0 m ([s, t], false) f = f z ([s', t], false) := by
  show (match m s with
    | none => none
    | some r => f r.1 ([s, t].set 0 r.2, false)) = _
  rw [h]; rfl
theorem virR {m : Obj → Option (Int × Obj)} {s t t' : Obj} {z : Int} (h : m t = some (z, t')) (f : Int → MB → Option (Int × MB)) : virB 1 m ([s, t], false) f = f z ([s, t'], false) := by
  show (match m t with
    | none => none
    | some r => f r.1 ([s, t].set 1 r.2, false)) = _
  rw [h]; rfl
def clampF (v lo hi : Int) : Int := if v < lo then lo else if hi < v then hi else v
theorem clampF_in (v : Int) {lo hi : Int} (h : lo ≤ hi) : lo ≤ clampF v lo hi ∧ clampF v lo hi ≤ hi := by unfold clampF; split <;> (try split) <;> omega
theorem clamp_eq (v lo hi : Int) (s : Obj) : clamp_M v lo hi s = some (clampF v lo hi, s) := by
  unfold clamp_M clampF; split
  · rfl
  · split <;> rfl
theorem ctor_eq (b f : Int) : ∃ s, ctor_M b f = some (0, s) ∧ s.1 30 = 0 ∧ s.1 31 = 1 ∧ s.2 32 0 = 1 ∧ s.2 33 0 = 0 ∧ s.2 34 0 = 0 := by
  unfold ctor_M ctor_B
  simp only [clamp_eq, cB_some, lB_eq]
  rw [wB_in (by omega) (by omega), wB_in (by omega) (by omega), wB_in (by omega) (by omega), wB_in (by omega) (by omega)]
  exact ⟨_, rfl, rfl, rfl, rfl, rfl, rfl⟩
theorem law_true (x0 x1 x2 : Int) (h0 : InR x0) (h1 : InR x1) (h2 : InR x2) : ∃ w', law_M x0 x1 x2 ([], false) = some (1, w') := by
  obtain ⟨s, e, f1, f2, f3, f4, f5⟩ := ctor_eq x0 x1
  unfold law_M
  rw [new0, e, ini0]
  have hn : nodeCount_M s = some (1, s) := by rw [nodeCount_M, f2]
  have he : entryCount_M x2 s = some (-1, s) := by rw [entryCount_M, if_pos f1]
  have hr : readByte_M x2 0 s = some (-1, s) := by rw [readByte_M, if_pos f1]
  by_cases hx : x2 = 0
  · subst hx
    have hv : isValid_M 0 s = some (1, s) := by simp [isValid_M, f2]
    have hk : kind_M 0 s = some (1, s) := by simp [kind_M, hv, cB_some, rB, f3]
    have hp : parentOf_M 0 s = some (0, s) := by simp [parentOf_M, hv, cB_some, rB, f4]
    have hc : nameChar_M 0 0 s = some (-3, s) := by simp [nameChar_M, hv, cB_some, rB, f5]
    simp only [if_true, law_j19, vir0 hn, vir0 hk, vir0 hp, vir0 hc, vir0 he, vir0 hr, law_j47, law_j68, law_j91]
    exact ⟨_, rfl⟩
  · have hv : isValid_M x2 s = some (0, s) := by
      unfold isValid_M
      split
      · rfl
      · rw [f2, if_neg (by omega)]
    have hk : kind_M x2 s = some (-2, s) := by simp [kind_M, hv, cB_some]
    have hp : parentOf_M x2 s = some (-2, s) := by simp [parentOf_M, hv, cB_some]
    have hc : nameChar_M x2 0 s = some (-2, s) := by simp [nameChar_M, hv, cB_some]
    simp only [if_neg hx, if_true, law_j19, vir0 hn, vir0 hk, vir0 hp, vir0 hc, vir0 he, vir0 hr, law_j47, law_j68, law_j91]
    exact ⟨_, rfl⟩
def CN : String := "SquashImage"
abbrev nI : Nat := 57
abbrev nA : Nat := 15
def FF : List (Option Fe) := [some ("superSize", "I", .int, 0), some ("inodeSize", "I", .int, 0), some ("entrySize", "I", .int, 0), some ("blockEntrySize", "I", .int, 0), some ("maxBlock", "I", .int, 0), some ("maxBlocks", "I", .int, 0), some ("magicValue", "I", .int, 0), some ("tokenLiteral", "I", .int, 0), some ("tokenRun", "I", .int, 0), some ("tokenRef", "I", .int, 0), some ("minMatch", "I", .int, 0), some ("sbInodeTable", "I", .int, 0), some ("sbBlockTable", "I", .int, 0), some ("sbDirTable", "I", .int, 0), some ("sbDataStart", "I", .int, 0), some ("sbNodeCount", "I", .int, 0), some ("sbBlockSize", "I", .int, 0), some ("sbFragFirst", "I", .int, 0), some ("sbBlockCount", "I", .int, 0), some ("sbMagic", "I", .int, 0), some ("inKind", "I", .int, 0), some ("inParent", "I", .int, 0), some ("inSize", "I", .int, 0), some ("inDirOff", "I", .int, 0), some ("inFirst", "I", .int, 0), some ("inEntries", "I", .int, 0), some ("inTail", "I", .int, 0), some ("inNameLen", "I", .int, 0), some ("blockSize", "I", .int, 0), some ("maxNodes", "I", .int, 0), some ("sealed", "Z", .boolean, 0), some ("nodes", "I", .int, 0), some ("nodeKind", "[B", .byte, 16), some ("nodeParent", "[B", .byte, 16), some ("nameLen", "[B", .byte, 16), some ("names", "[C", .char, 128), some ("sizes", "[I", .int, 16), some ("nameBuf", "[C", .char, 8), some ("nameBufLen", "I", .int, 0), some ("pathBuf", "[C", .char, 32), some ("pathLen", "I", .int, 0), some ("poolData", "[B", .byte, 256), some ("poolOwner", "[B", .byte, 256), some ("totalData", "I", .int, 0), some ("img", "[B", .byte, 1024), some ("fileBuf", "[B", .byte, 256), some ("fragRaw", "[B", .byte, 256), some ("fragLen", "I", .int, 0), some ("rawBlk", "[B", .byte, 32), some ("blkBuf", "[B", .byte, 32), some ("sortBuf", "[B", .byte, 16), none, none, none, none, some ("cachedBlock", "I", .int, 0), some ("cachedLen", "I", .int, 0)]
def PP : List Nat := [0, 0, 0, 0, 0, 0, 0, 0, 0, 0, 0, 0, 0, 0, 0, 0, 0, 0, 0, 0, 0, 0, 0, 0, 0, 0, 0, 0, 0, 0, 0, 0, 0, 1, 2, 3, 4, 5, 0, 6, 0, 7, 8, 0, 9, 10, 11, 0, 12, 13, 14, 0, 0, 0, 0, 0, 0]
def Words (a0 : Array Value) (Z : State) : Prop := ∀ d ∈ tables_1, d.before a0 Z = true
theorem w0 {a0 : Array Value} {Z : State} (hw : Words a0 Z) : (Jvm.Cond.classLink "SquashImageL1" 7 "SquashImage").before a0 Z = true := hw _ (List.mem_of_getElem? (i := 0) rfl)
theorem w1 {a0 : Array Value} {Z : State} (hw : Words a0 Z) : (Jvm.Cond.instantiable "SquashImage" 57).before a0 Z = true := hw _ (List.mem_of_getElem? (i := 1) rfl)
theorem w2 {a0 : Array Value} {Z : State} (hw : Words a0 Z) : (Jvm.Cond.initialized "SquashImage").before a0 Z = true := hw _ (List.mem_of_getElem? (i := 2) rfl)
theorem w3 {a0 : Array Value} {Z : State} (hw : Words a0 Z) : (Jvm.Cond.methodLink "SquashImageL1" 9 ⟨"SquashImage", "<init>", "(II)V"⟩).before a0 Z = true := hw _ (List.mem_of_getElem? (i := 3) rfl)
theorem w4 {a0 : Array Value} {Z : State} (hw : Words a0 Z) : (Jvm.Cond.instanceMethod ⟨"SquashImage", "<init>", "(II)V"⟩).before a0 Z = true := hw _ (List.mem_of_getElem? (i := 4) rfl)
theorem w5 {a0 : Array Value} {Z : State} (hw : Words a0 Z) : (Jvm.Cond.code ⟨"SquashImage", "<init>", "(II)V"⟩ prog_1_method_1_code 3 none).before a0 Z = true := hw _ (List.mem_of_getElem? (i := 5) rfl)
theorem w6 {a0 : Array Value} {Z : State} (hw : Words a0 Z) : (Jvm.Cond.methodLink "SquashImage" 1 Lib.objectInit).before a0 Z = true := hw _ (List.mem_of_getElem? (i := 6) rfl)
theorem w7 {a0 : Array Value} {Z : State} (hw : Words a0 Z) : (Jvm.Cond.instanceMethod Lib.objectInit).before a0 Z = true := hw _ (List.mem_of_getElem? (i := 7) rfl)
theorem w8 {a0 : Array Value} {Z : State} (hw : Words a0 Z) : (Jvm.Cond.code Lib.objectInit ⟨#[0xb1]⟩ 1 none).before a0 Z = true := hw _ (List.mem_of_getElem? (i := 8) rfl)
theorem w9 {a0 : Array Value} {Z : State} (hw : Words a0 Z) : (Jvm.Cond.fieldLink "SquashImage" 7 "SquashImage" "superSize" "I").before a0 Z = true := hw _ (List.mem_of_getElem? (i := 9) rfl)
theorem w10 {a0 : Array Value} {Z : State} (hw : Words a0 Z) : (Jvm.Cond.laysFinal "SquashImage" "SquashImage" "superSize" "I").before a0 Z = true := hw _ (List.mem_of_getElem? (i := 10) rfl)
theorem w11 {a0 : Array Value} {Z : State} (hw : Words a0 Z) : (Jvm.Cond.fieldLink "SquashImage" 13 "SquashImage" "inodeSize" "I").before a0 Z = true := hw _ (List.mem_of_getElem? (i := 11) rfl)
theorem w12 {a0 : Array Value} {Z : State} (hw : Words a0 Z) : (Jvm.Cond.laysFinal "SquashImage" "SquashImage" "inodeSize" "I").before a0 Z = true := hw _ (List.mem_of_getElem? (i := 12) rfl)
theorem w13 {a0 : Array Value} {Z : State} (hw : Words a0 Z) : (Jvm.Cond.fieldLink "SquashImage" 16 "SquashImage" "entrySize" "I").before a0 Z = true := hw _ (List.mem_of_getElem? (i := 13) rfl)
theorem w14 {a0 : Array Value} {Z : State} (hw : Words a0 Z) : (Jvm.Cond.laysFinal "SquashImage" "SquashImage" "entrySize" "I").before a0 Z = true := hw _ (List.mem_of_getElem? (i := 14) rfl)
theorem w15 {a0 : Array Value} {Z : State} (hw : Words a0 Z) : (Jvm.Cond.fieldLink "SquashImage" 19 "SquashImage" "blockEntrySize" "I").before a0 Z = true := hw _ (List.mem_of_getElem? (i := 15) rfl)
theorem w16 {a0 : Array Value} {Z : State} (hw : Words a0 Z) : (Jvm.Cond.laysFinal "SquashImage" "SquashImage" "blockEntrySize" "I").before a0 Z = true := hw _ (List.mem_of_getElem? (i := 16) rfl)
theorem w17 {a0 : Array Value} {Z : State} (hw : Words a0 Z) : (Jvm.Cond.fieldLink "SquashImage" 22 "SquashImage" "maxBlock" "I").before a0 Z = true := hw _ (List.mem_of_getElem? (i := 17) rfl)
theorem w18 {a0 : Array Value} {Z : State} (hw : Words a0 Z) : (Jvm.Cond.laysFinal "SquashImage" "SquashImage" "maxBlock" "I").before a0 Z = true := hw _ (List.mem_of_getElem? (i := 18) rfl)
theorem w19 {a0 : Array Value} {Z : State} (hw : Words a0 Z) : (Jvm.Cond.fieldLink "SquashImage" 25 "SquashImage" "maxBlocks" "I").before a0 Z = true := hw _ (List.mem_of_getElem? (i := 19) rfl)
theorem w20 {a0 : Array Value} {Z : State} (hw : Words a0 Z) : (Jvm.Cond.laysFinal "SquashImage" "SquashImage" "maxBlocks" "I").before a0 Z = true := hw _ (List.mem_of_getElem? (i := 20) rfl)
theorem w21 {a0 : Array Value} {Z : State} (hw : Words a0 Z) : (Jvm.Cond.fieldLink "SquashImage" 28 "SquashImage" "magicValue" "I").before a0 Z = true := hw _ (List.mem_of_getElem? (i := 21) rfl)
theorem w22 {a0 : Array Value} {Z : State} (hw : Words a0 Z) : (Jvm.Cond.laysFinal "SquashImage" "SquashImage" "magicValue" "I").before a0 Z = true := hw _ (List.mem_of_getElem? (i := 22) rfl)
theorem w23 {a0 : Array Value} {Z : State} (hw : Words a0 Z) : (Jvm.Cond.fieldLink "SquashImage" 31 "SquashImage" "tokenLiteral" "I").before a0 Z = true := hw _ (List.mem_of_getElem? (i := 23) rfl)
theorem w24 {a0 : Array Value} {Z : State} (hw : Words a0 Z) : (Jvm.Cond.laysFinal "SquashImage" "SquashImage" "tokenLiteral" "I").before a0 Z = true := hw _ (List.mem_of_getElem? (i := 24) rfl)
theorem w25 {a0 : Array Value} {Z : State} (hw : Words a0 Z) : (Jvm.Cond.fieldLink "SquashImage" 34 "SquashImage" "tokenRun" "I").before a0 Z = true := hw _ (List.mem_of_getElem? (i := 25) rfl)
theorem w26 {a0 : Array Value} {Z : State} (hw : Words a0 Z) : (Jvm.Cond.laysFinal "SquashImage" "SquashImage" "tokenRun" "I").before a0 Z = true := hw _ (List.mem_of_getElem? (i := 26) rfl)
theorem w27 {a0 : Array Value} {Z : State} (hw : Words a0 Z) : (Jvm.Cond.fieldLink "SquashImage" 37 "SquashImage" "tokenRef" "I").before a0 Z = true := hw _ (List.mem_of_getElem? (i := 27) rfl)
theorem w28 {a0 : Array Value} {Z : State} (hw : Words a0 Z) : (Jvm.Cond.laysFinal "SquashImage" "SquashImage" "tokenRef" "I").before a0 Z = true := hw _ (List.mem_of_getElem? (i := 28) rfl)
theorem w29 {a0 : Array Value} {Z : State} (hw : Words a0 Z) : (Jvm.Cond.fieldLink "SquashImage" 40 "SquashImage" "minMatch" "I").before a0 Z = true := hw _ (List.mem_of_getElem? (i := 29) rfl)
theorem w30 {a0 : Array Value} {Z : State} (hw : Words a0 Z) : (Jvm.Cond.laysFinal "SquashImage" "SquashImage" "minMatch" "I").before a0 Z = true := hw _ (List.mem_of_getElem? (i := 30) rfl)
theorem w31 {a0 : Array Value} {Z : State} (hw : Words a0 Z) : (Jvm.Cond.fieldLink "SquashImage" 43 "SquashImage" "sbInodeTable" "I").before a0 Z = true := hw _ (List.mem_of_getElem? (i := 31) rfl)
theorem w32 {a0 : Array Value} {Z : State} (hw : Words a0 Z) : (Jvm.Cond.laysFinal "SquashImage" "SquashImage" "sbInodeTable" "I").before a0 Z = true := hw _ (List.mem_of_getElem? (i := 32) rfl)
theorem w33 {a0 : Array Value} {Z : State} (hw : Words a0 Z) : (Jvm.Cond.fieldLink "SquashImage" 46 "SquashImage" "sbBlockTable" "I").before a0 Z = true := hw _ (List.mem_of_getElem? (i := 33) rfl)
theorem w34 {a0 : Array Value} {Z : State} (hw : Words a0 Z) : (Jvm.Cond.laysFinal "SquashImage" "SquashImage" "sbBlockTable" "I").before a0 Z = true := hw _ (List.mem_of_getElem? (i := 34) rfl)
theorem w35 {a0 : Array Value} {Z : State} (hw : Words a0 Z) : (Jvm.Cond.fieldLink "SquashImage" 49 "SquashImage" "sbDirTable" "I").before a0 Z = true := hw _ (List.mem_of_getElem? (i := 35) rfl)
theorem w36 {a0 : Array Value} {Z : State} (hw : Words a0 Z) : (Jvm.Cond.laysFinal "SquashImage" "SquashImage" "sbDirTable" "I").before a0 Z = true := hw _ (List.mem_of_getElem? (i := 36) rfl)
theorem w37 {a0 : Array Value} {Z : State} (hw : Words a0 Z) : (Jvm.Cond.fieldLink "SquashImage" 52 "SquashImage" "sbDataStart" "I").before a0 Z = true := hw _ (List.mem_of_getElem? (i := 37) rfl)
theorem w38 {a0 : Array Value} {Z : State} (hw : Words a0 Z) : (Jvm.Cond.laysFinal "SquashImage" "SquashImage" "sbDataStart" "I").before a0 Z = true := hw _ (List.mem_of_getElem? (i := 38) rfl)
theorem w39 {a0 : Array Value} {Z : State} (hw : Words a0 Z) : (Jvm.Cond.fieldLink "SquashImage" 55 "SquashImage" "sbNodeCount" "I").before a0 Z = true := hw _ (List.mem_of_getElem? (i := 39) rfl)
theorem w40 {a0 : Array Value} {Z : State} (hw : Words a0 Z) : (Jvm.Cond.laysFinal "SquashImage" "SquashImage" "sbNodeCount" "I").before a0 Z = true := hw _ (List.mem_of_getElem? (i := 40) rfl)
theorem w41 {a0 : Array Value} {Z : State} (hw : Words a0 Z) : (Jvm.Cond.fieldLink "SquashImage" 58 "SquashImage" "sbBlockSize" "I").before a0 Z = true := hw _ (List.mem_of_getElem? (i := 41) rfl)
theorem w42 {a0 : Array Value} {Z : State} (hw : Words a0 Z) : (Jvm.Cond.laysFinal "SquashImage" "SquashImage" "sbBlockSize" "I").before a0 Z = true := hw _ (List.mem_of_getElem? (i := 42) rfl)
theorem w43 {a0 : Array Value} {Z : State} (hw : Words a0 Z) : (Jvm.Cond.fieldLink "SquashImage" 61 "SquashImage" "sbFragFirst" "I").before a0 Z = true := hw _ (List.mem_of_getElem? (i := 43) rfl)
theorem w44 {a0 : Array Value} {Z : State} (hw : Words a0 Z) : (Jvm.Cond.laysFinal "SquashImage" "SquashImage" "sbFragFirst" "I").before a0 Z = true := hw _ (List.mem_of_getElem? (i := 44) rfl)
theorem w45 {a0 : Array Value} {Z : State} (hw : Words a0 Z) : (Jvm.Cond.fieldLink "SquashImage" 64 "SquashImage" "sbBlockCount" "I").before a0 Z = true := hw _ (List.mem_of_getElem? (i := 45) rfl)
theorem w46 {a0 : Array Value} {Z : State} (hw : Words a0 Z) : (Jvm.Cond.laysFinal "SquashImage" "SquashImage" "sbBlockCount" "I").before a0 Z = true := hw _ (List.mem_of_getElem? (i := 46) rfl)
theorem w47 {a0 : Array Value} {Z : State} (hw : Words a0 Z) : (Jvm.Cond.fieldLink "SquashImage" 67 "SquashImage" "sbMagic" "I").before a0 Z = true := hw _ (List.mem_of_getElem? (i := 47) rfl)
theorem w48 {a0 : Array Value} {Z : State} (hw : Words a0 Z) : (Jvm.Cond.laysFinal "SquashImage" "SquashImage" "sbMagic" "I").before a0 Z = true := hw _ (List.mem_of_getElem? (i := 48) rfl)
theorem w49 {a0 : Array Value} {Z : State} (hw : Words a0 Z) : (Jvm.Cond.fieldLink "SquashImage" 70 "SquashImage" "inKind" "I").before a0 Z = true := hw _ (List.mem_of_getElem? (i := 49) rfl)
theorem w50 {a0 : Array Value} {Z : State} (hw : Words a0 Z) : (Jvm.Cond.laysFinal "SquashImage" "SquashImage" "inKind" "I").before a0 Z = true := hw _ (List.mem_of_getElem? (i := 50) rfl)
theorem w51 {a0 : Array Value} {Z : State} (hw : Words a0 Z) : (Jvm.Cond.fieldLink "SquashImage" 73 "SquashImage" "inParent" "I").before a0 Z = true := hw _ (List.mem_of_getElem? (i := 51) rfl)
theorem w52 {a0 : Array Value} {Z : State} (hw : Words a0 Z) : (Jvm.Cond.laysFinal "SquashImage" "SquashImage" "inParent" "I").before a0 Z = true := hw _ (List.mem_of_getElem? (i := 52) rfl)
theorem w53 {a0 : Array Value} {Z : State} (hw : Words a0 Z) : (Jvm.Cond.fieldLink "SquashImage" 76 "SquashImage" "inSize" "I").before a0 Z = true := hw _ (List.mem_of_getElem? (i := 53) rfl)
theorem w54 {a0 : Array Value} {Z : State} (hw : Words a0 Z) : (Jvm.Cond.laysFinal "SquashImage" "SquashImage" "inSize" "I").before a0 Z = true := hw _ (List.mem_of_getElem? (i := 54) rfl)
theorem w55 {a0 : Array Value} {Z : State} (hw : Words a0 Z) : (Jvm.Cond.fieldLink "SquashImage" 79 "SquashImage" "inDirOff" "I").before a0 Z = true := hw _ (List.mem_of_getElem? (i := 55) rfl)
theorem w56 {a0 : Array Value} {Z : State} (hw : Words a0 Z) : (Jvm.Cond.laysFinal "SquashImage" "SquashImage" "inDirOff" "I").before a0 Z = true := hw _ (List.mem_of_getElem? (i := 56) rfl)
theorem w57 {a0 : Array Value} {Z : State} (hw : Words a0 Z) : (Jvm.Cond.fieldLink "SquashImage" 82 "SquashImage" "inFirst" "I").before a0 Z = true := hw _ (List.mem_of_getElem? (i := 57) rfl)
theorem w58 {a0 : Array Value} {Z : State} (hw : Words a0 Z) : (Jvm.Cond.laysFinal "SquashImage" "SquashImage" "inFirst" "I").before a0 Z = true := hw _ (List.mem_of_getElem? (i := 58) rfl)
theorem w59 {a0 : Array Value} {Z : State} (hw : Words a0 Z) : (Jvm.Cond.fieldLink "SquashImage" 85 "SquashImage" "inEntries" "I").before a0 Z = true := hw _ (List.mem_of_getElem? (i := 59) rfl)
theorem w60 {a0 : Array Value} {Z : State} (hw : Words a0 Z) : (Jvm.Cond.laysFinal "SquashImage" "SquashImage" "inEntries" "I").before a0 Z = true := hw _ (List.mem_of_getElem? (i := 60) rfl)
theorem w61 {a0 : Array Value} {Z : State} (hw : Words a0 Z) : (Jvm.Cond.fieldLink "SquashImage" 88 "SquashImage" "inTail" "I").before a0 Z = true := hw _ (List.mem_of_getElem? (i := 61) rfl)
theorem w62 {a0 : Array Value} {Z : State} (hw : Words a0 Z) : (Jvm.Cond.laysFinal "SquashImage" "SquashImage" "inTail" "I").before a0 Z = true := hw _ (List.mem_of_getElem? (i := 62) rfl)
theorem w63 {a0 : Array Value} {Z : State} (hw : Words a0 Z) : (Jvm.Cond.fieldLink "SquashImage" 91 "SquashImage" "inNameLen" "I").before a0 Z = true := hw _ (List.mem_of_getElem? (i := 63) rfl)
theorem w64 {a0 : Array Value} {Z : State} (hw : Words a0 Z) : (Jvm.Cond.laysFinal "SquashImage" "SquashImage" "inNameLen" "I").before a0 Z = true := hw _ (List.mem_of_getElem? (i := 64) rfl)
theorem w65 {a0 : Array Value} {Z : State} (hw : Words a0 Z) : (Jvm.Cond.arrayClass .byte).before a0 Z = true := hw _ (List.mem_of_getElem? (i := 65) rfl)
theorem w66 {a0 : Array Value} {Z : State} (hw : Words a0 Z) : (Jvm.Cond.fieldLink "SquashImage" 94 "SquashImage" "nodeKind" "[B").before a0 Z = true := hw _ (List.mem_of_getElem? (i := 66) rfl)
theorem w67 {a0 : Array Value} {Z : State} (hw : Words a0 Z) : (Jvm.Cond.laysFinal "SquashImage" "SquashImage" "nodeKind" "[B").before a0 Z = true := hw _ (List.mem_of_getElem? (i := 67) rfl)
theorem w68 {a0 : Array Value} {Z : State} (hw : Words a0 Z) : (Jvm.Cond.fieldLink "SquashImage" 98 "SquashImage" "nodeParent" "[B").before a0 Z = true := hw _ (List.mem_of_getElem? (i := 68) rfl)
theorem w69 {a0 : Array Value} {Z : State} (hw : Words a0 Z) : (Jvm.Cond.laysFinal "SquashImage" "SquashImage" "nodeParent" "[B").before a0 Z = true := hw _ (List.mem_of_getElem? (i := 69) rfl)
theorem w70 {a0 : Array Value} {Z : State} (hw : Words a0 Z) : (Jvm.Cond.fieldLink "SquashImage" 101 "SquashImage" "nameLen" "[B").before a0 Z = true := hw _ (List.mem_of_getElem? (i := 70) rfl)
theorem w71 {a0 : Array Value} {Z : State} (hw : Words a0 Z) : (Jvm.Cond.laysFinal "SquashImage" "SquashImage" "nameLen" "[B").before a0 Z = true := hw _ (List.mem_of_getElem? (i := 71) rfl)
theorem w72 {a0 : Array Value} {Z : State} (hw : Words a0 Z) : (Jvm.Cond.arrayClass .char).before a0 Z = true := hw _ (List.mem_of_getElem? (i := 72) rfl)
theorem w73 {a0 : Array Value} {Z : State} (hw : Words a0 Z) : (Jvm.Cond.fieldLink "SquashImage" 104 "SquashImage" "names" "[C").before a0 Z = true := hw _ (List.mem_of_getElem? (i := 73) rfl)
theorem w74 {a0 : Array Value} {Z : State} (hw : Words a0 Z) : (Jvm.Cond.laysFinal "SquashImage" "SquashImage" "names" "[C").before a0 Z = true := hw _ (List.mem_of_getElem? (i := 74) rfl)
theorem w75 {a0 : Array Value} {Z : State} (hw : Words a0 Z) : (Jvm.Cond.arrayClass .int).before a0 Z = true := hw _ (List.mem_of_getElem? (i := 75) rfl)
theorem w76 {a0 : Array Value} {Z : State} (hw : Words a0 Z) : (Jvm.Cond.fieldLink "SquashImage" 108 "SquashImage" "sizes" "[I").before a0 Z = true := hw _ (List.mem_of_getElem? (i := 76) rfl)
theorem w77 {a0 : Array Value} {Z : State} (hw : Words a0 Z) : (Jvm.Cond.laysFinal "SquashImage" "SquashImage" "sizes" "[I").before a0 Z = true := hw _ (List.mem_of_getElem? (i := 77) rfl)
theorem w78 {a0 : Array Value} {Z : State} (hw : Words a0 Z) : (Jvm.Cond.fieldLink "SquashImage" 112 "SquashImage" "nameBuf" "[C").before a0 Z = true := hw _ (List.mem_of_getElem? (i := 78) rfl)
theorem w79 {a0 : Array Value} {Z : State} (hw : Words a0 Z) : (Jvm.Cond.laysFinal "SquashImage" "SquashImage" "nameBuf" "[C").before a0 Z = true := hw _ (List.mem_of_getElem? (i := 79) rfl)
theorem w80 {a0 : Array Value} {Z : State} (hw : Words a0 Z) : (Jvm.Cond.fieldLink "SquashImage" 115 "SquashImage" "pathBuf" "[C").before a0 Z = true := hw _ (List.mem_of_getElem? (i := 80) rfl)
theorem w81 {a0 : Array Value} {Z : State} (hw : Words a0 Z) : (Jvm.Cond.laysFinal "SquashImage" "SquashImage" "pathBuf" "[C").before a0 Z = true := hw _ (List.mem_of_getElem? (i := 81) rfl)
theorem w82 {a0 : Array Value} {Z : State} (hw : Words a0 Z) : (Jvm.Cond.fieldLink "SquashImage" 118 "SquashImage" "poolData" "[B").before a0 Z = true := hw _ (List.mem_of_getElem? (i := 82) rfl)
theorem w83 {a0 : Array Value} {Z : State} (hw : Words a0 Z) : (Jvm.Cond.laysFinal "SquashImage" "SquashImage" "poolData" "[B").before a0 Z = true := hw _ (List.mem_of_getElem? (i := 83) rfl)
theorem w84 {a0 : Array Value} {Z : State} (hw : Words a0 Z) : (Jvm.Cond.fieldLink "SquashImage" 121 "SquashImage" "poolOwner" "[B").before a0 Z = true := hw _ (List.mem_of_getElem? (i := 84) rfl)
theorem w85 {a0 : Array Value} {Z : State} (hw : Words a0 Z) : (Jvm.Cond.laysFinal "SquashImage" "SquashImage" "poolOwner" "[B").before a0 Z = true := hw _ (List.mem_of_getElem? (i := 85) rfl)
theorem w86 {a0 : Array Value} {Z : State} (hw : Words a0 Z) : (Jvm.Cond.fieldLink "SquashImage" 124 "SquashImage" "img" "[B").before a0 Z = true := hw _ (List.mem_of_getElem? (i := 86) rfl)
theorem w87 {a0 : Array Value} {Z : State} (hw : Words a0 Z) : (Jvm.Cond.laysFinal "SquashImage" "SquashImage" "img" "[B").before a0 Z = true := hw _ (List.mem_of_getElem? (i := 87) rfl)
theorem w88 {a0 : Array Value} {Z : State} (hw : Words a0 Z) : (Jvm.Cond.fieldLink "SquashImage" 127 "SquashImage" "fileBuf" "[B").before a0 Z = true := hw _ (List.mem_of_getElem? (i := 88) rfl)
theorem w89 {a0 : Array Value} {Z : State} (hw : Words a0 Z) : (Jvm.Cond.laysFinal "SquashImage" "SquashImage" "fileBuf" "[B").before a0 Z = true := hw _ (List.mem_of_getElem? (i := 89) rfl)
theorem w90 {a0 : Array Value} {Z : State} (hw : Words a0 Z) : (Jvm.Cond.fieldLink "SquashImage" 130 "SquashImage" "fragRaw" "[B").before a0 Z = true := hw _ (List.mem_of_getElem? (i := 90) rfl)
theorem w91 {a0 : Array Value} {Z : State} (hw : Words a0 Z) : (Jvm.Cond.laysFinal "SquashImage" "SquashImage" "fragRaw" "[B").before a0 Z = true := hw _ (List.mem_of_getElem? (i := 91) rfl)
theorem w92 {a0 : Array Value} {Z : State} (hw : Words a0 Z) : (Jvm.Cond.fieldLink "SquashImage" 133 "SquashImage" "rawBlk" "[B").before a0 Z = true := hw _ (List.mem_of_getElem? (i := 92) rfl)
theorem w93 {a0 : Array Value} {Z : State} (hw : Words a0 Z) : (Jvm.Cond.laysFinal "SquashImage" "SquashImage" "rawBlk" "[B").before a0 Z = true := hw _ (List.mem_of_getElem? (i := 93) rfl)
theorem w94 {a0 : Array Value} {Z : State} (hw : Words a0 Z) : (Jvm.Cond.fieldLink "SquashImage" 136 "SquashImage" "blkBuf" "[B").before a0 Z = true := hw _ (List.mem_of_getElem? (i := 94) rfl)
theorem w95 {a0 : Array Value} {Z : State} (hw : Words a0 Z) : (Jvm.Cond.laysFinal "SquashImage" "SquashImage" "blkBuf" "[B").before a0 Z = true := hw _ (List.mem_of_getElem? (i := 95) rfl)
theorem w96 {a0 : Array Value} {Z : State} (hw : Words a0 Z) : (Jvm.Cond.fieldLink "SquashImage" 139 "SquashImage" "sortBuf" "[B").before a0 Z = true := hw _ (List.mem_of_getElem? (i := 96) rfl)
theorem w97 {a0 : Array Value} {Z : State} (hw : Words a0 Z) : (Jvm.Cond.laysFinal "SquashImage" "SquashImage" "sortBuf" "[B").before a0 Z = true := hw _ (List.mem_of_getElem? (i := 97) rfl)
theorem w98 {a0 : Array Value} {Z : State} (hw : Words a0 Z) : (Jvm.Cond.methodLink "SquashImage" 142 ⟨"SquashImage", "clamp", "(III)I"⟩).before a0 Z = true := hw _ (List.mem_of_getElem? (i := 98) rfl)
theorem w99 {a0 : Array Value} {Z : State} (hw : Words a0 Z) : (Jvm.Cond.instanceMethod ⟨"SquashImage", "clamp", "(III)I"⟩).before a0 Z = true := hw _ (List.mem_of_getElem? (i := 99) rfl)
theorem w100 {a0 : Array Value} {Z : State} (hw : Words a0 Z) : (Jvm.Cond.privateMethod ⟨"SquashImage", "clamp", "(III)I"⟩).before a0 Z = true := hw _ (List.mem_of_getElem? (i := 100) rfl)
theorem w101 {a0 : Array Value} {Z : State} (hw : Words a0 Z) : (Jvm.Cond.code ⟨"SquashImage", "clamp", "(III)I"⟩ prog_1_method_2_code 4 (some .int)).before a0 Z = true := hw _ (List.mem_of_getElem? (i := 101) rfl)
theorem w102 {a0 : Array Value} {Z : State} (hw : Words a0 Z) : (Jvm.Cond.fieldLink "SquashImage" 146 "SquashImage" "blockSize" "I").before a0 Z = true := hw _ (List.mem_of_getElem? (i := 102) rfl)
theorem w103 {a0 : Array Value} {Z : State} (hw : Words a0 Z) : (Jvm.Cond.lays "SquashImage" "SquashImage" "blockSize" "I").before a0 Z = true := hw _ (List.mem_of_getElem? (i := 103) rfl)
theorem w104 {a0 : Array Value} {Z : State} (hw : Words a0 Z) : (Jvm.Cond.fieldLink "SquashImage" 149 "SquashImage" "maxNodes" "I").before a0 Z = true := hw _ (List.mem_of_getElem? (i := 104) rfl)
theorem w105 {a0 : Array Value} {Z : State} (hw : Words a0 Z) : (Jvm.Cond.lays "SquashImage" "SquashImage" "maxNodes" "I").before a0 Z = true := hw _ (List.mem_of_getElem? (i := 105) rfl)
theorem w106 {a0 : Array Value} {Z : State} (hw : Words a0 Z) : (Jvm.Cond.fieldLink "SquashImage" 152 "SquashImage" "sealed" "Z").before a0 Z = true := hw _ (List.mem_of_getElem? (i := 106) rfl)
theorem w107 {a0 : Array Value} {Z : State} (hw : Words a0 Z) : (Jvm.Cond.lays "SquashImage" "SquashImage" "sealed" "Z").before a0 Z = true := hw _ (List.mem_of_getElem? (i := 107) rfl)
theorem w108 {a0 : Array Value} {Z : State} (hw : Words a0 Z) : (Jvm.Cond.fieldLink "SquashImage" 156 "SquashImage" "nodes" "I").before a0 Z = true := hw _ (List.mem_of_getElem? (i := 108) rfl)
theorem w109 {a0 : Array Value} {Z : State} (hw : Words a0 Z) : (Jvm.Cond.lays "SquashImage" "SquashImage" "nodes" "I").before a0 Z = true := hw _ (List.mem_of_getElem? (i := 109) rfl)
theorem w110 {a0 : Array Value} {Z : State} (hw : Words a0 Z) : (Jvm.Cond.fieldLink "SquashImage" 159 "SquashImage" "nameBufLen" "I").before a0 Z = true := hw _ (List.mem_of_getElem? (i := 110) rfl)
theorem w111 {a0 : Array Value} {Z : State} (hw : Words a0 Z) : (Jvm.Cond.lays "SquashImage" "SquashImage" "nameBufLen" "I").before a0 Z = true := hw _ (List.mem_of_getElem? (i := 111) rfl)
theorem w112 {a0 : Array Value} {Z : State} (hw : Words a0 Z) : (Jvm.Cond.fieldLink "SquashImage" 162 "SquashImage" "pathLen" "I").before a0 Z = true := hw _ (List.mem_of_getElem? (i := 112) rfl)
theorem w113 {a0 : Array Value} {Z : State} (hw : Words a0 Z) : (Jvm.Cond.lays "SquashImage" "SquashImage" "pathLen" "I").before a0 Z = true := hw _ (List.mem_of_getElem? (i := 113) rfl)
theorem w114 {a0 : Array Value} {Z : State} (hw : Words a0 Z) : (Jvm.Cond.fieldLink "SquashImage" 165 "SquashImage" "totalData" "I").before a0 Z = true := hw _ (List.mem_of_getElem? (i := 114) rfl)
theorem w115 {a0 : Array Value} {Z : State} (hw : Words a0 Z) : (Jvm.Cond.lays "SquashImage" "SquashImage" "totalData" "I").before a0 Z = true := hw _ (List.mem_of_getElem? (i := 115) rfl)
theorem w116 {a0 : Array Value} {Z : State} (hw : Words a0 Z) : (Jvm.Cond.fieldLink "SquashImage" 168 "SquashImage" "fragLen" "I").before a0 Z = true := hw _ (List.mem_of_getElem? (i := 116) rfl)
theorem w117 {a0 : Array Value} {Z : State} (hw : Words a0 Z) : (Jvm.Cond.lays "SquashImage" "SquashImage" "fragLen" "I").before a0 Z = true := hw _ (List.mem_of_getElem? (i := 117) rfl)
theorem w118 {a0 : Array Value} {Z : State} (hw : Words a0 Z) : (Jvm.Cond.fieldLink "SquashImage" 171 "SquashImage" "cachedBlock" "I").before a0 Z = true := hw _ (List.mem_of_getElem? (i := 118) rfl)
theorem w119 {a0 : Array Value} {Z : State} (hw : Words a0 Z) : (Jvm.Cond.lays "SquashImage" "SquashImage" "cachedBlock" "I").before a0 Z = true := hw _ (List.mem_of_getElem? (i := 119) rfl)
theorem w120 {a0 : Array Value} {Z : State} (hw : Words a0 Z) : (Jvm.Cond.fieldLink "SquashImage" 174 "SquashImage" "cachedLen" "I").before a0 Z = true := hw _ (List.mem_of_getElem? (i := 120) rfl)
theorem w121 {a0 : Array Value} {Z : State} (hw : Words a0 Z) : (Jvm.Cond.lays "SquashImage" "SquashImage" "cachedLen" "I").before a0 Z = true := hw _ (List.mem_of_getElem? (i := 121) rfl)
theorem w122 {a0 : Array Value} {Z : State} (hw : Words a0 Z) : (Jvm.Cond.methodLink "SquashImageL1" 12 ⟨"SquashImage", "nodeCount", "()I"⟩).before a0 Z = true := hw _ (List.mem_of_getElem? (i := 122) rfl)
theorem w123 {a0 : Array Value} {Z : State} (hw : Words a0 Z) : (Jvm.Cond.declares ⟨"SquashImage", "nodeCount", "()I"⟩).before a0 Z = true := hw _ (List.mem_of_getElem? (i := 123) rfl)
theorem w124 {a0 : Array Value} {Z : State} (hw : Words a0 Z) : (Jvm.Cond.instanceMethod ⟨"SquashImage", "nodeCount", "()I"⟩).before a0 Z = true := hw _ (List.mem_of_getElem? (i := 124) rfl)
theorem w125 {a0 : Array Value} {Z : State} (hw : Words a0 Z) : (Jvm.Cond.selects "SquashImage" ⟨"SquashImage", "nodeCount", "()I"⟩ ⟨"SquashImage", "nodeCount", "()I"⟩).before a0 Z = true := hw _ (List.mem_of_getElem? (i := 125) rfl)
theorem w126 {a0 : Array Value} {Z : State} (hw : Words a0 Z) : (Jvm.Cond.code ⟨"SquashImage", "nodeCount", "()I"⟩ prog_1_method_52_code 1 (some .int)).before a0 Z = true := hw _ (List.mem_of_getElem? (i := 126) rfl)
theorem w127 {a0 : Array Value} {Z : State} (hw : Words a0 Z) : (Jvm.Cond.methodLink "SquashImageL1" 16 ⟨"SquashImage", "kind", "(I)I"⟩).before a0 Z = true := hw _ (List.mem_of_getElem? (i := 127) rfl)
theorem w128 {a0 : Array Value} {Z : State} (hw : Words a0 Z) : (Jvm.Cond.declares ⟨"SquashImage", "kind", "(I)I"⟩).before a0 Z = true := hw _ (List.mem_of_getElem? (i := 128) rfl)
theorem w129 {a0 : Array Value} {Z : State} (hw : Words a0 Z) : (Jvm.Cond.instanceMethod ⟨"SquashImage", "kind", "(I)I"⟩).before a0 Z = true := hw _ (List.mem_of_getElem? (i := 129) rfl)
theorem w130 {a0 : Array Value} {Z : State} (hw : Words a0 Z) : (Jvm.Cond.selects "SquashImage" ⟨"SquashImage", "kind", "(I)I"⟩ ⟨"SquashImage", "kind", "(I)I"⟩).before a0 Z = true := hw _ (List.mem_of_getElem? (i := 130) rfl)
theorem w131 {a0 : Array Value} {Z : State} (hw : Words a0 Z) : (Jvm.Cond.code ⟨"SquashImage", "kind", "(I)I"⟩ prog_1_method_49_code 2 (some .int)).before a0 Z = true := hw _ (List.mem_of_getElem? (i := 131) rfl)
theorem w132 {a0 : Array Value} {Z : State} (hw : Words a0 Z) : (Jvm.Cond.methodLink "SquashImage" 325 ⟨"SquashImage", "isValid", "(I)Z"⟩).before a0 Z = true := hw _ (List.mem_of_getElem? (i := 132) rfl)
theorem w133 {a0 : Array Value} {Z : State} (hw : Words a0 Z) : (Jvm.Cond.instanceMethod ⟨"SquashImage", "isValid", "(I)Z"⟩).before a0 Z = true := hw _ (List.mem_of_getElem? (i := 133) rfl)
theorem w134 {a0 : Array Value} {Z : State} (hw : Words a0 Z) : (Jvm.Cond.privateMethod ⟨"SquashImage", "isValid", "(I)Z"⟩).before a0 Z = true := hw _ (List.mem_of_getElem? (i := 134) rfl)
theorem w135 {a0 : Array Value} {Z : State} (hw : Words a0 Z) : (Jvm.Cond.code ⟨"SquashImage", "isValid", "(I)Z"⟩ prog_1_method_53_code 2 (some .boolean)).before a0 Z = true := hw _ (List.mem_of_getElem? (i := 135) rfl)
theorem w136 {a0 : Array Value} {Z : State} (hw : Words a0 Z) : (Jvm.Cond.methodLink "SquashImageL1" 20 ⟨"SquashImage", "parentOf", "(I)I"⟩).before a0 Z = true := hw _ (List.mem_of_getElem? (i := 136) rfl)
theorem w137 {a0 : Array Value} {Z : State} (hw : Words a0 Z) : (Jvm.Cond.declares ⟨"SquashImage", "parentOf", "(I)I"⟩).before a0 Z = true := hw _ (List.mem_of_getElem? (i := 137) rfl)
theorem w138 {a0 : Array Value} {Z : State} (hw : Words a0 Z) : (Jvm.Cond.instanceMethod ⟨"SquashImage", "parentOf", "(I)I"⟩).before a0 Z = true := hw _ (List.mem_of_getElem? (i := 138) rfl)
theorem w139 {a0 : Array Value} {Z : State} (hw : Words a0 Z) : (Jvm.Cond.selects "SquashImage" ⟨"SquashImage", "parentOf", "(I)I"⟩ ⟨"SquashImage", "parentOf", "(I)I"⟩).before a0 Z = true := hw _ (List.mem_of_getElem? (i := 139) rfl)
theorem w140 {a0 : Array Value} {Z : State} (hw : Words a0 Z) : (Jvm.Cond.code ⟨"SquashImage", "parentOf", "(I)I"⟩ prog_1_method_51_code 2 (some .int)).before a0 Z = true := hw _ (List.mem_of_getElem? (i := 140) rfl)
theorem w141 {a0 : Array Value} {Z : State} (hw : Words a0 Z) : (Jvm.Cond.methodLink "SquashImageL1" 23 ⟨"SquashImage", "nameChar", "(II)I"⟩).before a0 Z = true := hw _ (List.mem_of_getElem? (i := 141) rfl)
theorem w142 {a0 : Array Value} {Z : State} (hw : Words a0 Z) : (Jvm.Cond.declares ⟨"SquashImage", "nameChar", "(II)I"⟩).before a0 Z = true := hw _ (List.mem_of_getElem? (i := 142) rfl)
theorem w143 {a0 : Array Value} {Z : State} (hw : Words a0 Z) : (Jvm.Cond.instanceMethod ⟨"SquashImage", "nameChar", "(II)I"⟩).before a0 Z = true := hw _ (List.mem_of_getElem? (i := 143) rfl)
theorem w144 {a0 : Array Value} {Z : State} (hw : Words a0 Z) : (Jvm.Cond.selects "SquashImage" ⟨"SquashImage", "nameChar", "(II)I"⟩ ⟨"SquashImage", "nameChar", "(II)I"⟩).before a0 Z = true := hw _ (List.mem_of_getElem? (i := 144) rfl)
theorem w145 {a0 : Array Value} {Z : State} (hw : Words a0 Z) : (Jvm.Cond.code ⟨"SquashImage", "nameChar", "(II)I"⟩ prog_1_method_50_code 3 (some .int)).before a0 Z = true := hw _ (List.mem_of_getElem? (i := 145) rfl)
theorem w146 {a0 : Array Value} {Z : State} (hw : Words a0 Z) : (Jvm.Cond.methodLink "SquashImageL1" 27 ⟨"SquashImage", "entryCount", "(I)I"⟩).before a0 Z = true := hw _ (List.mem_of_getElem? (i := 146) rfl)
theorem w147 {a0 : Array Value} {Z : State} (hw : Words a0 Z) : (Jvm.Cond.declares ⟨"SquashImage", "entryCount", "(I)I"⟩).before a0 Z = true := hw _ (List.mem_of_getElem? (i := 147) rfl)
theorem w148 {a0 : Array Value} {Z : State} (hw : Words a0 Z) : (Jvm.Cond.instanceMethod ⟨"SquashImage", "entryCount", "(I)I"⟩).before a0 Z = true := hw _ (List.mem_of_getElem? (i := 148) rfl)
theorem w149 {a0 : Array Value} {Z : State} (hw : Words a0 Z) : (Jvm.Cond.selects "SquashImage" ⟨"SquashImage", "entryCount", "(I)I"⟩ ⟨"SquashImage", "entryCount", "(I)I"⟩).before a0 Z = true := hw _ (List.mem_of_getElem? (i := 149) rfl)
theorem w150 {a0 : Array Value} {Z : State} (hw : Words a0 Z) : (Jvm.Cond.code ⟨"SquashImage", "entryCount", "(I)I"⟩ prog_1_method_47_code 3 (some .int)).before a0 Z = true := hw _ (List.mem_of_getElem? (i := 150) rfl)
theorem w151 {a0 : Array Value} {Z : State} (hw : Words a0 Z) : (Jvm.Cond.methodLink "SquashImageL1" 30 ⟨"SquashImage", "readByte", "(II)I"⟩).before a0 Z = true := hw _ (List.mem_of_getElem? (i := 151) rfl)
theorem w152 {a0 : Array Value} {Z : State} (hw : Words a0 Z) : (Jvm.Cond.declares ⟨"SquashImage", "readByte", "(II)I"⟩).before a0 Z = true := hw _ (List.mem_of_getElem? (i := 152) rfl)
theorem w153 {a0 : Array Value} {Z : State} (hw : Words a0 Z) : (Jvm.Cond.instanceMethod ⟨"SquashImage", "readByte", "(II)I"⟩).before a0 Z = true := hw _ (List.mem_of_getElem? (i := 153) rfl)
theorem w154 {a0 : Array Value} {Z : State} (hw : Words a0 Z) : (Jvm.Cond.selects "SquashImage" ⟨"SquashImage", "readByte", "(II)I"⟩ ⟨"SquashImage", "readByte", "(II)I"⟩).before a0 Z = true := hw _ (List.mem_of_getElem? (i := 154) rfl)
theorem w155 {a0 : Array Value} {Z : State} (hw : Words a0 Z) : (Jvm.Cond.code ⟨"SquashImage", "readByte", "(II)I"⟩ prog_1_method_44_code 9 (some .int)).before a0 Z = true := hw _ (List.mem_of_getElem? (i := 155) rfl)
theorem pnC : plainName CN = true := by first | (simp [CN, plainName, overriddenIn]; done) | decide +kernel
theorem pnL : plainName x.cls = true := by first | (simp [x, plainName, overriddenIn]; done) | decide +kernel
set_option maxRecDepth 65536 in
theorem ca_1 {a0 : Array Value} {Z : State} (hw : Words a0 Z) : CA a0 Z CN nI FF := by
  refine ⟨fun k e hk => ?_, distF_ok (by decide +kernel), (w1 hw)⟩
  match k, hk with
  | 0, hk => have q : e = ("superSize", "I", .int, 0) := (Option.some.inj (Option.some.inj hk)).symm; subst q; exact ⟨Or.inr (w10 hw), rfl, by decide +kernel⟩
  | 1, hk => have q : e = ("inodeSize", "I", .int, 0) := (Option.some.inj (Option.some.inj hk)).symm; subst q; exact ⟨Or.inr (w12 hw), rfl, by decide +kernel⟩
  | 2, hk => have q : e = ("entrySize", "I", .int, 0) := (Option.some.inj (Option.some.inj hk)).symm; subst q; exact ⟨Or.inr (w14 hw), rfl, by decide +kernel⟩
  | 3, hk => have q : e = ("blockEntrySize", "I", .int, 0) := (Option.some.inj (Option.some.inj hk)).symm; subst q; exact ⟨Or.inr (w16 hw), rfl, by decide +kernel⟩
  | 4, hk => have q : e = ("maxBlock", "I", .int, 0) := (Option.some.inj (Option.some.inj hk)).symm; subst q; exact ⟨Or.inr (w18 hw), rfl, by decide +kernel⟩
  | 5, hk => have q : e = ("maxBlocks", "I", .int, 0) := (Option.some.inj (Option.some.inj hk)).symm; subst q; exact ⟨Or.inr (w20 hw), rfl, by decide +kernel⟩
  | 6, hk => have q : e = ("magicValue", "I", .int, 0) := (Option.some.inj (Option.some.inj hk)).symm; subst q; exact ⟨Or.inr (w22 hw), rfl, by decide +kernel⟩
  | 7, hk => have q : e = ("tokenLiteral", "I", .int, 0) := (Option.some.inj (Option.some.inj hk)).symm; subst q; exact ⟨Or.inr (w24 hw), rfl, by decide +kernel⟩
  | 8, hk => have q : e = ("tokenRun", "I", .int, 0) := (Option.some.inj (Option.some.inj hk)).symm; subst q; exact ⟨Or.inr (w26 hw), rfl, by decide +kernel⟩
  | 9, hk => have q : e = ("tokenRef", "I", .int, 0) := (Option.some.inj (Option.some.inj hk)).symm; subst q; exact ⟨Or.inr (w28 hw), rfl, by decide +kernel⟩
  | 10, hk => have q : e = ("minMatch", "I", .int, 0) := (Option.some.inj (Option.some.inj hk)).symm; subst q; exact ⟨Or.inr (w30 hw), rfl, by decide +kernel⟩
  | 11, hk => have q : e = ("sbInodeTable", "I", .int, 0) := (Option.some.inj (Option.some.inj hk)).symm; subst q; exact ⟨Or.inr (w32 hw), rfl, by decide +kernel⟩
  | 12, hk => have q : e = ("sbBlockTable", "I", .int, 0) := (Option.some.inj (Option.some.inj hk)).symm; subst q; exact ⟨Or.inr (w34 hw), rfl, by decide +kernel⟩
  | 13, hk => have q : e = ("sbDirTable", "I", .int, 0) := (Option.some.inj (Option.some.inj hk)).symm; subst q; exact ⟨Or.inr (w36 hw), rfl, by decide +kernel⟩
  | 14, hk => have q : e = ("sbDataStart", "I", .int, 0) := (Option.some.inj (Option.some.inj hk)).symm; subst q; exact ⟨Or.inr (w38 hw), rfl, by decide +kernel⟩
  | 15, hk => have q : e = ("sbNodeCount", "I", .int, 0) := (Option.some.inj (Option.some.inj hk)).symm; subst q; exact ⟨Or.inr (w40 hw), rfl, by decide +kernel⟩
  | 16, hk => have q : e = ("sbBlockSize", "I", .int, 0) := (Option.some.inj (Option.some.inj hk)).symm; subst q; exact ⟨Or.inr (w42 hw), rfl, by decide +kernel⟩
  | 17, hk => have q : e = ("sbFragFirst", "I", .int, 0) := (Option.some.inj (Option.some.inj hk)).symm; subst q; exact ⟨Or.inr (w44 hw), rfl, by decide +kernel⟩
  | 18, hk => have q : e = ("sbBlockCount", "I", .int, 0) := (Option.some.inj (Option.some.inj hk)).symm; subst q; exact ⟨Or.inr (w46 hw), rfl, by decide +kernel⟩
  | 19, hk => have q : e = ("sbMagic", "I", .int, 0) := (Option.some.inj (Option.some.inj hk)).symm; subst q; exact ⟨Or.inr (w48 hw), rfl, by decide +kernel⟩
  | 20, hk => have q : e = ("inKind", "I", .int, 0) := (Option.some.inj (Option.some.inj hk)).symm; subst q; exact ⟨Or.inr (w50 hw), rfl, by decide +kernel⟩
  | 21, hk => have q : e = ("inParent", "I", .int, 0) := (Option.some.inj (Option.some.inj hk)).symm; subst q; exact ⟨Or.inr (w52 hw), rfl, by decide +kernel⟩
  | 22, hk => have q : e = ("inSize", "I", .int, 0) := (Option.some.inj (Option.some.inj hk)).symm; subst q; exact ⟨Or.inr (w54 hw), rfl, by decide +kernel⟩
  | 23, hk => have q : e = ("inDirOff", "I", .int, 0) := (Option.some.inj (Option.some.inj hk)).symm; subst q; exact ⟨Or.inr (w56 hw), rfl, by decide +kernel⟩
  | 24, hk => have q : e = ("inFirst", "I", .int, 0) := (Option.some.inj (Option.some.inj hk)).symm; subst q; exact ⟨Or.inr (w58 hw), rfl, by decide +kernel⟩
  | 25, hk => have q : e = ("inEntries", "I", .int, 0) := (Option.some.inj (Option.some.inj hk)).symm; subst q; exact ⟨Or.inr (w60 hw), rfl, by decide +kernel⟩
  | 26, hk => have q : e = ("inTail", "I", .int, 0) := (Option.some.inj (Option.some.inj hk)).symm; subst q; exact ⟨Or.inr (w62 hw), rfl, by decide +kernel⟩
  | 27, hk => have q : e = ("inNameLen", "I", .int, 0) := (Option.some.inj (Option.some.inj hk)).symm; subst q; exact ⟨Or.inr (w64 hw), rfl, by decide +kernel⟩
  | 28, hk => have q : e = ("blockSize", "I", .int, 0) := (Option.some.inj (Option.some.inj hk)).symm; subst q; exact ⟨Or.inl (w103 hw), rfl, by decide +kernel⟩
  | 29, hk => have q : e = ("maxNodes", "I", .int, 0) := (Option.some.inj (Option.some.inj hk)).symm; subst q; exact ⟨Or.inl (w105 hw), rfl, by decide +kernel⟩
  | 30, hk => have q : e = ("sealed", "Z", .boolean, 0) := (Option.some.inj (Option.some.inj hk)).symm; subst q; exact ⟨Or.inl (w107 hw), rfl, by decide +kernel⟩
  | 31, hk => have q : e = ("nodes", "I", .int, 0) := (Option.some.inj (Option.some.inj hk)).symm; subst q; exact ⟨Or.inl (w109 hw), rfl, by decide +kernel⟩
  | 32, hk => have q : e = ("nodeKind", "[B", .byte, 16) := (Option.some.inj (Option.some.inj hk)).symm; subst q; exact ⟨Or.inr (w67 hw), rfl, by decide +kernel⟩
  | 33, hk => have q : e = ("nodeParent", "[B", .byte, 16) := (Option.some.inj (Option.some.inj hk)).symm; subst q; exact ⟨Or.inr (w69 hw), rfl, by decide +kernel⟩
  | 34, hk => have q : e = ("nameLen", "[B", .byte, 16) := (Option.some.inj (Option.some.inj hk)).symm; subst q; exact ⟨Or.inr (w71 hw), rfl, by decide +kernel⟩
  | 35, hk => have q : e = ("names", "[C", .char, 128) := (Option.some.inj (Option.some.inj hk)).symm; subst q; exact ⟨Or.inr (w74 hw), rfl, by decide +kernel⟩
  | 36, hk => have q : e = ("sizes", "[I", .int, 16) := (Option.some.inj (Option.some.inj hk)).symm; subst q; exact ⟨Or.inr (w77 hw), rfl, by decide +kernel⟩
  | 37, hk => have q : e = ("nameBuf", "[C", .char, 8) := (Option.some.inj (Option.some.inj hk)).symm; subst q; exact ⟨Or.inr (w79 hw), rfl, by decide +kernel⟩
  | 38, hk => have q : e = ("nameBufLen", "I", .int, 0) := (Option.some.inj (Option.some.inj hk)).symm; subst q; exact ⟨Or.inl (w111 hw), rfl, by decide +kernel⟩
  | 39, hk => have q : e = ("pathBuf", "[C", .char, 32) := (Option.some.inj (Option.some.inj hk)).symm; subst q; exact ⟨Or.inr (w81 hw), rfl, by decide +kernel⟩
  | 40, hk => have q : e = ("pathLen", "I", .int, 0) := (Option.some.inj (Option.some.inj hk)).symm; subst q; exact ⟨Or.inl (w113 hw), rfl, by decide +kernel⟩
  | 41, hk => have q : e = ("poolData", "[B", .byte, 256) := (Option.some.inj (Option.some.inj hk)).symm; subst q; exact ⟨Or.inr (w83 hw), rfl, by decide +kernel⟩
  | 42, hk => have q : e = ("poolOwner", "[B", .byte, 256) := (Option.some.inj (Option.some.inj hk)).symm; subst q; exact ⟨Or.inr (w85 hw), rfl, by decide +kernel⟩
  | 43, hk => have q : e = ("totalData", "I", .int, 0) := (Option.some.inj (Option.some.inj hk)).symm; subst q; exact ⟨Or.inl (w115 hw), rfl, by decide +kernel⟩
  | 44, hk => have q : e = ("img", "[B", .byte, 1024) := (Option.some.inj (Option.some.inj hk)).symm; subst q; exact ⟨Or.inr (w87 hw), rfl, by decide +kernel⟩
  | 45, hk => have q : e = ("fileBuf", "[B", .byte, 256) := (Option.some.inj (Option.some.inj hk)).symm; subst q; exact ⟨Or.inr (w89 hw), rfl, by decide +kernel⟩
  | 46, hk => have q : e = ("fragRaw", "[B", .byte, 256) := (Option.some.inj (Option.some.inj hk)).symm; subst q; exact ⟨Or.inr (w91 hw), rfl, by decide +kernel⟩
  | 47, hk => have q : e = ("fragLen", "I", .int, 0) := (Option.some.inj (Option.some.inj hk)).symm; subst q; exact ⟨Or.inl (w117 hw), rfl, by decide +kernel⟩
  | 48, hk => have q : e = ("rawBlk", "[B", .byte, 32) := (Option.some.inj (Option.some.inj hk)).symm; subst q; exact ⟨Or.inr (w93 hw), rfl, by decide +kernel⟩
  | 49, hk => have q : e = ("blkBuf", "[B", .byte, 32) := (Option.some.inj (Option.some.inj hk)).symm; subst q; exact ⟨Or.inr (w95 hw), rfl, by decide +kernel⟩
  | 50, hk => have q : e = ("sortBuf", "[B", .byte, 16) := (Option.some.inj (Option.some.inj hk)).symm; subst q; exact ⟨Or.inr (w97 hw), rfl, by decide +kernel⟩
  | 51, hk => exact nomatch (Option.some.inj hk)
  | 52, hk => exact nomatch (Option.some.inj hk)
  | 53, hk => exact nomatch (Option.some.inj hk)
  | 54, hk => exact nomatch (Option.some.inj hk)
  | 55, hk => have q : e = ("cachedBlock", "I", .int, 0) := (Option.some.inj (Option.some.inj hk)).symm; subst q; exact ⟨Or.inl (w119 hw), rfl, by decide +kernel⟩
  | 56, hk => have q : e = ("cachedLen", "I", .int, 0) := (Option.some.inj (Option.some.inj hk)).symm; subst q; exact ⟨Or.inl (w121 hw), rfl, by decide +kernel⟩
  | j + 57, hk => exact nomatch hk
theorem kb_1 {a0 : Array Value} {Z : State} (hw : Words a0 Z) : KB a0 Z CN nI FF (posF PP) nA := ⟨ca_1 hw, posF_lt (by decide +kernel) (by decide), seqF_inj (by decide +kernel)⟩
def clamp_I : Mi := (⟨"SquashImage", "clamp", "(III)I"⟩, prog_1_method_2_code, 4, (some .int), 0, 0)
theorem clamp_d0 : decode clamp_I.2.1 0 = .ok (.iload_n 1, 1) := by decide +kernel
theorem clamp_d1 : decode clamp_I.2.1 1 = .ok (.iload_n 2, 1) := by decide +kernel
theorem clamp_d2 : decode clamp_I.2.1 2 = .ok (.if_icmp .ge 5, 3) := by decide +kernel
theorem clamp_d5 : decode clamp_I.2.1 5 = .ok (.iload_n 2, 1) := by decide +kernel
theorem clamp_d6 : decode clamp_I.2.1 6 = .ok (.ireturn, 1) := by decide +kernel
theorem clamp_d7 : decode clamp_I.2.1 7 = .ok (.iload_n 1, 1) := by decide +kernel
theorem clamp_d8 : decode clamp_I.2.1 8 = .ok (.iload_n 3, 1) := by decide +kernel
theorem clamp_d9 : decode clamp_I.2.1 9 = .ok (.if_icmp .le 5, 3) := by decide +kernel
theorem clamp_d12 : decode clamp_I.2.1 12 = .ok (.iload_n 3, 1) := by decide +kernel
theorem clamp_d13 : decode clamp_I.2.1 13 = .ok (.ireturn, 1) := by decide +kernel
theorem clamp_d14 : decode clamp_I.2.1 14 = .ok (.iload_n 1, 1) := by decide +kernel
theorem clamp_d15 : decode clamp_I.2.1 15 = .ok (.ireturn, 1) := by decide +kernel
theorem clamp_p : parseMethodDescriptor clamp_I.1.desc = some ⟨[.int, .int, .int], (some .int)⟩ := by decide +kernel
theorem clamp_K {a0 : Array Value} {Z : State} {M : Mi} (hw : Words a0 Z) (h : clamp_I.2.2.2.2.1 + 1 ≤ M.2.2.2.2.1) : Callee a0 Z M clamp_I 3 := ⟨pnC, (w101 hw), (w2 hw), h, by decide, fun sig q => by cases clamp_p.symm.trans q; rfl⟩
set_option maxRecDepth 65536 in
set_option maxHeartbeats 4000000 in
theorem clamp_M_ok {l : Launch} {Z : State} {a0 : Array Value} {n0 : Nat} {cv : Nat → Nat} {h0 : Heap} (hw : Words a0 Z) (K : KA a0 Z n0 CN nI FF cv) (x1 : Int) (x2 : Int) (x3 : Int) (s : Obj) : GQ (XA l Z n0 CN FF cv h0) clamp_I 0 0 0 (entry [Rf 0, I x1, I x2, I x3] clamp_I.2.2.1) [] s (clamp_M x1 x2 x3 s) := by
  show GQ _ _ _ _ 0 [some (Rf 0), some (I x1), some (I x2), some (I x3)] [] _ _
  unfold clamp_M
  refine GQ.iloadN (pc' := 1) clamp_d0 rfl rfl ?_
  refine GQ.iloadN (pc' := 2) clamp_d1 rfl rfl ?_
  refine GQ.icmpF (pcT := 7) (pcF := 5) h_ge clamp_d2 rfl rfl rfl ?_ ?_
  · refine GQ.iloadN (pc' := 8) clamp_d7 rfl rfl ?_
    refine GQ.iloadN (pc' := 9) clamp_d8 rfl rfl ?_
    refine GQ.icmpF (pcT := 14) (pcF := 12) h_le clamp_d9 rfl rfl rfl ?_ ?_
    · refine GQ.iloadN (pc' := 15) clamp_d14 rfl rfl ?_
      exact GQ.iret rfl clamp_d15
    refine GQ.iloadN (pc' := 13) clamp_d12 rfl rfl ?_
    exact GQ.iret rfl clamp_d13
  refine GQ.iloadN (pc' := 6) clamp_d5 rfl rfl ?_
  exact GQ.iret rfl clamp_d6
def ctor_I : Mi := (⟨"SquashImage", "<init>", "(II)V"⟩, prog_1_method_1_code, 3, none, 1, 16)
theorem ctor_d0 : decode ctor_I.2.1 0 = .ok (.aload_n 0, 1) := by decide +kernel
theorem ctor_d1 : decode ctor_I.2.1 1 = .ok (.invokespecial 1, 3) := by decide +kernel
theorem ctor_d4 : decode ctor_I.2.1 4 = .ok (.aload_n 0, 1) := by decide +kernel
theorem ctor_d5 : decode ctor_I.2.1 5 = .ok (.bipush 16, 2) := by decide +kernel
theorem ctor_d7 : decode ctor_I.2.1 7 = .ok (.putfield 7, 3) := by decide +kernel
theorem ctor_d10 : decode ctor_I.2.1 10 = .ok (.aload_n 0, 1) := by decide +kernel
theorem ctor_d11 : decode ctor_I.2.1 11 = .ok (.bipush 8, 2) := by decide +kernel
theorem ctor_d13 : decode ctor_I.2.1 13 = .ok (.putfield 13, 3) := by decide +kernel
theorem ctor_d16 : decode ctor_I.2.1 16 = .ok (.aload_n 0, 1) := by decide +kernel
theorem ctor_d17 : decode ctor_I.2.1 17 = .ok (.bipush 10, 2) := by decide +kernel
theorem ctor_d19 : decode ctor_I.2.1 19 = .ok (.putfield 16, 3) := by decide +kernel
theorem ctor_d22 : decode ctor_I.2.1 22 = .ok (.aload_n 0, 1) := by decide +kernel
theorem ctor_d23 : decode ctor_I.2.1 23 = .ok (.iconst 4, 1) := by decide +kernel
theorem ctor_d24 : decode ctor_I.2.1 24 = .ok (.putfield 19, 3) := by decide +kernel
theorem ctor_d27 : decode ctor_I.2.1 27 = .ok (.aload_n 0, 1) := by decide +kernel
theorem ctor_d28 : decode ctor_I.2.1 28 = .ok (.bipush 32, 2) := by decide +kernel
theorem ctor_d30 : decode ctor_I.2.1 30 = .ok (.putfield 22, 3) := by decide +kernel
theorem ctor_d33 : decode ctor_I.2.1 33 = .ok (.aload_n 0, 1) := by decide +kernel
theorem ctor_d34 : decode ctor_I.2.1 34 = .ok (.bipush 64, 2) := by decide +kernel
theorem ctor_d36 : decode ctor_I.2.1 36 = .ok (.putfield 25, 3) := by decide +kernel
theorem ctor_d39 : decode ctor_I.2.1 39 = .ok (.aload_n 0, 1) := by decide +kernel
theorem ctor_d40 : decode ctor_I.2.1 40 = .ok (.bipush 83, 2) := by decide +kernel
theorem ctor_d42 : decode ctor_I.2.1 42 = .ok (.putfield 28, 3) := by decide +kernel
theorem ctor_d45 : decode ctor_I.2.1 45 = .ok (.aload_n 0, 1) := by decide +kernel
theorem ctor_d46 : decode ctor_I.2.1 46 = .ok (.iconst 0, 1) := by decide +kernel
theorem ctor_d47 : decode ctor_I.2.1 47 = .ok (.putfield 31, 3) := by decide +kernel
theorem ctor_d50 : decode ctor_I.2.1 50 = .ok (.aload_n 0, 1) := by decide +kernel
theorem ctor_d51 : decode ctor_I.2.1 51 = .ok (.iconst 1, 1) := by decide +kernel
theorem ctor_d52 : decode ctor_I.2.1 52 = .ok (.putfield 34, 3) := by decide +kernel
theorem ctor_d55 : decode ctor_I.2.1 55 = .ok (.aload_n 0, 1) := by decide +kernel
theorem ctor_d56 : decode ctor_I.2.1 56 = .ok (.iconst 2, 1) := by decide +kernel
theorem ctor_d57 : decode ctor_I.2.1 57 = .ok (.putfield 37, 3) := by decide +kernel
theorem ctor_d60 : decode ctor_I.2.1 60 = .ok (.aload_n 0, 1) := by decide +kernel
theorem ctor_d61 : decode ctor_I.2.1 61 = .ok (.iconst 3, 1) := by decide +kernel
theorem ctor_d62 : decode ctor_I.2.1 62 = .ok (.putfield 40, 3) := by decide +kernel
theorem ctor_d65 : decode ctor_I.2.1 65 = .ok (.aload_n 0, 1) := by decide +kernel
theorem ctor_d66 : decode ctor_I.2.1 66 = .ok (.iconst 0, 1) := by decide +kernel
theorem ctor_d67 : decode ctor_I.2.1 67 = .ok (.putfield 43, 3) := by decide +kernel
theorem ctor_d70 : decode ctor_I.2.1 70 = .ok (.aload_n 0, 1) := by decide +kernel
theorem ctor_d71 : decode ctor_I.2.1 71 = .ok (.iconst 2, 1) := by decide +kernel
theorem ctor_d72 : decode ctor_I.2.1 72 = .ok (.putfield 46, 3) := by decide +kernel
theorem ctor_d75 : decode ctor_I.2.1 75 = .ok (.aload_n 0, 1) := by decide +kernel
theorem ctor_d76 : decode ctor_I.2.1 76 = .ok (.iconst 4, 1) := by decide +kernel
theorem ctor_d77 : decode ctor_I.2.1 77 = .ok (.putfield 49, 3) := by decide +kernel
theorem ctor_d80 : decode ctor_I.2.1 80 = .ok (.aload_n 0, 1) := by decide +kernel
theorem ctor_d81 : decode ctor_I.2.1 81 = .ok (.bipush 6, 2) := by decide +kernel
theorem ctor_d83 : decode ctor_I.2.1 83 = .ok (.putfield 52, 3) := by decide +kernel
theorem ctor_d86 : decode ctor_I.2.1 86 = .ok (.aload_n 0, 1) := by decide +kernel
theorem ctor_d87 : decode ctor_I.2.1 87 = .ok (.bipush 8, 2) := by decide +kernel
theorem ctor_d89 : decode ctor_I.2.1 89 = .ok (.putfield 55, 3) := by decide +kernel
theorem ctor_d92 : decode ctor_I.2.1 92 = .ok (.aload_n 0, 1) := by decide +kernel
theorem ctor_d93 : decode ctor_I.2.1 93 = .ok (.bipush 9, 2) := by decide +kernel
theorem ctor_d95 : decode ctor_I.2.1 95 = .ok (.putfield 58, 3) := by decide +kernel
theorem ctor_d98 : decode ctor_I.2.1 98 = .ok (.aload_n 0, 1) := by decide +kernel
theorem ctor_d99 : decode ctor_I.2.1 99 = .ok (.bipush 10, 2) := by decide +kernel
theorem ctor_d101 : decode ctor_I.2.1 101 = .ok (.putfield 61, 3) := by decide +kernel
theorem ctor_d104 : decode ctor_I.2.1 104 = .ok (.aload_n 0, 1) := by decide +kernel
theorem ctor_d105 : decode ctor_I.2.1 105 = .ok (.bipush 11, 2) := by decide +kernel
theorem ctor_d107 : decode ctor_I.2.1 107 = .ok (.putfield 64, 3) := by decide +kernel
theorem ctor_d110 : decode ctor_I.2.1 110 = .ok (.aload_n 0, 1) := by decide +kernel
theorem ctor_d111 : decode ctor_I.2.1 111 = .ok (.bipush 12, 2) := by decide +kernel
theorem ctor_d113 : decode ctor_I.2.1 113 = .ok (.putfield 67, 3) := by decide +kernel
theorem ctor_d116 : decode ctor_I.2.1 116 = .ok (.aload_n 0, 1) := by decide +kernel
theorem ctor_d117 : decode ctor_I.2.1 117 = .ok (.iconst 0, 1) := by decide +kernel
theorem ctor_d118 : decode ctor_I.2.1 118 = .ok (.putfield 70, 3) := by decide +kernel
theorem ctor_d121 : decode ctor_I.2.1 121 = .ok (.aload_n 0, 1) := by decide +kernel
theorem ctor_d122 : decode ctor_I.2.1 122 = .ok (.iconst 1, 1) := by decide +kernel
theorem ctor_d123 : decode ctor_I.2.1 123 = .ok (.putfield 73, 3) := by decide +kernel
theorem ctor_d126 : decode ctor_I.2.1 126 = .ok (.aload_n 0, 1) := by decide +kernel
theorem ctor_d127 : decode ctor_I.2.1 127 = .ok (.iconst 2, 1) := by decide +kernel
theorem ctor_d128 : decode ctor_I.2.1 128 = .ok (.putfield 76, 3) := by decide +kernel
theorem ctor_d131 : decode ctor_I.2.1 131 = .ok (.aload_n 0, 1) := by decide +kernel
theorem ctor_d132 : decode ctor_I.2.1 132 = .ok (.iconst 2, 1) := by decide +kernel
theorem ctor_d133 : decode ctor_I.2.1 133 = .ok (.putfield 79, 3) := by decide +kernel
theorem ctor_d136 : decode ctor_I.2.1 136 = .ok (.aload_n 0, 1) := by decide +kernel
theorem ctor_d137 : decode ctor_I.2.1 137 = .ok (.iconst 4, 1) := by decide +kernel
theorem ctor_d138 : decode ctor_I.2.1 138 = .ok (.putfield 82, 3) := by decide +kernel
theorem ctor_d141 : decode ctor_I.2.1 141 = .ok (.aload_n 0, 1) := by decide +kernel
theorem ctor_d142 : decode ctor_I.2.1 142 = .ok (.iconst 4, 1) := by decide +kernel
theorem ctor_d143 : decode ctor_I.2.1 143 = .ok (.putfield 85, 3) := by decide +kernel
theorem ctor_d146 : decode ctor_I.2.1 146 = .ok (.aload_n 0, 1) := by decide +kernel
theorem ctor_d147 : decode ctor_I.2.1 147 = .ok (.iconst 5, 1) := by decide +kernel
theorem ctor_d148 : decode ctor_I.2.1 148 = .ok (.putfield 88, 3) := by decide +kernel
theorem ctor_d151 : decode ctor_I.2.1 151 = .ok (.aload_n 0, 1) := by decide +kernel
theorem ctor_d152 : decode ctor_I.2.1 152 = .ok (.bipush 7, 2) := by decide +kernel
theorem ctor_d154 : decode ctor_I.2.1 154 = .ok (.putfield 91, 3) := by decide +kernel
theorem ctor_d157 : decode ctor_I.2.1 157 = .ok (.aload_n 0, 1) := by decide +kernel
theorem ctor_d158 : decode ctor_I.2.1 158 = .ok (.bipush 16, 2) := by decide +kernel
theorem ctor_d160 : decode ctor_I.2.1 160 = .ok (.newarray .byte, 2) := by decide +kernel
theorem ctor_d162 : decode ctor_I.2.1 162 = .ok (.putfield 94, 3) := by decide +kernel
theorem ctor_d165 : decode ctor_I.2.1 165 = .ok (.aload_n 0, 1) := by decide +kernel
theorem ctor_d166 : decode ctor_I.2.1 166 = .ok (.bipush 16, 2) := by decide +kernel
theorem ctor_d168 : decode ctor_I.2.1 168 = .ok (.newarray .byte, 2) := by decide +kernel
theorem ctor_d170 : decode ctor_I.2.1 170 = .ok (.putfield 98, 3) := by decide +kernel
theorem ctor_d173 : decode ctor_I.2.1 173 = .ok (.aload_n 0, 1) := by decide +kernel
theorem ctor_d174 : decode ctor_I.2.1 174 = .ok (.bipush 16, 2) := by decide +kernel
theorem ctor_d176 : decode ctor_I.2.1 176 = .ok (.newarray .byte, 2) := by decide +kernel
theorem ctor_d178 : decode ctor_I.2.1 178 = .ok (.putfield 101, 3) := by decide +kernel
theorem ctor_d181 : decode ctor_I.2.1 181 = .ok (.aload_n 0, 1) := by decide +kernel
theorem ctor_d182 : decode ctor_I.2.1 182 = .ok (.sipush 128, 3) := by decide +kernel
theorem ctor_d185 : decode ctor_I.2.1 185 = .ok (.newarray .char, 2) := by decide +kernel
theorem ctor_d187 : decode ctor_I.2.1 187 = .ok (.putfield 104, 3) := by decide +kernel
theorem ctor_d190 : decode ctor_I.2.1 190 = .ok (.aload_n 0, 1) := by decide +kernel
theorem ctor_d191 : decode ctor_I.2.1 191 = .ok (.bipush 16, 2) := by decide +kernel
theorem ctor_d193 : decode ctor_I.2.1 193 = .ok (.newarray .int, 2) := by decide +kernel
theorem ctor_d195 : decode ctor_I.2.1 195 = .ok (.putfield 108, 3) := by decide +kernel
theorem ctor_d198 : decode ctor_I.2.1 198 = .ok (.aload_n 0, 1) := by decide +kernel
theorem ctor_d199 : decode ctor_I.2.1 199 = .ok (.bipush 8, 2) := by decide +kernel
theorem ctor_d201 : decode ctor_I.2.1 201 = .ok (.newarray .char, 2) := by decide +kernel
theorem ctor_d203 : decode ctor_I.2.1 203 = .ok (.putfield 112, 3) := by decide +kernel
theorem ctor_d206 : decode ctor_I.2.1 206 = .ok (.aload_n 0, 1) := by decide +kernel
theorem ctor_d207 : decode ctor_I.2.1 207 = .ok (.bipush 32, 2) := by decide +kernel
theorem ctor_d209 : decode ctor_I.2.1 209 = .ok (.newarray .char, 2) := by decide +kernel
theorem ctor_d211 : decode ctor_I.2.1 211 = .ok (.putfield 115, 3) := by decide +kernel
theorem ctor_d214 : decode ctor_I.2.1 214 = .ok (.aload_n 0, 1) := by decide +kernel
theorem ctor_d215 : decode ctor_I.2.1 215 = .ok (.sipush 256, 3) := by decide +kernel
theorem ctor_d218 : decode ctor_I.2.1 218 = .ok (.newarray .byte, 2) := by decide +kernel
theorem ctor_d220 : decode ctor_I.2.1 220 = .ok (.putfield 118, 3) := by decide +kernel
theorem ctor_d223 : decode ctor_I.2.1 223 = .ok (.aload_n 0, 1) := by decide +kernel
theorem ctor_d224 : decode ctor_I.2.1 224 = .ok (.sipush 256, 3) := by decide +kernel
theorem ctor_d227 : decode ctor_I.2.1 227 = .ok (.newarray .byte, 2) := by decide +kernel
theorem ctor_d229 : decode ctor_I.2.1 229 = .ok (.putfield 121, 3) := by decide +kernel
theorem ctor_d232 : decode ctor_I.2.1 232 = .ok (.aload_n 0, 1) := by decide +kernel
theorem ctor_d233 : decode ctor_I.2.1 233 = .ok (.sipush 1024, 3) := by decide +kernel
theorem ctor_d236 : decode ctor_I.2.1 236 = .ok (.newarray .byte, 2) := by decide +kernel
theorem ctor_d238 : decode ctor_I.2.1 238 = .ok (.putfield 124, 3) := by decide +kernel
theorem ctor_d241 : decode ctor_I.2.1 241 = .ok (.aload_n 0, 1) := by decide +kernel
theorem ctor_d242 : decode ctor_I.2.1 242 = .ok (.sipush 256, 3) := by decide +kernel
theorem ctor_d245 : decode ctor_I.2.1 245 = .ok (.newarray .byte, 2) := by decide +kernel
theorem ctor_d247 : decode ctor_I.2.1 247 = .ok (.putfield 127, 3) := by decide +kernel
theorem ctor_d250 : decode ctor_I.2.1 250 = .ok (.aload_n 0, 1) := by decide +kernel
theorem ctor_d251 : decode ctor_I.2.1 251 = .ok (.sipush 256, 3) := by decide +kernel
theorem ctor_d254 : decode ctor_I.2.1 254 = .ok (.newarray .byte, 2) := by decide +kernel
theorem ctor_d256 : decode ctor_I.2.1 256 = .ok (.putfield 130, 3) := by decide +kernel
theorem ctor_d259 : decode ctor_I.2.1 259 = .ok (.aload_n 0, 1) := by decide +kernel
theorem ctor_d260 : decode ctor_I.2.1 260 = .ok (.bipush 32, 2) := by decide +kernel
theorem ctor_d262 : decode ctor_I.2.1 262 = .ok (.newarray .byte, 2) := by decide +kernel
theorem ctor_d264 : decode ctor_I.2.1 264 = .ok (.putfield 133, 3) := by decide +kernel
theorem ctor_d267 : decode ctor_I.2.1 267 = .ok (.aload_n 0, 1) := by decide +kernel
theorem ctor_d268 : decode ctor_I.2.1 268 = .ok (.bipush 32, 2) := by decide +kernel
theorem ctor_d270 : decode ctor_I.2.1 270 = .ok (.newarray .byte, 2) := by decide +kernel
theorem ctor_d272 : decode ctor_I.2.1 272 = .ok (.putfield 136, 3) := by decide +kernel
theorem ctor_d275 : decode ctor_I.2.1 275 = .ok (.aload_n 0, 1) := by decide +kernel
theorem ctor_d276 : decode ctor_I.2.1 276 = .ok (.bipush 16, 2) := by decide +kernel
theorem ctor_d278 : decode ctor_I.2.1 278 = .ok (.newarray .byte, 2) := by decide +kernel
theorem ctor_d280 : decode ctor_I.2.1 280 = .ok (.putfield 139, 3) := by decide +kernel
theorem ctor_d283 : decode ctor_I.2.1 283 = .ok (.aload_n 0, 1) := by decide +kernel
theorem ctor_d284 : decode ctor_I.2.1 284 = .ok (.aload_n 0, 1) := by decide +kernel
theorem ctor_d285 : decode ctor_I.2.1 285 = .ok (.iload_n 1, 1) := by decide +kernel
theorem ctor_d286 : decode ctor_I.2.1 286 = .ok (.iconst 4, 1) := by decide +kernel
theorem ctor_d287 : decode ctor_I.2.1 287 = .ok (.bipush 32, 2) := by decide +kernel
theorem ctor_d289 : decode ctor_I.2.1 289 = .ok (.invokevirtual 142, 3) := by decide +kernel
theorem ctor_d292 : decode ctor_I.2.1 292 = .ok (.putfield 146, 3) := by decide +kernel
theorem ctor_d295 : decode ctor_I.2.1 295 = .ok (.aload_n 0, 1) := by decide +kernel
theorem ctor_d296 : decode ctor_I.2.1 296 = .ok (.aload_n 0, 1) := by decide +kernel
theorem ctor_d297 : decode ctor_I.2.1 297 = .ok (.iload_n 2, 1) := by decide +kernel
theorem ctor_d298 : decode ctor_I.2.1 298 = .ok (.iconst 2, 1) := by decide +kernel
theorem ctor_d299 : decode ctor_I.2.1 299 = .ok (.bipush 16, 2) := by decide +kernel
theorem ctor_d301 : decode ctor_I.2.1 301 = .ok (.invokevirtual 142, 3) := by decide +kernel
theorem ctor_d304 : decode ctor_I.2.1 304 = .ok (.putfield 149, 3) := by decide +kernel
theorem ctor_d307 : decode ctor_I.2.1 307 = .ok (.aload_n 0, 1) := by decide +kernel
theorem ctor_d308 : decode ctor_I.2.1 308 = .ok (.iconst 0, 1) := by decide +kernel
theorem ctor_d309 : decode ctor_I.2.1 309 = .ok (.putfield 152, 3) := by decide +kernel
theorem ctor_d312 : decode ctor_I.2.1 312 = .ok (.aload_n 0, 1) := by decide +kernel
theorem ctor_d313 : decode ctor_I.2.1 313 = .ok (.iconst 1, 1) := by decide +kernel
theorem ctor_d314 : decode ctor_I.2.1 314 = .ok (.putfield 156, 3) := by decide +kernel
theorem ctor_d317 : decode ctor_I.2.1 317 = .ok (.aload_n 0, 1) := by decide +kernel
theorem ctor_d318 : decode ctor_I.2.1 318 = .ok (.getfield 94, 3) := by decide +kernel
theorem ctor_d321 : decode ctor_I.2.1 321 = .ok (.iconst 0, 1) := by decide +kernel
theorem ctor_d322 : decode ctor_I.2.1 322 = .ok (.iconst 1, 1) := by decide +kernel
theorem ctor_d323 : decode ctor_I.2.1 323 = .ok (.bastore, 1) := by decide +kernel
theorem ctor_d324 : decode ctor_I.2.1 324 = .ok (.aload_n 0, 1) := by decide +kernel
theorem ctor_d325 : decode ctor_I.2.1 325 = .ok (.getfield 98, 3) := by decide +kernel
theorem ctor_d328 : decode ctor_I.2.1 328 = .ok (.iconst 0, 1) := by decide +kernel
theorem ctor_d329 : decode ctor_I.2.1 329 = .ok (.iconst 0, 1) := by decide +kernel
theorem ctor_d330 : decode ctor_I.2.1 330 = .ok (.bastore, 1) := by decide +kernel
theorem ctor_d331 : decode ctor_I.2.1 331 = .ok (.aload_n 0, 1) := by decide +kernel
theorem ctor_d332 : decode ctor_I.2.1 332 = .ok (.getfield 101, 3) := by decide +kernel
theorem ctor_d335 : decode ctor_I.2.1 335 = .ok (.iconst 0, 1) := by decide +kernel
theorem ctor_d336 : decode ctor_I.2.1 336 = .ok (.iconst 0, 1) := by decide +kernel
theorem ctor_d337 : decode ctor_I.2.1 337 = .ok (.bastore, 1) := by decide +kernel
theorem ctor_d338 : decode ctor_I.2.1 338 = .ok (.aload_n 0, 1) := by decide +kernel
theorem ctor_d339 : decode ctor_I.2.1 339 = .ok (.getfield 108, 3) := by decide +kernel
theorem ctor_d342 : decode ctor_I.2.1 342 = .ok (.iconst 0, 1) := by decide +kernel
theorem ctor_d343 : decode ctor_I.2.1 343 = .ok (.iconst 0, 1) := by decide +kernel
theorem ctor_d344 : decode ctor_I.2.1 344 = .ok (.iastore, 1) := by decide +kernel
theorem ctor_d345 : decode ctor_I.2.1 345 = .ok (.aload_n 0, 1) := by decide +kernel
theorem ctor_d346 : decode ctor_I.2.1 346 = .ok (.iconst 0, 1) := by decide +kernel
theorem ctor_d347 : decode ctor_I.2.1 347 = .ok (.putfield 159, 3) := by decide +kernel
theorem ctor_d350 : decode ctor_I.2.1 350 = .ok (.aload_n 0, 1) := by decide +kernel
theorem ctor_d351 : decode ctor_I.2.1 351 = .ok (.iconst 0, 1) := by decide +kernel
theorem ctor_d352 : decode ctor_I.2.1 352 = .ok (.putfield 162, 3) := by decide +kernel
theorem ctor_d355 : decode ctor_I.2.1 355 = .ok (.aload_n 0, 1) := by decide +kernel
theorem ctor_d356 : decode ctor_I.2.1 356 = .ok (.iconst 0, 1) := by decide +kernel
theorem ctor_d357 : decode ctor_I.2.1 357 = .ok (.putfield 165, 3) := by decide +kernel
theorem ctor_d360 : decode ctor_I.2.1 360 = .ok (.aload_n 0, 1) := by decide +kernel
theorem ctor_d361 : decode ctor_I.2.1 361 = .ok (.iconst 0, 1) := by decide +kernel
theorem ctor_d362 : decode ctor_I.2.1 362 = .ok (.putfield 168, 3) := by decide +kernel
theorem ctor_d365 : decode ctor_I.2.1 365 = .ok (.aload_n 0, 1) := by decide +kernel
theorem ctor_d366 : decode ctor_I.2.1 366 = .ok (.iconst (-1), 1) := by decide +kernel
theorem ctor_d367 : decode ctor_I.2.1 367 = .ok (.putfield 171, 3) := by decide +kernel
theorem ctor_d370 : decode ctor_I.2.1 370 = .ok (.aload_n 0, 1) := by decide +kernel
theorem ctor_d371 : decode ctor_I.2.1 371 = .ok (.iconst 0, 1) := by decide +kernel
theorem ctor_d372 : decode ctor_I.2.1 372 = .ok (.putfield 174, 3) := by decide +kernel
theorem ctor_d375 : decode ctor_I.2.1 375 = .ok (.return_, 1) := by decide +kernel
theorem ctor_p : parseMethodDescriptor ctor_I.1.desc = some ⟨[.int, .int], none⟩ := by decide +kernel
theorem ctor_K {a0 : Array Value} {Z : State} {M : Mi} (hw : Words a0 Z) (h : ctor_I.2.2.2.2.1 + 1 ≤ M.2.2.2.2.1) : Callee a0 Z M ctor_I 2 := ⟨pnC, (w5 hw), (w2 hw), h, by decide, fun sig q => by cases ctor_p.symm.trans q; rfl⟩
set_option maxRecDepth 65536 in
set_option maxHeartbeats 4000000 in
theorem ctor_B_ok {l : Launch} {Z : State} {a0 : Array Value} {n0 : Nat} {cv : Nat → Nat} {h0 : Heap} (hw : Words a0 Z) (K : KA a0 Z n0 CN nI FF cv) (x1 : Int) (x2 : Int) (s : Obj) : GQ (XA l Z n0 CN FF cv h0) ctor_I 0 0 283 [some (Rf 0), some (I x1), some (I x2)] [] s (ctor_B x1 x2 s) := by
  unfold ctor_B
  refine GQ.aloadN (pc' := 284) ctor_d283 rfl rfl ?_
  refine GQ.aloadN (pc' := 285) ctor_d284 rfl rfl ?_
  refine GQ.iloadN (pc' := 286) ctor_d285 rfl rfl ?_
  refine GQ.iconst (pc' := 287) ctor_d286 rfl rfl ?_
  refine GQ.bipush (pc' := 289) ctor_d287 rfl rfl ?_
  refine GQ.callP (Mc := clamp_I) (args0 := [I x1, I 4, I 32]) (S := [Rf 0]) (r := 0) (pc' := 292) (clamp_K hw (by decide)) rfl ctor_d289 rfl (w98 hw) (w99 hw) (w100 hw) (w1 hw) XA.recv rfl (clamp_M_ok hw K x1 4 32 s) rfl (fun z289 s289 => ?_)
  show GQ (XA l Z n0 CN FF cv h0) ctor_I _ _ 292 [some (Rf 0), some (I x1), some (I x2)] [I z289, Rf 0] s289 _
  refine GQ.putI (M := ctor_I) (k := 28) (pc' := 295) K rfl (w102 hw) (w103 hw) ctor_d292 rfl ?_
  refine GQ.letM (fun s292 => ?_)
  refine GQ.aloadN (pc' := 296) ctor_d295 rfl rfl ?_
  refine GQ.aloadN (pc' := 297) ctor_d296 rfl rfl ?_
  refine GQ.iloadN (pc' := 298) ctor_d297 rfl rfl ?_
  refine GQ.iconst (pc' := 299) ctor_d298 rfl rfl ?_
  refine GQ.bipush (pc' := 301) ctor_d299 rfl rfl ?_
  refine GQ.callP (Mc := clamp_I) (args0 := [I x2, I 2, I 16]) (S := [Rf 0]) (r := 0) (pc' := 304) (clamp_K hw (by decide)) rfl ctor_d301 rfl (w98 hw) (w99 hw) (w100 hw) (w1 hw) XA.recv rfl (clamp_M_ok hw K x2 2 16 s292) rfl (fun z301 s301 => ?_)
  show GQ (XA l Z n0 CN FF cv h0) ctor_I _ _ 304 [some (Rf 0), some (I x1), some (I x2)] [I z301, Rf 0] s301 _
  refine GQ.putI (M := ctor_I) (k := 29) (pc' := 307) K rfl (w104 hw) (w105 hw) ctor_d304 rfl ?_
  refine GQ.letM (fun s304 => ?_)
  refine GQ.aloadN (pc' := 308) ctor_d307 rfl rfl ?_
  refine GQ.iconst (pc' := 309) ctor_d308 rfl rfl ?_
  refine GQ.putI (M := ctor_I) (k := 30) (pc' := 312) K rfl (w106 hw) (w107 hw) ctor_d309 rfl ?_
  refine GQ.letM (fun s309 => ?_)
  refine GQ.aloadN (pc' := 313) ctor_d312 rfl rfl ?_
  refine GQ.iconst (pc' := 314) ctor_d313 rfl rfl ?_
  refine GQ.putI (M := ctor_I) (k := 31) (pc' := 317) K rfl (w108 hw) (w109 hw) ctor_d314 rfl ?_
  refine GQ.letM (fun s314 => ?_)
  refine GQ.aloadN (pc' := 318) ctor_d317 rfl rfl ?_
  refine GQ.getA (M := ctor_I) (k := 32) (pc' := 321) rfl (by decide) (w66 hw) ctor_d318 rfl ?_
  refine GQ.iconst (pc' := 322) ctor_d321 rfl rfl ?_
  refine GQ.iconst (pc' := 323) ctor_d322 rfl rfl ?_
  refine GQ.wr (k := 32) (ins := .bastore) (pc' := 324) K rfl (by decide) (Or.inr (Or.inl ⟨rfl, rfl⟩)) ctor_d323 rfl (fun s323 => ?_)
  refine GQ.aloadN (pc' := 325) ctor_d324 rfl rfl ?_
  refine GQ.getA (M := ctor_I) (k := 33) (pc' := 328) rfl (by decide) (w68 hw) ctor_d325 rfl ?_
  refine GQ.iconst (pc' := 329) ctor_d328 rfl rfl ?_
  refine GQ.iconst (pc' := 330) ctor_d329 rfl rfl ?_
  refine GQ.wr (k := 33) (ins := .bastore) (pc' := 331) K rfl (by decide) (Or.inr (Or.inl ⟨rfl, rfl⟩)) ctor_d330 rfl (fun s330 => ?_)
  refine GQ.aloadN (pc' := 332) ctor_d331 rfl rfl ?_
  refine GQ.getA (M := ctor_I) (k := 34) (pc' := 335) rfl (by decide) (w70 hw) ctor_d332 rfl ?_
  refine GQ.iconst (pc' := 336) ctor_d335 rfl rfl ?_
  refine GQ.iconst (pc' := 337) ctor_d336 rfl rfl ?_
  refine GQ.wr (k := 34) (ins := .bastore) (pc' := 338) K rfl (by decide) (Or.inr (Or.inl ⟨rfl, rfl⟩)) ctor_d337 rfl (fun s337 => ?_)
  refine GQ.aloadN (pc' := 339) ctor_d338 rfl rfl ?_
  refine GQ.getA (M := ctor_I) (k := 36) (pc' := 342) rfl (by decide) (w76 hw) ctor_d339 rfl ?_
  refine GQ.iconst (pc' := 343) ctor_d342 rfl rfl ?_
  refine GQ.iconst (pc' := 344) ctor_d343 rfl rfl ?_
  refine GQ.wr (k := 36) (ins := .iastore) (pc' := 345) K rfl (by decide) (Or.inl ⟨rfl, rfl⟩) ctor_d344 rfl (fun s344 => ?_)
  refine GQ.aloadN (pc' := 346) ctor_d345 rfl rfl ?_
  refine GQ.iconst (pc' := 347) ctor_d346 rfl rfl ?_
  refine GQ.putI (M := ctor_I) (k := 38) (pc' := 350) K rfl (w110 hw) (w111 hw) ctor_d347 rfl ?_
  refine GQ.letM (fun s347 => ?_)
  refine GQ.aloadN (pc' := 351) ctor_d350 rfl rfl ?_
  refine GQ.iconst (pc' := 352) ctor_d351 rfl rfl ?_
  refine GQ.putI (M := ctor_I) (k := 40) (pc' := 355) K rfl (w112 hw) (w113 hw) ctor_d352 rfl ?_
  refine GQ.letM (fun s352 => ?_)
  refine GQ.aloadN (pc' := 356) ctor_d355 rfl rfl ?_
  refine GQ.iconst (pc' := 357) ctor_d356 rfl rfl ?_
  refine GQ.putI (M := ctor_I) (k := 43) (pc' := 360) K rfl (w114 hw) (w115 hw) ctor_d357 rfl ?_
  refine GQ.letM (fun s357 => ?_)
  refine GQ.aloadN (pc' := 361) ctor_d360 rfl rfl ?_
  refine GQ.iconst (pc' := 362) ctor_d361 rfl rfl ?_
  refine GQ.putI (M := ctor_I) (k := 47) (pc' := 365) K rfl (w116 hw) (w117 hw) ctor_d362 rfl ?_
  refine GQ.letM (fun s362 => ?_)
  refine GQ.aloadN (pc' := 366) ctor_d365 rfl rfl ?_
  refine GQ.iconst (pc' := 367) ctor_d366 rfl rfl ?_
  refine GQ.putI (M := ctor_I) (k := 55) (pc' := 370) K rfl (w118 hw) (w119 hw) ctor_d367 rfl ?_
  refine GQ.letM (fun s367 => ?_)
  refine GQ.aloadN (pc' := 371) ctor_d370 rfl rfl ?_
  refine GQ.iconst (pc' := 372) ctor_d371 rfl rfl ?_
  refine GQ.putI (M := ctor_I) (k := 56) (pc' := 375) K rfl (w120 hw) (w121 hw) ctor_d372 rfl ?_
  refine GQ.letM (fun s372 => ?_)
  exact GQ.ret rfl ctor_d375
set_option maxRecDepth 65536 in
set_option maxHeartbeats 4000000 in
theorem ctor_M_ok {l : Launch} {Z : State} {a0 : Array Value} {n0 : Nat} (hw : Words a0 Z) (K : KB a0 Z CN nI FF (posF PP) nA) {a : Nat} {h0 : Heap} (ha : n0 ≤ a) (hh : h0.size = a + 1) (x1 : Int) (x2 : Int) : GQ (XP l Z n0 CN FF (posF PP) a h0 nA) ctor_I nA 2360 0 (entry [Rf 0, I x1, I x2] ctor_I.2.2.1) [] (.inl (fun _ => 0, fun _ => false, 0)) (emb (ctor_M x1 x2)) := by
  show GQ _ _ _ _ 0 [some (Rf 0), some (I x1), some (I x2)] [] (Sum.inl (fun _ => 0, fun _ => false, 0)) _
  refine GQ.aloadN (pc' := 1) ctor_d0 rfl rfl ?_
  refine GQ.init0 (M := ctor_I) (pc' := 4) (w6 hw) (w7 hw) (w8 hw) (by decide) (by decide) ctor_d1 rfl ?_
  refine GQ.aloadN (pc' := 5) ctor_d4 rfl rfl ?_
  refine GQ.bipush (pc' := 7) ctor_d5 rfl rfl ?_
  refine GQ.ini (M := ctor_I) (q := ((fun _ => 0), (fun _ => false), 0)) (k := 0) (pc' := 10) K.1 ha rfl (w9 hw) (Or.inr ⟨(w10 hw), rfl, rfl⟩) ctor_d7 rfl ?_
  refine GQ.aloadN (pc' := 11) ctor_d10 rfl rfl ?_
  refine GQ.bipush (pc' := 13) ctor_d11 rfl rfl ?_
  refine GQ.ini (M := ctor_I) (q := ((@upd Int (fun _ => 0) 0 16), (fun _ => false), 0)) (k := 1) (pc' := 16) K.1 ha rfl (w11 hw) (Or.inr ⟨(w12 hw), rfl, rfl⟩) ctor_d13 rfl ?_
  refine GQ.aloadN (pc' := 17) ctor_d16 rfl rfl ?_
  refine GQ.bipush (pc' := 19) ctor_d17 rfl rfl ?_
  refine GQ.ini (M := ctor_I) (q := ((@upd Int (@upd Int (fun _ => 0) 0 16) 1 8), (fun _ => false), 0)) (k := 2) (pc' := 22) K.1 ha rfl (w13 hw) (Or.inr ⟨(w14 hw), rfl, rfl⟩) ctor_d19 rfl ?_
  refine GQ.aloadN (pc' := 23) ctor_d22 rfl rfl ?_
  refine GQ.iconst (pc' := 24) ctor_d23 rfl rfl ?_
  refine GQ.ini (M := ctor_I) (q := ((@upd Int (@upd Int (@upd Int (fun _ => 0) 0 16) 1 8) 2 10), (fun _ => false), 0)) (k := 3) (pc' := 27) K.1 ha rfl (w15 hw) (Or.inr ⟨(w16 hw), rfl, rfl⟩) ctor_d24 rfl ?_
  refine GQ.aloadN (pc' := 28) ctor_d27 rfl rfl ?_
  refine GQ.bipush (pc' := 30) ctor_d28 rfl rfl ?_
  refine GQ.ini (M := ctor_I) (q := ((@upd Int (@upd Int (@upd Int (@upd Int (fun _ => 0) 0 16) 1 8) 2 10) 3 4), (fun _ => false), 0)) (k := 4) (pc' := 33) K.1 ha rfl (w17 hw) (Or.inr ⟨(w18 hw), rfl, rfl⟩) ctor_d30 rfl ?_
  refine GQ.aloadN (pc' := 34) ctor_d33 rfl rfl ?_
  refine GQ.bipush (pc' := 36) ctor_d34 rfl rfl ?_
  refine GQ.ini (M := ctor_I) (q := ((@upd Int (@upd Int (@upd Int (@upd Int (@upd Int (fun _ => 0) 0 16) 1 8) 2 10) 3 4) 4 32), (fun _ => false), 0)) (k := 5) (pc' := 39) K.1 ha rfl (w19 hw) (Or.inr ⟨(w20 hw), rfl, rfl⟩) ctor_d36 rfl ?_
  refine GQ.aloadN (pc' := 40) ctor_d39 rfl rfl ?_
  refine GQ.bipush (pc' := 42) ctor_d40 rfl rfl ?_
  refine GQ.ini (M := ctor_I) (q := ((@upd Int (@upd Int (@upd Int (@upd Int (@upd Int (@upd Int (fun _ => 0) 0 16) 1 8) 2 10) 3 4) 4 32) 5 64), (fun _ => false), 0)) (k := 6) (pc' := 45) K.1 ha rfl (w21 hw) (Or.inr ⟨(w22 hw), rfl, rfl⟩) ctor_d42 rfl ?_
  refine GQ.aloadN (pc' := 46) ctor_d45 rfl rfl ?_
  refine GQ.iconst (pc' := 47) ctor_d46 rfl rfl ?_
  refine GQ.ini (M := ctor_I) (q := ((@upd Int (@upd Int (@upd Int (@upd Int (@upd Int (@upd Int (@upd Int (fun _ => 0) 0 16) 1 8) 2 10) 3 4) 4 32) 5 64) 6 83), (fun _ => false), 0)) (k := 7) (pc' := 50) K.1 ha rfl (w23 hw) (Or.inr ⟨(w24 hw), rfl, rfl⟩) ctor_d47 rfl ?_
  refine GQ.aloadN (pc' := 51) ctor_d50 rfl rfl ?_
  refine GQ.iconst (pc' := 52) ctor_d51 rfl rfl ?_
  refine GQ.ini (M := ctor_I) (q := ((@upd Int (@upd Int (@upd Int (@upd Int (@upd Int (@upd Int (@upd Int (@upd Int (fun _ => 0) 0 16) 1 8) 2 10) 3 4) 4 32) 5 64) 6 83) 7 0), (fun _ => false), 0)) (k := 8) (pc' := 55) K.1 ha rfl (w25 hw) (Or.inr ⟨(w26 hw), rfl, rfl⟩) ctor_d52 rfl ?_
  refine GQ.aloadN (pc' := 56) ctor_d55 rfl rfl ?_
  refine GQ.iconst (pc' := 57) ctor_d56 rfl rfl ?_
  refine GQ.ini (M := ctor_I) (q := ((@upd Int (@upd Int (@upd Int (@upd Int (@upd Int (@upd Int (@upd Int (@upd Int (@upd Int (fun _ => 0) 0 16) 1 8) 2 10) 3 4) 4 32) 5 64) 6 83) 7 0) 8 1), (fun _ => false), 0)) (k := 9) (pc' := 60) K.1 ha rfl (w27 hw) (Or.inr ⟨(w28 hw), rfl, rfl⟩) ctor_d57 rfl ?_
  refine GQ.aloadN (pc' := 61) ctor_d60 rfl rfl ?_
  refine GQ.iconst (pc' := 62) ctor_d61 rfl rfl ?_
  refine GQ.ini (M := ctor_I) (q := ((@upd Int (@upd Int (@upd Int (@upd Int (@upd Int (@upd Int (@upd Int (@upd Int (@upd Int (@upd Int (fun _ => 0) 0 16) 1 8) 2 10) 3 4) 4 32) 5 64) 6 83) 7 0) 8 1) 9 2), (fun _ => false), 0)) (k := 10) (pc' := 65) K.1 ha rfl (w29 hw) (Or.inr ⟨(w30 hw), rfl, rfl⟩) ctor_d62 rfl ?_
  refine GQ.aloadN (pc' := 66) ctor_d65 rfl rfl ?_
  refine GQ.iconst (pc' := 67) ctor_d66 rfl rfl ?_
  refine GQ.ini (M := ctor_I) (q := ((@upd Int (@upd Int (@upd Int (@upd Int (@upd Int (@upd Int (@upd Int (@upd Int (@upd Int (@upd Int (@upd Int (fun _ => 0) 0 16) 1 8) 2 10) 3 4) 4 32) 5 64) 6 83) 7 0) 8 1) 9 2) 10 3), (fun _ => false), 0)) (k := 11) (pc' := 70) K.1 ha rfl (w31 hw) (Or.inr ⟨(w32 hw), rfl, rfl⟩) ctor_d67 rfl ?_
  refine GQ.aloadN (pc' := 71) ctor_d70 rfl rfl ?_
  refine GQ.iconst (pc' := 72) ctor_d71 rfl rfl ?_
  refine GQ.ini (M := ctor_I) (q := ((@upd Int (@upd Int (@upd Int (@upd Int (@upd Int (@upd Int (@upd Int (@upd Int (@upd Int (@upd Int (@upd Int (@upd Int (fun _ => 0) 0 16) 1 8) 2 10) 3 4) 4 32) 5 64) 6 83) 7 0) 8 1) 9 2) 10 3) 11 0), (fun _ => false), 0)) (k := 12) (pc' := 75) K.1 ha rfl (w33 hw) (Or.inr ⟨(w34 hw), rfl, rfl⟩) ctor_d72 rfl ?_
  refine GQ.aloadN (pc' := 76) ctor_d75 rfl rfl ?_
  refine GQ.iconst (pc' := 77) ctor_d76 rfl rfl ?_
  refine GQ.ini (M := ctor_I) (q := ((@upd Int (@upd Int (@upd Int (@upd Int (@upd Int (@upd Int (@upd Int (@upd Int (@upd Int (@upd Int (@upd Int (@upd Int (@upd Int (fun _ => 0) 0 16) 1 8) 2 10) 3 4) 4 32) 5 64) 6 83) 7 0) 8 1) 9 2) 10 3) 11 0) 12 2), (fun _ => false), 0)) (k := 13) (pc' := 80) K.1 ha rfl (w35 hw) (Or.inr ⟨(w36 hw), rfl, rfl⟩) ctor_d77 rfl ?_
  refine GQ.aloadN (pc' := 81) ctor_d80 rfl rfl ?_
  refine GQ.bipush (pc' := 83) ctor_d81 rfl rfl ?_
  refine GQ.ini (M := ctor_I) (q := ((@upd Int (@upd Int (@upd Int (@upd Int (@upd Int (@upd Int (@upd Int (@upd Int (@upd Int (@upd Int (@upd Int (@upd Int (@upd Int (@upd Int (fun _ => 0) 0 16) 1 8) 2 10) 3 4) 4 32) 5 64) 6 83) 7 0) 8 1) 9 2) 10 3) 11 0) 12 2) 13 4), (fun _ => false), 0)) (k := 14) (pc' := 86) K.1 ha rfl (w37 hw) (Or.inr ⟨(w38 hw), rfl, rfl⟩) ctor_d83 rfl ?_
  refine GQ.aloadN (pc' := 87) ctor_d86 rfl rfl ?_
  refine GQ.bipush (pc' := 89) ctor_d87 rfl rfl ?_
  refine GQ.ini (M := ctor_I) (q := ((@upd Int (@upd Int (@upd Int (@upd Int (@upd Int (@upd Int (@upd Int (@upd Int (@upd Int (@upd Int (@upd Int (@upd Int (@upd Int (@upd Int (@upd Int (fun _ => 0) 0 16) 1 8) 2 10) 3 4) 4 32) 5 64) 6 83) 7 0) 8 1) 9 2) 10 3) 11 0) 12 2) 13 4) 14 6), (fun _ => false), 0)) (k := 15) (pc' := 92) K.1 ha rfl (w39 hw) (Or.inr ⟨(w40 hw), rfl, rfl⟩) ctor_d89 rfl ?_
  refine GQ.aloadN (pc' := 93) ctor_d92 rfl rfl ?_
  refine GQ.bipush (pc' := 95) ctor_d93 rfl rfl ?_
  refine GQ.ini (M := ctor_I) (q := ((@upd Int (@upd Int (@upd Int (@upd Int (@upd Int (@upd Int (@upd Int (@upd Int (@upd Int (@upd Int (@upd Int (@upd Int (@upd Int (@upd Int (@upd Int (@upd Int (fun _ => 0) 0 16) 1 8) 2 10) 3 4) 4 32) 5 64) 6 83) 7 0) 8 1) 9 2) 10 3) 11 0) 12 2) 13 4) 14 6) 15 8), (fun _ => false), 0)) (k := 16) (pc' := 98) K.1 ha rfl (w41 hw) (Or.inr ⟨(w42 hw), rfl, rfl⟩) ctor_d95 rfl ?_
  refine GQ.aloadN (pc' := 99) ctor_d98 rfl rfl ?_
  refine GQ.bipush (pc' := 101) ctor_d99 rfl rfl ?_
  refine GQ.ini (M := ctor_I) (q := ((@upd Int (@upd Int (@upd Int (@upd Int (@upd Int (@upd Int (@upd Int (@upd Int (@upd Int (@upd Int (@upd Int (@upd Int (@upd Int (@upd Int (@upd Int (@upd Int (@upd Int (fun _ => 0) 0 16) 1 8) 2 10) 3 4) 4 32) 5 64) 6 83) 7 0) 8 1) 9 2) 10 3) 11 0) 12 2) 13 4) 14 6) 15 8) 16 9), (fun _ => false), 0)) (k := 17) (pc' := 104) K.1 ha rfl (w43 hw) (Or.inr ⟨(w44 hw), rfl, rfl⟩) ctor_d101 rfl ?_
  refine GQ.aloadN (pc' := 105) ctor_d104 rfl rfl ?_
  refine GQ.bipush (pc' := 107) ctor_d105 rfl rfl ?_
  refine GQ.ini (M := ctor_I) (q := ((@upd Int (@upd Int (@upd Int (@upd Int (@upd Int (@upd Int (@upd Int (@upd Int (@upd Int (@upd Int (@upd Int (@upd Int (@upd Int (@upd Int (@upd Int (@upd Int (@upd Int (@upd Int (fun _ => 0) 0 16) 1 8) 2 10) 3 4) 4 32) 5 64) 6 83) 7 0) 8 1) 9 2) 10 3) 11 0) 12 2) 13 4) 14 6) 15 8) 16 9) 17 10), (fun _ => false), 0)) (k := 18) (pc' := 110) K.1 ha rfl (w45 hw) (Or.inr ⟨(w46 hw), rfl, rfl⟩) ctor_d107 rfl ?_
  refine GQ.aloadN (pc' := 111) ctor_d110 rfl rfl ?_
  refine GQ.bipush (pc' := 113) ctor_d111 rfl rfl ?_
  refine GQ.ini (M := ctor_I) (q := ((@upd Int (@upd Int (@upd Int (@upd Int (@upd Int (@upd Int (@upd Int (@upd Int (@upd Int (@upd Int (@upd Int (@upd Int (@upd Int (@upd Int (@upd Int (@upd Int (@upd Int (@upd Int (@upd Int (fun _ => 0) 0 16) 1 8) 2 10) 3 4) 4 32) 5 64) 6 83) 7 0) 8 1) 9 2) 10 3) 11 0) 12 2) 13 4) 14 6) 15 8) 16 9) 17 10) 18 11), (fun _ => false), 0)) (k := 19) (pc' := 116) K.1 ha rfl (w47 hw) (Or.inr ⟨(w48 hw), rfl, rfl⟩) ctor_d113 rfl ?_
  refine GQ.aloadN (pc' := 117) ctor_d116 rfl rfl ?_
  refine GQ.iconst (pc' := 118) ctor_d117 rfl rfl ?_
  refine GQ.ini (M := ctor_I) (q := ((@upd Int (@upd Int (@upd Int (@upd Int (@upd Int (@upd Int (@upd Int (@upd Int (@upd Int (@upd Int (@upd Int (@upd Int (@upd Int (@upd Int (@upd Int (@upd Int (@upd Int (@upd Int (@upd Int (@upd Int (fun _ => 0) 0 16) 1 8) 2 10) 3 4) 4 32) 5 64) 6 83) 7 0) 8 1) 9 2) 10 3) 11 0) 12 2) 13 4) 14 6) 15 8) 16 9) 17 10) 18 11) 19 12), (fun _ => false), 0)) (k := 20) (pc' := 121) K.1 ha rfl (w49 hw) (Or.inr ⟨(w50 hw), rfl, rfl⟩) ctor_d118 rfl ?_
  refine GQ.aloadN (pc' := 122) ctor_d121 rfl rfl ?_
  refine GQ.iconst (pc' := 123) ctor_d122 rfl rfl ?_
  refine GQ.ini (M := ctor_I) (q := ((@upd Int (@upd Int (@upd Int (@upd Int (@upd Int (@upd Int (@upd Int (@upd Int (@upd Int (@upd Int (@upd Int (@upd Int (@upd Int (@upd Int (@upd Int (@upd Int (@upd Int (@upd Int (@upd Int (@upd Int (@upd Int (fun _ => 0) 0 16) 1 8) 2 10) 3 4) 4 32) 5 64) 6 83) 7 0) 8 1) 9 2) 10 3) 11 0) 12 2) 13 4) 14 6) 15 8) 16 9) 17 10) 18 11) 19 12) 20 0), (fun _ => false), 0)) (k := 21) (pc' := 126) K.1 ha rfl (w51 hw) (Or.inr ⟨(w52 hw), rfl, rfl⟩) ctor_d123 rfl ?_
  refine GQ.aloadN (pc' := 127) ctor_d126 rfl rfl ?_
  refine GQ.iconst (pc' := 128) ctor_d127 rfl rfl ?_
  refine GQ.ini (M := ctor_I) (q := ((@upd Int (@upd Int (@upd Int (@upd Int (@upd Int (@upd Int (@upd Int (@upd Int (@upd Int (@upd Int (@upd Int (@upd Int (@upd Int (@upd Int (@upd Int (@upd Int (@upd Int (@upd Int (@upd Int (@upd Int (@upd Int (@upd Int (fun _ => 0) 0 16) 1 8) 2 10) 3 4) 4 32) 5 64) 6 83) 7 0) 8 1) 9 2) 10 3) 11 0) 12 2) 13 4) 14 6) 15 8) 16 9) 17 10) 18 11) 19 12) 20 0) 21 1), (fun _ => false), 0)) (k := 22) (pc' := 131) K.1 ha rfl (w53 hw) (Or.inr ⟨(w54 hw), rfl, rfl⟩) ctor_d128 rfl ?_
  refine GQ.aloadN (pc' := 132) ctor_d131 rfl rfl ?_
  refine GQ.iconst (pc' := 133) ctor_d132 rfl rfl ?_
  refine GQ.ini (M := ctor_I) (q := ((@upd Int (@upd Int (@upd Int (@upd Int (@upd Int (@upd Int (@upd Int (@upd Int (@upd Int (@upd Int (@upd Int (@upd Int (@upd Int (@upd Int (@upd Int (@upd Int (@upd Int (@upd Int (@upd Int (@upd Int (@upd Int (@upd Int (@upd Int (fun _ => 0) 0 16) 1 8) 2 10) 3 4) 4 32) 5 64) 6 83) 7 0) 8 1) 9 2) 10 3) 11 0) 12 2) 13 4) 14 6) 15 8) 16 9) 17 10) 18 11) 19 12) 20 0) 21 1) 22 2), (fun _ => false), 0)) (k := 23) (pc' := 136) K.1 ha rfl (w55 hw) (Or.inr ⟨(w56 hw), rfl, rfl⟩) ctor_d133 rfl ?_
  refine GQ.aloadN (pc' := 137) ctor_d136 rfl rfl ?_
  refine GQ.iconst (pc' := 138) ctor_d137 rfl rfl ?_
  refine GQ.ini (M := ctor_I) (q := ((@upd Int (@upd Int (@upd Int (@upd Int (@upd Int (@upd Int (@upd Int (@upd Int (@upd Int (@upd Int (@upd Int (@upd Int (@upd Int (@upd Int (@upd Int (@upd Int (@upd Int (@upd Int (@upd Int (@upd Int (@upd Int (@upd Int (@upd Int (@upd Int (fun _ => 0) 0 16) 1 8) 2 10) 3 4) 4 32) 5 64) 6 83) 7 0) 8 1) 9 2) 10 3) 11 0) 12 2) 13 4) 14 6) 15 8) 16 9) 17 10) 18 11) 19 12) 20 0) 21 1) 22 2) 23 2), (fun _ => false), 0)) (k := 24) (pc' := 141) K.1 ha rfl (w57 hw) (Or.inr ⟨(w58 hw), rfl, rfl⟩) ctor_d138 rfl ?_
  refine GQ.aloadN (pc' := 142) ctor_d141 rfl rfl ?_
  refine GQ.iconst (pc' := 143) ctor_d142 rfl rfl ?_
  refine GQ.ini (M := ctor_I) (q := ((@upd Int (@upd Int (@upd Int (@upd Int (@upd Int (@upd Int (@upd Int (@upd Int (@upd Int (@upd Int (@upd Int (@upd Int (@upd Int (@upd Int (@upd Int (@upd Int (@upd Int (@upd Int (@upd Int (@upd Int (@upd Int (@upd Int (@upd Int (@upd Int (@upd Int (fun _ => 0) 0 16) 1 8) 2 10) 3 4) 4 32) 5 64) 6 83) 7 0) 8 1) 9 2) 10 3) 11 0) 12 2) 13 4) 14 6) 15 8) 16 9) 17 10) 18 11) 19 12) 20 0) 21 1) 22 2) 23 2) 24 4), (fun _ => false), 0)) (k := 25) (pc' := 146) K.1 ha rfl (w59 hw) (Or.inr ⟨(w60 hw), rfl, rfl⟩) ctor_d143 rfl ?_
  refine GQ.aloadN (pc' := 147) ctor_d146 rfl rfl ?_
  refine GQ.iconst (pc' := 148) ctor_d147 rfl rfl ?_
  refine GQ.ini (M := ctor_I) (q := ((@upd Int (@upd Int (@upd Int (@upd Int (@upd Int (@upd Int (@upd Int (@upd Int (@upd Int (@upd Int (@upd Int (@upd Int (@upd Int (@upd Int (@upd Int (@upd Int (@upd Int (@upd Int (@upd Int (@upd Int (@upd Int (@upd Int (@upd Int (@upd Int (@upd Int (@upd Int (fun _ => 0) 0 16) 1 8) 2 10) 3 4) 4 32) 5 64) 6 83) 7 0) 8 1) 9 2) 10 3) 11 0) 12 2) 13 4) 14 6) 15 8) 16 9) 17 10) 18 11) 19 12) 20 0) 21 1) 22 2) 23 2) 24 4) 25 4), (fun _ => false), 0)) (k := 26) (pc' := 151) K.1 ha rfl (w61 hw) (Or.inr ⟨(w62 hw), rfl, rfl⟩) ctor_d148 rfl ?_
  refine GQ.aloadN (pc' := 152) ctor_d151 rfl rfl ?_
  refine GQ.bipush (pc' := 154) ctor_d152 rfl rfl ?_
  refine GQ.ini (M := ctor_I) (q := ((@upd Int (@upd Int (@upd Int (@upd Int (@upd Int (@upd Int (@upd Int (@upd Int (@upd Int (@upd Int (@upd Int (@upd Int (@upd Int (@upd Int (@upd Int (@upd Int (@upd Int (@upd Int (@upd Int (@upd Int (@upd Int (@upd Int (@upd Int (@upd Int (@upd Int (@upd Int (@upd Int (fun _ => 0) 0 16) 1 8) 2 10) 3 4) 4 32) 5 64) 6 83) 7 0) 8 1) 9 2) 10 3) 11 0) 12 2) 13 4) 14 6) 15 8) 16 9) 17 10) 18 11) 19 12) 20 0) 21 1) 22 2) 23 2) 24 4) 25 4) 26 5), (fun _ => false), 0)) (k := 27) (pc' := 157) K.1 ha rfl (w63 hw) (Or.inr ⟨(w64 hw), rfl, rfl⟩) ctor_d154 rfl ?_
  refine GQ.aloadN (pc' := 158) ctor_d157 rfl rfl ?_
  refine GQ.bipush (pc' := 160) ctor_d158 rfl rfl ?_
  refine GQ.newA (M := ctor_I) (q := ((@upd Int (@upd Int (@upd Int (@upd Int (@upd Int (@upd Int (@upd Int (@upd Int (@upd Int (@upd Int (@upd Int (@upd Int (@upd Int (@upd Int (@upd Int (@upd Int (@upd Int (@upd Int (@upd Int (@upd Int (@upd Int (@upd Int (@upd Int (@upd Int (@upd Int (@upd Int (@upd Int (@upd Int (fun _ => 0) 0 16) 1 8) 2 10) 3 4) 4 32) 5 64) 6 83) 7 0) 8 1) 9 2) 10 3) 11 0) 12 2) 13 4) 14 6) 15 8) 16 9) 17 10) 18 11) 19 12) 20 0) 21 1) 22 2) 23 2) 24 4) 25 4) 26 5) 27 7), (fun _ => false), 0)) (aty := .byte) (k := 32) (x := 16) (kc := 14) (ks := 2344) (pc' := 165) K.1 ha rfl rfl rfl hh rfl (w65 hw) (w66 hw) (Or.inr ⟨(w67 hw), rfl, rfl⟩) ctor_d160 rfl ctor_d162 rfl ?_
  refine GQ.aloadN (pc' := 166) ctor_d165 rfl rfl ?_
  refine GQ.bipush (pc' := 168) ctor_d166 rfl rfl ?_
  refine GQ.newA (M := ctor_I) (q := ((@upd Int (@upd Int (@upd Int (@upd Int (@upd Int (@upd Int (@upd Int (@upd Int (@upd Int (@upd Int (@upd Int (@upd Int (@upd Int (@upd Int (@upd Int (@upd Int (@upd Int (@upd Int (@upd Int (@upd Int (@upd Int (@upd Int (@upd Int (@upd Int (@upd Int (@upd Int (@upd Int (@upd Int (fun _ => 0) 0 16) 1 8) 2 10) 3 4) 4 32) 5 64) 6 83) 7 0) 8 1) 9 2) 10 3) 11 0) 12 2) 13 4) 14 6) 15 8) 16 9) 17 10) 18 11) 19 12) 20 0) 21 1) 22 2) 23 2) 24 4) 25 4) 26 5) 27 7), (@upd Bool (fun _ => false) 32 true), 1)) (aty := .byte) (k := 33) (x := 16) (kc := 13) (ks := 2328) (pc' := 173) K.1 ha rfl rfl rfl hh rfl (w65 hw) (w68 hw) (Or.inr ⟨(w69 hw), rfl, rfl⟩) ctor_d168 rfl ctor_d170 rfl ?_
  refine GQ.aloadN (pc' := 174) ctor_d173 rfl rfl ?_
  refine GQ.bipush (pc' := 176) ctor_d174 rfl rfl ?_
  refine GQ.newA (M := ctor_I) (q := ((@upd Int (@upd Int (@upd Int (@upd Int (@upd Int (@upd Int (@upd Int (@upd Int (@upd Int (@upd Int (@upd Int (@upd Int (@upd Int (@upd Int (@upd Int (@upd Int (@upd Int (@upd Int (@upd Int (@upd Int (@upd Int (@upd Int (@upd Int (@upd Int (@upd Int (@upd Int (@upd Int (@upd Int (fun _ => 0) 0 16) 1 8) 2 10) 3 4) 4 32) 5 64) 6 83) 7 0) 8 1) 9 2) 10 3) 11 0) 12 2) 13 4) 14 6) 15 8) 16 9) 17 10) 18 11) 19 12) 20 0) 21 1) 22 2) 23 2) 24 4) 25 4) 26 5) 27 7), (@upd Bool (@upd Bool (fun _ => false) 32 true) 33 true), 2)) (aty := .byte) (k := 34) (x := 16) (kc := 12) (ks := 2312) (pc' := 181) K.1 ha rfl rfl rfl hh rfl (w65 hw) (w70 hw) (Or.inr ⟨(w71 hw), rfl, rfl⟩) ctor_d176 rfl ctor_d178 rfl ?_
  refine GQ.aloadN (pc' := 182) ctor_d181 rfl rfl ?_
  refine GQ.sipush (pc' := 185) ctor_d182 rfl rfl ?_
  refine GQ.newA (M := ctor_I) (q := ((@upd Int (@upd Int (@upd Int (@upd Int (@upd Int (@upd Int (@upd Int (@upd Int (@upd Int (@upd Int (@upd Int (@upd Int (@upd Int (@upd Int (@upd Int (@upd Int (@upd Int (@upd Int (@upd Int (@upd Int (@upd Int (@upd Int (@upd Int (@upd Int (@upd Int (@upd Int (@upd Int (@upd Int (fun _ => 0) 0 16) 1 8) 2 10) 3 4) 4 32) 5 64) 6 83) 7 0) 8 1) 9 2) 10 3) 11 0) 12 2) 13 4) 14 6) 15 8) 16 9) 17 10) 18 11) 19 12) 20 0) 21 1) 22 2) 23 2) 24 4) 25 4) 26 5) 27 7), (@upd Bool (@upd Bool (@upd Bool (fun _ => false) 32 true) 33 true) 34 true), 3)) (aty := .char) (k := 35) (x := 128) (kc := 11) (ks := 2184) (pc' := 190) K.1 ha rfl rfl rfl hh rfl (w72 hw) (w73 hw) (Or.inr ⟨(w74 hw), rfl, rfl⟩) ctor_d185 rfl ctor_d187 rfl ?_
  refine GQ.aloadN (pc' := 191) ctor_d190 rfl rfl ?_
  refine GQ.bipush (pc' := 193) ctor_d191 rfl rfl ?_
  refine GQ.newA (M := ctor_I) (q := ((@upd Int (@upd Int (@upd Int (@upd Int (@upd Int (@upd Int (@upd Int (@upd Int (@upd Int (@upd Int (@upd Int (@upd Int (@upd Int (@upd Int (@upd Int (@upd Int (@upd Int (@upd Int (@upd Int (@upd Int (@upd Int (@upd Int (@upd Int (@upd Int (@upd Int (@upd Int (@upd Int (@upd Int (fun _ => 0) 0 16) 1 8) 2 10) 3 4) 4 32) 5 64) 6 83) 7 0) 8 1) 9 2) 10 3) 11 0) 12 2) 13 4) 14 6) 15 8) 16 9) 17 10) 18 11) 19 12) 20 0) 21 1) 22 2) 23 2) 24 4) 25 4) 26 5) 27 7), (@upd Bool (@upd Bool (@upd Bool (@upd Bool (fun _ => false) 32 true) 33 true) 34 true) 35 true), 4)) (aty := .int) (k := 36) (x := 16) (kc := 10) (ks := 2168) (pc' := 198) K.1 ha rfl rfl rfl hh rfl (w75 hw) (w76 hw) (Or.inr ⟨(w77 hw), rfl, rfl⟩) ctor_d193 rfl ctor_d195 rfl ?_
  refine GQ.aloadN (pc' := 199) ctor_d198 rfl rfl ?_
  refine GQ.bipush (pc' := 201) ctor_d199 rfl rfl ?_
  refine GQ.newA (M := ctor_I) (q := ((@upd Int (@upd Int (@upd Int (@upd Int (@upd Int (@upd Int (@upd Int (@upd Int (@upd Int (@upd Int (@upd Int (@upd Int (@upd Int (@upd Int (@upd Int (@upd Int (@upd Int (@upd Int (@upd Int (@upd Int (@upd Int (@upd Int (@upd Int (@upd Int (@upd Int (@upd Int (@upd Int (@upd Int (fun _ => 0) 0 16) 1 8) 2 10) 3 4) 4 32) 5 64) 6 83) 7 0) 8 1) 9 2) 10 3) 11 0) 12 2) 13 4) 14 6) 15 8) 16 9) 17 10) 18 11) 19 12) 20 0) 21 1) 22 2) 23 2) 24 4) 25 4) 26 5) 27 7), (@upd Bool (@upd Bool (@upd Bool (@upd Bool (@upd Bool (fun _ => false) 32 true) 33 true) 34 true) 35 true) 36 true), 5)) (aty := .char) (k := 37) (x := 8) (kc := 9) (ks := 2160) (pc' := 206) K.1 ha rfl rfl rfl hh rfl (w72 hw) (w78 hw) (Or.inr ⟨(w79 hw), rfl, rfl⟩) ctor_d201 rfl ctor_d203 rfl ?_
  refine GQ.aloadN (pc' := 207) ctor_d206 rfl rfl ?_
  refine GQ.bipush (pc' := 209) ctor_d207 rfl rfl ?_
  refine GQ.newA (M := ctor_I) (q := ((@upd Int (@upd Int (@upd Int (@upd Int (@upd Int (@upd Int (@upd Int (@upd Int (@upd Int (@upd Int (@upd Int (@upd Int (@upd Int (@upd Int (@upd Int (@upd Int (@upd Int (@upd Int (@upd Int (@upd Int (@upd Int (@upd Int (@upd Int (@upd Int (@upd Int (@upd Int (@upd Int (@upd Int (fun _ => 0) 0 16) 1 8) 2 10) 3 4) 4 32) 5 64) 6 83) 7 0) 8 1) 9 2) 10 3) 11 0) 12 2) 13 4) 14 6) 15 8) 16 9) 17 10) 18 11) 19 12) 20 0) 21 1) 22 2) 23 2) 24 4) 25 4) 26 5) 27 7), (@upd Bool (@upd Bool (@upd Bool (@upd Bool (@upd Bool (@upd Bool (fun _ => false) 32 true) 33 true) 34 true) 35 true) 36 true) 37 true), 6)) (aty := .char) (k := 39) (x := 32) (kc := 8) (ks := 2128) (pc' := 214) K.1 ha rfl rfl rfl hh rfl (w72 hw) (w80 hw) (Or.inr ⟨(w81 hw), rfl, rfl⟩) ctor_d209 rfl ctor_d211 rfl ?_
  refine GQ.aloadN (pc' := 215) ctor_d214 rfl rfl ?_
  refine GQ.sipush (pc' := 218) ctor_d215 rfl rfl ?_
  refine GQ.newA (M := ctor_I) (q := ((@upd Int (@upd Int (@upd Int (@upd Int (@upd Int (@upd Int (@upd Int (@upd Int (@upd Int (@upd Int (@upd Int (@upd Int (@upd Int (@upd Int (@upd Int (@upd Int (@upd Int (@upd Int (@upd Int (@upd Int (@upd Int (@upd Int (@upd Int (@upd Int (@upd Int (@upd Int (@upd Int (@upd Int (fun _ => 0) 0 16) 1 8) 2 10) 3 4) 4 32) 5 64) 6 83) 7 0) 8 1) 9 2) 10 3) 11 0) 12 2) 13 4) 14 6) 15 8) 16 9) 17 10) 18 11) 19 12) 20 0) 21 1) 22 2) 23 2) 24 4) 25 4) 26 5) 27 7), (@upd Bool (@upd Bool (@upd Bool (@upd Bool (@upd Bool (@upd Bool (@upd Bool (fun _ => false) 32 true) 33 true) 34 true) 35 true) 36 true) 37 true) 39 true), 7)) (aty := .byte) (k := 41) (x := 256) (kc := 7) (ks := 1872) (pc' := 223) K.1 ha rfl rfl rfl hh rfl (w65 hw) (w82 hw) (Or.inr ⟨(w83 hw), rfl, rfl⟩) ctor_d218 rfl ctor_d220 rfl ?_
  refine GQ.aloadN (pc' := 224) ctor_d223 rfl rfl ?_
  refine GQ.sipush (pc' := 227) ctor_d224 rfl rfl ?_
  refine GQ.newA (M := ctor_I) (q := ((@upd Int (@upd Int (@upd Int (@upd Int (@upd Int (@upd Int (@upd Int (@upd Int (@upd Int (@upd Int (@upd Int (@upd Int (@upd Int (@upd Int (@upd Int (@upd Int (@upd Int (@upd Int (@upd Int (@upd Int (@upd Int (@upd Int (@upd Int (@upd Int (@upd Int (@upd Int (@upd Int (@upd Int (fun _ => 0) 0 16) 1 8) 2 10) 3 4) 4 32) 5 64) 6 83) 7 0) 8 1) 9 2) 10 3) 11 0) 12 2) 13 4) 14 6) 15 8) 16 9) 17 10) 18 11) 19 12) 20 0) 21 1) 22 2) 23 2) 24 4) 25 4) 26 5) 27 7), (@upd Bool (@upd Bool (@upd Bool (@upd Bool (@upd Bool (@upd Bool (@upd Bool (@upd Bool (fun _ => false) 32 true) 33 true) 34 true) 35 true) 36 true) 37 true) 39 true) 41 true), 8)) (aty := .byte) (k := 42) (x := 256) (kc := 6) (ks := 1616) (pc' := 232) K.1 ha rfl rfl rfl hh rfl (w65 hw) (w84 hw) (Or.inr ⟨(w85 hw), rfl, rfl⟩) ctor_d227 rfl ctor_d229 rfl ?_
  refine GQ.aloadN (pc' := 233) ctor_d232 rfl rfl ?_
  refine GQ.sipush (pc' := 236) ctor_d233 rfl rfl ?_
  refine GQ.newA (M := ctor_I) (q := ((@upd Int (@upd Int (@upd Int (@upd Int (@upd Int (@upd Int (@upd Int (@upd Int (@upd Int (@upd Int (@upd Int (@upd Int (@upd Int (@upd Int (@upd Int (@upd Int (@upd Int (@upd Int (@upd Int (@upd Int (@upd Int (@upd Int (@upd Int (@upd Int (@upd Int (@upd Int (@upd Int (@upd Int (fun _ => 0) 0 16) 1 8) 2 10) 3 4) 4 32) 5 64) 6 83) 7 0) 8 1) 9 2) 10 3) 11 0) 12 2) 13 4) 14 6) 15 8) 16 9) 17 10) 18 11) 19 12) 20 0) 21 1) 22 2) 23 2) 24 4) 25 4) 26 5) 27 7), (@upd Bool (@upd Bool (@upd Bool (@upd Bool (@upd Bool (@upd Bool (@upd Bool (@upd Bool (@upd Bool (fun _ => false) 32 true) 33 true) 34 true) 35 true) 36 true) 37 true) 39 true) 41 true) 42 true), 9)) (aty := .byte) (k := 44) (x := 1024) (kc := 5) (ks := 592) (pc' := 241) K.1 ha rfl rfl rfl hh rfl (w65 hw) (w86 hw) (Or.inr ⟨(w87 hw), rfl, rfl⟩) ctor_d236 rfl ctor_d238 rfl ?_
  refine GQ.aloadN (pc' := 242) ctor_d241 rfl rfl ?_
  refine GQ.sipush (pc' := 245) ctor_d242 rfl rfl ?_
  refine GQ.newA (M := ctor_I) (q := ((@upd Int (@upd Int (@upd Int (@upd Int (@upd Int (@upd Int (@upd Int (@upd Int (@upd Int (@upd Int (@upd Int (@upd Int (@upd Int (@upd Int (@upd Int (@upd Int (@upd Int (@upd Int (@upd Int (@upd Int (@upd Int (@upd Int (@upd Int (@upd Int (@upd Int (@upd Int (@upd Int (@upd Int (fun _ => 0) 0 16) 1 8) 2 10) 3 4) 4 32) 5 64) 6 83) 7 0) 8 1) 9 2) 10 3) 11 0) 12 2) 13 4) 14 6) 15 8) 16 9) 17 10) 18 11) 19 12) 20 0) 21 1) 22 2) 23 2) 24 4) 25 4) 26 5) 27 7), (@upd Bool (@upd Bool (@upd Bool (@upd Bool (@upd Bool (@upd Bool (@upd Bool (@upd Bool (@upd Bool (@upd Bool (fun _ => false) 32 true) 33 true) 34 true) 35 true) 36 true) 37 true) 39 true) 41 true) 42 true) 44 true), 10)) (aty := .byte) (k := 45) (x := 256) (kc := 4) (ks := 336) (pc' := 250) K.1 ha rfl rfl rfl hh rfl (w65 hw) (w88 hw) (Or.inr ⟨(w89 hw), rfl, rfl⟩) ctor_d245 rfl ctor_d247 rfl ?_
  refine GQ.aloadN (pc' := 251) ctor_d250 rfl rfl ?_
  refine GQ.sipush (pc' := 254) ctor_d251 rfl rfl ?_
  refine GQ.newA (M := ctor_I) (q := ((@upd Int (@upd Int (@upd Int (@upd Int (@upd Int (@upd Int (@upd Int (@upd Int (@upd Int (@upd Int (@upd Int (@upd Int (@upd Int (@upd Int (@upd Int (@upd Int (@upd Int (@upd Int (@upd Int (@upd Int (@upd Int (@upd Int (@upd Int (@upd Int (@upd Int (@upd Int (@upd Int (@upd Int (fun _ => 0) 0 16) 1 8) 2 10) 3 4) 4 32) 5 64) 6 83) 7 0) 8 1) 9 2) 10 3) 11 0) 12 2) 13 4) 14 6) 15 8) 16 9) 17 10) 18 11) 19 12) 20 0) 21 1) 22 2) 23 2) 24 4) 25 4) 26 5) 27 7), (@upd Bool (@upd Bool (@upd Bool (@upd Bool (@upd Bool (@upd Bool (@upd Bool (@upd Bool (@upd Bool (@upd Bool (@upd Bool (fun _ => false) 32 true) 33 true) 34 true) 35 true) 36 true) 37 true) 39 true) 41 true) 42 true) 44 true) 45 true), 11)) (aty := .byte) (k := 46) (x := 256) (kc := 3) (ks := 80) (pc' := 259) K.1 ha rfl rfl rfl hh rfl (w65 hw) (w90 hw) (Or.inr ⟨(w91 hw), rfl, rfl⟩) ctor_d254 rfl ctor_d256 rfl ?_
  refine GQ.aloadN (pc' := 260) ctor_d259 rfl rfl ?_
  refine GQ.bipush (pc' := 262) ctor_d260 rfl rfl ?_
  refine GQ.newA (M := ctor_I) (q := ((@upd Int (@upd Int (@upd Int (@upd Int (@upd Int (@upd Int (@upd Int (@upd Int (@upd Int (@upd Int (@upd Int (@upd Int (@upd Int (@upd Int (@upd Int (@upd Int (@upd Int (@upd Int (@upd Int (@upd Int (@upd Int (@upd Int (@upd Int (@upd Int (@upd Int (@upd Int (@upd Int (@upd Int (fun _ => 0) 0 16) 1 8) 2 10) 3 4) 4 32) 5 64) 6 83) 7 0) 8 1) 9 2) 10 3) 11 0) 12 2) 13 4) 14 6) 15 8) 16 9) 17 10) 18 11) 19 12) 20 0) 21 1) 22 2) 23 2) 24 4) 25 4) 26 5) 27 7), (@upd Bool (@upd Bool (@upd Bool (@upd Bool (@upd Bool (@upd Bool (@upd Bool (@upd Bool (@upd Bool (@upd Bool (@upd Bool (@upd Bool (fun _ => false) 32 true) 33 true) 34 true) 35 true) 36 true) 37 true) 39 true) 41 true) 42 true) 44 true) 45 true) 46 true), 12)) (aty := .byte) (k := 48) (x := 32) (kc := 2) (ks := 48) (pc' := 267) K.1 ha rfl rfl rfl hh rfl (w65 hw) (w92 hw) (Or.inr ⟨(w93 hw), rfl, rfl⟩) ctor_d262 rfl ctor_d264 rfl ?_
  refine GQ.aloadN (pc' := 268) ctor_d267 rfl rfl ?_
  refine GQ.bipush (pc' := 270) ctor_d268 rfl rfl ?_
  refine GQ.newA (M := ctor_I) (q := ((@upd Int (@upd Int (@upd Int (@upd Int (@upd Int (@upd Int (@upd Int (@upd Int (@upd Int (@upd Int (@upd Int (@upd Int (@upd Int (@upd Int (@upd Int (@upd Int (@upd Int (@upd Int (@upd Int (@upd Int (@upd Int (@upd Int (@upd Int (@upd Int (@upd Int (@upd Int (@upd Int (@upd Int (fun _ => 0) 0 16) 1 8) 2 10) 3 4) 4 32) 5 64) 6 83) 7 0) 8 1) 9 2) 10 3) 11 0) 12 2) 13 4) 14 6) 15 8) 16 9) 17 10) 18 11) 19 12) 20 0) 21 1) 22 2) 23 2) 24 4) 25 4) 26 5) 27 7), (@upd Bool (@upd Bool (@upd Bool (@upd Bool (@upd Bool (@upd Bool (@upd Bool (@upd Bool (@upd Bool (@upd Bool (@upd Bool (@upd Bool (@upd Bool (fun _ => false) 32 true) 33 true) 34 true) 35 true) 36 true) 37 true) 39 true) 41 true) 42 true) 44 true) 45 true) 46 true) 48 true), 13)) (aty := .byte) (k := 49) (x := 32) (kc := 1) (ks := 16) (pc' := 275) K.1 ha rfl rfl rfl hh rfl (w65 hw) (w94 hw) (Or.inr ⟨(w95 hw), rfl, rfl⟩) ctor_d270 rfl ctor_d272 rfl ?_
  refine GQ.aloadN (pc' := 276) ctor_d275 rfl rfl ?_
  refine GQ.bipush (pc' := 278) ctor_d276 rfl rfl ?_
  refine GQ.newA (M := ctor_I) (q := ((@upd Int (@upd Int (@upd Int (@upd Int (@upd Int (@upd Int (@upd Int (@upd Int (@upd Int (@upd Int (@upd Int (@upd Int (@upd Int (@upd Int (@upd Int (@upd Int (@upd Int (@upd Int (@upd Int (@upd Int (@upd Int (@upd Int (@upd Int (@upd Int (@upd Int (@upd Int (@upd Int (@upd Int (fun _ => 0) 0 16) 1 8) 2 10) 3 4) 4 32) 5 64) 6 83) 7 0) 8 1) 9 2) 10 3) 11 0) 12 2) 13 4) 14 6) 15 8) 16 9) 17 10) 18 11) 19 12) 20 0) 21 1) 22 2) 23 2) 24 4) 25 4) 26 5) 27 7), (@upd Bool (@upd Bool (@upd Bool (@upd Bool (@upd Bool (@upd Bool (@upd Bool (@upd Bool (@upd Bool (@upd Bool (@upd Bool (@upd Bool (@upd Bool (@upd Bool (fun _ => false) 32 true) 33 true) 34 true) 35 true) 36 true) 37 true) 39 true) 41 true) 42 true) 44 true) 45 true) 46 true) 48 true) 49 true), 14)) (aty := .byte) (k := 50) (x := 16) (kc := 0) (ks := 0) (pc' := 283) K.1 ha rfl rfl rfl hh rfl (w65 hw) (w96 hw) (Or.inr ⟨(w97 hw), rfl, rfl⟩) ctor_d278 rfl ctor_d280 rfl ?_
  exact GQ.body (q := ((@upd Int (@upd Int (@upd Int (@upd Int (@upd Int (@upd Int (@upd Int (@upd Int (@upd Int (@upd Int (@upd Int (@upd Int (@upd Int (@upd Int (@upd Int (@upd Int (@upd Int (@upd Int (@upd Int (@upd Int (@upd Int (@upd Int (@upd Int (@upd Int (@upd Int (@upd Int (@upd Int (@upd Int (fun _ => 0) 0 16) 1 8) 2 10) 3 4) 4 32) 5 64) 6 83) 7 0) 8 1) 9 2) 10 3) 11 0) 12 2) 13 4) 14 6) 15 8) 16 9) 17 10) 18 11) 19 12) 20 0) 21 1) 22 2) 23 2) 24 4) 25 4) 26 5) 27 7), (@upd Bool (@upd Bool (@upd Bool (@upd Bool (@upd Bool (@upd Bool (@upd Bool (@upd Bool (@upd Bool (@upd Bool (@upd Bool (@upd Bool (@upd Bool (@upd Bool (@upd Bool (fun _ => false) 32 true) 33 true) 34 true) 35 true) 36 true) 37 true) 39 true) 41 true) 42 true) 44 true) 45 true) 46 true) 48 true) 49 true) 50 true), 15)) (fun k e h1 h2 => by have q := alF_ok (al := (@upd Bool (@upd Bool (@upd Bool (@upd Bool (@upd Bool (@upd Bool (@upd Bool (@upd Bool (@upd Bool (@upd Bool (@upd Bool (@upd Bool (@upd Bool (@upd Bool (@upd Bool (fun _ => false) 32 true) 33 true) 34 true) 35 true) 36 true) 37 true) 39 true) 41 true) 42 true) 44 true) 45 true) 46 true) 48 true) 49 true) 50 true)) (F := FF) (j := 0) rfl k e h1 h2; rwa [Nat.zero_add] at q) rfl hh (fun h1 => ctor_B_ok hw ⟨K.1, K.inj a, fun j => Nat.le_trans ha (cvO_ge _ _ j)⟩ x1 x2 _)
def nodeCount_I : Mi := (⟨"SquashImage", "nodeCount", "()I"⟩, prog_1_method_52_code, 1, (some .int), 0, 0)
theorem nodeCount_d0 : decode nodeCount_I.2.1 0 = .ok (.aload_n 0, 1) := by decide +kernel
theorem nodeCount_d1 : decode nodeCount_I.2.1 1 = .ok (.getfield 156, 3) := by decide +kernel
theorem nodeCount_d4 : decode nodeCount_I.2.1 4 = .ok (.ireturn, 1) := by decide +kernel
theorem nodeCount_p : parseMethodDescriptor nodeCount_I.1.desc = some ⟨[], (some .int)⟩ := by decide +kernel
theorem nodeCount_K {a0 : Array Value} {Z : State} {M : Mi} (hw : Words a0 Z) (h : nodeCount_I.2.2.2.2.1 + 1 ≤ M.2.2.2.2.1) : Callee a0 Z M nodeCount_I 0 := ⟨pnC, (w126 hw), (w2 hw), h, by decide, fun sig q => by cases nodeCount_p.symm.trans q; rfl⟩
set_option maxRecDepth 65536 in
set_option maxHeartbeats 4000000 in
theorem nodeCount_M_ok {l : Launch} {Z : State} {a0 : Array Value} {n0 : Nat} {cv : Nat → Nat} {h0 : Heap} (hw : Words a0 Z) (K : KA a0 Z n0 CN nI FF cv) (s : Obj) : GQ (XA l Z n0 CN FF cv h0) nodeCount_I 0 0 0 (entry [Rf 0] nodeCount_I.2.2.1) [] s (nodeCount_M s) := by
  show GQ _ _ _ _ 0 [some (Rf 0)] [] _ _
  unfold nodeCount_M
  refine GQ.aloadN (pc' := 1) nodeCount_d0 rfl rfl ?_
  refine GQ.getI (M := nodeCount_I) (k := 31) (pc' := 4) rfl (w108 hw) nodeCount_d1 rfl ?_
  exact GQ.iret rfl nodeCount_d4
def isValid_I : Mi := (⟨"SquashImage", "isValid", "(I)Z"⟩, prog_1_method_53_code, 2, (some .boolean), 0, 0)
theorem isValid_d0 : decode isValid_I.2.1 0 = .ok (.iload_n 1, 1) := by decide +kernel
theorem isValid_d1 : decode isValid_I.2.1 1 = .ok (.ifCond .lt 21, 3) := by decide +kernel
theorem isValid_d4 : decode isValid_I.2.1 4 = .ok (.iload_n 1, 1) := by decide +kernel
theorem isValid_d5 : decode isValid_I.2.1 5 = .ok (.aload_n 0, 1) := by decide +kernel
theorem isValid_d6 : decode isValid_I.2.1 6 = .ok (.getfield 156, 3) := by decide +kernel
theorem isValid_d9 : decode isValid_I.2.1 9 = .ok (.if_icmp .ge 13, 3) := by decide +kernel
theorem isValid_d12 : decode isValid_I.2.1 12 = .ok (.iload_n 1, 1) := by decide +kernel
theorem isValid_d13 : decode isValid_I.2.1 13 = .ok (.bipush 16, 2) := by decide +kernel
theorem isValid_d15 : decode isValid_I.2.1 15 = .ok (.if_icmp .ge 7, 3) := by decide +kernel
theorem isValid_d18 : decode isValid_I.2.1 18 = .ok (.iconst 1, 1) := by decide +kernel
theorem isValid_d19 : decode isValid_I.2.1 19 = .ok (.goto 4, 3) := by decide +kernel
theorem isValid_d22 : decode isValid_I.2.1 22 = .ok (.iconst 0, 1) := by decide +kernel
theorem isValid_d23 : decode isValid_I.2.1 23 = .ok (.ireturn, 1) := by decide +kernel
theorem isValid_p : parseMethodDescriptor isValid_I.1.desc = some ⟨[.int], (some .boolean)⟩ := by decide +kernel
theorem isValid_K {a0 : Array Value} {Z : State} {M : Mi} (hw : Words a0 Z) (h : isValid_I.2.2.2.2.1 + 1 ≤ M.2.2.2.2.1) : Callee a0 Z M isValid_I 1 := ⟨pnC, (w135 hw), (w2 hw), h, by decide, fun sig q => by cases isValid_p.symm.trans q; rfl⟩
set_option maxRecDepth 65536 in
set_option maxHeartbeats 4000000 in
theorem isValid_M_ok {l : Launch} {Z : State} {a0 : Array Value} {n0 : Nat} {cv : Nat → Nat} {h0 : Heap} (hw : Words a0 Z) (K : KA a0 Z n0 CN nI FF cv) (x1 : Int) (s : Obj) : GQ (XA l Z n0 CN FF cv h0) isValid_I 0 0 0 (entry [Rf 0, I x1] isValid_I.2.2.1) [] s (isValid_M x1 s) := by
  show GQ _ _ _ _ 0 [some (Rf 0), some (I x1)] [] _ _
  unfold isValid_M
  refine GQ.iloadN (pc' := 1) isValid_d0 rfl rfl ?_
  refine GQ.ifT (pcT := 22) (pcF := 4) h_lt isValid_d1 rfl rfl rfl ?_ ?_
  · refine GQ.iconst (pc' := 23) isValid_d22 rfl rfl ?_
    exact GQ.zret rfl isValid_d23
  refine GQ.iloadN (pc' := 5) isValid_d4 rfl rfl ?_
  refine GQ.aloadN (pc' := 6) isValid_d5 rfl rfl ?_
  refine GQ.getI (M := isValid_I) (k := 31) (pc' := 9) rfl (w108 hw) isValid_d6 rfl ?_
  refine GQ.icmpF (pcT := 22) (pcF := 12) h_ge isValid_d9 rfl rfl rfl ?_ ?_
  · refine GQ.iconst (pc' := 23) isValid_d22 rfl rfl ?_
    exact GQ.zret rfl isValid_d23
  refine GQ.iloadN (pc' := 13) isValid_d12 rfl rfl ?_
  refine GQ.bipush (pc' := 15) isValid_d13 rfl rfl ?_
  refine GQ.icmpF (pcT := 22) (pcF := 18) h_ge isValid_d15 rfl rfl rfl ?_ ?_
  · refine GQ.iconst (pc' := 23) isValid_d22 rfl rfl ?_
    exact GQ.zret rfl isValid_d23
  refine GQ.iconst (pc' := 19) isValid_d18 rfl rfl ?_
  refine GQ.goto (pc' := 23) isValid_d19 rfl rfl ?_
  exact GQ.zret rfl isValid_d23
def kind_I : Mi := (⟨"SquashImage", "kind", "(I)I"⟩, prog_1_method_49_code, 2, (some .int), 1, 13)
theorem kind_d0 : decode kind_I.2.1 0 = .ok (.aload_n 0, 1) := by decide +kernel
theorem kind_d1 : decode kind_I.2.1 1 = .ok (.iload_n 1, 1) := by decide +kernel
theorem kind_d2 : decode kind_I.2.1 2 = .ok (.invokevirtual 325, 3) := by decide +kernel
theorem kind_d5 : decode kind_I.2.1 5 = .ok (.ifCond .ne 6, 3) := by decide +kernel
theorem kind_d8 : decode kind_I.2.1 8 = .ok (.bipush (-2), 2) := by decide +kernel
theorem kind_d10 : decode kind_I.2.1 10 = .ok (.ireturn, 1) := by decide +kernel
theorem kind_d11 : decode kind_I.2.1 11 = .ok (.aload_n 0, 1) := by decide +kernel
theorem kind_d12 : decode kind_I.2.1 12 = .ok (.getfield 94, 3) := by decide +kernel
theorem kind_d15 : decode kind_I.2.1 15 = .ok (.iload_n 1, 1) := by decide +kernel
theorem kind_d16 : decode kind_I.2.1 16 = .ok (.baload, 1) := by decide +kernel
theorem kind_d17 : decode kind_I.2.1 17 = .ok (.ireturn, 1) := by decide +kernel
theorem kind_p : parseMethodDescriptor kind_I.1.desc = some ⟨[.int], (some .int)⟩ := by decide +kernel
theorem kind_K {a0 : Array Value} {Z : State} {M : Mi} (hw : Words a0 Z) (h : kind_I.2.2.2.2.1 + 1 ≤ M.2.2.2.2.1) : Callee a0 Z M kind_I 1 := ⟨pnC, (w131 hw), (w2 hw), h, by decide, fun sig q => by cases kind_p.symm.trans q; rfl⟩
set_option maxRecDepth 65536 in
set_option maxHeartbeats 4000000 in
theorem kind_M_ok {l : Launch} {Z : State} {a0 : Array Value} {n0 : Nat} {cv : Nat → Nat} {h0 : Heap} (hw : Words a0 Z) (K : KA a0 Z n0 CN nI FF cv) (x1 : Int) (s : Obj) : GQ (XA l Z n0 CN FF cv h0) kind_I 0 0 0 (entry [Rf 0, I x1] kind_I.2.2.1) [] s (kind_M x1 s) := by
  show GQ _ _ _ _ 0 [some (Rf 0), some (I x1)] [] _ _
  unfold kind_M
  refine GQ.aloadN (pc' := 1) kind_d0 rfl rfl ?_
  refine GQ.iloadN (pc' := 2) kind_d1 rfl rfl ?_
  refine GQ.callP (Mc := isValid_I) (args0 := [I x1]) (S := []) (r := 0) (pc' := 5) (isValid_K hw (by decide)) rfl kind_d2 rfl (w132 hw) (w133 hw) (w134 hw) (w1 hw) XA.recv rfl (isValid_M_ok hw K x1 s) rfl (fun z2 s2 => ?_)
  show GQ (XA l Z n0 CN FF cv h0) kind_I _ _ 5 [some (Rf 0), some (I x1)] [I z2] s2 _
  refine GQ.ifF (pcT := 11) (pcF := 8) h_ne kind_d5 rfl rfl rfl ?_ ?_
  · refine GQ.aloadN (pc' := 12) kind_d11 rfl rfl ?_
    refine GQ.getA (M := kind_I) (k := 32) (pc' := 15) rfl (by decide) (w66 hw) kind_d12 rfl ?_
    refine GQ.iloadN (pc' := 16) kind_d15 rfl rfl ?_
    refine GQ.rd (k := 32) (ins := .baload) (pc' := 17) rfl (by decide) (Or.inr (Or.inl ⟨rfl, rfl⟩)) kind_d16 rfl (fun z16 => ?_)
    exact GQ.iret rfl kind_d17
  refine GQ.bipush (pc' := 10) kind_d8 rfl rfl ?_
  exact GQ.iret rfl kind_d10
def parentOf_I : Mi := (⟨"SquashImage", "parentOf", "(I)I"⟩, prog_1_method_51_code, 2, (some .int), 1, 13)
theorem parentOf_d0 : decode parentOf_I.2.1 0 = .ok (.aload_n 0, 1) := by decide +kernel
theorem parentOf_d1 : decode parentOf_I.2.1 1 = .ok (.iload_n 1, 1) := by decide +kernel
theorem parentOf_d2 : decode parentOf_I.2.1 2 = .ok (.invokevirtual 325, 3) := by decide +kernel
theorem parentOf_d5 : decode parentOf_I.2.1 5 = .ok (.ifCond .ne 6, 3) := by decide +kernel
theorem parentOf_d8 : decode parentOf_I.2.1 8 = .ok (.bipush (-2), 2) := by decide +kernel
theorem parentOf_d10 : decode parentOf_I.2.1 10 = .ok (.ireturn, 1) := by decide +kernel
theorem parentOf_d11 : decode parentOf_I.2.1 11 = .ok (.aload_n 0, 1) := by decide +kernel
theorem parentOf_d12 : decode parentOf_I.2.1 12 = .ok (.getfield 98, 3) := by decide +kernel
theorem parentOf_d15 : decode parentOf_I.2.1 15 = .ok (.iload_n 1, 1) := by decide +kernel
theorem parentOf_d16 : decode parentOf_I.2.1 16 = .ok (.baload, 1) := by decide +kernel
theorem parentOf_d17 : decode parentOf_I.2.1 17 = .ok (.ireturn, 1) := by decide +kernel
theorem parentOf_p : parseMethodDescriptor parentOf_I.1.desc = some ⟨[.int], (some .int)⟩ := by decide +kernel
theorem parentOf_K {a0 : Array Value} {Z : State} {M : Mi} (hw : Words a0 Z) (h : parentOf_I.2.2.2.2.1 + 1 ≤ M.2.2.2.2.1) : Callee a0 Z M parentOf_I 1 := ⟨pnC, (w140 hw), (w2 hw), h, by decide, fun sig q => by cases parentOf_p.symm.trans q; rfl⟩
set_option maxRecDepth 65536 in
set_option maxHeartbeats 4000000 in
theorem parentOf_M_ok {l : Launch} {Z : State} {a0 : Array Value} {n0 : Nat} {cv : Nat → Nat} {h0 : Heap} (hw : Words a0 Z) (K : KA a0 Z n0 CN nI FF cv) (x1 : Int) (s : Obj) : GQ (XA l Z n0 CN FF cv h0) parentOf_I 0 0 0 (entry [Rf 0, I x1] parentOf_I.2.2.1) [] s (parentOf_M x1 s) := by
  show GQ _ _ _ _ 0 [some (Rf 0), some (I x1)] [] _ _
  unfold parentOf_M
  refine GQ.aloadN (pc' := 1) parentOf_d0 rfl rfl ?_
  refine GQ.iloadN (pc' := 2) parentOf_d1 rfl rfl ?_
  refine GQ.callP (Mc := isValid_I) (args0 := [I x1]) (S := []) (r := 0) (pc' := 5) (isValid_K hw (by decide)) rfl parentOf_d2 rfl (w132 hw) (w133 hw) (w134 hw) (w1 hw) XA.recv rfl (isValid_M_ok hw K x1 s) rfl (fun z2 s2 => ?_)
  show GQ (XA l Z n0 CN FF cv h0) parentOf_I _ _ 5 [some (Rf 0), some (I x1)] [I z2] s2 _
  refine GQ.ifF (pcT := 11) (pcF := 8) h_ne parentOf_d5 rfl rfl rfl ?_ ?_
  · refine GQ.aloadN (pc' := 12) parentOf_d11 rfl rfl ?_
    refine GQ.getA (M := parentOf_I) (k := 33) (pc' := 15) rfl (by decide) (w68 hw) parentOf_d12 rfl ?_
    refine GQ.iloadN (pc' := 16) parentOf_d15 rfl rfl ?_
    refine GQ.rd (k := 33) (ins := .baload) (pc' := 17) rfl (by decide) (Or.inr (Or.inl ⟨rfl, rfl⟩)) parentOf_d16 rfl (fun z16 => ?_)
    exact GQ.iret rfl parentOf_d17
  refine GQ.bipush (pc' := 10) parentOf_d8 rfl rfl ?_
  exact GQ.iret rfl parentOf_d10
def nameChar_I : Mi := (⟨"SquashImage", "nameChar", "(II)I"⟩, prog_1_method_50_code, 3, (some .int), 1, 13)
theorem nameChar_d0 : decode nameChar_I.2.1 0 = .ok (.aload_n 0, 1) := by decide +kernel
theorem nameChar_d1 : decode nameChar_I.2.1 1 = .ok (.iload_n 1, 1) := by decide +kernel
theorem nameChar_d2 : decode nameChar_I.2.1 2 = .ok (.invokevirtual 325, 3) := by decide +kernel
theorem nameChar_d5 : decode nameChar_I.2.1 5 = .ok (.ifCond .ne 6, 3) := by decide +kernel
theorem nameChar_d8 : decode nameChar_I.2.1 8 = .ok (.bipush (-2), 2) := by decide +kernel
theorem nameChar_d10 : decode nameChar_I.2.1 10 = .ok (.ireturn, 1) := by decide +kernel
theorem nameChar_d11 : decode nameChar_I.2.1 11 = .ok (.iload_n 2, 1) := by decide +kernel
theorem nameChar_d12 : decode nameChar_I.2.1 12 = .ok (.ifCond .lt 19, 3) := by decide +kernel
theorem nameChar_d15 : decode nameChar_I.2.1 15 = .ok (.iload_n 2, 1) := by decide +kernel
theorem nameChar_d16 : decode nameChar_I.2.1 16 = .ok (.aload_n 0, 1) := by decide +kernel
theorem nameChar_d17 : decode nameChar_I.2.1 17 = .ok (.getfield 101, 3) := by decide +kernel
theorem nameChar_d20 : decode nameChar_I.2.1 20 = .ok (.iload_n 1, 1) := by decide +kernel
theorem nameChar_d21 : decode nameChar_I.2.1 21 = .ok (.baload, 1) := by decide +kernel
theorem nameChar_d22 : decode nameChar_I.2.1 22 = .ok (.if_icmp .ge 9, 3) := by decide +kernel
theorem nameChar_d25 : decode nameChar_I.2.1 25 = .ok (.iload_n 2, 1) := by decide +kernel
theorem nameChar_d26 : decode nameChar_I.2.1 26 = .ok (.bipush 8, 2) := by decide +kernel
theorem nameChar_d28 : decode nameChar_I.2.1 28 = .ok (.if_icmp .lt 6, 3) := by decide +kernel
theorem nameChar_d31 : decode nameChar_I.2.1 31 = .ok (.bipush (-3), 2) := by decide +kernel
theorem nameChar_d33 : decode nameChar_I.2.1 33 = .ok (.ireturn, 1) := by decide +kernel
theorem nameChar_d34 : decode nameChar_I.2.1 34 = .ok (.aload_n 0, 1) := by decide +kernel
theorem nameChar_d35 : decode nameChar_I.2.1 35 = .ok (.getfield 104, 3) := by decide +kernel
theorem nameChar_d38 : decode nameChar_I.2.1 38 = .ok (.iload_n 1, 1) := by decide +kernel
theorem nameChar_d39 : decode nameChar_I.2.1 39 = .ok (.bipush 8, 2) := by decide +kernel
theorem nameChar_d41 : decode nameChar_I.2.1 41 = .ok (.imul, 1) := by decide +kernel
theorem nameChar_d42 : decode nameChar_I.2.1 42 = .ok (.iload_n 2, 1) := by decide +kernel
theorem nameChar_d43 : decode nameChar_I.2.1 43 = .ok (.iadd, 1) := by decide +kernel
theorem nameChar_d44 : decode nameChar_I.2.1 44 = .ok (.caload, 1) := by decide +kernel
theorem nameChar_d45 : decode nameChar_I.2.1 45 = .ok (.ireturn, 1) := by decide +kernel
theorem nameChar_p : parseMethodDescriptor nameChar_I.1.desc = some ⟨[.int, .int], (some .int)⟩ := by decide +kernel
theorem nameChar_K {a0 : Array Value} {Z : State} {M : Mi} (hw : Words a0 Z) (h : nameChar_I.2.2.2.2.1 + 1 ≤ M.2.2.2.2.1) : Callee a0 Z M nameChar_I 2 := ⟨pnC, (w145 hw), (w2 hw), h, by decide, fun sig q => by cases nameChar_p.symm.trans q; rfl⟩
set_option maxRecDepth 65536 in
set_option maxHeartbeats 4000000 in
theorem nameChar_M_ok {l : Launch} {Z : State} {a0 : Array Value} {n0 : Nat} {cv : Nat → Nat} {h0 : Heap} (hw : Words a0 Z) (K : KA a0 Z n0 CN nI FF cv) (x1 : Int) (x2 : Int) (s : Obj) : GQ (XA l Z n0 CN FF cv h0) nameChar_I 0 0 0 (entry [Rf 0, I x1, I x2] nameChar_I.2.2.1) [] s (nameChar_M x1 x2 s) := by
  show GQ _ _ _ _ 0 [some (Rf 0), some (I x1), some (I x2)] [] _ _
  unfold nameChar_M
  refine GQ.aloadN (pc' := 1) nameChar_d0 rfl rfl ?_
  refine GQ.iloadN (pc' := 2) nameChar_d1 rfl rfl ?_
  refine GQ.callP (Mc := isValid_I) (args0 := [I x1]) (S := []) (r := 0) (pc' := 5) (isValid_K hw (by decide)) rfl nameChar_d2 rfl (w132 hw) (w133 hw) (w134 hw) (w1 hw) XA.recv rfl (isValid_M_ok hw K x1 s) rfl (fun z2 s2 => ?_)
  show GQ (XA l Z n0 CN FF cv h0) nameChar_I _ _ 5 [some (Rf 0), some (I x1), some (I x2)] [I z2] s2 _
  refine GQ.ifF (pcT := 11) (pcF := 8) h_ne nameChar_d5 rfl rfl rfl ?_ ?_
  · refine GQ.iloadN (pc' := 12) nameChar_d11 rfl rfl ?_
    refine GQ.ifT (pcT := 31) (pcF := 15) h_lt nameChar_d12 rfl rfl rfl ?_ ?_
    · refine GQ.bipush (pc' := 33) nameChar_d31 rfl rfl ?_
      exact GQ.iret rfl nameChar_d33
    refine GQ.iloadN (pc' := 16) nameChar_d15 rfl rfl ?_
    refine GQ.aloadN (pc' := 17) nameChar_d16 rfl rfl ?_
    refine GQ.getA (M := nameChar_I) (k := 34) (pc' := 20) rfl (by decide) (w70 hw) nameChar_d17 rfl ?_
    refine GQ.iloadN (pc' := 21) nameChar_d20 rfl rfl ?_
    refine GQ.rd (k := 34) (ins := .baload) (pc' := 22) rfl (by decide) (Or.inr (Or.inl ⟨rfl, rfl⟩)) nameChar_d21 rfl (fun z21 => ?_)
    refine GQ.icmpF (pcT := 31) (pcF := 25) h_ge nameChar_d22 rfl rfl rfl ?_ ?_
    · refine GQ.bipush (pc' := 33) nameChar_d31 rfl rfl ?_
      exact GQ.iret rfl nameChar_d33
    refine GQ.iloadN (pc' := 26) nameChar_d25 rfl rfl ?_
    refine GQ.bipush (pc' := 28) nameChar_d26 rfl rfl ?_
    refine GQ.icmpT (pcT := 34) (pcF := 31) h_lt nameChar_d28 rfl rfl rfl ?_ ?_
    · refine GQ.aloadN (pc' := 35) nameChar_d34 rfl rfl ?_
      refine GQ.getA (M := nameChar_I) (k := 35) (pc' := 38) rfl (by decide) (w73 hw) nameChar_d35 rfl ?_
      refine GQ.iloadN (pc' := 39) nameChar_d38 rfl rfl ?_
      refine GQ.bipush (pc' := 41) nameChar_d39 rfl rfl ?_
      refine GQ.imul (pc' := 42) nameChar_d41 rfl ?_
      refine GQ.iloadN (pc' := 43) nameChar_d42 rfl rfl ?_
      refine GQ.iadd (pc' := 44) nameChar_d43 rfl ?_
      refine GQ.rd (k := 35) (ins := .caload) (pc' := 45) rfl (by decide) (Or.inr (Or.inr (Or.inr ⟨rfl, rfl⟩))) nameChar_d44 rfl (fun z44 => ?_)
      exact GQ.iret rfl nameChar_d45
    refine GQ.bipush (pc' := 33) nameChar_d31 rfl rfl ?_
    exact GQ.iret rfl nameChar_d33
  refine GQ.bipush (pc' := 10) nameChar_d8 rfl rfl ?_
  exact GQ.iret rfl nameChar_d10
def entryCount_I : Mi := (⟨"SquashImage", "entryCount", "(I)I"⟩, prog_1_method_47_code, 3, (some .int), 0, 0)
theorem entryCount_d0 : decode entryCount_I.2.1 0 = .ok (.aload_n 0, 1) := by decide +kernel
theorem entryCount_d1 : decode entryCount_I.2.1 1 = .ok (.getfield 152, 3) := by decide +kernel
theorem entryCount_d4 : decode entryCount_I.2.1 4 = .ok (.ifCond .ne 5, 3) := by decide +kernel
theorem entryCount_d7 : decode entryCount_I.2.1 7 = .ok (.iconst (-1), 1) := by decide +kernel
theorem entryCount_d8 : decode entryCount_I.2.1 8 = .ok (.ireturn, 1) := by decide +kernel
theorem entryCount_d9 : decode entryCount_I.2.1 9 = .ok (.aload_n 0, 1) := by decide +kernel
theorem entryCount_d10 : decode entryCount_I.2.1 10 = .ok (.iload_n 1, 1) := by decide +kernel
theorem entryCount_d11 : decode entryCount_I.2.1 11 = .ok (.invokevirtual 181, 3) := by decide +kernel
theorem entryCount_d14 : decode entryCount_I.2.1 14 = .ok (.ifCond .ne 6, 3) := by decide +kernel
theorem entryCount_d17 : decode entryCount_I.2.1 17 = .ok (.bipush (-2), 2) := by decide +kernel
theorem entryCount_d19 : decode entryCount_I.2.1 19 = .ok (.ireturn, 1) := by decide +kernel
theorem entryCount_d20 : decode entryCount_I.2.1 20 = .ok (.aload_n 0, 1) := by decide +kernel
theorem entryCount_d21 : decode entryCount_I.2.1 21 = .ok (.iload_n 1, 1) := by decide +kernel
theorem entryCount_d22 : decode entryCount_I.2.1 22 = .ok (.invokevirtual 243, 3) := by decide +kernel
theorem entryCount_d25 : decode entryCount_I.2.1 25 = .ok (.istore_n 2, 1) := by decide +kernel
theorem entryCount_d26 : decode entryCount_I.2.1 26 = .ok (.aload_n 0, 1) := by decide +kernel
theorem entryCount_d27 : decode entryCount_I.2.1 27 = .ok (.iload_n 2, 1) := by decide +kernel
theorem entryCount_d28 : decode entryCount_I.2.1 28 = .ok (.iconst 4, 1) := by decide +kernel
theorem entryCount_d29 : decode entryCount_I.2.1 29 = .ok (.iadd, 1) := by decide +kernel
theorem entryCount_d30 : decode entryCount_I.2.1 30 = .ok (.invokevirtual 286, 3) := by decide +kernel
theorem entryCount_d33 : decode entryCount_I.2.1 33 = .ok (.ireturn, 1) := by decide +kernel
theorem entryCount_p : parseMethodDescriptor entryCount_I.1.desc = some ⟨[.int], (some .int)⟩ := by decide +kernel
theorem entryCount_K {a0 : Array Value} {Z : State} {M : Mi} (hw : Words a0 Z) (h : entryCount_I.2.2.2.2.1 + 1 ≤ M.2.2.2.2.1) : Callee a0 Z M entryCount_I 1 := ⟨pnC, (w150 hw), (w2 hw), h, by decide, fun sig q => by cases entryCount_p.symm.trans q; rfl⟩
set_option maxRecDepth 65536 in
set_option maxHeartbeats 4000000 in
theorem entryCount_M_ok {l : Launch} {Z : State} {a0 : Array Value} {n0 : Nat} {cv : Nat → Nat} {h0 : Heap} (hw : Words a0 Z) (K : KA a0 Z n0 CN nI FF cv) (x1 : Int) (s : Obj) : GQ (XA l Z n0 CN FF cv h0) entryCount_I 0 0 0 (entry [Rf 0, I x1] entryCount_I.2.2.1) [] s (entryCount_M x1 s) := by
  show GQ _ _ _ _ 0 [some (Rf 0), some (I x1), none] [] _ _
  unfold entryCount_M
  refine GQ.aloadN (pc' := 1) entryCount_d0 rfl rfl ?_
  refine GQ.getI (M := entryCount_I) (k := 30) (pc' := 4) rfl (w106 hw) entryCount_d1 rfl ?_
  refine GQ.ifF (pcT := 9) (pcF := 7) h_ne entryCount_d4 rfl rfl rfl ?_ ?_
  · refine GQ.aloadN (pc' := 10) entryCount_d9 rfl rfl ?_
    refine GQ.iloadN (pc' := 11) entryCount_d10 rfl rfl ?_
    exact GQ.no
  refine GQ.iconst (pc' := 8) entryCount_d7 rfl rfl ?_
  exact GQ.iret rfl entryCount_d8
def readByte_I : Mi := (⟨"SquashImage", "readByte", "(II)I"⟩, prog_1_method_44_code, 9, (some .int), 0, 0)
theorem readByte_d0 : decode readByte_I.2.1 0 = .ok (.aload_n 0, 1) := by decide +kernel
theorem readByte_d1 : decode readByte_I.2.1 1 = .ok (.getfield 152, 3) := by decide +kernel
theorem readByte_d4 : decode readByte_I.2.1 4 = .ok (.ifCond .ne 5, 3) := by decide +kernel
theorem readByte_d7 : decode readByte_I.2.1 7 = .ok (.iconst (-1), 1) := by decide +kernel
theorem readByte_d8 : decode readByte_I.2.1 8 = .ok (.ireturn, 1) := by decide +kernel
theorem readByte_d9 : decode readByte_I.2.1 9 = .ok (.aload_n 0, 1) := by decide +kernel
theorem readByte_d10 : decode readByte_I.2.1 10 = .ok (.iload_n 1, 1) := by decide +kernel
theorem readByte_d11 : decode readByte_I.2.1 11 = .ok (.invokevirtual 195, 3) := by decide +kernel
theorem readByte_d14 : decode readByte_I.2.1 14 = .ok (.ifCond .ne 6, 3) := by decide +kernel
theorem readByte_d17 : decode readByte_I.2.1 17 = .ok (.bipush (-2), 2) := by decide +kernel
theorem readByte_d19 : decode readByte_I.2.1 19 = .ok (.ireturn, 1) := by decide +kernel
theorem readByte_d20 : decode readByte_I.2.1 20 = .ok (.aload_n 0, 1) := by decide +kernel
theorem readByte_d21 : decode readByte_I.2.1 21 = .ok (.iload_n 1, 1) := by decide +kernel
theorem readByte_d22 : decode readByte_I.2.1 22 = .ok (.invokevirtual 243, 3) := by decide +kernel
theorem readByte_d25 : decode readByte_I.2.1 25 = .ok (.istore_n 3, 1) := by decide +kernel
theorem readByte_d26 : decode readByte_I.2.1 26 = .ok (.aload_n 0, 1) := by decide +kernel
theorem readByte_d27 : decode readByte_I.2.1 27 = .ok (.iload_n 3, 1) := by decide +kernel
theorem readByte_d28 : decode readByte_I.2.1 28 = .ok (.iconst 2, 1) := by decide +kernel
theorem readByte_d29 : decode readByte_I.2.1 29 = .ok (.iadd, 1) := by decide +kernel
theorem readByte_d30 : decode readByte_I.2.1 30 = .ok (.invokevirtual 252, 3) := by decide +kernel
theorem readByte_d33 : decode readByte_I.2.1 33 = .ok (.istore 4, 2) := by decide +kernel
theorem readByte_d35 : decode readByte_I.2.1 35 = .ok (.iload_n 2, 1) := by decide +kernel
theorem readByte_d36 : decode readByte_I.2.1 36 = .ok (.ifCond .lt 9, 3) := by decide +kernel
theorem readByte_d39 : decode readByte_I.2.1 39 = .ok (.iload_n 2, 1) := by decide +kernel
theorem readByte_d40 : decode readByte_I.2.1 40 = .ok (.iload 4, 2) := by decide +kernel
theorem readByte_d42 : decode readByte_I.2.1 42 = .ok (.if_icmp .lt 6, 3) := by decide +kernel
theorem readByte_d45 : decode readByte_I.2.1 45 = .ok (.bipush (-3), 2) := by decide +kernel
theorem readByte_d47 : decode readByte_I.2.1 47 = .ok (.ireturn, 1) := by decide +kernel
theorem readByte_d48 : decode readByte_I.2.1 48 = .ok (.iload 4, 2) := by decide +kernel
theorem readByte_d50 : decode readByte_I.2.1 50 = .ok (.aload_n 0, 1) := by decide +kernel
theorem readByte_d51 : decode readByte_I.2.1 51 = .ok (.getfield 146, 3) := by decide +kernel
theorem readByte_d54 : decode readByte_I.2.1 54 = .ok (.idiv, 1) := by decide +kernel
theorem readByte_d55 : decode readByte_I.2.1 55 = .ok (.aload_n 0, 1) := by decide +kernel
theorem readByte_d56 : decode readByte_I.2.1 56 = .ok (.getfield 146, 3) := by decide +kernel
theorem readByte_d59 : decode readByte_I.2.1 59 = .ok (.imul, 1) := by decide +kernel
theorem readByte_d60 : decode readByte_I.2.1 60 = .ok (.istore 5, 2) := by decide +kernel
theorem readByte_d62 : decode readByte_I.2.1 62 = .ok (.iload_n 2, 1) := by decide +kernel
theorem readByte_d63 : decode readByte_I.2.1 63 = .ok (.iload 5, 2) := by decide +kernel
theorem readByte_d65 : decode readByte_I.2.1 65 = .ok (.if_icmp .ge 30, 3) := by decide +kernel
theorem readByte_d68 : decode readByte_I.2.1 68 = .ok (.aload_n 0, 1) := by decide +kernel
theorem readByte_d69 : decode readByte_I.2.1 69 = .ok (.iload_n 3, 1) := by decide +kernel
theorem readByte_d70 : decode readByte_I.2.1 70 = .ok (.iconst 4, 1) := by decide +kernel
theorem readByte_d71 : decode readByte_I.2.1 71 = .ok (.iadd, 1) := by decide +kernel
theorem readByte_d72 : decode readByte_I.2.1 72 = .ok (.invokevirtual 286, 3) := by decide +kernel
theorem readByte_d75 : decode readByte_I.2.1 75 = .ok (.iload_n 2, 1) := by decide +kernel
theorem readByte_d76 : decode readByte_I.2.1 76 = .ok (.aload_n 0, 1) := by decide +kernel
theorem readByte_d77 : decode readByte_I.2.1 77 = .ok (.getfield 146, 3) := by decide +kernel
theorem readByte_d80 : decode readByte_I.2.1 80 = .ok (.idiv, 1) := by decide +kernel
theorem readByte_d81 : decode readByte_I.2.1 81 = .ok (.iadd, 1) := by decide +kernel
theorem readByte_d82 : decode readByte_I.2.1 82 = .ok (.istore 6, 2) := by decide +kernel
theorem readByte_d84 : decode readByte_I.2.1 84 = .ok (.iload_n 2, 1) := by decide +kernel
theorem readByte_d85 : decode readByte_I.2.1 85 = .ok (.aload_n 0, 1) := by decide +kernel
theorem readByte_d86 : decode readByte_I.2.1 86 = .ok (.getfield 146, 3) := by decide +kernel
theorem readByte_d89 : decode readByte_I.2.1 89 = .ok (.irem, 1) := by decide +kernel
theorem readByte_d90 : decode readByte_I.2.1 90 = .ok (.istore 7, 2) := by decide +kernel
theorem readByte_d92 : decode readByte_I.2.1 92 = .ok (.goto 42, 3) := by decide +kernel
theorem readByte_d95 : decode readByte_I.2.1 95 = .ok (.aload_n 0, 1) := by decide +kernel
theorem readByte_d96 : decode readByte_I.2.1 96 = .ok (.iload_n 3, 1) := by decide +kernel
theorem readByte_d97 : decode readByte_I.2.1 97 = .ok (.iconst 5, 1) := by decide +kernel
theorem readByte_d98 : decode readByte_I.2.1 98 = .ok (.iadd, 1) := by decide +kernel
theorem readByte_d99 : decode readByte_I.2.1 99 = .ok (.invokevirtual 252, 3) := by decide +kernel
theorem readByte_d102 : decode readByte_I.2.1 102 = .ok (.iload_n 2, 1) := by decide +kernel
theorem readByte_d103 : decode readByte_I.2.1 103 = .ok (.iload 5, 2) := by decide +kernel
theorem readByte_d105 : decode readByte_I.2.1 105 = .ok (.isub, 1) := by decide +kernel
theorem readByte_d106 : decode readByte_I.2.1 106 = .ok (.iadd, 1) := by decide +kernel
theorem readByte_d107 : decode readByte_I.2.1 107 = .ok (.istore 8, 2) := by decide +kernel
theorem readByte_d109 : decode readByte_I.2.1 109 = .ok (.aload_n 0, 1) := by decide +kernel
theorem readByte_d110 : decode readByte_I.2.1 110 = .ok (.bipush 10, 2) := by decide +kernel
theorem readByte_d112 : decode readByte_I.2.1 112 = .ok (.invokevirtual 286, 3) := by decide +kernel
theorem readByte_d115 : decode readByte_I.2.1 115 = .ok (.iload 8, 2) := by decide +kernel
theorem readByte_d117 : decode readByte_I.2.1 117 = .ok (.aload_n 0, 1) := by decide +kernel
theorem readByte_d118 : decode readByte_I.2.1 118 = .ok (.getfield 146, 3) := by decide +kernel
theorem readByte_d121 : decode readByte_I.2.1 121 = .ok (.idiv, 1) := by decide +kernel
theorem readByte_d122 : decode readByte_I.2.1 122 = .ok (.iadd, 1) := by decide +kernel
theorem readByte_d123 : decode readByte_I.2.1 123 = .ok (.istore 6, 2) := by decide +kernel
theorem readByte_d125 : decode readByte_I.2.1 125 = .ok (.iload 8, 2) := by decide +kernel
theorem readByte_d127 : decode readByte_I.2.1 127 = .ok (.aload_n 0, 1) := by decide +kernel
theorem readByte_d128 : decode readByte_I.2.1 128 = .ok (.getfield 146, 3) := by decide +kernel
theorem readByte_d131 : decode readByte_I.2.1 131 = .ok (.irem, 1) := by decide +kernel
theorem readByte_d132 : decode readByte_I.2.1 132 = .ok (.istore 7, 2) := by decide +kernel
theorem readByte_d134 : decode readByte_I.2.1 134 = .ok (.aload_n 0, 1) := by decide +kernel
theorem readByte_d135 : decode readByte_I.2.1 135 = .ok (.iload 6, 2) := by decide +kernel
theorem readByte_d137 : decode readByte_I.2.1 137 = .ok (.invokevirtual 322, 3) := by decide +kernel
theorem readByte_d140 : decode readByte_I.2.1 140 = .ok (.istore 8, 2) := by decide +kernel
theorem readByte_d142 : decode readByte_I.2.1 142 = .ok (.iload 7, 2) := by decide +kernel
theorem readByte_d144 : decode readByte_I.2.1 144 = .ok (.ifCond .lt 17, 3) := by decide +kernel
theorem readByte_d147 : decode readByte_I.2.1 147 = .ok (.iload 7, 2) := by decide +kernel
theorem readByte_d149 : decode readByte_I.2.1 149 = .ok (.iload 8, 2) := by decide +kernel
theorem readByte_d151 : decode readByte_I.2.1 151 = .ok (.if_icmp .ge 10, 3) := by decide +kernel
theorem readByte_d154 : decode readByte_I.2.1 154 = .ok (.iload 7, 2) := by decide +kernel
theorem readByte_d156 : decode readByte_I.2.1 156 = .ok (.bipush 32, 2) := by decide +kernel
theorem readByte_d158 : decode readByte_I.2.1 158 = .ok (.if_icmp .lt 5, 3) := by decide +kernel
theorem readByte_d161 : decode readByte_I.2.1 161 = .ok (.iconst 0, 1) := by decide +kernel
theorem readByte_d162 : decode readByte_I.2.1 162 = .ok (.ireturn, 1) := by decide +kernel
theorem readByte_d163 : decode readByte_I.2.1 163 = .ok (.aload_n 0, 1) := by decide +kernel
theorem readByte_d164 : decode readByte_I.2.1 164 = .ok (.getfield 136, 3) := by decide +kernel
theorem readByte_d167 : decode readByte_I.2.1 167 = .ok (.iload 7, 2) := by decide +kernel
theorem readByte_d169 : decode readByte_I.2.1 169 = .ok (.baload, 1) := by decide +kernel
theorem readByte_d170 : decode readByte_I.2.1 170 = .ok (.sipush 255, 3) := by decide +kernel
theorem readByte_d173 : decode readByte_I.2.1 173 = .ok (.iand, 1) := by decide +kernel
theorem readByte_d174 : decode readByte_I.2.1 174 = .ok (.ireturn, 1) := by decide +kernel
theorem readByte_p : parseMethodDescriptor readByte_I.1.desc = some ⟨[.int, .int], (some .int)⟩ := by decide +kernel
theorem readByte_K {a0 : Array Value} {Z : State} {M : Mi} (hw : Words a0 Z) (h : readByte_I.2.2.2.2.1 + 1 ≤ M.2.2.2.2.1) : Callee a0 Z M readByte_I 2 := ⟨pnC, (w155 hw), (w2 hw), h, by decide, fun sig q => by cases readByte_p.symm.trans q; rfl⟩
set_option maxRecDepth 65536 in
set_option maxHeartbeats 4000000 in
theorem readByte_M_ok {l : Launch} {Z : State} {a0 : Array Value} {n0 : Nat} {cv : Nat → Nat} {h0 : Heap} (hw : Words a0 Z) (K : KA a0 Z n0 CN nI FF cv) (x1 : Int) (x2 : Int) (s : Obj) : GQ (XA l Z n0 CN FF cv h0) readByte_I 0 0 0 (entry [Rf 0, I x1, I x2] readByte_I.2.2.1) [] s (readByte_M x1 x2 s) := by
  show GQ _ _ _ _ 0 [some (Rf 0), some (I x1), some (I x2), none, none, none, none, none, none] [] _ _
  unfold readByte_M
  refine GQ.aloadN (pc' := 1) readByte_d0 rfl rfl ?_
  refine GQ.getI (M := readByte_I) (k := 30) (pc' := 4) rfl (w106 hw) readByte_d1 rfl ?_
  refine GQ.ifF (pcT := 9) (pcF := 7) h_ne readByte_d4 rfl rfl rfl ?_ ?_
  · refine GQ.aloadN (pc' := 10) readByte_d9 rfl rfl ?_
    refine GQ.iloadN (pc' := 11) readByte_d10 rfl rfl ?_
    exact GQ.no
  refine GQ.iconst (pc' := 8) readByte_d7 rfl rfl ?_
  exact GQ.iret rfl readByte_d8
def law_I : Mi := (x, code, maxLocals, ret, 2, 31)
set_option maxRecDepth 65536 in
set_option maxHeartbeats 4000000 in
theorem law_j91_ok {l : Launch} {Z : State} {a0 : Array Value} {n0 sa : Nat} (hw : Words a0 Z) (K : KB a0 Z CN nI FF (posF PP) nA) {kc ks : Nat} (x2 : Int) (y0 : Int) (y1 : Int) (w : MB) : GQ (XB l Z n0 CN FF (posF PP) nA sa none) law_I kc ks 91 [none, none, some (I x2), some (Rf (0 + 1)), none] [I y0, I y1] w (law_j91 x2 y0 y1 w) := by
  unfold law_j91
  refine GQ.icmpT (pcT := 96) (pcF := 94) h_eq at_91 rfl rfl rfl ?_ ?_
  · refine GQ.aloadN (pc' := 97) at_96 rfl rfl ?_
    refine GQ.iloadN (pc' := 98) at_97 rfl rfl ?_
    refine GQ.vir (j := 0) (m := fun q => entryCount_M x2 q) (Mc := entryCount_I) (args0 := [I x2]) (S := []) (pc' := 101) K (entryCount_K hw (by decide)) rfl rfl at_98 rfl (w146 hw) (w148 hw) (w147 hw) (w149 hw) (nrS nrI nr0) rfl (fun cv h0 q KA0 => entryCount_M_ok hw KA0 x2 q) rfl (fun z98 w98 => ?_)
    show GQ (XB l Z n0 CN FF (posF PP) nA sa none) law_I _ _ 101 [none, none, some (I x2), some (Rf (0 + 1)), none] [I z98] w98 _
    refine GQ.iconst (pc' := 102) at_101 rfl rfl ?_
    refine GQ.icmpT (pcT := 107) (pcF := 105) h_eq at_102 rfl rfl rfl ?_ ?_
    · refine GQ.aloadN (pc' := 108) at_107 rfl rfl ?_
      refine GQ.iloadN (pc' := 109) at_108 rfl rfl ?_
      refine GQ.iconst (pc' := 110) at_109 rfl rfl ?_
      refine GQ.vir (j := 0) (m := fun q => readByte_M x2 0 q) (Mc := readByte_I) (args0 := [I x2, I 0]) (S := []) (pc' := 113) K (readByte_K hw (by decide)) rfl rfl at_110 rfl (w151 hw) (w153 hw) (w152 hw) (w154 hw) (nrS nrI (nrS nrI nr0)) rfl (fun cv h0 q KA0 => readByte_M_ok hw KA0 x2 0 q) rfl (fun z110 w110 => ?_)
      show GQ (XB l Z n0 CN FF (posF PP) nA sa none) law_I _ _ 113 [none, none, some (I x2), some (Rf (0 + 1)), none] [I z110] w110 _
      refine GQ.iconst (pc' := 114) at_113 rfl rfl ?_
      refine GQ.icmpT (pcT := 119) (pcF := 117) h_eq at_114 rfl rfl rfl ?_ ?_
      · refine GQ.iconst (pc' := 120) at_119 rfl rfl ?_
        exact GQ.zret rfl at_120
      refine GQ.iconst (pc' := 118) at_117 rfl rfl ?_
      exact GQ.zret rfl at_118
    refine GQ.iconst (pc' := 106) at_105 rfl rfl ?_
    exact GQ.zret rfl at_106
  refine GQ.iconst (pc' := 95) at_94 rfl rfl ?_
  exact GQ.zret rfl at_95
set_option maxRecDepth 65536 in
set_option maxHeartbeats 4000000 in
theorem law_j68_ok {l : Launch} {Z : State} {a0 : Array Value} {n0 sa : Nat} (hw : Words a0 Z) (K : KB a0 Z CN nI FF (posF PP) nA) {kc ks : Nat} (x2 : Int) (x4 : Int) (y0 : Int) (y1 : Int) (w : MB) : GQ (XB l Z n0 CN FF (posF PP) nA sa none) law_I kc ks 68 [none, none, some (I x2), some (Rf (0 + 1)), some (I x4)] [I y0, I y1] w (law_j68 x2 x4 y0 y1 w) := by
  unfold law_j68
  refine GQ.icmpT (pcT := 73) (pcF := 71) h_eq at_68 rfl rfl rfl ?_ ?_
  · refine GQ.aloadN (pc' := 74) at_73 rfl rfl ?_
    refine GQ.iloadN (pc' := 75) at_74 rfl rfl ?_
    refine GQ.iconst (pc' := 76) at_75 rfl rfl ?_
    refine GQ.vir (j := 0) (m := fun q => nameChar_M x2 0 q) (Mc := nameChar_I) (args0 := [I x2, I 0]) (S := []) (pc' := 79) K (nameChar_K hw (by decide)) rfl rfl at_76 rfl (w141 hw) (w143 hw) (w142 hw) (w144 hw) (nrS nrI (nrS nrI nr0)) rfl (fun cv h0 q KA0 => nameChar_M_ok hw KA0 x2 0 q) rfl (fun z76 w76 => ?_)
    show GQ (XB l Z n0 CN FF (posF PP) nA sa none) law_I _ _ 79 [none, none, some (I x2), some (Rf (0 + 1)), some (I x4)] [I z76] w76 _
    refine GQ.iload (pc' := 81) at_79 rfl rfl ?_
    refine GQ.ifT (pcT := 89) (pcF := 84) h_eq at_81 rfl rfl rfl ?_ ?_
    · refine GQ.bipush (pc' := 91) at_89 rfl rfl ?_
      refine GQ.weak (L' := [none, none, some (I x2), some (Rf (0 + 1)), none]) (Sub.keep (Sub.keep (Sub.keep (Sub.keep (Sub.drop Sub.nil))))) ?_
      exact law_j91_ok hw K x2 (-2) z76 w76
    refine GQ.bipush (pc' := 86) at_84 rfl rfl ?_
    refine GQ.goto (pc' := 91) at_86 rfl rfl ?_
    refine GQ.weak (L' := [none, none, some (I x2), some (Rf (0 + 1)), none]) (Sub.keep (Sub.keep (Sub.keep (Sub.keep (Sub.drop Sub.nil))))) ?_
    exact law_j91_ok hw K x2 (-3) z76 w76
  refine GQ.iconst (pc' := 72) at_71 rfl rfl ?_
  exact GQ.zret rfl at_72
set_option maxRecDepth 65536 in
set_option maxHeartbeats 4000000 in
theorem law_j47_ok {l : Launch} {Z : State} {a0 : Array Value} {n0 sa : Nat} (hw : Words a0 Z) (K : KB a0 Z CN nI FF (posF PP) nA) {kc ks : Nat} (x2 : Int) (x4 : Int) (y0 : Int) (y1 : Int) (w : MB) : GQ (XB l Z n0 CN FF (posF PP) nA sa none) law_I kc ks 47 [none, none, some (I x2), some (Rf (0 + 1)), some (I x4)] [I y0, I y1] w (law_j47 x2 x4 y0 y1 w) := by
  unfold law_j47
  refine GQ.icmpT (pcT := 52) (pcF := 50) h_eq at_47 rfl rfl rfl ?_ ?_
  · refine GQ.aloadN (pc' := 53) at_52 rfl rfl ?_
    refine GQ.iloadN (pc' := 54) at_53 rfl rfl ?_
    refine GQ.vir (j := 0) (m := fun q => parentOf_M x2 q) (Mc := parentOf_I) (args0 := [I x2]) (S := []) (pc' := 57) K (parentOf_K hw (by decide)) rfl rfl at_54 rfl (w136 hw) (w138 hw) (w137 hw) (w139 hw) (nrS nrI nr0) rfl (fun cv h0 q KA0 => parentOf_M_ok hw KA0 x2 q) rfl (fun z54 w54 => ?_)
    show GQ (XB l Z n0 CN FF (posF PP) nA sa none) law_I _ _ 57 [none, none, some (I x2), some (Rf (0 + 1)), some (I x4)] [I z54] w54 _
    refine GQ.iload (pc' := 59) at_57 rfl rfl ?_
    refine GQ.ifT (pcT := 66) (pcF := 62) h_eq at_59 rfl rfl rfl ?_ ?_
    · refine GQ.bipush (pc' := 68) at_66 rfl rfl ?_
      exact law_j68_ok hw K x2 x4 (-2) z54 w54
    refine GQ.iconst (pc' := 63) at_62 rfl rfl ?_
    refine GQ.goto (pc' := 68) at_63 rfl rfl ?_
    exact law_j68_ok hw K x2 x4 0 z54 w54
  refine GQ.iconst (pc' := 51) at_50 rfl rfl ?_
  exact GQ.zret rfl at_51
set_option maxRecDepth 65536 in
set_option maxHeartbeats 4000000 in
theorem law_j19_ok {l : Launch} {Z : State} {a0 : Array Value} {n0 sa : Nat} (hw : Words a0 Z) (K : KB a0 Z CN nI FF (posF PP) nA) {kc ks : Nat} (x2 : Int) (y0 : Int) (w : MB) : GQ (XB l Z n0 CN FF (posF PP) nA sa none) law_I kc ks 19 [none, none, some (I x2), some (Rf (0 + 1)), none] [I y0] w (law_j19 x2 y0 w) := by
  unfold law_j19
  refine GQ.istore (L' := [none, none, some (I x2), some (Rf (0 + 1)), some (I y0)]) (pc' := 21) at_19 rfl rfl rfl ?_
  refine GQ.aloadN (pc' := 22) at_21 rfl rfl ?_
  refine GQ.vir (j := 0) (m := fun q => nodeCount_M q) (Mc := nodeCount_I) (args0 := []) (S := []) (pc' := 25) K (nodeCount_K hw (by decide)) rfl rfl at_22 rfl (w122 hw) (w124 hw) (w123 hw) (w125 hw) (nr0) rfl (fun cv h0 q KA0 => nodeCount_M_ok hw KA0 q) rfl (fun z22 w22 => ?_)
  show GQ (XB l Z n0 CN FF (posF PP) nA sa none) law_I _ _ 25 [none, none, some (I x2), some (Rf (0 + 1)), some (I y0)] [I z22] w22 _
  refine GQ.iconst (pc' := 26) at_25 rfl rfl ?_
  refine GQ.icmpT (pcT := 31) (pcF := 29) h_eq at_26 rfl rfl rfl ?_ ?_
  · refine GQ.aloadN (pc' := 32) at_31 rfl rfl ?_
    refine GQ.iloadN (pc' := 33) at_32 rfl rfl ?_
    refine GQ.vir (j := 0) (m := fun q => kind_M x2 q) (Mc := kind_I) (args0 := [I x2]) (S := []) (pc' := 36) K (kind_K hw (by decide)) rfl rfl at_33 rfl (w127 hw) (w129 hw) (w128 hw) (w130 hw) (nrS nrI nr0) rfl (fun cv h0 q KA0 => kind_M_ok hw KA0 x2 q) rfl (fun z33 w33 => ?_)
    show GQ (XB l Z n0 CN FF (posF PP) nA sa none) law_I _ _ 36 [none, none, some (I x2), some (Rf (0 + 1)), some (I y0)] [I z33] w33 _
    refine GQ.iload (pc' := 38) at_36 rfl rfl ?_
    refine GQ.ifT (pcT := 45) (pcF := 41) h_eq at_38 rfl rfl rfl ?_ ?_
    · refine GQ.bipush (pc' := 47) at_45 rfl rfl ?_
      exact law_j47_ok hw K x2 y0 (-2) z33 w33
    refine GQ.iconst (pc' := 42) at_41 rfl rfl ?_
    refine GQ.goto (pc' := 47) at_42 rfl rfl ?_
    exact law_j47_ok hw K x2 y0 1 z33 w33
  refine GQ.iconst (pc' := 30) at_29 rfl rfl ?_
  exact GQ.zret rfl at_30
set_option maxRecDepth 65536 in
set_option maxHeartbeats 4000000 in
theorem law_M_ok {l : Launch} {Z : State} {a0 : Array Value} {n0 sa : Nat} (hw : Words a0 Z) (K : KB a0 Z CN nI FF (posF PP) nA) (x0 : Int) (x1 : Int) (x2 : Int) (w : MB) : GQ (XB l Z n0 CN FF (posF PP) nA sa none) law_I 16 2417 0 (entry [I x0, I x1, I x2] law_I.2.2.1) [] w (law_M x0 x1 x2 w) := by
  show GQ _ _ _ _ 0 [some (I x0), some (I x1), some (I x2), none, none] [] _ _
  unfold law_M
  refine GQ.new (M := law_I) (n := 0) (pc' := 3) (kc := 15) (ks := 2360) K (w0 hw) (w2 hw) at_0 rfl (fun w0 => ?_)
  refine GQ.dupR (pc' := 4) at_3 rfl ?_
  refine GQ.iloadN (pc' := 5) at_4 rfl rfl ?_
  refine GQ.iloadN (pc' := 6) at_5 rfl rfl ?_
  refine GQ.init (n := 0) (oc := ctor_M x0 x1) (Mc := ctor_I) (args0 := [I x0, I x1]) (S := [Rf (0 + 1)]) (pc' := 9) (kc := 0) (ks := 0) (sl := 2360) K (ctor_K hw (by decide)) rfl rfl rfl at_6 rfl (w3 hw) (w4 hw) (nrS nrI (nrS nrI nr0)) rfl (fun a h0 ha hh => ctor_M_ok hw K ha hh x0 x1) rfl (fun w6 => ?_)
  refine GQ.astoreN (L' := [some (I x0), some (I x1), some (I x2), some (Rf (0 + 1)), none]) (pc' := 10) at_9 rfl rfl rfl ?_
  refine GQ.iloadN (pc' := 11) at_10 rfl rfl ?_
  refine GQ.ifF (pcT := 18) (pcF := 14) h_ne at_11 rfl rfl rfl ?_ ?_
  · refine GQ.iconst (pc' := 19) at_18 rfl rfl ?_
    refine GQ.weak (L' := [none, none, some (I x2), some (Rf (0 + 1)), none]) (Sub.drop (Sub.drop (Sub.keep (Sub.keep (Sub.keep Sub.nil))))) ?_
    exact law_j19_ok hw K x2 0 w6
  refine GQ.iconst (pc' := 15) at_14 rfl rfl ?_
  refine GQ.goto (pc' := 19) at_15 rfl rfl ?_
  refine GQ.weak (L' := [none, none, some (I x2), some (Rf (0 + 1)), none]) (Sub.drop (Sub.drop (Sub.keep (Sub.keep (Sub.keep Sub.nil))))) ?_
  exact law_j19_ok hw K x2 1 w6
set_option maxRecDepth 65536 in
set_option maxHeartbeats 4000000 in
theorem comes_1 {Post : Tables → Env → Array Value → State → Outcome → State → Prop} (hpost : ∀ tb e args s v u, (limb_1_1.after args s (.returned v) u = true ∧ limb_1_2.after args s (.returned v) u = true ∧ True) → FrameEnd s (.returned v) u (Jvm.fieldLocs frame_1_writes args s ++ Jvm.arrayLocs frame_1_arrays args s ++ Jvm.staticLocs frame_1_statics s) 40 4928 → Post tb e args s (.returned v) u) :
    ArmFor flags0 classFile x code maxLocals ret World_1 tables_1 room_1 Calls_1 rest_1 Pre_1 Post := by
  intro l hfl _ _ p e ha hc hk s m args below hf hA hF happ hP
  obtain ⟨hcalls, hrest, hpre⟩ := hP
  obtain ⟨-, -, -, hnamed, -, -, -, hat⟩ := (Spec.applies_iff hf).mp happ
  obtain ⟨hg, hn⟩ := and_e (Cond.before_iff.mp (show (Jvm.Cond.and given_1 narrow_1).before args s = true from hpre))
  obtain ⟨h1, g0⟩ := and_e hg
  have hw : Words args s := fun d hd => atoms_spec (ws := Jvm.Cond.code x code maxLocals ret :: tables_1) hat d (List.mem_cons_of_mem _ hd)
  obtain ⟨v0, v1, v2, rfl⟩ : ∃ v0 v1 v2 : Value, args = #[v0, v1, v2] := by
    have hs : args.size = 3 := by simpa [Cond.value, given_1] using h1
    obtain ⟨L⟩ := args
    match L, hs with
    | [v0, v1, v2], _ => exact ⟨v0, v1, v2, rfl⟩
  obtain ⟨q0, g1⟩ := and_e g0
  obtain ⟨q1, g2⟩ := and_e g1
  have q2 := g2
  obtain ⟨i0, e0⟩ := is_v q0
  obtain rfl : v0 = .int i0 := Option.some.inj e0
  obtain ⟨i1, e1⟩ := is_v q1
  obtain rfl : v1 = .int i1 := Option.some.inj e1
  obtain ⟨i2, e2⟩ := is_v q2
  obtain rfl : v2 = .int i2 := Option.some.inj e2
  obtain ⟨w', hlaw⟩ := law_true i0.toInt i1.toInt i2.toInt (r32 i0) (r32 i1) (r32 i2)
  have H := law_M_ok (l := l) (n0 := s.heap.size) (sa := 0) hw (kb_1 hw) i0.toInt i1.toInt i2.toInt ([], false)
  have hr0 : RepB s s.heap.size CN FF (posF PP) nA 0 none ([], false) s.heap := ⟨by show s.heap.size = s.heap.size + 0 * (nA + 1) + 0; omega, (fun j σ hj => by simp at hj), (fun h => by cases h), (fun n f h => by cases h)⟩
  have hgd : ∀ w ∈ ([I i0.toInt, I i1.toInt, I i2.toInt] : List AV), good w := by
    intro w hw'
    simp only [List.mem_cons, List.not_mem_nil, or_false] at hw'
    rcases hw' with rfl | rfl | rfl <;> exact r32 _
  obtain ⟨n, o, h1, h2, h3, _, L, rfl, ⟨rfl, hrep, N, _⟩, hq⟩ := met_of H hlaw pnL hgd (Nat.le_of_ble_eq_true rfl) (h := s.heap) hr0 tables_1 room_1 (by decide) (by decide) (by decide) (by decide) p e ha hc hk s m _ below hf ((Spec.applies_iff_loose hf).mp happ).1 ⟨by simp only [List.map_cons, List.map_nil, cval, o32_t], State.Warmed39.refl s, rfl⟩ trivial
  exact ⟨n, _, h1, h2, h3, hpost _ _ _ _ _ _ ⟨Cond.after_iff.mpr rfl, Cond.after_iff.mpr (eq_i res_at (Term.int_eval (1)) rfl), trivial⟩ ⟨hq.1, hq.2.1, (hq.2.2.sift fun y hy => Or.inr (N y hy)).mono (by decide) (by decide)⟩⟩
theorem main_1_1 : Claimed_1_1 := comes_1 fun _ _ _ _ _ _ h hF => ⟨h.1, hF⟩
theorem main_1_2 : Claimed_1_2 := comes_1 fun _ _ _ _ _ _ h hF => ⟨h.2.1, hF⟩
end Jvm.Pilot.@@N@@
namespace Jvm.Pilot.@@N@@
open Jvm Jvm.ClassFile Sem Op Lib Jvm.Free Jvm.Stand Jvm.Pilot.@@N@@.Jvm.D
/-! MADE BY PROGRAM (witnessworld.py) out of the Statement's table words and the real class files: 11 classes; the members and pool entries that the words name. The judged class is class 1, her method 1. -/
namespace start1
open Jvm.ClassFile
def u (s : String) : CpInfo := .utf8 (stringToUtf16 s)
/-- a pool by its gaps: so many unusable entries, then the entry; so many at the end -/
def gap : Nat → List CpInfo → List CpInfo
  | 0, r => r
  | n + 1, r => .unusable :: gap n r
def poolList (es : List (Nat × CpInfo)) (last : Nat) : List CpInfo := es.foldr (fun e r => gap e.1 (e.2 :: r)) (gap last [])
def pool (es : List (Nat × CpInfo)) (last : Nat) : Array CpInfo := ⟨poolList es last⟩
def fileOf (pool : Array CpInfo) (this : Nat) (attrs : Array Attribute := #[]) (ms : Array MethodInfo := #[]) (fl : Nat := 33) (sup : Nat := 0) (ifs : Array Nat := #[]) (fds : Array FieldInfo := #[]) : ClassFile where
  minorVersion := 0
  majorVersion := 65
  constantPool := pool
  accessFlags := fl
  thisClass := this
  superClass := sup
  interfaces := ifs
  fields := fds
  methods := ms
  attributes := attrs
def plain (name : String) (sup : Option ClassId) : Class where
  name := name
  kind := .ordinary
  loader := none
  accessFlags := 33
  super := sup
  interfaces := #[]
  cf := none
  fields := #[]
  methods := #[]
  instanceTypes := #[]
  staticTypes := #[]
  resolved := #[]
  callSites := []
  init := .initialized
  statics := none
  mirror := none

def pool0 : Array CpInfo := pool [(5, u "<init>"), (0, u "()V"), (1, .class_ 10), (1, u "java/lang/Object")] 113

def k0c0 : Code := { maxStack := 0, maxLocals := 1, code := object_method_1_code, exceptionTable := #[], attributes := #[] }
def k0m0 : Method := { name := "<init>", desc := "()V", sig := { parameters := [], returnType := none }, accessFlags := 1, code := some k0c0 }
/-- java/lang/Object -/
def k0 : Class := { plain "java/lang/Object" none with
  accessFlags := 33
  interfaces := #[]
  cf := some (fileOf pool0 8 #[] #[{ accessFlags := 1, nameIndex := 5, descriptorIndex := 6, attributes := #[] }] 33 0 #[] #[])
  fields := #[]
  methods := #[k0m0]
  instanceTypes := #[]
  staticTypes := #[]
  resolved := Array.replicate 124 none
  statics := none }

def pool1 : Array CpInfo := pool [(2, .class_ 4), (1, u "java/lang/Object"), (0, u "<init>"), (0, u "()V"), (0, .class_ 8), (0, u "SquashImage"), (0, .methodref 7 10), (0, .nameAndType 5 11), (0, u "(II)V"), (0, .methodref 7 13), (0, .nameAndType 14 15), (0, u "nodeCount"), (0, u "()I"), (0, .methodref 7 17), (0, .nameAndType 18 19), (0, u "kind"), (0, u "(I)I"), (0, .methodref 7 21), (0, .nameAndType 22 19), (0, u "parentOf"), (0, .methodref 7 24), (0, .nameAndType 25 26), (0, u "nameChar"), (0, u "(II)I"), (0, .methodref 7 28), (0, .nameAndType 29 19), (0, u "entryCount"), (0, .methodref 7 31), (0, .nameAndType 32 26), (0, u "readByte"), (0, .class_ 34), (0, u "SquashImageL1"), (2, u "law"), (0, u "(III)Z")] 3

def k1m0 : Method := { name := "<init>", desc := "()V", sig := { parameters := [], returnType := none }, accessFlags := 1, code := none }
def k1c1 : Code := { maxStack := 4, maxLocals := 5, code := code, exceptionTable := #[], attributes := #[] }
def k1m1 : Method := { name := "law", desc := "(III)Z", sig := { parameters := [.int, .int, .int], returnType := some .boolean }, accessFlags := 9, code := some k1c1 }
/-- SquashImageL1 -/
def k1 : Class := { plain "SquashImageL1" (some 0) with
  accessFlags := 49
  interfaces := #[]
  cf := some (fileOf pool1 33 #[] #[{ accessFlags := 1, nameIndex := 5, descriptorIndex := 6, attributes := #[] }, { accessFlags := 9, nameIndex := 37, descriptorIndex := 38, attributes := #[] }] 49 2 #[] #[])
  fields := #[]
  methods := #[k1m0, k1m1]
  instanceTypes := #[]
  staticTypes := #[]
  resolved := Array.replicate 42 none
  statics := none }

def pool2 : Array CpInfo := pool [(1, .methodref 2 3), (0, .class_ 4), (0, .nameAndType 5 6), (0, u "java/lang/Object"), (0, u "<init>"), (0, u "()V"), (0, .fieldref 8 9), (0, .class_ 10), (0, .nameAndType 11 12), (0, u "SquashImage"), (0, u "superSize"), (0, u "I"), (0, .fieldref 8 14), (0, .nameAndType 15 12), (0, u "inodeSize"), (0, .fieldref 8 17), (0, .nameAndType 18 12), (0, u "entrySize"), (0, .fieldref 8 20), (0, .nameAndType 21 12), (0, u "blockEntrySize"), (0, .fieldref 8 23), (0, .nameAndType 24 12), (0, u "maxBlock"), (0, .fieldref 8 26), (0, .nameAndType 27 12), (0, u "maxBlocks"), (0, .fieldref 8 29), (0, .nameAndType 30 12), (0, u "magicValue"), (0, .fieldref 8 32), (0, .nameAndType 33 12), (0, u "tokenLiteral"), (0, .fieldref 8 35), (0, .nameAndType 36 12), (0, u "tokenRun"), (0, .fieldref 8 38), (0, .nameAndType 39 12), (0, u "tokenRef"), (0, .fieldref 8 41), (0, .nameAndType 42 12), (0, u "minMatch"), (0, .fieldref 8 44), (0, .nameAndType 45 12), (0, u "sbInodeTable"), (0, .fieldref 8 47), (0, .nameAndType 48 12), (0, u "sbBlockTable"), (0, .fieldref 8 50), (0, .nameAndType 51 12), (0, u "sbDirTable"), (0, .fieldref 8 53), (0, .nameAndType 54 12), (0, u "sbDataStart"), (0, .fieldref 8 56), (0, .nameAndType 57 12), (0, u "sbNodeCount"), (0, .fieldref 8 59), (0, .nameAndType 60 12), (0, u "sbBlockSize"), (0, .fieldref 8 62), (0, .nameAndType 63 12), (0, u "sbFragFirst"), (0, .fieldref 8 65), (0, .nameAndType 66 12), (0, u "sbBlockCount"), (0, .fieldref 8 68), (0, .nameAndType 69 12), (0, u "sbMagic"), (0, .fieldref 8 71), (0, .nameAndType 72 12), (0, u "inKind"), (0, .fieldref 8 74), (0, .nameAndType 75 12), (0, u "inParent"), (0, .fieldref 8 77), (0, .nameAndType 78 12), (0, u "inSize"), (0, .fieldref 8 80), (0, .nameAndType 81 12), (0, u "inDirOff"), (0, .fieldref 8 83), (0, .nameAndType 84 12), (0, u "inFirst"), (0, .fieldref 8 86), (0, .nameAndType 87 12), (0, u "inEntries"), (0, .fieldref 8 89), (0, .nameAndType 90 12), (0, u "inTail"), (0, .fieldref 8 92), (0, .nameAndType 93 12), (0, u "inNameLen"), (0, .fieldref 8 95), (0, .nameAndType 96 97), (0, u "nodeKind"), (0, u "[B"), (0, .fieldref 8 99), (0, .nameAndType 100 97), (0, u "nodeParent"), (0, .fieldref 8 102), (0, .nameAndType 103 97), (0, u "nameLen"), (0, .fieldref 8 105), (0, .nameAndType 106 107), (0, u "names"), (0, u "[C"), (0, .fieldref 8 109), (0, .nameAndType 110 111), (0, u "sizes"), (0, u "[I"), (0, .fieldref 8 113), (0, .nameAndType 114 107), (0, u "nameBuf"), (0, .fieldref 8 116), (0, .nameAndType 117 107), (0, u "pathBuf"), (0, .fieldref 8 119), (0, .nameAndType 120 97), (0, u "poolData"), (0, .fieldref 8 122), (0, .nameAndType 123 97), (0, u "poolOwner"), (0, .fieldref 8 125), (0, .nameAndType 126 97), (0, u "img"), (0, .fieldref 8 128), (0, .nameAndType 129 97), (0, u "fileBuf"), (0, .fieldref 8 131), (0, .nameAndType 132 97), (0, u "fragRaw"), (0, .fieldref 8 134), (0, .nameAndType 135 97), (0, u "rawBlk"), (0, .fieldref 8 137), (0, .nameAndType 138 97), (0, u "blkBuf"), (0, .fieldref 8 140), (0, .nameAndType 141 97), (0, u "sortBuf"), (0, .methodref 8 143), (0, .nameAndType 144 145), (0, u "clamp"), (0, u "(III)I"), (0, .fieldref 8 147), (0, .nameAndType 148 12), (0, u "blockSize"), (0, .fieldref 8 150), (0, .nameAndType 151 12), (0, u "maxNodes"), (0, .fieldref 8 153), (0, .nameAndType 154 155), (0, u "sealed"), (0, u "Z"), (0, .fieldref 8 157), (0, .nameAndType 158 12), (0, u "nodes"), (0, .fieldref 8 160), (0, .nameAndType 161 12), (0, u "nameBufLen"), (0, .fieldref 8 163), (0, .nameAndType 164 12), (0, u "pathLen"), (0, .fieldref 8 166), (0, .nameAndType 167 12), (0, u "totalData"), (0, .fieldref 8 169), (0, .nameAndType 170 12), (0, u "fragLen"), (0, .fieldref 8 172), (0, .nameAndType 173 12), (0, u "cachedBlock"), (0, .fieldref 8 175), (0, .nameAndType 176 12), (0, u "cachedLen"), (3, u "(I)Z"), (6, u "(II)I"), (13, u "(II)V"), (5, u "nextBlock"), (18, u "writePos"), (2, u "dirPos"), (3, u "(I)I"), (41, u "bestMatchLen"), (29, u "()I"), (19, .methodref 8 326), (0, .nameAndType 327 180), (0, u "isValid"), (0, u "KIND_DIR"), (2, u "KIND_FILE"), (1, u "ERR_STATE"), (1, u "ERR_NODE"), (1, u "ERR_RANGE"), (1, u "ERR_NAME"), (1, u "ERR_EXISTS"), (1, u "ERR_FULL"), (1, u "ERR_BAD_PATH"), (1, u "ERR_NOT_FOUND"), (1, u "ERR_NOT_DIR"), (1, u "MAX_NAME"), (1, u "MAX_PATH"), (1, u "MAX_DATA"), (1, u "MAX_RUN"), (26, u "readByte"), (2, u "entryCount"), (1, u "kind"), (0, u "nameChar"), (0, u "parentOf"), (0, u "nodeCount")] 2

def k2c0 : Code := { maxStack := 5, maxLocals := 3, code := prog_1_method_1_code, exceptionTable := #[], attributes := #[] }
def k2m0 : Method := { name := "<init>", desc := "(II)V", sig := { parameters := [.int, .int], returnType := none }, accessFlags := 1, code := some k2c0 }
def k2c1 : Code := { maxStack := 2, maxLocals := 4, code := prog_1_method_2_code, exceptionTable := #[], attributes := #[] }
def k2m1 : Method := { name := "clamp", desc := "(III)I", sig := { parameters := [.int, .int, .int], returnType := some .int }, accessFlags := 2, code := some k2c1 }
def k2c2 : Code := { maxStack := 3, maxLocals := 9, code := prog_1_method_44_code, exceptionTable := #[], attributes := #[] }
def k2m2 : Method := { name := "readByte", desc := "(II)I", sig := { parameters := [.int, .int], returnType := some .int }, accessFlags := 1, code := some k2c2 }
def k2c3 : Code := { maxStack := 3, maxLocals := 3, code := prog_1_method_47_code, exceptionTable := #[], attributes := #[] }
def k2m3 : Method := { name := "entryCount", desc := "(I)I", sig := { parameters := [.int], returnType := some .int }, accessFlags := 1, code := some k2c3 }
def k2c4 : Code := { maxStack := 2, maxLocals := 2, code := prog_1_method_49_code, exceptionTable := #[], attributes := #[] }
def k2m4 : Method := { name := "kind", desc := "(I)I", sig := { parameters := [.int], returnType := some .int }, accessFlags := 1, code := some k2c4 }
def k2c5 : Code := { maxStack := 3, maxLocals := 3, code := prog_1_method_50_code, exceptionTable := #[], attributes := #[] }
def k2m5 : Method := { name := "nameChar", desc := "(II)I", sig := { parameters := [.int, .int], returnType := some .int }, accessFlags := 1, code := some k2c5 }
def k2c6 : Code := { maxStack := 2, maxLocals := 2, code := prog_1_method_51_code, exceptionTable := #[], attributes := #[] }
def k2m6 : Method := { name := "parentOf", desc := "(I)I", sig := { parameters := [.int], returnType := some .int }, accessFlags := 1, code := some k2c6 }
def k2c7 : Code := { maxStack := 1, maxLocals := 1, code := prog_1_method_52_code, exceptionTable := #[], attributes := #[] }
def k2m7 : Method := { name := "nodeCount", desc := "()I", sig := { parameters := [], returnType := some .int }, accessFlags := 1, code := some k2c7 }
def k2c8 : Code := { maxStack := 2, maxLocals := 2, code := prog_1_method_53_code, exceptionTable := #[], attributes := #[] }
def k2m8 : Method := { name := "isValid", desc := "(I)Z", sig := { parameters := [.int], returnType := some .boolean }, accessFlags := 2, code := some k2c8 }
/-- SquashImage -/
def k2 : Class := { plain "SquashImage" (some 0) with
  accessFlags := 49
  interfaces := #[]
  cf := some (fileOf pool2 8 #[] #[{ accessFlags := 1, nameIndex := 5, descriptorIndex := 201, attributes := #[] }, { accessFlags := 2, nameIndex := 144, descriptorIndex := 145, attributes := #[] }, { accessFlags := 1, nameIndex := 384, descriptorIndex := 187, attributes := #[] }, { accessFlags := 1, nameIndex := 387, descriptorIndex := 233, attributes := #[] }, { accessFlags := 1, nameIndex := 389, descriptorIndex := 233, attributes := #[] }, { accessFlags := 1, nameIndex := 390, descriptorIndex := 187, attributes := #[] }, { accessFlags := 1, nameIndex := 391, descriptorIndex := 233, attributes := #[] }, { accessFlags := 1, nameIndex := 392, descriptorIndex := 305, attributes := #[] }, { accessFlags := 2, nameIndex := 327, descriptorIndex := 180, attributes := #[] }] 49 2 #[] #[{ accessFlags := 25, nameIndex := 328, descriptorIndex := 12, attributes := #[] }, { accessFlags := 25, nameIndex := 331, descriptorIndex := 12, attributes := #[] }, { accessFlags := 25, nameIndex := 333, descriptorIndex := 12, attributes := #[] }, { accessFlags := 25, nameIndex := 335, descriptorIndex := 12, attributes := #[] }, { accessFlags := 25, nameIndex := 337, descriptorIndex := 12, attributes := #[] }, { accessFlags := 25, nameIndex := 339, descriptorIndex := 12, attributes := #[] }, { accessFlags := 25, nameIndex := 341, descriptorIndex := 12, attributes := #[] }, { accessFlags := 25, nameIndex := 343, descriptorIndex := 12, attributes := #[] }, { accessFlags := 25, nameIndex := 345, descriptorIndex := 12, attributes := #[] }, { accessFlags := 25, nameIndex := 347, descriptorIndex := 12, attributes := #[] }, { accessFlags := 25, nameIndex := 349, descriptorIndex := 12, attributes := #[] }, { accessFlags := 25, nameIndex := 351, descriptorIndex := 12, attributes := #[] }, { accessFlags := 25, nameIndex := 353, descriptorIndex := 12, attributes := #[] }, { accessFlags := 25, nameIndex := 355, descriptorIndex := 12, attributes := #[] }, { accessFlags := 25, nameIndex := 357, descriptorIndex := 12, attributes := #[] }, { accessFlags := 18, nameIndex := 11, descriptorIndex := 12, attributes := #[] }, { accessFlags := 18, nameIndex := 15, descriptorIndex := 12, attributes := #[] }, { accessFlags := 18, nameIndex := 18, descriptorIndex := 12, attributes := #[] }, { accessFlags := 18, nameIndex := 21, descriptorIndex := 12, attributes := #[] }, { accessFlags := 18, nameIndex := 24, descriptorIndex := 12, attributes := #[] }, { accessFlags := 18, nameIndex := 27, descriptorIndex := 12, attributes := #[] }, { accessFlags := 18, nameIndex := 30, descriptorIndex := 12, attributes := #[] }, { accessFlags := 18, nameIndex := 33, descriptorIndex := 12, attributes := #[] }, { accessFlags := 18, nameIndex := 36, descriptorIndex := 12, attributes := #[] }, { accessFlags := 18, nameIndex := 39, descriptorIndex := 12, attributes := #[] }, { accessFlags := 18, nameIndex := 42, descriptorIndex := 12, attributes := #[] }, { accessFlags := 18, nameIndex := 45, descriptorIndex := 12, attributes := #[] }, { accessFlags := 18, nameIndex := 48, descriptorIndex := 12, attributes := #[] }, { accessFlags := 18, nameIndex := 51, descriptorIndex := 12, attributes := #[] }, { accessFlags := 18, nameIndex := 54, descriptorIndex := 12, attributes := #[] }, { accessFlags := 18, nameIndex := 57, descriptorIndex := 12, attributes := #[] }, { accessFlags := 18, nameIndex := 60, descriptorIndex := 12, attributes := #[] }, { accessFlags := 18, nameIndex := 63, descriptorIndex := 12, attributes := #[] }, { accessFlags := 18, nameIndex := 66, descriptorIndex := 12, attributes := #[] }, { accessFlags := 18, nameIndex := 69, descriptorIndex := 12, attributes := #[] }, { accessFlags := 18, nameIndex := 72, descriptorIndex := 12, attributes := #[] }, { accessFlags := 18, nameIndex := 75, descriptorIndex := 12, attributes := #[] }, { accessFlags := 18, nameIndex := 78, descriptorIndex := 12, attributes := #[] }, { accessFlags := 18, nameIndex := 81, descriptorIndex := 12, attributes := #[] }, { accessFlags := 18, nameIndex := 84, descriptorIndex := 12, attributes := #[] }, { accessFlags := 18, nameIndex := 87, descriptorIndex := 12, attributes := #[] }, { accessFlags := 18, nameIndex := 90, descriptorIndex := 12, attributes := #[] }, { accessFlags := 18, nameIndex := 93, descriptorIndex := 12, attributes := #[] }, { accessFlags := 2, nameIndex := 148, descriptorIndex := 12, attributes := #[] }, { accessFlags := 2, nameIndex := 151, descriptorIndex := 12, attributes := #[] }, { accessFlags := 2, nameIndex := 154, descriptorIndex := 155, attributes := #[] }, { accessFlags := 2, nameIndex := 158, descriptorIndex := 12, attributes := #[] }, { accessFlags := 18, nameIndex := 96, descriptorIndex := 97, attributes := #[] }, { accessFlags := 18, nameIndex := 100, descriptorIndex := 97, attributes := #[] }, { accessFlags := 18, nameIndex := 103, descriptorIndex := 97, attributes := #[] }, { accessFlags := 18, nameIndex := 106, descriptorIndex := 107, attributes := #[] }, { accessFlags := 18, nameIndex := 110, descriptorIndex := 111, attributes := #[] }, { accessFlags := 18, nameIndex := 114, descriptorIndex := 107, attributes := #[] }, { accessFlags := 2, nameIndex := 161, descriptorIndex := 12, attributes := #[] }, { accessFlags := 18, nameIndex := 117, descriptorIndex := 107, attributes := #[] }, { accessFlags := 2, nameIndex := 164, descriptorIndex := 12, attributes := #[] }, { accessFlags := 18, nameIndex := 120, descriptorIndex := 97, attributes := #[] }, { accessFlags := 18, nameIndex := 123, descriptorIndex := 97, attributes := #[] }, { accessFlags := 2, nameIndex := 167, descriptorIndex := 12, attributes := #[] }, { accessFlags := 18, nameIndex := 126, descriptorIndex := 97, attributes := #[] }, { accessFlags := 18, nameIndex := 129, descriptorIndex := 97, attributes := #[] }, { accessFlags := 18, nameIndex := 132, descriptorIndex := 97, attributes := #[] }, { accessFlags := 2, nameIndex := 170, descriptorIndex := 12, attributes := #[] }, { accessFlags := 18, nameIndex := 135, descriptorIndex := 97, attributes := #[] }, { accessFlags := 18, nameIndex := 138, descriptorIndex := 97, attributes := #[] }, { accessFlags := 18, nameIndex := 141, descriptorIndex := 97, attributes := #[] }, { accessFlags := 2, nameIndex := 226, descriptorIndex := 12, attributes := #[] }, { accessFlags := 2, nameIndex := 207, descriptorIndex := 12, attributes := #[] }, { accessFlags := 2, nameIndex := 229, descriptorIndex := 12, attributes := #[] }, { accessFlags := 2, nameIndex := 275, descriptorIndex := 12, attributes := #[] }, { accessFlags := 2, nameIndex := 173, descriptorIndex := 12, attributes := #[] }, { accessFlags := 2, nameIndex := 176, descriptorIndex := 12, attributes := #[] }])
  fields := #[{ name := "KIND_DIR", type := .int, accessFlags := 25, slot := 0, constantValue := 0 }, { name := "KIND_FILE", type := .int, accessFlags := 25, slot := 1, constantValue := 0 }, { name := "ERR_STATE", type := .int, accessFlags := 25, slot := 2, constantValue := 0 }, { name := "ERR_NODE", type := .int, accessFlags := 25, slot := 3, constantValue := 0 }, { name := "ERR_RANGE", type := .int, accessFlags := 25, slot := 4, constantValue := 0 }, { name := "ERR_NAME", type := .int, accessFlags := 25, slot := 5, constantValue := 0 }, { name := "ERR_EXISTS", type := .int, accessFlags := 25, slot := 6, constantValue := 0 }, { name := "ERR_FULL", type := .int, accessFlags := 25, slot := 7, constantValue := 0 }, { name := "ERR_BAD_PATH", type := .int, accessFlags := 25, slot := 8, constantValue := 0 }, { name := "ERR_NOT_FOUND", type := .int, accessFlags := 25, slot := 9, constantValue := 0 }, { name := "ERR_NOT_DIR", type := .int, accessFlags := 25, slot := 10, constantValue := 0 }, { name := "MAX_NAME", type := .int, accessFlags := 25, slot := 11, constantValue := 0 }, { name := "MAX_PATH", type := .int, accessFlags := 25, slot := 12, constantValue := 0 }, { name := "MAX_DATA", type := .int, accessFlags := 25, slot := 13, constantValue := 0 }, { name := "MAX_RUN", type := .int, accessFlags := 25, slot := 14, constantValue := 0 }, { name := "superSize", type := .int, accessFlags := 18, slot := 0, constantValue := 0 }, { name := "inodeSize", type := .int, accessFlags := 18, slot := 1, constantValue := 0 }, { name := "entrySize", type := .int, accessFlags := 18, slot := 2, constantValue := 0 }, { name := "blockEntrySize", type := .int, accessFlags := 18, slot := 3, constantValue := 0 }, { name := "maxBlock", type := .int, accessFlags := 18, slot := 4, constantValue := 0 }, { name := "maxBlocks", type := .int, accessFlags := 18, slot := 5, constantValue := 0 }, { name := "magicValue", type := .int, accessFlags := 18, slot := 6, constantValue := 0 }, { name := "tokenLiteral", type := .int, accessFlags := 18, slot := 7, constantValue := 0 }, { name := "tokenRun", type := .int, accessFlags := 18, slot := 8, constantValue := 0 }, { name := "tokenRef", type := .int, accessFlags := 18, slot := 9, constantValue := 0 }, { name := "minMatch", type := .int, accessFlags := 18, slot := 10, constantValue := 0 }, { name := "sbInodeTable", type := .int, accessFlags := 18, slot := 11, constantValue := 0 }, { name := "sbBlockTable", type := .int, accessFlags := 18, slot := 12, constantValue := 0 }, { name := "sbDirTable", type := .int, accessFlags := 18, slot := 13, constantValue := 0 }, { name := "sbDataStart", type := .int, accessFlags := 18, slot := 14, constantValue := 0 }, { name := "sbNodeCount", type := .int, accessFlags := 18, slot := 15, constantValue := 0 }, { name := "sbBlockSize", type := .int, accessFlags := 18, slot := 16, constantValue := 0 }, { name := "sbFragFirst", type := .int, accessFlags := 18, slot := 17, constantValue := 0 }, { name := "sbBlockCount", type := .int, accessFlags := 18, slot := 18, constantValue := 0 }, { name := "sbMagic", type := .int, accessFlags := 18, slot := 19, constantValue := 0 }, { name := "inKind", type := .int, accessFlags := 18, slot := 20, constantValue := 0 }, { name := "inParent", type := .int, accessFlags := 18, slot := 21, constantValue := 0 }, { name := "inSize", type := .int, accessFlags := 18, slot := 22, constantValue := 0 }, { name := "inDirOff", type := .int, accessFlags := 18, slot := 23, constantValue := 0 }, { name := "inFirst", type := .int, accessFlags := 18, slot := 24, constantValue := 0 }, { name := "inEntries", type := .int, accessFlags := 18, slot := 25, constantValue := 0 }, { name := "inTail", type := .int, accessFlags := 18, slot := 26, constantValue := 0 }, { name := "inNameLen", type := .int, accessFlags := 18, slot := 27, constantValue := 0 }, { name := "blockSize", type := .int, accessFlags := 2, slot := 28, constantValue := 0 }, { name := "maxNodes", type := .int, accessFlags := 2, slot := 29, constantValue := 0 }, { name := "sealed", type := .boolean, accessFlags := 2, slot := 30, constantValue := 0 }, { name := "nodes", type := .int, accessFlags := 2, slot := 31, constantValue := 0 }, { name := "nodeKind", type := (.array .byte), accessFlags := 18, slot := 32, constantValue := 0 }, { name := "nodeParent", type := (.array .byte), accessFlags := 18, slot := 33, constantValue := 0 }, { name := "nameLen", type := (.array .byte), accessFlags := 18, slot := 34, constantValue := 0 }, { name := "names", type := (.array .char), accessFlags := 18, slot := 35, constantValue := 0 }, { name := "sizes", type := (.array .int), accessFlags := 18, slot := 36, constantValue := 0 }, { name := "nameBuf", type := (.array .char), accessFlags := 18, slot := 37, constantValue := 0 }, { name := "nameBufLen", type := .int, accessFlags := 2, slot := 38, constantValue := 0 }, { name := "pathBuf", type := (.array .char), accessFlags := 18, slot := 39, constantValue := 0 }, { name := "pathLen", type := .int, accessFlags := 2, slot := 40, constantValue := 0 }, { name := "poolData", type := (.array .byte), accessFlags := 18, slot := 41, constantValue := 0 }, { name := "poolOwner", type := (.array .byte), accessFlags := 18, slot := 42, constantValue := 0 }, { name := "totalData", type := .int, accessFlags := 2, slot := 43, constantValue := 0 }, { name := "img", type := (.array .byte), accessFlags := 18, slot := 44, constantValue := 0 }, { name := "fileBuf", type := (.array .byte), accessFlags := 18, slot := 45, constantValue := 0 }, { name := "fragRaw", type := (.array .byte), accessFlags := 18, slot := 46, constantValue := 0 }, { name := "fragLen", type := .int, accessFlags := 2, slot := 47, constantValue := 0 }, { name := "rawBlk", type := (.array .byte), accessFlags := 18, slot := 48, constantValue := 0 }, { name := "blkBuf", type := (.array .byte), accessFlags := 18, slot := 49, constantValue := 0 }, { name := "sortBuf", type := (.array .byte), accessFlags := 18, slot := 50, constantValue := 0 }, { name := "writePos", type := .int, accessFlags := 2, slot := 51, constantValue := 0 }, { name := "nextBlock", type := .int, accessFlags := 2, slot := 52, constantValue := 0 }, { name := "dirPos", type := .int, accessFlags := 2, slot := 53, constantValue := 0 }, { name := "bestMatchLen", type := .int, accessFlags := 2, slot := 54, constantValue := 0 }, { name := "cachedBlock", type := .int, accessFlags := 2, slot := 55, constantValue := 0 }, { name := "cachedLen", type := .int, accessFlags := 2, slot := 56, constantValue := 0 }]
  methods := #[k2m0, k2m1, k2m2, k2m3, k2m4, k2m5, k2m6, k2m7, k2m8]
  instanceTypes := #[.int, .int, .int, .int, .int, .int, .int, .int, .int, .int, .int, .int, .int, .int, .int, .int, .int, .int, .int, .int, .int, .int, .int, .int, .int, .int, .int, .int, .int, .int, .boolean, .int, (.array .byte), (.array .byte), (.array .byte), (.array .char), (.array .int), (.array .char), .int, (.array .char), .int, (.array .byte), (.array .byte), .int, (.array .byte), (.array .byte), (.array .byte), .int, (.array .byte), (.array .byte), (.array .byte), .int, .int, .int, .int, .int, .int]
  staticTypes := #[.int, .int, .int, .int, .int, .int, .int, .int, .int, .int, .int, .int, .int, .int, .int]
  resolved := Array.replicate 395 none
  statics := none }

def pool3 : Array CpInfo := pool [(1, u "java/lang/Cloneable"), (0, .class_ 1), (0, u "java/lang/Object"), (0, .class_ 3)] 3

/-- java/lang/Cloneable -/
def k3 : Class := { plain "java/lang/Cloneable" (some 0) with
  accessFlags := 1537
  interfaces := #[]
  cf := some (fileOf pool3 2 #[] #[] 1537 4 #[] #[])
  fields := #[]
  methods := #[]
  instanceTypes := #[]
  staticTypes := #[]
  resolved := Array.replicate 8 none
  statics := none }

def pool4 : Array CpInfo := pool [(1, u "java/io/Serializable"), (0, .class_ 1), (0, u "java/lang/Object"), (0, .class_ 3)] 3

/-- java/io/Serializable -/
def k4 : Class := { plain "java/io/Serializable" (some 0) with
  accessFlags := 1537
  interfaces := #[]
  cf := some (fileOf pool4 2 #[] #[] 1537 4 #[] #[])
  fields := #[]
  methods := #[]
  instanceTypes := #[]
  staticTypes := #[]
  resolved := Array.replicate 8 none
  statics := none }

/-- the primitive byte -/
def k5 : Class := { plain "byte" none with kind := .primitive 'B', accessFlags := 0x411 }
/-- [B -/
def k6 : Class := { plain "[B" (some 0) with kind := .array 5 .byte, interfaces := #[3, 4], accessFlags := 1041 }

/-- the primitive char -/
def k7 : Class := { plain "char" none with kind := .primitive 'C', accessFlags := 0x411 }
/-- [C -/
def k8 : Class := { plain "[C" (some 0) with kind := .array 7 .char, interfaces := #[3, 4], accessFlags := 1041 }

/-- the primitive int -/
def k9 : Class := { plain "int" none with kind := .primitive 'I', accessFlags := 0x411 }
/-- [I -/
def k10 : Class := { plain "[I" (some 0) with kind := .array 9 .int, interfaces := #[3, 4], accessFlags := 1041 }

def heap : Heap := #[]
def classes : Array Class := #[k0, k1, k2, k3, k4, k5, k6, k7, k8, k9, k10]
def interned : List (Array UInt16 × Addr) := []
def slotsUsed : Nat := 0
def theMethod : MethodId := ⟨1, 1⟩
def args0 : Array Value := #[.int 3, .int 4, .int 5]
def aboutOver (below : List Frame) : State where
  vm := { classes := classes, interned := interned.toArray }
  heap := heap
  slotsUsed := slotsUsed
  threads := #[{ frames := .invoking theMethod args0 :: below }]
def below0 : List Frame := [.native { method := ⟨0, 0⟩, args := #[] }]
def about1 : State := aboutOver below0
def p0 : Program := .bare "" "" ""
def e0 : Env := launch0.env 0 0 0
theorem w_frames : about1.frames = Frame.invoking theMethod args0 :: below0 := rfl
set_option maxRecDepth 65536 in
theorem w_args : argsFit about1.vm theMethod args0 = true := by decide +kernel
set_option maxRecDepth 65536 in
theorem w_heap : heapFits about1 = true := by decide +kernel
set_option maxRecDepth 65536 in
theorem w_runnable : about1.curStatus? = some .runnable := by decide +kernel
set_option maxRecDepth 65536 in
theorem w_alone : about1.alone = true := by decide +kernel
set_option maxRecDepth 65536 in
theorem w_named : about1.methodNamed? x = some theMethod := by decide +kernel
set_option maxRecDepth 65536 in
theorem w_hears : about1.hears theMethod below0 = true := by decide +kernel
set_option maxRecDepth 65536 in
theorem w_ripe : about1.ripe theMethod args0 below0 = true := by decide +kernel
theorem w_running : about1.status = .running := rfl
set_option maxRecDepth 65536 in
theorem w_room : about1.hasRoom e0.platform room_1 = true :=
  launch0.hasRoom_least _ room_1 (by decide +kernel) (by decide +kernel) (by decide +kernel) (by decide +kernel) (by decide +kernel) (by decide +kernel)
theorem allAtoms_all (ts : List Jvm.Cond) (a : Array Jvm.Value) (st : Jvm.State) : (allAtoms ts).before a st = ts.all (fun c => c.before a st) := by
  induction ts with
  | nil => rfl
  | cons c t ih =>
    show (Jvm.Cond.and c (allAtoms t)).before a st = _
    rw [Jvm.Cond.before_and, ih, List.all_cons]
def words1 : List Jvm.Cond := Jvm.Cond.code x code maxLocals ret :: tables_1
/-- a 'code' word, met by the world's own term for the bytes: nothing is compared byte by byte -/
theorem code_word {y : MethodName} {bytes : ByteArray} {mx : Nat} {rt : Option FieldType} {a : Array Value} {s : State} {m : MethodId} {meth : Method} {c : Code} (h1 : s.methodNamed? y = some m) (h2 : s.vm.method? m = some meth) (h3 : meth.code = some c) (h4 : c.code = bytes)
    (h5 : (c.maxLocals == mx && c.exceptionTable.isEmpty && decide (c.maxStack ≤ mostOperands) && decide (meth.sig.returnType = rt) && !meth.locks && decide (parseMethodDescriptor y.desc = some meth.sig)) = true) : (Jvm.Cond.code y bytes mx rt).before a s = true := by
  simp only [Bool.and_eq_true, beq_iff_eq, Bool.not_eq_true', decide_eq_true_eq] at h5
  obtain ⟨⟨⟨⟨⟨g1, g2⟩, g3⟩, g4⟩, g5⟩, g6⟩ := h5
  simp [Cond.before, Cond.holds, Cond.value, h1, h2, h3, h4, g1, g2, g3, g4, g5, g6]
def isCode : Jvm.Cond → Bool
  | .code _ _ _ _ => true
  | _ => false
theorem all_split {L : List Jvm.Cond} {P : Jvm.Cond → Bool} (h1 : L.all (fun c => isCode c || P c) = true) (h2 : ∀ c ∈ L.filter isCode, P c = true) : L.all P = true := by
  refine List.all_eq_true.mpr fun c hc => ?_
  have h := List.all_eq_true.mp h1 c hc
  rcases Bool.eq_false_or_eq_true (isCode c) with hi | hi
  · exact h2 c (List.mem_filter.mpr ⟨hc, hi⟩)
  · simpa [hi] using h
set_option maxRecDepth 65536 in
theorem w_c0 : (Jvm.Cond.code x code maxLocals ret).before args0 about1 = true := code_word (m := ⟨1, 1⟩) (meth := k1m1) (c := k1c1) (by decide +kernel) rfl rfl rfl (by decide +kernel)
set_option maxRecDepth 65536 in
theorem w_c1 : (Jvm.Cond.code ({ cls := "SquashImage", name := "<init>", desc := "(II)V" } : Jvm.MethodName) prog_1_method_1_code (3 : Nat) (Option.none : Option Jvm.ClassFile.FieldType)).before args0 about1 = true := code_word (m := ⟨2, 0⟩) (meth := k2m0) (c := k2c0) (by decide +kernel) rfl rfl rfl (by decide +kernel)
set_option maxRecDepth 65536 in
theorem w_c2 : (Jvm.Cond.code ({ cls := "java/lang/Object", name := "<init>", desc := "()V" } : Jvm.MethodName) object_method_1_code (1 : Nat) (Option.none : Option Jvm.ClassFile.FieldType)).before args0 about1 = true := code_word (m := ⟨0, 0⟩) (meth := k0m0) (c := k0c0) (by decide +kernel) rfl rfl rfl (by decide +kernel)
set_option maxRecDepth 65536 in
theorem w_c3 : (Jvm.Cond.code ({ cls := "SquashImage", name := "clamp", desc := "(III)I" } : Jvm.MethodName) prog_1_method_2_code (4 : Nat) (Option.some Jvm.ClassFile.FieldType.int)).before args0 about1 = true := code_word (m := ⟨2, 1⟩) (meth := k2m1) (c := k2c1) (by decide +kernel) rfl rfl rfl (by decide +kernel)
set_option maxRecDepth 65536 in
theorem w_c4 : (Jvm.Cond.code ({ cls := "SquashImage", name := "nodeCount", desc := "()I" } : Jvm.MethodName) prog_1_method_52_code (1 : Nat) (Option.some Jvm.ClassFile.FieldType.int)).before args0 about1 = true := code_word (m := ⟨2, 7⟩) (meth := k2m7) (c := k2c7) (by decide +kernel) rfl rfl rfl (by decide +kernel)
set_option maxRecDepth 65536 in
theorem w_c5 : (Jvm.Cond.code ({ cls := "SquashImage", name := "kind", desc := "(I)I" } : Jvm.MethodName) prog_1_method_49_code (2 : Nat) (Option.some Jvm.ClassFile.FieldType.int)).before args0 about1 = true := code_word (m := ⟨2, 4⟩) (meth := k2m4) (c := k2c4) (by decide +kernel) rfl rfl rfl (by decide +kernel)
set_option maxRecDepth 65536 in
theorem w_c6 : (Jvm.Cond.code ({ cls := "SquashImage", name := "isValid", desc := "(I)Z" } : Jvm.MethodName) prog_1_method_53_code (2 : Nat) (Option.some Jvm.ClassFile.FieldType.boolean)).before args0 about1 = true := code_word (m := ⟨2, 8⟩) (meth := k2m8) (c := k2c8) (by decide +kernel) rfl rfl rfl (by decide +kernel)
set_option maxRecDepth 65536 in
theorem w_c7 : (Jvm.Cond.code ({ cls := "SquashImage", name := "parentOf", desc := "(I)I" } : Jvm.MethodName) prog_1_method_51_code (2 : Nat) (Option.some Jvm.ClassFile.FieldType.int)).before args0 about1 = true := code_word (m := ⟨2, 6⟩) (meth := k2m6) (c := k2c6) (by decide +kernel) rfl rfl rfl (by decide +kernel)
set_option maxRecDepth 65536 in
theorem w_c8 : (Jvm.Cond.code ({ cls := "SquashImage", name := "nameChar", desc := "(II)I" } : Jvm.MethodName) prog_1_method_50_code (3 : Nat) (Option.some Jvm.ClassFile.FieldType.int)).before args0 about1 = true := code_word (m := ⟨2, 5⟩) (meth := k2m5) (c := k2c5) (by decide +kernel) rfl rfl rfl (by decide +kernel)
set_option maxRecDepth 65536 in
theorem w_c9 : (Jvm.Cond.code ({ cls := "SquashImage", name := "entryCount", desc := "(I)I" } : Jvm.MethodName) prog_1_method_47_code (3 : Nat) (Option.some Jvm.ClassFile.FieldType.int)).before args0 about1 = true := code_word (m := ⟨2, 3⟩) (meth := k2m3) (c := k2c3) (by decide +kernel) rfl rfl rfl (by decide +kernel)
set_option maxRecDepth 65536 in
theorem w_c10 : (Jvm.Cond.code ({ cls := "SquashImage", name := "readByte", desc := "(II)I" } : Jvm.MethodName) prog_1_method_44_code (9 : Nat) (Option.some Jvm.ClassFile.FieldType.int)).before args0 about1 = true := code_word (m := ⟨2, 2⟩) (meth := k2m2) (c := k2c2) (by decide +kernel) rfl rfl rfl (by decide +kernel)
def codes1 : List Jvm.Cond := [Jvm.Cond.code x code maxLocals ret, Jvm.Cond.code ({ cls := "SquashImage", name := "<init>", desc := "(II)V" } : Jvm.MethodName) prog_1_method_1_code (3 : Nat) (Option.none : Option Jvm.ClassFile.FieldType), Jvm.Cond.code ({ cls := "java/lang/Object", name := "<init>", desc := "()V" } : Jvm.MethodName) object_method_1_code (1 : Nat) (Option.none : Option Jvm.ClassFile.FieldType), Jvm.Cond.code ({ cls := "SquashImage", name := "clamp", desc := "(III)I" } : Jvm.MethodName) prog_1_method_2_code (4 : Nat) (Option.some Jvm.ClassFile.FieldType.int), Jvm.Cond.code ({ cls := "SquashImage", name := "nodeCount", desc := "()I" } : Jvm.MethodName) prog_1_method_52_code (1 : Nat) (Option.some Jvm.ClassFile.FieldType.int), Jvm.Cond.code ({ cls := "SquashImage", name := "kind", desc := "(I)I" } : Jvm.MethodName) prog_1_method_49_code (2 : Nat) (Option.some Jvm.ClassFile.FieldType.int), Jvm.Cond.code ({ cls := "SquashImage", name := "isValid", desc := "(I)Z" } : Jvm.MethodName) prog_1_method_53_code (2 : Nat) (Option.some Jvm.ClassFile.FieldType.boolean), Jvm.Cond.code ({ cls := "SquashImage", name := "parentOf", desc := "(I)I" } : Jvm.MethodName) prog_1_method_51_code (2 : Nat) (Option.some Jvm.ClassFile.FieldType.int), Jvm.Cond.code ({ cls := "SquashImage", name := "nameChar", desc := "(II)I" } : Jvm.MethodName) prog_1_method_50_code (3 : Nat) (Option.some Jvm.ClassFile.FieldType.int), Jvm.Cond.code ({ cls := "SquashImage", name := "entryCount", desc := "(I)I" } : Jvm.MethodName) prog_1_method_47_code (3 : Nat) (Option.some Jvm.ClassFile.FieldType.int), Jvm.Cond.code ({ cls := "SquashImage", name := "readByte", desc := "(II)I" } : Jvm.MethodName) prog_1_method_44_code (9 : Nat) (Option.some Jvm.ClassFile.FieldType.int)]
set_option maxRecDepth 65536 in
theorem codes_eq : words1.filter isCode = codes1 := rfl
theorem w_codes : ∀ c ∈ words1.filter isCode, c.before args0 about1 = true := by
  rw [codes_eq]
  intro c hc
  simp only [codes1, List.mem_cons, List.not_mem_nil, or_false] at hc
  rcases hc with rfl | rfl | rfl | rfl | rfl | rfl | rfl | rfl | rfl | rfl | rfl
  · exact w_c0
  · exact w_c1
  · exact w_c2
  · exact w_c3
  · exact w_c4
  · exact w_c5
  · exact w_c6
  · exact w_c7
  · exact w_c8
  · exact w_c9
  · exact w_c10
set_option maxRecDepth 65536 in
theorem w_t1 : (words1.take 24).all (fun c => isCode c || c.before args0 about1) = true := by decide +kernel
set_option maxRecDepth 65536 in
theorem w_t2 : ((words1.drop 24).take 24).all (fun c => isCode c || c.before args0 about1) = true := by decide +kernel
set_option maxRecDepth 65536 in
theorem w_t3 : (((words1.drop 24).drop 24).take 24).all (fun c => isCode c || c.before args0 about1) = true := by decide +kernel
set_option maxRecDepth 65536 in
theorem w_t4 : ((((words1.drop 24).drop 24).drop 24).take 24).all (fun c => isCode c || c.before args0 about1) = true := by decide +kernel
set_option maxRecDepth 65536 in
theorem w_t5 : (((((words1.drop 24).drop 24).drop 24).drop 24).take 24).all (fun c => isCode c || c.before args0 about1) = true := by decide +kernel
set_option maxRecDepth 65536 in
theorem w_t6 : ((((((words1.drop 24).drop 24).drop 24).drop 24).drop 24).take 24).all (fun c => isCode c || c.before args0 about1) = true := by decide +kernel
set_option maxRecDepth 65536 in
theorem w_t7 : ((((((words1.drop 24).drop 24).drop 24).drop 24).drop 24).drop 24).all (fun c => isCode c || c.before args0 about1) = true := by decide +kernel
theorem w_tables : (allAtoms (Jvm.Cond.code x code maxLocals ret :: tables_1)).before args0 about1 = true := by
  rw [allAtoms_all]
  show words1.all (fun c => c.before args0 about1) = true
  refine all_split ?_ w_codes
  rw [← List.take_append_drop 24 words1, List.all_append, w_t1, ← List.take_append_drop 24 (words1.drop 24), List.all_append, w_t2, ← List.take_append_drop 24 ((words1.drop 24).drop 24), List.all_append, w_t3, ← List.take_append_drop 24 (((words1.drop 24).drop 24).drop 24), List.all_append, w_t4, ← List.take_append_drop 24 ((((words1.drop 24).drop 24).drop 24).drop 24), List.all_append, w_t5, ← List.take_append_drop 24 (((((words1.drop 24).drop 24).drop 24).drop 24).drop 24), List.all_append, w_t6, w_t7]
  rfl
set_option maxRecDepth 65536 in
theorem w_case : (Jvm.Cond.and given_1 narrow_1).before args0 about1 = true := by decide +kernel
theorem w_applies : (headSpec (Jvm.Cond.code x code maxLocals ret :: tables_1) room_1).applies x e0.platform about1 = true :=
  (Spec.applies_iff w_frames).mpr ⟨w_running, w_runnable, w_alone, w_named, w_hears, w_ripe, w_room, w_tables⟩
theorem atStart : AtStart classFile x code maxLocals ret World_1 tables_1 room_1 Calls_1 rest_1 Pre_1 launch0 p0 e0 about1 theMethod args0 below0 :=
  ⟨lists_1, trivial, launch0.admits_env _ _ _, launch0.least_env, fairChoices_fair.cas, fairChoices_fair.clock, w_frames, w_args, w_heap, w_applies, trivial, trivial, w_case⟩
end start1
theorem witness_1 : WitnessClaimed_1 := ⟨start1.p0, start1.e0, start1.about1, start1.theMethod, start1.args0, start1.below0, start1.atStart⟩
end Jvm.Pilot.@@N@@
